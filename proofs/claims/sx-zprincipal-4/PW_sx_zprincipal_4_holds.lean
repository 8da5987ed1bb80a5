import PyProof.Rows.All
import Wide.All
import OpenK.KRaise
import OpenK.AllK
import Wide.FinOn
import PyProof.SliceMore
import PyProof.EqLayable
import PyProof.SameEqv
import KE.KRevSl
import KE.KRegrown
import KE.TopReadKeeps
import KE.KTryMore
import PySem.Challenge.RW_sx_zprincipal_4
set_option Elab.async false
set_option maxRecDepth 100000
set_option maxHeartbeats 8000000
set_option linter.unusedVariables false
set_option linter.unusedSimpArgs false
set_option genSizeOf false
set_option tactic.hygienic false
set_option compiler.extract_closed false
set_option bootstrap.genMatcherCode false
noncomputable section
namespace Mine
section
open PySem PySem.SeqAt
noncomputable abbrev dictD (ks : List Int) (ds : List PyData) : PyData := .dict ((ks.map PyData.int).zip ds)
inductive Slot where
  | fz (d : PyData)
  | ol (l : List PyData)
  | od (ks : List Int) (ds : List PyData)
noncomputable abbrev Sta := List (Option Slot)
inductive AV where
  | pv (d : PyData)
  | own (i : Nat)
noncomputable def Slot.isOwn : Slot → Bool
  | .fz _ => false
  | _ => true
noncomputable def Slot.view : Slot → PyData
  | .fz d => d
  | .ol l => .list l
  | .od ks ds => dictD ks ds
inductive Fl where
  | next | brk | cont
  | ret (d : PyData)
noncomputable abbrev Out (α : Type) := Option (Except Addr α)
noncomputable abbrev EX := Sta → Out AV
noncomputable abbrev BX := Sta → Out Bool
noncomputable abbrev SX := Sta → Out (Fl × Sta)
noncomputable def lim : Nat := 1000000
noncomputable def bnd {α β : Type} (x : Out α) (f : α → Out β) : Out β :=
  match x with
  | some (.ok a) => f a
  | some (.error e) => some (.error e)
  | none => none
noncomputable def kEz (σ : Sta) : AV → Option PyData
  | .pv d => some d
  | .own i => match σ[i]? with
    | some (some sl) => if sl.isOwn then some sl.view else none
    | _ => none
noncomputable def okP {α : Type} (x : Option α) : Out α := x.map .ok
noncomputable def rd (e : EX) (σ : Sta) : Out PyData := bnd (e σ) fun a => okP (kEz σ a)
noncomputable def yCz (e : EX) (σ : Sta) : Out PyData := bnd (e σ) fun a => match a with
  | .pv d => some (.ok d)
  | .own _ => none
noncomputable def zG (i : Nat) : EX := fun σ => match σ[i]? with
  | some (some (.fz d)) => some (.ok (.pv d))
  | some (some _) => some (.ok (.own i))
  | _ => none
noncomputable def zD (d : PyData) : EX := fun _ => some (.ok (.pv d))
noncomputable def op1 (f : PyData → Option PyData) (e : EX) : EX := fun σ => bnd (rd e σ) fun d => okP ((f d).map .pv)
noncomputable def op2 (f : PyData → PyData → Option PyData) (e₁ e₂ : EX) : EX := fun σ => bnd (rd e₁ σ) fun a => bnd (rd e₂ σ) fun b => okP ((f a b).map .pv)
noncomputable def pvs : List EX → Sta → Out (List PyData)
  | [], _ => some (.ok [])
  | e :: r, σ => bnd (yCz e σ) fun d => bnd (pvs r σ) fun ds => some (.ok (d :: ds))
noncomputable def y8 (es : List EX) : EX := fun σ => bnd (pvs es σ) fun ds => some (.ok (.pv (.tuple ds)))
noncomputable abbrev FX := Sta → Out (List PyData)
noncomputable def xX (es : List EX) : FX := fun σ => pvs es σ
noncomputable def catF (e₁ e₂ : EX) : FX := fun σ => bnd (rd e₁ σ) fun a => bnd (rd e₂ σ) fun b => match a, b with
  | .list x, .list y => if x.length + y.length ≤ lim then some (.ok (x ++ y)) else none
  | _, _ => none
noncomputable def x8 (f : FX) : EX := fun σ => bnd (f σ) fun l => some (.ok (.pv (.list l)))
noncomputable def dictC : EX := zD (dictD [] [])
noncomputable def qP (t : BX) (a b : EX) : EX := fun σ => bnd (t σ) fun c => if c then a σ else b σ
noncomputable def boolC (t : BX) : EX := fun σ => bnd (t σ) fun c => some (.ok (.pv (.bool c)))
noncomputable def xK : PyData → PyData → Option PyData
  | .int a, .int b => some (.int (a + b))
  | .list x, .list y => if x.length + y.length ≤ lim then some (.list (x ++ y)) else none
  | _, _ => none
noncomputable def negI : PyData → Option PyData
  | .int a => some (.int (-a))
  | _ => none
noncomputable def uK : PyData → PyData → Option PyData
  | .int a, .int b => some (.int (a - b))
  | _, _ => none
noncomputable def kOz : PyData → PyData → Option PyData
  | .int a, .int b => if -(2 ^ 62) < a ∧ a < 2 ^ 62 then some (.int (a * b)) else none
  | .list l, .int k => if 0 ≤ k ∧ k ≤ 1000 ∧ l.length ≤ 1000 then some (.list (List.replicate k.toNat l).flatten) else none
  | _, _ => none
noncomputable def modI : PyData → PyData → Option PyData
  | .int a, .int b => if b = 0 then none else some (.int (a.fmod b))
  | _, _ => none
noncomputable def idx? (l : List PyData) (k : Int) : Option PyData :=
  if 0 ≤ k then (if k < 2 ^ 62 then l[k.toNat]? else none)
  else if -(l.length : Int) ≤ k ∧ -(2 ^ 62) ≤ k then l[(k + l.length).toNat]? else none
noncomputable def vD (k : Int) : List (PyData × PyData) → Option PyData
  | [] => none
  | (.int j, d) :: r => if j = k then some d else vD k r
  | _ :: _ => none
noncomputable def zX : PyData → PyData → Option PyData
  | .list l, .int k => idx? l k
  | .tuple l, .int k => idx? l k
  | .dict kvs, .int k => vD k kvs
  | _, _ => none
noncomputable def cutL (l : List PyData) (lo hi : Option Int) : List PyData :=
  (l.drop (lo.elim 0 (clipAt l.length))).take (hi.elim l.length (clipAt l.length) - lo.elim 0 (clipAt l.length))
noncomputable def optI (e : Option EX) (σ : Sta) : Out (Option Int) := match e with
  | none => some (.ok none)
  | some e => bnd (rd e σ) fun d => match d with
    | .int i => if -(2 ^ 62) < i ∧ i < 2 ^ 62 then some (.ok (some i)) else none
    | _ => none
noncomputable def z7z (e : EX) (lo hi : Option EX) : EX := fun σ => bnd (rd e σ) fun d => bnd (optI lo σ) fun a => bnd (optI hi σ) fun b => match d with
  | .list l => if l.length ≤ lim then some (.ok (.pv (.list (cutL l a b)))) else none
  | _ => none
noncomputable def revC (e : EX) : EX := op1 (fun d => match d with
  | .list l => if l.length ≤ lim then some (.list l.reverse) else none
  | _ => none) e
noncomputable def vM : PyData → Option PyData
  | .list l => if l.length ≤ lim then some (.int l.length) else none
  | .tuple l => if l.length ≤ lim then some (.int l.length) else none
  | .dict kvs => if kvs.length ≤ lim then some (.int kvs.length) else none
  | _ => none
noncomputable def wN : List PyData → Option (List Int)
  | [] => some []
  | .int i :: r => (wN r).map (i :: ·)
  | _ :: _ => none
noncomputable def insI (k : Int) : List Int → List Int
  | [] => [k]
  | x :: r => if k ≤ x then k :: x :: r else x :: insI k r
noncomputable def srtI : List Int → List Int
  | [] => []
  | x :: r => insI x (srtI r)
noncomputable def qNz : PyData → Option PyData
  | .list l => if l.length < 64 then (wN l).map fun ns => .list ((srtI ns).map .int) else none
  | _ => none
noncomputable def maxI : PyData → Option PyData
  | .list l => match wN l with
    | some (x :: r) => if r.length ≤ 1000 then some (.int (r.foldl max x)) else none
    | _ => none
  | _ => none
noncomputable def uYz : PyData → PyData → Option PyData
  | .list l, .int k => match wN l with
    | some ns => if ns.contains k ∧ ns.length ≤ 1000 ∧ ns.all (fun i => decide (0 ≤ i) && decide (i < 1000)) = true then some (.int (ns.idxOf k)) else none
    | none => none
  | _, _ => none
noncomputable def filtI : PyData → PyData → Option PyData
  | .list l, .list held => match wN l, wN held with
    | some ns, some hs => if ns.length ≤ 1000 then some (.list ((ns.filter fun v => !hs.contains v).map .int)) else none
    | _, _ => none
  | _, _ => none
noncomputable def k9 : PyData → Option PyData
  | .list l => match wN l with
    | some ns => if ns.length ≤ 1000 then some (.list (ns.zipIdx.map fun p => .int ((p.2 : Int) + 1 + p.1))) else none
    | none => none
  | _ => none
noncomputable def isIntI : PyData → Option Bool
  | .int _ => some true
  | .none | .bool _ | .str _ => some false
  | _ => none
noncomputable def uG : PyData → Option Bool
  | .list l => if l.all (fun d => match d with | .tuple [.str _, .int _] => true | _ => false) then some true else none
  | _ => none
noncomputable def eqI (a b : PyData) : Option Bool := if shaped a && shaped b then some (PyData.eqv a b) else none
noncomputable def neI (a b : PyData) : Option Bool := (eqI a b).map not
noncomputable def ltI : PyData → PyData → Option Bool
  | .int a, .int b => some (decide (a < b))
  | _, _ => none
noncomputable def gtI (a b : PyData) : Option Bool := ltI b a
noncomputable def leI : PyData → PyData → Option Bool
  | .int a, .int b => some (decide (a ≤ b))
  | _, _ => none
noncomputable def vJ : PyData → Option Bool
  | .none => some true
  | _ => some false
noncomputable def uLz : List PyData → Option (List Str)
  | [] => some []
  | .str x :: r => (uLz r).map (x :: ·)
  | _ :: _ => none
noncomputable def inI : PyData → PyData → Option Bool
  | .int k, .list l => (wN l).map fun ns => ns.contains k
  | .int k, .dict kvs => some (vD k kvs).isSome
  | .str x, .tuple l => (uLz l).map fun xs => xs.contains x
  | _, _ => none
noncomputable def uTz (a b : PyData) : Option Bool := (inI a b).map not
noncomputable def hPz : PyData → Option Bool
  | .bool b => some b
  | _ => none
noncomputable def yR (f : PyData → PyData → Option Bool) (e₁ e₂ : EX) : BX := fun σ => bnd (rd e₁ σ) fun a => bnd (rd e₂ σ) fun b => okP (f a b)
noncomputable def zAz (f : PyData → Option Bool) (e : EX) : BX := fun σ => bnd (rd e σ) fun a => okP (f a)
noncomputable def notB (t : BX) : BX := fun σ => bnd (t σ) fun b => some (.ok (!b))
noncomputable def j6 (t u : BX) : BX := fun σ => bnd (t σ) fun b => if b then u σ else some (.ok false)
noncomputable def orB (t u : BX) : BX := fun σ => bnd (t σ) fun b => if b then some (.ok true) else u σ
noncomputable def yDz (b : Bool) : BX := fun _ => some (.ok b)
noncomputable def yA : SX := fun σ => some (.ok (.next, σ))
noncomputable def zU (f g : SX) : SX := fun σ => bnd (f σ) fun p => match p.1 with
  | .next => g p.2
  | _ => some (.ok p)
noncomputable def ifC (t : BX) (a b : SX) : SX := fun σ => bnd (t σ) fun c => if c then a σ else b σ
noncomputable def xY (e : EX) : SX := fun σ => bnd (yCz e σ) fun d => some (.ok (.ret d, σ))
noncomputable def ghC (i : Nat) (f : SX) : SX := fun σ => match σ[i]? with
  | some (some sl) => f (σ.set i (some (.fz sl.view)))
  | _ => none
noncomputable def contC : SX := fun σ => some (.ok (.cont, σ))
noncomputable def yX (i : Nat) (e : EX) : SX := fun σ => bnd (yCz e σ) fun d => some (.ok (.next, σ.set i (some (.fz d))))
noncomputable def kPz (i : Nat) (f : FX) : SX := fun σ => bnd (f σ) fun l => some (.ok (.next, σ.set i (some (.ol l))))
noncomputable def asgD (i : Nat) : SX := fun σ => some (.ok (.next, σ.set i (some (.od [] []))))
noncomputable def w0z : List Nat → List PyData → Sta → Sta
  | i :: is, d :: ds, σ => w0z is ds (σ.set i (some (.fz d)))
  | _, _, σ => σ
noncomputable def qEz (is : List Nat) (e : EX) : SX := fun σ => bnd (rd e σ) fun d => match d with
  | .tuple ds => if ds.length = is.length then some (.ok (.next, w0z is ds σ)) else none
  | _ => none
noncomputable def unpSw (is : List Nat) (e : EX) : SX := fun σ => bnd (rd e σ) fun d => match d with
  | .tuple ds => if ds.length = is.length then some (.ok (.next, w0z is.reverse ds.reverse σ)) else none
  | _ => none
noncomputable def yAz (i : Nat) (e : EX) : SX := fun σ => match σ[i]? with
  | some (some (.ol l)) => bnd (yCz e σ) fun d => if l.length ≤ lim then some (.ok (.next, σ.set i (some (.ol (l ++ [d]))))) else none
  | _ => none
noncomputable def z7q (i : Nat) (e : EX) : SX := fun σ => match σ[i]? with
  | some (some (.ol l)) => bnd (rd e σ) fun d => match d with
    | .int k => if 0 ≤ k ∧ k < l.length ∧ l.length ≤ lim then some (.ok (.next, σ.set i (some (.ol (l.eraseIdx k.toNat))))) else none
    | _ => none
  | _ => none
noncomputable def vOz (i : Nat) (e : EX) : SX := fun σ => match σ[i]? with
  | some (some (.ol l)) => bnd (rd e σ) fun d => match d with
    | .int k => if 0 ≤ k ∧ k ≤ l.length ∧ l.length ≤ lim then some (.ok (.next, σ.set i (some (.ol (l.take k.toNat))))) else none
    | _ => none
  | _ => none
noncomputable def vX (k : Int) (d : PyData) : List Int → List PyData → List Int × List PyData
  | j :: ks, e :: ds => if j = k then (j :: ks, d :: ds) else ((j :: (vX k d ks ds).1), (e :: (vX k d ks ds).2))
  | _, _ => ([k], [d])
noncomputable def setC (i : Nat) (k v : EX) : SX := fun σ => bnd (yCz v σ) fun d => match σ[i]? with
  | some (some (.od ks ds)) => bnd (rd k σ) fun kd => match kd with
    | .int j => if ks.length ≤ lim then some (.ok (.next, σ.set i (some (.od (vX j d ks ds).1 (vX j d ks ds).2)))) else none
    | _ => none
  | _ => none
noncomputable def yOz (x : Addr) : SX := fun _ => some (.error x)
noncomputable def wM (t : BX) (b : SX) : Nat → SX
  | 0, _ => none
  | n + 1, σ => bnd (t σ) fun c => if c then bnd (b σ) fun p => match p.1 with
      | .next => wM t b n p.2
      | .cont => wM t b n p.2
      | .brk => some (.ok (.next, p.2))
      | .ret d => some (.ok (.ret d, p.2))
    else some (.ok (.next, σ))
noncomputable def uGz (μ : Sta → Nat) (t : BX) (b : SX) : SX := fun σ => wM t b (μ σ) σ
noncomputable def vL (st : PyData → Sta → Option Sta) (b : SX) : List PyData → SX
  | [], σ => some (.ok (.next, σ))
  | d :: r, σ => match st d σ with
    | none => none
    | some σ' => bnd (b σ') fun p => match p.1 with
      | .next => vL st b r p.2
      | .cont => vL st b r p.2
      | .brk => some (.ok (.next, p.2))
      | .ret d => some (.ok (.ret d, p.2))
noncomputable def zRz (i : Nat) (d : PyData) (σ : Sta) : Option Sta := some (σ.set i (some (.fz d)))
noncomputable def tgtT (is : List Nat) (d : PyData) (σ : Sta) : Option Sta := match d with
  | .tuple ds => if ds.length = is.length then some (w0z is ds σ) else none
  | _ => none
noncomputable def j1z : PyData → Option (List PyData)
  | .list l => some l
  | .dict kvs => some (kvs.map (·.1))
  | _ => none
noncomputable def z4q (st : PyData → Sta → Option Sta) (e : EX) (b : SX) : SX := fun σ => bnd (yCz e σ) fun d => match j1z d with
  | some l => vL st b l σ
  | none => none
noncomputable def forR (st : PyData → Sta → Option Sta) (e : EX) (b : SX) : SX := fun σ => bnd (rd e σ) fun d => match d with
  | .int n => if 0 ≤ n ∧ n ≤ lim then vL st b ((List.range n.toNat).map fun i => PyData.int ((i : Nat) : Int)) σ else none
  | _ => none
noncomputable def k6z (σ : Sta) : Bool := σ.all fun o => match o with
  | some sl => !sl.isOwn
  | none => true
noncomputable def tryC (i : Nat) (e : EX) (hs : List (Addr × SX)) : SX := fun σ => if k6z σ = true then (match yCz e σ with
  | some (.ok d) => some (.ok (.next, σ.set i (some (.fz d))))
  | some (.error x) => match hs.lookup x with
    | some h => h σ
    | none => none
  | none => none) else none
noncomputable def natAt (σ : Sta) (i : Nat) : Nat := match σ[i]? with
  | some (some (.fz (.int k))) => k.toNat
  | _ => 0
noncomputable def x9 : Addr := 24
noncomputable def wE : Addr := 37
noncomputable def vY : Addr := 50
noncomputable abbrev XF := List Slot → Out (PyData × Sta)
noncomputable def uJ (l : List Nat) : Nat → Bool := fun i => l.contains i
noncomputable def ySz (pin : Nat → Bool) : Nat → List Slot → Bool
  | _, [] => true
  | k, sl :: r => (!sl.isOwn || pin k) && ySz pin (k + 1) r
noncomputable def zDz (np nloc : Nat) (pin : Nat → Bool) (b : SX) : XF := fun args => if args.length = np ∧ ySz pin 0 args = true then bnd (b (args.map some ++ List.replicate (nloc - args.length) none)) fun p => match p.1 with
  | .ret d => some (.ok (d, p.2))
  | _ => none
  else none
inductive Arg where
  | ex (e : EX)
  | loc (i : Nat)
noncomputable def vE : List Arg → Sta → Out (List Slot)
  | [], _ => some (.ok [])
  | .ex e :: r, σ => bnd (yCz e σ) fun d => bnd (vE r σ) fun ds => some (.ok (.fz d :: ds))
  | .loc i :: r, σ => match σ[i]? with
    | some (some sl) => bnd (vE r σ) fun ds => some (.ok (sl :: ds))
    | _ => none
noncomputable def vQ : List Arg → Sta → Sta → Option Sta
  | [], _, σ => some σ
  | .ex _ :: r, _ :: τ, σ => vQ r τ σ
  | .loc i :: r, t :: τ, σ => match σ[i]? with
    | some (some (.fz _)) => vQ r τ σ
    | some (some (.ol _)) => match t with
      | some (.ol l) => vQ r τ (σ.set i (some (.ol l)))
      | _ => none
    | some (some (.od _ _)) => match t with
      | some (.od ks ds) => vQ r τ (σ.set i (some (.od ks ds)))
      | _ => none
    | _ => none
  | _, _, _ => none
noncomputable def yKz : Slot → Slot → Bool
  | .fz a, .fz b => Spec.same a b
  | .ol a, .ol b => Spec.sameAll a b
  | .od ks a, .od js b => ks == js && Spec.sameAll a b
  | _, _ => false
noncomputable def xZ : List Arg → Sta → Sta → Bool
  | [], _, _ => true
  | .ex _ :: r, _ :: τ, σ => xZ r τ σ
  | .loc i :: r, t :: τ, σ => (match σ[i]? with
    | some (some (.fz _)) => true
    | some (some sl) => match t with
      | some sl' => yKz sl sl'
      | none => false
    | _ => false) && xZ r τ σ
  | _, _, _ => false
noncomputable def yQ (x : XF) (as : List Arg) : EX := fun σ => bnd (vE as σ) fun vs => bnd (x vs) fun p => if xZ as p.2 σ then some (.ok (.pv p.1)) else none
noncomputable def hG (i : Nat) (x : XF) (as : List Arg) : SX := fun σ => bnd (vE as σ) fun vs => bnd (x vs) fun p => match vQ as p.2 σ with
  | some σ' => some (.ok (.next, σ'.set i (some (.fz p.1))))
  | none => none
noncomputable def wK : PyData := (.tuple [(.int (-60)), (.int (-2)), (.int (-1)), (.int (-1)), (.int (0)), (.int (0)), (.int (1)), (.int (200))])
noncomputable def uO : PyData := (.tuple [(.tuple [(.str (Str.ofString "add")), (.tuple [(.str (Str.ofString "num"))]), (.int (0)), (.str (Str.ofString "int"))]), (.tuple [(.str (Str.ofString "add")), (.tuple [(.str (Str.ofString "num"))]), (.int (1)), (.str (Str.ofString "int"))]), (.tuple [(.str (Str.ofString "less")), (.tuple [(.str (Str.ofString "num"))]), (.int (0)), (.str (Str.ofString "int"))]), (.tuple [(.str (Str.ofString "less")), (.tuple [(.str (Str.ofString "num"))]), (.int (1)), (.str (Str.ofString "int"))]), (.tuple [(.str (Str.ofString "pair")), (.tuple [(.str (Str.ofString "num"))]), (.int (0)), (.str (Str.ofString ""))]), (.tuple [(.str (Str.ofString "pair")), (.tuple [(.str (Str.ofString "num"))]), (.int (1)), (.str (Str.ofString ""))]), (.tuple [(.str (Str.ofString "fst")), (.tuple []), (.int (0)), (.str (Str.ofString "pair"))]), (.tuple [(.str (Str.ofString "snd")), (.tuple []), (.int (0)), (.str (Str.ofString "pair"))]), (.tuple [(.str (Str.ofString "if")), (.tuple [(.str (Str.ofString "num")), (.str (Str.ofString "num"))]), (.int (0)), (.str (Str.ofString "bool"))]), (.tuple [(.str (Str.ofString "if")), (.tuple [(.str (Str.ofString "bool")), (.str (Str.ofString "num"))]), (.int (1)), (.str (Str.ofString "int"))]), (.tuple [(.str (Str.ofString "if")), (.tuple [(.str (Str.ofString "bool")), (.str (Str.ofString "num"))]), (.int (2)), (.str (Str.ofString "int"))]), (.tuple [(.str (Str.ofString "lam")), (.tuple []), (.int (0)), (.str (Str.ofString ""))])])
noncomputable def vIz : PyData := (.tuple [(.tuple [(.list [(.tuple [(.str (Str.ofString "ref")), (.int (0)), (.int (0)), (.int (0))]), (.tuple [(.str (Str.ofString "lam")), (.int (0)), (.int (0)), (.int (0))])]), (.list [(.tuple [(.str (Str.ofString "var")), (.int (0))]), (.tuple [(.str (Str.ofString "var")), (.int (0))]), (.tuple [(.str (Str.ofString "fun")), (.int (0))])]), (.str (Str.ofString "")), (.list [(.int (0)), (.int (0)), (.int (0))]), (.tuple [(.str (Str.ofString "clo")), (.int (0)), (.list [])]), (.int (1))]), (.tuple [(.list [(.tuple [(.str (Str.ofString "ref")), (.int (0)), (.int (0)), (.int (0))]), (.tuple [(.str (Str.ofString "ref")), (.int (0)), (.int (0)), (.int (0))]), (.tuple [(.str (Str.ofString "app")), (.int (0)), (.int (1)), (.int (0))]), (.tuple [(.str (Str.ofString "lam")), (.int (2)), (.int (0)), (.int (0))])]), .none, (.str (Str.ofString "occurs")), (.list [(.int (0)), (.int (0)), (.int (0)), (.int (0)), (.int (1))]), (.tuple [(.str (Str.ofString "clo")), (.int (2)), (.list [])]), (.int (1))]), (.tuple [(.list [(.tuple [(.str (Str.ofString "bool")), (.int (1)), (.int (0)), (.int (0))]), (.tuple [(.str (Str.ofString "ref")), (.int (0)), (.int (0)), (.int (0))]), (.tuple [(.str (Str.ofString "num")), (.int (1)), (.int (0)), (.int (0))]), (.tuple [(.str (Str.ofString "pair")), (.int (1)), (.int (2)), (.int (0))]), (.tuple [(.str (Str.ofString "ref")), (.int (0)), (.int (0)), (.int (0))]), (.tuple [(.str (Str.ofString "if")), (.int (0)), (.int (3)), (.int (4))]), (.tuple [(.str (Str.ofString "lam")), (.int (5)), (.int (0)), (.int (0))])]), .none, (.str (Str.ofString "occurs")), (.list [(.int (0)), (.int (0)), (.int (0)), (.int (0)), (.int (0)), (.int (0)), (.int (0)), (.int (0)), (.int (1))]), (.tuple [(.str (Str.ofString "clo")), (.int (5)), (.list [])]), (.int (1))]), (.tuple [(.list [(.tuple [(.str (Str.ofString "ref")), (.int (0)), (.int (0)), (.int (0))]), (.tuple [(.str (Str.ofString "fst")), (.int (0)), (.int (0)), (.int (0))]), (.tuple [(.str (Str.ofString "ref")), (.int (0)), (.int (0)), (.int (0))]), (.tuple [(.str (Str.ofString "num")), (.int (1)), (.int (0)), (.int (0))]), (.tuple [(.str (Str.ofString "add")), (.int (2)), (.int (3)), (.int (0))]), (.tuple [(.str (Str.ofString "ref")), (.int (1)), (.int (0)), (.int (0))]), (.tuple [(.str (Str.ofString "pair")), (.int (4)), (.int (5)), (.int (0))]), (.tuple [(.str (Str.ofString "let")), (.int (1)), (.int (6)), (.int (0))]), (.tuple [(.str (Str.ofString "lam")), (.int (7)), (.int (0)), (.int (0))])]), (.list [(.tuple [(.str (Str.ofString "int")), (.int (0))]), (.tuple [(.str (Str.ofString "var")), (.int (0))]), (.tuple [(.str (Str.ofString "pair")), (.int (0))]), (.tuple [(.str (Str.ofString "int")), (.int (0))]), (.tuple [(.str (Str.ofString "int")), (.int (0))]), (.tuple [(.str (Str.ofString "var")), (.int (0))]), (.tuple [(.str (Str.ofString "pair")), (.int (0))]), (.tuple [(.str (Str.ofString "pair")), (.int (0))]), (.tuple [(.str (Str.ofString "fun")), (.int (0))])]), (.str (Str.ofString "")), (.list [(.int (0)), (.int (0)), (.int (0)), (.int (0)), (.int (1)), (.int (0)), (.int (0)), (.int (0)), (.int (0)), (.int (0)), (.int (1)), (.int (0)), (.int (0)), (.int (0))]), (.tuple [(.str (Str.ofString "clo")), (.int (7)), (.list [])]), (.int (1))]), (.tuple [(.list [(.tuple [(.str (Str.ofString "ref")), (.int (0)), (.int (0)), (.int (0))]), (.tuple [(.str (Str.ofString "lam")), (.int (0)), (.int (0)), (.int (0))]), (.tuple [(.str (Str.ofString "ref")), (.int (0)), (.int (0)), (.int (0))]), (.tuple [(.str (Str.ofString "num")), (.int (1)), (.int (0)), (.int (0))]), (.tuple [(.str (Str.ofString "app")), (.int (2)), (.int (3)), (.int (0))]), (.tuple [(.str (Str.ofString "ref")), (.int (0)), (.int (0)), (.int (0))]), (.tuple [(.str (Str.ofString "bool")), (.int (1)), (.int (0)), (.int (0))]), (.tuple [(.str (Str.ofString "app")), (.int (5)), (.int (6)), (.int (0))]), (.tuple [(.str (Str.ofString "pair")), (.int (4)), (.int (7)), (.int (0))]), (.tuple [(.str (Str.ofString "let")), (.int (1)), (.int (8)), (.int (0))])]), (.list [(.tuple [(.str (Str.ofString "int")), (.int (0))]), (.tuple [(.str (Str.ofString "bool")), (.int (0))]), (.tuple [(.str (Str.ofString "pair")), (.int (0))])]), (.str (Str.ofString "")), (.list [(.int (0)), (.int (0)), (.int (0)), (.int (0)), (.int (0)), (.int (0)), (.int (0)), (.int (0)), (.int (0)), (.int (3)), (.int (0)), (.int (0)), (.int (0)), (.int (3)), (.int (0))]), (.tuple [(.str (Str.ofString "pair")), (.tuple [(.str (Str.ofString "int")), (.int (1))]), (.tuple [(.str (Str.ofString "bool")), (.int (1))])]), (.int (18))]), (.tuple [(.list [(.tuple [(.str (Str.ofString "ref")), (.int (0)), (.int (0)), (.int (0))]), (.tuple [(.str (Str.ofString "num")), (.int (1)), (.int (0)), (.int (0))]), (.tuple [(.str (Str.ofString "app")), (.int (0)), (.int (1)), (.int (0))]), (.tuple [(.str (Str.ofString "ref")), (.int (0)), (.int (0)), (.int (0))]), (.tuple [(.str (Str.ofString "bool")), (.int (1)), (.int (0)), (.int (0))]), (.tuple [(.str (Str.ofString "app")), (.int (3)), (.int (4)), (.int (0))]), (.tuple [(.str (Str.ofString "pair")), (.int (2)), (.int (5)), (.int (0))]), (.tuple [(.str (Str.ofString "lam")), (.int (6)), (.int (0)), (.int (0))]), (.tuple [(.str (Str.ofString "ref")), (.int (0)), (.int (0)), (.int (0))]), (.tuple [(.str (Str.ofString "lam")), (.int (8)), (.int (0)), (.int (0))]), (.tuple [(.str (Str.ofString "app")), (.int (7)), (.int (9)), (.int (0))])]), .none, (.str (Str.ofString "clash")), (.list [(.int (0)), (.int (0)), (.int (0)), (.int (0)), (.int (0)), (.int (0)), (.int (1)), (.int (0)), (.int (0)), (.int (0)), (.int (2))]), (.tuple [(.str (Str.ofString "pair")), (.tuple [(.str (Str.ofString "int")), (.int (1))]), (.tuple [(.str (Str.ofString "bool")), (.int (1))])]), (.int (20))]), (.tuple [(.list [(.tuple [(.str (Str.ofString "ref")), (.int (1)), (.int (0)), (.int (0))]), (.tuple [(.str (Str.ofString "lam")), (.int (0)), (.int (0)), (.int (0))]), (.tuple [(.str (Str.ofString "lam")), (.int (1)), (.int (0)), (.int (0))]), (.tuple [(.str (Str.ofString "ref")), (.int (0)), (.int (0)), (.int (0))]), (.tuple [(.str (Str.ofString "ref")), (.int (1)), (.int (0)), (.int (0))]), (.tuple [(.str (Str.ofString "pair")), (.int (3)), (.int (4)), (.int (0))]), (.tuple [(.str (Str.ofString "lam")), (.int (5)), (.int (0)), (.int (0))]), (.tuple [(.str (Str.ofString "let")), (.int (2)), (.int (6)), (.int (0))])]), (.list [(.tuple [(.str (Str.ofString "var")), (.int (0))]), (.tuple [(.str (Str.ofString "var")), (.int (0))]), (.tuple [(.str (Str.ofString "var")), (.int (1))]), (.tuple [(.str (Str.ofString "var")), (.int (2))]), (.tuple [(.str (Str.ofString "var")), (.int (1))]), (.tuple [(.str (Str.ofString "fun")), (.int (0))]), (.tuple [(.str (Str.ofString "fun")), (.int (0))]), (.tuple [(.str (Str.ofString "pair")), (.int (0))]), (.tuple [(.str (Str.ofString "fun")), (.int (0))])]), (.str (Str.ofString "")), (.list [(.int (0)), (.int (0)), (.int (0)), (.int (0)), (.int (0)), (.int (0)), (.int (0)), (.int (0)), (.int (0)), (.int (0)), (.int (0)), (.int (0)), (.int (0))]), (.tuple [(.str (Str.ofString "clo")), (.int (5)), (.list [(.tuple [(.str (Str.ofString "clo")), (.int (1)), (.list [])])])]), (.int (4))]), (.tuple [(.list [(.tuple [(.str (Str.ofString "ref")), (.int (0)), (.int (0)), (.int (0))]), (.tuple [(.str (Str.ofString "num")), (.int (1)), (.int (0)), (.int (0))]), (.tuple [(.str (Str.ofString "app")), (.int (0)), (.int (1)), (.int (0))]), (.tuple [(.str (Str.ofString "num")), (.int (1)), (.int (0)), (.int (0))]), (.tuple [(.str (Str.ofString "add")), (.int (2)), (.int (3)), (.int (0))]), (.tuple [(.str (Str.ofString "lam")), (.int (4)), (.int (0)), (.int (0))])]), (.list [(.tuple [(.str (Str.ofString "int")), (.int (0))]), (.tuple [(.str (Str.ofString "int")), (.int (0))]), (.tuple [(.str (Str.ofString "fun")), (.int (0))]), (.tuple [(.str (Str.ofString "int")), (.int (0))]), (.tuple [(.str (Str.ofString "fun")), (.int (0))])]), (.str (Str.ofString "")), (.list [(.int (0)), (.int (0)), (.int (0)), (.int (0)), (.int (0)), (.int (1)), (.int (0)), (.int (1)), (.int (0))]), (.tuple [(.str (Str.ofString "clo")), (.int (4)), (.list [])]), (.int (1))]), (.tuple [(.list [(.tuple [(.str (Str.ofString "num")), (.int (1)), (.int (0)), (.int (0))]), (.tuple [(.str (Str.ofString "num")), (.int (2)), (.int (0)), (.int (0))]), (.tuple [(.str (Str.ofString "app")), (.int (0)), (.int (1)), (.int (0))])]), .none, (.str (Str.ofString "clash")), (.list [(.int (0)), (.int (0)), (.int (0)), (.int (1))]), .none, (.int (3))])])
noncomputable def q8 : SX :=
 (zU (yX 2 (op2 uK (zG 2) (zD (.int (1)))))
 (zU (ifC (orB (yR eqI (op2 zX (op2 zX (zG 0) (zG 2)) (zD (.int (0)))) (zD (.str (Str.ofString "fun")))) (orB (yR eqI (op2 zX (op2 zX (zG 0) (zG 2)) (zD (.int (0)))) (zD (.str (Str.ofString "pair")))) (yDz false)))
 (zU (yX 3 (op2 xK (zG 3) (zD (.int (1)))))
 yA)
 (zU (yX 3 (op2 uK (zG 3) (zD (.int (1)))))
 yA))
 yA))
noncomputable def kIz : SX :=
 (zU (yX 1 (op2 uK (op1 vM (zG 0)) (zD (.int (1)))))
 (zU (ifC (j6 (yR neI (op2 zX (op2 zX (zG 0) (zG 1)) (zD (.int (0)))) (zD (.str (Str.ofString "fun")))) (j6 (yR neI (op2 zX (op2 zX (zG 0) (zG 1)) (zD (.int (0)))) (zD (.str (Str.ofString "pair")))) (yDz true)))
 (zU (xY (x8 (xX [])))
 yA)
 yA)
 (zU (yX 2 (zG 1))
 (zU (yX 3 (zD (.int (1))))
 (zU (uGz (fun σ => natAt σ 2 + 1) (j6 (yR gtI (zG 3) (zD (.int (0)))) (j6 (yR gtI (zG 2) (zD (.int (0)))) (yDz true))) q8)
 (zU (xY (x8 (xX [(z7z (zG 0) none (some (zG 2))), (z7z (zG 0) (some (zG 2)) (some (zG 1)))])))
 yA))))))
noncomputable def jW : XF := zDz 1 4 (uJ []) kIz
noncomputable def uUz : SX :=
 (zU (ifC (j6 (yR eqI (op2 zX (zG 2) (zD (.int (0)))) (zD (.str (Str.ofString "var")))) (j6 (yR uTz (op2 zX (zG 2) (zD (.int (1)))) (zG 1)) (yDz true)))
 (zU (yAz 1 (op2 zX (zG 2) (zD (.int (1)))))
 yA)
 yA)
 yA)
noncomputable def zHq : SX :=
 (zU (kPz 1 (xX []))
 (zU (z4q (zRz 2) (zG 0) uUz)
 (zU (xY (op1 qNz (zG 1)))
 yA)))
noncomputable def qS : XF := zDz 1 3 (uJ []) zHq
noncomputable def kK : SX :=
 (zU (ifC (j6 (yR eqI (op2 zX (zG 3) (zD (.int (0)))) (zD (.str (Str.ofString "var")))) (j6 (yR inI (op2 zX (zG 3) (zD (.int (1)))) (zG 1)) (yDz true)))
 (zU (kPz 2 (catF (zG 2) (op2 zX (zG 1) (op2 zX (zG 3) (zD (.int (1)))))))
 yA)
 (zU (yAz 2 (zG 3))
 yA))
 yA)
noncomputable def v2z : SX :=
 (zU (kPz 2 (xX []))
 (zU (z4q (zRz 3) (zG 0) kK)
 (zU (ghC 2 (xY (zG 2)))
 yA)))
noncomputable def uA : XF := zDz 2 4 (uJ [1]) v2z
noncomputable def y1z : SX :=
 (zU (yX 4 (yQ uA [.loc 2, .loc 1]))
 (zU (ifC (yR eqI (zG 4) (zG 2))
 (zU (xY (zG 4))
 yA)
 yA)
 (zU (yX 2 (zG 4))
 yA)))
noncomputable def bapply : SX :=
 (zU (yX 2 (z7z (zG 0) none none))
 (zU (forR (zRz 3) (op2 xK (op1 vM (zG 1)) (zD (.int (1)))) y1z)
 (zU (xY (zG 2))
 yA)))
noncomputable def jK : XF := zDz 2 5 (uJ [1]) bapply
noncomputable def h0z : SX :=
 (zU (setC 4 (zG 5) (z7z (op2 zX (zG 2) (zG 5)) none none))
 yA)
noncomputable def wC : SX :=
 (zU (ifC (yR leI (zG 3) (zD (.int (0))))
 (zU (yOz vY)
 yA)
 yA)
 (zU (yX 3 (op2 uK (zG 3) (zD (.int (1)))))
 (zU (yX 7 (op2 zX (zG 6) (op2 uK (op1 vM (zG 6)) (zD (.int (1))))))
 (zU (z7q 6 (op2 uK (op1 vM (zG 6)) (zD (.int (1)))))
 (zU (yX 8 (yQ jK [.ex (op2 zX (zG 7) (zD (.int (0)))), .loc 4]))
 (zU (yX 9 (yQ jK [.ex (op2 zX (zG 7) (zD (.int (1)))), .loc 4]))
 (zU (ifC (yR eqI (zG 8) (zG 9))
 (zU contC
 yA)
 yA)
 (zU (yX 10 (op2 zX (zG 8) (op2 uK (op1 vM (zG 8)) (zD (.int (1))))))
 (zU (yX 11 (op2 zX (zG 9) (op2 uK (op1 vM (zG 9)) (zD (.int (1))))))
 (zU (ifC (yR eqI (op2 zX (zG 10) (zD (.int (0)))) (zD (.str (Str.ofString "var"))))
 (zU (ifC (yR inI (op2 zX (zG 10) (zD (.int (1)))) (yQ qS [.loc 9]))
 (zU (yOz wE)
 yA)
 yA)
 (zU (setC 4 (op2 zX (zG 10) (zD (.int (1)))) (zG 9))
 yA))
 (zU (ifC (yR eqI (op2 zX (zG 11) (zD (.int (0)))) (zD (.str (Str.ofString "var"))))
 (zU (ifC (yR inI (op2 zX (zG 11) (zD (.int (1)))) (yQ qS [.loc 8]))
 (zU (yOz wE)
 yA)
 yA)
 (zU (setC 4 (op2 zX (zG 11) (zD (.int (1)))) (zG 8))
 yA))
 (zU (ifC (yR eqI (zG 10) (zG 11))
 (zU (yX 12 (yQ jW [.loc 8]))
 (zU (yX 13 (yQ jW [.loc 9]))
 (zU (yAz 6 (y8 [(op2 zX (zG 12) (zD (.int (1)))), (op2 zX (zG 13) (zD (.int (1))))]))
 (zU (yAz 6 (y8 [(op2 zX (zG 12) (zD (.int (0)))), (op2 zX (zG 13) (zD (.int (0))))]))
 yA))))
 (zU (yOz x9)
 yA))
 yA))
 yA))
 yA))))))))))
noncomputable def bunify : SX :=
 (zU (asgD 4)
 (zU (z4q (zRz 5) (zG 2) h0z)
 (zU (kPz 6 (xX [(y8 [(zG 0), (zG 1)])]))
 (zU (uGz (fun σ => natAt σ 3 + 2) (yR neI (zG 6) (x8 (xX []))) wC)
 (zU (ghC 4 (xY (zG 4)))
 yA)))))
noncomputable def jV : XF := zDz 4 14 (uJ []) bunify
noncomputable def x5z : SX :=
 (zU (ifC (yR eqI (op2 zX (zG 3) (zD (.int (0)))) (zD (.str (Str.ofString "var"))))
 (zU (ifC (yR uTz (op2 zX (zG 3) (zD (.int (1)))) (zG 1))
 (zU (setC 1 (op2 zX (zG 3) (zD (.int (1)))) (op1 vM (zG 1)))
 yA)
 yA)
 (zU (yAz 2 (y8 [(zD (.str (Str.ofString "var"))), (op2 zX (zG 1) (op2 zX (zG 3) (zD (.int (1)))))]))
 yA))
 (zU (yAz 2 (zG 3))
 yA))
 yA)
noncomputable def u8z : SX :=
 (zU (asgD 1)
 (zU (kPz 2 (xX []))
 (zU (z4q (zRz 3) (zG 0) x5z)
 (zU (ghC 2 (xY (zG 2)))
 yA))))
noncomputable def xKz : XF := zDz 1 4 (uJ []) u8z
noncomputable def yZz : SX :=
 (zU (ifC (yR uTz (zG 5) (op2 zX (zG 4) (zD (.int (0)))))
 (zU (yAz 3 (zG 5))
 yA)
 yA)
 yA)
noncomputable def y0z : SX :=
 (zU (z4q (zRz 5) (yQ qS [.ex (yQ jK [.ex (op2 zX (zG 4) (zD (.int (1)))), .loc 1])]) yZz)
 yA)
noncomputable def vVz : SX :=
 (zU (kPz 3 (xX []))
 (zU (z4q (zRz 4) (zG 2) y0z)
 (zU (yX 6 (yQ jK [.loc 0, .loc 1]))
 (zU (xY (y8 [(op2 filtI (yQ qS [.loc 6]) (zG 3)), (zG 6)]))
 yA))))
noncomputable def zZz : XF := zDz 3 7 (uJ []) vVz
noncomputable def u8 : SX :=
 (zU (setC 2 (op2 zX (op2 zX (zG 0) (zD (.int (0)))) (zG 3)) (x8 (xX [(y8 [(zD (.str (Str.ofString "var"))), (op2 xK (zG 1) (zG 3))])])))
 yA)
noncomputable def x8z : SX :=
 (zU (asgD 2)
 (zU (forR (zRz 3) (op1 vM (op2 zX (zG 0) (zD (.int (0))))) u8)
 (zU (xY (y8 [(yQ uA [.ex (op2 zX (zG 0) (zD (.int (1)))), .loc 2]), (op2 xK (zG 1) (op1 vM (op2 zX (zG 0) (zD (.int (0))))))]))
 yA)))
noncomputable def kR : XF := zDz 2 4 (uJ []) x8z
noncomputable def wCz : SX :=
 (zU (yX 1 (op2 zX (zG 0) (zD (.int (0)))))
 (zU (ifC (yR inI (zG 1) (y8 [(zD (.str (Str.ofString "lam"))), (zD (.str (Str.ofString "fst"))), (zD (.str (Str.ofString "snd")))]))
 (zU (xY (x8 (xX [(op2 zX (zG 0) (zD (.int (1))))])))
 yA)
 yA)
 (zU (ifC (yR inI (zG 1) (y8 [(zD (.str (Str.ofString "app"))), (zD (.str (Str.ofString "let"))), (zD (.str (Str.ofString "add"))), (zD (.str (Str.ofString "less"))), (zD (.str (Str.ofString "pair")))]))
 (zU (xY (x8 (xX [(op2 zX (zG 0) (zD (.int (1)))), (op2 zX (zG 0) (zD (.int (2))))])))
 yA)
 yA)
 (zU (ifC (yR eqI (zG 1) (zD (.str (Str.ofString "if"))))
 (zU (xY (x8 (xX [(op2 zX (zG 0) (zD (.int (1)))), (op2 zX (zG 0) (zD (.int (2)))), (op2 zX (zG 0) (zD (.int (3))))])))
 yA)
 yA)
 (zU (xY (x8 (xX [])))
 yA)))))
noncomputable def uH : XF := zDz 1 2 (uJ []) wCz
noncomputable def v1z : SX :=
 (zU (yX 4 (op2 zX (zG 0) (zG 1)))
 (zU (ifC (yR eqI (op2 zX (zG 4) (zD (.int (0)))) (zD (.str (Str.ofString "num"))))
 (zU (xY (y8 [(zD (.str (Str.ofString "back"))), (y8 [(zD (.str (Str.ofString "int"))), (op2 zX (zG 4) (zD (.int (1))))]), (x8 (xX []))]))
 yA)
 yA)
 (zU (ifC (yR eqI (op2 zX (zG 4) (zD (.int (0)))) (zD (.str (Str.ofString "bool"))))
 (zU (xY (y8 [(zD (.str (Str.ofString "back"))), (y8 [(zD (.str (Str.ofString "bool"))), (op2 zX (zG 4) (zD (.int (1))))]), (x8 (xX []))]))
 yA)
 yA)
 (zU (ifC (yR eqI (op2 zX (zG 4) (zD (.int (0)))) (zD (.str (Str.ofString "ref"))))
 (zU (xY (y8 [(zD (.str (Str.ofString "back"))), (op2 zX (zG 2) (op2 zX (zG 4) (zD (.int (1))))), (x8 (xX []))]))
 yA)
 yA)
 (zU (ifC (yR eqI (op2 zX (zG 4) (zD (.int (0)))) (zD (.str (Str.ofString "lam"))))
 (zU (xY (y8 [(zD (.str (Str.ofString "back"))), (y8 [(zD (.str (Str.ofString "clo"))), (op2 zX (zG 4) (zD (.int (1)))), (z7z (zG 2) none none)]), (x8 (xX []))]))
 yA)
 yA)
 (zU (yAz 3 (y8 [(zG 1), (zG 2), (zD .none)]))
 (zU (xY (y8 [(zD (.str (Str.ofString "eval"))), (op2 zX (zG 4) (zD (.int (1)))), (z7z (zG 2) none none)]))
 yA)))))))
noncomputable def w9 : XF := zDz 4 5 (uJ [3]) v1z
noncomputable def xDz : SX :=
 (zU (qEz [3, 4, 5] (op2 zX (zG 2) (op2 uK (op1 vM (zG 2)) (zD (.int (1))))))
 (zU (z7q 2 (op2 uK (op1 vM (zG 2)) (zD (.int (1)))))
 (zU (yX 6 (op2 zX (zG 0) (zG 3)))
 (zU (yX 7 (op2 zX (zG 6) (zD (.int (0)))))
 (zU (ifC (zAz vJ (zG 5))
 (zU (ifC (yR eqI (zG 7) (zD (.str (Str.ofString "let"))))
 (zU (xY (y8 [(zD (.str (Str.ofString "eval"))), (op2 zX (zG 6) (zD (.int (2)))), (op2 xK (x8 (xX [(zG 1)])) (zG 4))]))
 yA)
 yA)
 (zU (yX 8 (zD (.str (Str.ofString "int"))))
 (zU (ifC (yR eqI (zG 7) (zD (.str (Str.ofString "pair"))))
 (zU (yX 8 (op2 zX (zG 1) (zD (.int (0)))))
 yA)
 (zU (ifC (yR eqI (zG 7) (zD (.str (Str.ofString "app"))))
 (zU (yX 8 (zD (.str (Str.ofString "clo"))))
 yA)
 (zU (ifC (yR eqI (zG 7) (zD (.str (Str.ofString "if"))))
 (zU (yX 8 (zD (.str (Str.ofString "bool"))))
 yA)
 (zU (ifC (orB (yR eqI (zG 7) (zD (.str (Str.ofString "fst")))) (orB (yR eqI (zG 7) (zD (.str (Str.ofString "snd")))) (yDz false)))
 (zU (yX 8 (zD (.str (Str.ofString "pair"))))
 yA)
 yA)
 yA))
 yA))
 yA))
 (zU (ifC (yR neI (op2 zX (zG 1) (zD (.int (0)))) (zG 8))
 (zU (xY (y8 [(zD (.str (Str.ofString "stuck"))), (zD .none), (x8 (xX []))]))
 yA)
 yA)
 (zU (ifC (yR eqI (zG 7) (zD (.str (Str.ofString "if"))))
 (zU (xY (y8 [(zD (.str (Str.ofString "eval"))), (qP (yR eqI (op2 zX (zG 1) (zD (.int (1)))) (zD (.int (1)))) (op2 zX (zG 6) (zD (.int (2)))) (op2 zX (zG 6) (zD (.int (3))))), (z7z (zG 4) none none)]))
 yA)
 yA)
 (zU (ifC (yR eqI (zG 7) (zD (.str (Str.ofString "fst"))))
 (zU (xY (y8 [(zD (.str (Str.ofString "back"))), (op2 zX (zG 1) (zD (.int (1)))), (x8 (xX []))]))
 yA)
 yA)
 (zU (ifC (yR eqI (zG 7) (zD (.str (Str.ofString "snd"))))
 (zU (xY (y8 [(zD (.str (Str.ofString "back"))), (op2 zX (zG 1) (zD (.int (2)))), (x8 (xX []))]))
 yA)
 yA)
 (zU (yAz 2 (y8 [(zG 3), (zG 4), (zG 1)]))
 (zU (xY (y8 [(zD (.str (Str.ofString "eval"))), (op2 zX (zG 6) (zD (.int (2)))), (z7z (zG 4) none none)]))
 yA)))))))))
 yA)
 (zU (ifC (yR eqI (zG 7) (zD (.str (Str.ofString "app"))))
 (zU (xY (y8 [(zD (.str (Str.ofString "eval"))), (op2 zX (zG 5) (zD (.int (1)))), (op2 xK (x8 (xX [(zG 1)])) (op2 zX (zG 5) (zD (.int (2)))))]))
 yA)
 yA)
 (zU (ifC (yR eqI (zG 7) (zD (.str (Str.ofString "pair"))))
 (zU (xY (y8 [(zD (.str (Str.ofString "back"))), (y8 [(zD (.str (Str.ofString "pair"))), (zG 5), (zG 1)]), (x8 (xX []))]))
 yA)
 yA)
 (zU (ifC (yR neI (op2 zX (zG 1) (zD (.int (0)))) (zD (.str (Str.ofString "int"))))
 (zU (xY (y8 [(zD (.str (Str.ofString "stuck"))), (zD .none), (x8 (xX []))]))
 yA)
 yA)
 (zU (ifC (yR eqI (zG 7) (zD (.str (Str.ofString "add"))))
 (zU (xY (y8 [(zD (.str (Str.ofString "back"))), (y8 [(zD (.str (Str.ofString "int"))), (op2 xK (op2 zX (zG 5) (zD (.int (1)))) (op2 zX (zG 1) (zD (.int (1)))))]), (x8 (xX []))]))
 yA)
 yA)
 (zU (xY (y8 [(zD (.str (Str.ofString "back"))), (y8 [(zD (.str (Str.ofString "bool"))), (qP (yR ltI (op2 zX (zG 5) (zD (.int (1)))) (op2 zX (zG 1) (zD (.int (1))))) (zD (.int (1))) (zD (.int (0))))]), (x8 (xX []))]))
 yA))))))))))
noncomputable def yZ : XF := zDz 3 9 (uJ [2]) xDz
noncomputable def yXz : SX :=
 (zU (yX 1 (op2 uK (zG 1) (zD (.int (1)))))
 (zU (ifC (yR eqI (op2 zX (zG 3) (zD (.int (0)))) (zD (.str (Str.ofString "eval"))))
 (zU (hG 3 w9 [.loc 0, .ex (op2 zX (zG 3) (zD (.int (1)))), .ex (op2 zX (zG 3) (zD (.int (2)))), .loc 2])
 yA)
 (zU (hG 3 yZ [.loc 0, .ex (op2 zX (zG 3) (zD (.int (1)))), .loc 2])
 yA))
 (zU (ifC (yR eqI (op2 zX (zG 3) (zD (.int (0)))) (zD (.str (Str.ofString "stuck"))))
 (zU (xY (y8 [(zD (.str (Str.ofString "stuck"))), (zD .none)]))
 yA)
 yA)
 (zU (ifC (j6 (yR eqI (op2 zX (zG 3) (zD (.int (0)))) (zD (.str (Str.ofString "back")))) (j6 (yR eqI (zG 2) (x8 (xX []))) (yDz true)))
 (zU (xY (y8 [(zD (.str (Str.ofString "done"))), (op2 zX (zG 3) (zD (.int (1))))]))
 yA)
 yA)
 yA))))
noncomputable def brun : SX :=
 (zU (kPz 2 (xX []))
 (zU (yX 3 (y8 [(zD (.str (Str.ofString "eval"))), (op2 uK (op1 vM (zG 0)) (zD (.int (1)))), (x8 (xX []))]))
 (zU (uGz (fun σ => natAt σ 1 + 1) (yR gtI (zG 1) (zD (.int (0)))) yXz)
 (zU (xY (y8 [(zD (.str (Str.ofString "fuel"))), (zD .none)]))
 yA))))
noncomputable def xrun : XF := zDz 2 4 (uJ []) brun
noncomputable def yWz : SX :=
 (zU (yAz 4 (y8 [(zD (.str (Str.ofString "visit"))), (zG 9), (zG 2)]))
 yA)
noncomputable def vQz : SX :=
 (zU (yX 6 (op2 zX (zG 0) (zG 1)))
 (zU (ifC (yR eqI (op2 zX (zG 6) (zD (.int (0)))) (zD (.str (Str.ofString "num"))))
 (zU (yAz 5 (x8 (xX [(y8 [(zD (.str (Str.ofString "int"))), (zD (.int (0)))])])))
 (zU (xY (zG 3))
 yA))
 yA)
 (zU (ifC (yR eqI (op2 zX (zG 6) (zD (.int (0)))) (zD (.str (Str.ofString "bool"))))
 (zU (yAz 5 (x8 (xX [(y8 [(zD (.str (Str.ofString "bool"))), (zD (.int (0)))])])))
 (zU (xY (zG 3))
 yA))
 yA)
 (zU (ifC (yR eqI (op2 zX (zG 6) (zD (.int (0)))) (zD (.str (Str.ofString "ref"))))
 (zU (qEz [7, 8] (yQ kR [.ex (op2 zX (zG 2) (op2 zX (zG 6) (zD (.int (1))))), .loc 3]))
 (zU (yAz 5 (zG 7))
 (zU (xY (zG 8))
 yA)))
 yA)
 (zU (ifC (yR eqI (op2 zX (zG 6) (zD (.int (0)))) (zD (.str (Str.ofString "let"))))
 (zU (yAz 4 (y8 [(zD (.str (Str.ofString "bind"))), (zG 1), (zG 2)]))
 (zU (yAz 4 (y8 [(zD (.str (Str.ofString "visit"))), (op2 zX (zG 6) (zD (.int (1)))), (zG 2)]))
 (zU (xY (zG 3))
 yA)))
 yA)
 (zU (yAz 4 (y8 [(zD (.str (Str.ofString "join"))), (zG 1), (x8 (xX []))]))
 (zU (ifC (yR eqI (op2 zX (zG 6) (zD (.int (0)))) (zD (.str (Str.ofString "lam"))))
 (zU (yAz 5 (x8 (xX [(y8 [(zD (.str (Str.ofString "var"))), (zG 3)])])))
 (zU (yAz 4 (y8 [(zD (.str (Str.ofString "visit"))), (op2 zX (zG 6) (zD (.int (1)))), (op2 xK (x8 (xX [(y8 [(x8 (xX [])), (x8 (xX [(y8 [(zD (.str (Str.ofString "var"))), (zG 3)])]))])])) (zG 2))]))
 (zU (xY (op2 xK (zG 3) (zD (.int (1)))))
 yA)))
 yA)
 (zU (z4q (zRz 9) (revC (yQ uH [.loc 6])) yWz)
 (zU (xY (zG 3))
 yA)))))))))
noncomputable def w0 : XF := zDz 6 10 (uJ [4, 5]) vQz
noncomputable def yYz : SX :=
 (zU (setC 5 (zG 6) (z7z (op2 zX (zG 2) (zG 6)) none none))
 yA)
noncomputable def vRz : SX :=
 (zU (ifC (orB (yR eqI (zG 0) (zD (.str (Str.ofString "lam")))) (orB (yR eqI (zG 0) (zD (.str (Str.ofString "pair")))) (yDz false)))
 (zU (asgD 5)
 (zU (z4q (zRz 6) (zG 2) yYz)
 (zU (yX 7 (qP (yR eqI (zG 0) (zD (.str (Str.ofString "lam")))) (y8 [(zD (.str (Str.ofString "fun"))), (zD (.int (0)))]) (y8 [(zD (.str (Str.ofString "pair"))), (zD (.int (0)))])))
 (zU (ghC 5 (xY (y8 [(op2 xK (op2 xK (op2 zX (zG 1) (zD (.int (0)))) (op2 zX (zG 1) (zD (.int (1))))) (x8 (xX [(zG 7)]))), (zG 5), (zG 3)])))
 yA))))
 yA)
 (zU (ifC (yR eqI (zG 0) (zD (.str (Str.ofString "app"))))
 (zU (yX 8 (op2 xK (op2 zX (zG 1) (zD (.int (1)))) (x8 (xX [(y8 [(zD (.str (Str.ofString "var"))), (zG 3)]), (y8 [(zD (.str (Str.ofString "fun"))), (zD (.int (0)))])]))))
 (zU (xY (y8 [(x8 (xX [(y8 [(zD (.str (Str.ofString "var"))), (zG 3)])])), (yQ jV [.ex (op2 zX (zG 1) (zD (.int (0)))), .loc 8, .loc 2, .loc 4]), (op2 xK (zG 3) (zD (.int (1))))]))
 yA))
 yA)
 (zU (ifC (yR eqI (zG 0) (zD (.str (Str.ofString "if"))))
 (zU (yX 9 (yQ jV [.ex (op2 zX (zG 1) (zD (.int (0)))), .ex (x8 (xX [(y8 [(zD (.str (Str.ofString "bool"))), (zD (.int (0)))])])), .loc 2, .loc 4]))
 (zU (xY (y8 [(z7z (op2 zX (zG 1) (zD (.int (1)))) none none), (yQ jV [.ex (op2 zX (zG 1) (zD (.int (1)))), .ex (op2 zX (zG 1) (zD (.int (2)))), .loc 9, .loc 4]), (zG 3)]))
 yA))
 yA)
 (zU (ifC (orB (yR eqI (zG 0) (zD (.str (Str.ofString "add")))) (orB (yR eqI (zG 0) (zD (.str (Str.ofString "less")))) (yDz false)))
 (zU (yX 10 (yQ jV [.ex (op2 zX (zG 1) (zD (.int (0)))), .ex (x8 (xX [(y8 [(zD (.str (Str.ofString "int"))), (zD (.int (0)))])])), .loc 2, .loc 4]))
 (zU (yX 11 (yQ jV [.ex (op2 zX (zG 1) (zD (.int (1)))), .ex (x8 (xX [(y8 [(zD (.str (Str.ofString "int"))), (zD (.int (0)))])])), .loc 10, .loc 4]))
 (zU (xY (y8 [(qP (yR eqI (zG 0) (zD (.str (Str.ofString "add")))) (x8 (xX [(y8 [(zD (.str (Str.ofString "int"))), (zD (.int (0)))])])) (x8 (xX [(y8 [(zD (.str (Str.ofString "bool"))), (zD (.int (0)))])]))), (zG 11), (zG 3)]))
 yA)))
 yA)
 (zU (yX 8 (x8 (xX [(y8 [(zD (.str (Str.ofString "var"))), (zG 3)]), (y8 [(zD (.str (Str.ofString "var"))), (op2 xK (zG 3) (zD (.int (1))))]), (y8 [(zD (.str (Str.ofString "pair"))), (zD (.int (0)))])])))
 (zU (yX 12 (yQ jV [.ex (op2 zX (zG 1) (zD (.int (0)))), .loc 8, .loc 2, .loc 4]))
 (zU (yX 13 (qP (yR eqI (zG 0) (zD (.str (Str.ofString "fst")))) (zG 3) (op2 xK (zG 3) (zD (.int (1))))))
 (zU (xY (y8 [(x8 (xX [(y8 [(zD (.str (Str.ofString "var"))), (zG 13)])])), (zG 12), (op2 xK (zG 3) (zD (.int (2))))]))
 yA))))))))
noncomputable def uX : XF := zDz 5 14 (uJ []) vRz
noncomputable def kG : SX :=
 (zU (ifC (yR leI (zG 1) (zD (.int (0))))
 (zU (yOz vY)
 yA)
 yA)
 (zU (yX 1 (op2 uK (zG 1) (zD (.int (1)))))
 (zU (qEz [6, 7, 8] (op2 zX (zG 2) (op2 uK (op1 vM (zG 2)) (zD (.int (1))))))
 (zU (z7q 2 (op2 uK (op1 vM (zG 2)) (zD (.int (1)))))
 (zU (yX 9 (op2 zX (zG 0) (zG 7)))
 (zU (ifC (yR eqI (zG 6) (zD (.str (Str.ofString "visit"))))
 (zU (hG 5 w0 [.loc 0, .loc 7, .loc 8, .loc 5, .loc 2, .loc 3])
 yA)
 (zU (ifC (yR eqI (zG 6) (zD (.str (Str.ofString "bind"))))
 (zU (yX 10 (yQ zZz [.ex (op2 zX (zG 3) (op2 uK (op1 vM (zG 3)) (zD (.int (1))))), .loc 4, .loc 8]))
 (zU (z7q 3 (op2 uK (op1 vM (zG 3)) (zD (.int (1)))))
 (zU (yAz 2 (y8 [(zD (.str (Str.ofString "visit"))), (op2 zX (zG 9) (zD (.int (2)))), (op2 xK (x8 (xX [(zG 10)])) (zG 8))]))
 yA)))
 (zU (yX 11 (qP (yR eqI (op2 zX (zG 9) (zD (.int (0)))) (zD (.str (Str.ofString "lam")))) (zD (.int (2))) (op1 vM (yQ uH [.loc 9]))))
 (zU (yX 12 (z7z (zG 3) (some (op2 uK (op1 vM (zG 3)) (zG 11))) none))
 (zU (vOz 3 (op2 uK (op1 vM (zG 3)) (zG 11)))
 (zU (qEz [13, 4, 5] (yQ uX [.ex (op2 zX (zG 9) (zD (.int (0)))), .loc 12, .loc 4, .loc 5, .loc 1]))
 (zU (yAz 3 (zG 13))
 yA))))))
 yA))
 yA))))))
noncomputable def binfer : SX :=
 (zU (kPz 2 (xX [(y8 [(zD (.str (Str.ofString "visit"))), (op2 uK (op1 vM (zG 0)) (zD (.int (1)))), (x8 (xX []))])]))
 (zU (kPz 3 (xX []))
 (zU (yX 4 dictC)
 (zU (yX 5 (zD (.int (0))))
 (zU (uGz (fun σ => natAt σ 1 + 2) (yR neI (zG 2) (x8 (xX []))) kG)
 (zU (xY (yQ xKz [.ex (yQ jK [.ex (op2 zX (zG 3) (zD (.int (0)))), .loc 4])]))
 yA))))))
noncomputable def kP : XF := zDz 2 14 (uJ []) binfer
noncomputable def vZz : SX :=
 (zU (xY (op2 modI (zG 0) (zG 1)))
 yA)
noncomputable def xC : XF := zDz 2 2 (uJ []) vZz
noncomputable def vYz : SX :=
 (zU (ifC (yR ltI (zG 0) (zD (.int (2))))
 (zU (xY (y8 [(x8 (xX [(y8 [(zD (.str (Str.ofString "num"))), (zG 1), (zD (.int (0))), (zD (.int (0)))])])), (x8 (xX [(y8 [(zD (.str (Str.ofString "int"))), (zD (.int (0)))])])), (zD (.str (Str.ofString ""))), (x8 (xX [(zD (.int (0)))])), (y8 [(zD (.str (Str.ofString "int"))), (zG 1)]), (zD (.int (1)))]))
 yA)
 yA)
 (zU (ifC (yR eqI (zG 0) (zD (.int (2))))
 (zU (xY (y8 [(x8 (xX [(y8 [(zD (.str (Str.ofString "bool"))), (op2 modI (zG 1) (zD (.int (2)))), (zD (.int (0))), (zD (.int (0)))])])), (x8 (xX [(y8 [(zD (.str (Str.ofString "bool"))), (zD (.int (0)))])])), (zD (.str (Str.ofString ""))), (x8 (xX [(zD (.int (0)))])), (y8 [(zD (.str (Str.ofString "bool"))), (op2 modI (zG 1) (zD (.int (2))))]), (zD (.int (1)))]))
 yA)
 yA)
 (zU (xY (op2 zX (zD vIz) (op2 uK (zG 0) (zD (.int (3))))))
 yA)))
noncomputable def z0z : XF := zDz 2 2 (uJ []) vYz
noncomputable def kH : SX :=
 (zU (yAz 6 (op1 vM (zG 0)))
 (zU (ifC (yR eqI (op2 zX (zG 2) (zG 7)) (zD (.str (Str.ofString "bool"))))
 (zU (yX 0 (op2 xK (zG 0) (x8 (xX [(y8 [(zD (.str (Str.ofString "bool"))), (op2 modI (zG 5) (zD (.int (2)))), (zD (.int (0))), (zD (.int (0)))])]))))
 yA)
 (zU (yX 0 (op2 xK (zG 0) (x8 (xX [(y8 [(zD (.str (Str.ofString "num"))), (op2 xK (zG 5) (zG 7)), (zD (.int (0))), (zD (.int (0)))])]))))
 yA))
 yA))
noncomputable def v0z : SX :=
 (zU (kPz 6 (xX []))
 (zU (forR (zRz 7) (op1 vM (zG 2)) kH)
 (zU (kPz 6 (catF (op2 xK (op2 xK (z7z (zG 6) none (some (zG 3))) (x8 (xX [(zG 4)]))) (z7z (zG 6) (some (zG 3)) none)) (x8 (xX [(zD (.int (0))), (zD (.int (0)))]))))
 (zU (xY (op2 xK (zG 0) (x8 (xX [(y8 [(zG 1), (op2 zX (zG 6) (zD (.int (0)))), (op2 zX (zG 6) (zD (.int (1)))), (op2 zX (zG 6) (zD (.int (2))))])]))))
 yA))))
noncomputable def w8 : XF := zDz 6 8 (uJ []) v0z
noncomputable def vI : SX :=
 (zU (ifC (orB (yR eqI (op2 zX (zG 2) (zD (.int (0)))) (zD (.str (Str.ofString "fun")))) (orB (yR eqI (op2 zX (zG 2) (zD (.int (0)))) (zD (.str (Str.ofString "pair")))) (yDz false)))
 (zU (yX 1 (op2 xK (z7z (zG 1) none (some (op1 negI (zD (.int (2)))))) (x8 (xX [(op2 xK (op2 xK (op2 zX (zG 1) (op1 negI (zD (.int (2))))) (op2 zX (zG 1) (op1 negI (zD (.int (1)))))) (x8 (xX [(zG 2)])))]))))
 yA)
 (zU (yX 1 (op2 xK (zG 1) (x8 (xX [(x8 (xX [(zG 2)]))]))))
 yA))
 yA)
noncomputable def x9z : SX :=
 (zU (yX 1 (x8 (xX [])))
 (zU (z4q (zRz 2) (z7z (zG 0) none (some (op1 negI (zD (.int (1)))))) vI)
 (zU (xY (zG 1))
 yA)))
noncomputable def jI : XF := zDz 1 3 (uJ []) x9z
noncomputable def vXz : SX :=
 (zU (ifC (j6 (yR neI (zG 2) (zD (.str (Str.ofString "")))) (j6 (yR neI (op2 zX (op2 zX (zG 3) (op1 negI (zD (.int (1))))) (zD (.int (0)))) (zG 2)) (yDz true)))
 (zU (xY (zD .none))
 yA)
 yA)
 (zU (ifC (yR eqI (zG 0) (zD (.str (Str.ofString "fst"))))
 (zU (xY (op2 zX (yQ jI [.loc 3]) (zD (.int (0)))))
 yA)
 yA)
 (zU (ifC (yR eqI (zG 0) (zD (.str (Str.ofString "snd"))))
 (zU (xY (op2 zX (yQ jI [.loc 3]) (zD (.int (1)))))
 yA)
 yA)
 (zU (ifC (j6 (yR eqI (zG 0) (zD (.str (Str.ofString "pair")))) (j6 (yR eqI (zG 1) (zD (.int (0)))) (yDz true)))
 (zU (xY (op2 xK (zG 3) (x8 (xX [(y8 [(zD (.str (Str.ofString "int"))), (zD (.int (0)))]), (y8 [(zD (.str (Str.ofString "pair"))), (zD (.int (0)))])]))))
 yA)
 yA)
 (zU (ifC (yR eqI (zG 0) (zD (.str (Str.ofString "pair"))))
 (zU (xY (op2 xK (op2 xK (x8 (xX [(y8 [(zD (.str (Str.ofString "int"))), (zD (.int (0)))])])) (zG 3)) (x8 (xX [(y8 [(zD (.str (Str.ofString "pair"))), (zD (.int (0)))])]))))
 yA)
 yA)
 (zU (ifC (yR eqI (zG 0) (zD (.str (Str.ofString "lam"))))
 (zU (xY (op2 xK (op2 xK (x8 (xX [(y8 [(zD (.str (Str.ofString "var"))), (zG 4)])])) (zG 3)) (x8 (xX [(y8 [(zD (.str (Str.ofString "fun"))), (zD (.int (0)))])]))))
 yA)
 yA)
 (zU (ifC (yR eqI (zG 0) (zD (.str (Str.ofString "less"))))
 (zU (xY (x8 (xX [(y8 [(zD (.str (Str.ofString "bool"))), (zD (.int (0)))])])))
 yA)
 yA)
 (zU (xY (x8 (xX [(y8 [(zD (.str (Str.ofString "int"))), (zD (.int (0)))])])))
 yA))))))))
noncomputable def v9 : XF := zDz 5 5 (uJ []) vXz
noncomputable def wAz : SX :=
 (zU (ifC (j6 (yR eqI (zG 1) (zD (.int (2)))) (j6 (zAz hPz (zG 2)) (yDz true)))
 (zU (xY (zD (.int (2))))
 yA)
 yA)
 (zU (ifC (j6 (yR eqI (zG 1) (zD (.int (2)))) (j6 (yR eqI (zG 0) (zD (.str (Str.ofString "pair")))) (yDz true)))
 (zU (xY (zD (.int (5))))
 yA)
 yA)
 (zU (ifC (yR eqI (zG 1) (zD (.int (2))))
 (zU (xY (zD (.int (3))))
 yA)
 yA)
 (zU (ifC (yR eqI (zG 0) (zD (.str (Str.ofString ""))))
 (zU (xY (zD (.int (0))))
 yA)
 yA)
 (zU (ifC (j6 (yR eqI (zG 0) (zD (.str (Str.ofString "pair")))) (j6 (notB (zAz hPz (zG 2))) (yDz true)))
 (zU (xY (zD (.int (3))))
 yA)
 yA)
 (zU (xY (zD (.int (1))))
 yA))))))
noncomputable def qC : XF := zDz 3 3 (uJ []) wAz
noncomputable def u7z : SX :=
 (zU (ifC (yR eqI (zG 0) (zD (.str (Str.ofString "lam"))))
 (zU (xY (y8 [(y8 [(zD (.str (Str.ofString "clo"))), (zG 5), (zG 6)]), (zD (.int (1)))]))
 yA)
 yA)
 (zU (ifC (j6 (yR eqI (zG 0) (zD (.str (Str.ofString "if")))) (j6 (yR gtI (zG 1) (zD (.int (0)))) (yDz true)))
 (zU (ifC (yR neI (op2 xK (op2 modI (zG 4) (zD (.int (2)))) (zG 1)) (zD (.int (2))))
 (zU (xY (y8 [(y8 [(zD (.str (Str.ofString "int"))), (op2 xK (zG 4) (zD (.int (1))))]), (zD (.int (4)))]))
 yA)
 yA)
 (zU (xY (y8 [(zG 2), (op2 xK (zD (.int (3))) (zG 3))]))
 yA))
 yA)
 (zU (ifC (zAz vJ (zG 2))
 (zU (xY (y8 [(zD .none), (op2 xK (op2 xK (zG 3) (zD (.int (1)))) (op2 kOz (zD (.int (2))) (zG 1)))]))
 yA)
 yA)
 (zU (ifC (j6 (yR eqI (zG 0) (zD (.str (Str.ofString "pair")))) (j6 (yR eqI (zG 1) (zD (.int (0)))) (yDz true)))
 (zU (xY (y8 [(y8 [(zD (.str (Str.ofString "pair"))), (zG 2), (y8 [(zD (.str (Str.ofString "int"))), (zG 4)])]), (op2 xK (zG 3) (zD (.int (4))))]))
 yA)
 yA)
 (zU (ifC (yR eqI (zG 0) (zD (.str (Str.ofString "pair"))))
 (zU (xY (y8 [(y8 [(zD (.str (Str.ofString "pair"))), (y8 [(zD (.str (Str.ofString "int"))), (zG 4)]), (zG 2)]), (op2 xK (zG 3) (zD (.int (4))))]))
 yA)
 yA)
 (zU (ifC (orB (yR eqI (zG 0) (zD (.str (Str.ofString "fst")))) (orB (yR eqI (zG 0) (zD (.str (Str.ofString "snd")))) (yDz false)))
 (zU (ifC (yR neI (op2 zX (zG 2) (zD (.int (0)))) (zD (.str (Str.ofString "pair"))))
 (zU (xY (y8 [(zD .none), (op2 xK (zG 3) (zD (.int (2))))]))
 yA)
 yA)
 (zU (ifC (yR eqI (zG 0) (zD (.str (Str.ofString "fst"))))
 (zU (xY (y8 [(op2 zX (zG 2) (zD (.int (1)))), (op2 xK (zG 3) (zD (.int (2))))]))
 yA)
 yA)
 (zU (xY (y8 [(op2 zX (zG 2) (zD (.int (2)))), (op2 xK (zG 3) (zD (.int (2))))]))
 yA)))
 yA)
 (zU (ifC (yR eqI (zG 0) (zD (.str (Str.ofString "if"))))
 (zU (ifC (yR neI (op2 zX (zG 2) (zD (.int (0)))) (zD (.str (Str.ofString "bool"))))
 (zU (xY (y8 [(zD .none), (op2 xK (zG 3) (zD (.int (2))))]))
 yA)
 yA)
 (zU (xY (y8 [(y8 [(zD (.str (Str.ofString "int"))), (op2 uK (op2 xK (zG 4) (zD (.int (1)))) (op2 zX (zG 2) (zD (.int (1)))))]), (op2 xK (zG 3) (zD (.int (3))))]))
 yA))
 yA)
 (zU (ifC (yR neI (op2 zX (zG 2) (zD (.int (0)))) (zD (.str (Str.ofString "int"))))
 (zU (xY (y8 [(zD .none), (op2 xK (op2 xK (zG 3) (zD (.int (2)))) (op2 kOz (zD (.int (2))) (zG 1)))]))
 yA)
 yA)
 (zU (ifC (yR eqI (zG 0) (zD (.str (Str.ofString "add"))))
 (zU (xY (y8 [(y8 [(zD (.str (Str.ofString "int"))), (op2 xK (op2 zX (zG 2) (zD (.int (1)))) (zG 4))]), (op2 xK (zG 3) (zD (.int (4))))]))
 yA)
 yA)
 (zU (unpSw [7, 8] (y8 [(op2 zX (zG 2) (zD (.int (1)))), (zG 4)]))
 (zU (ifC (yR eqI (zG 1) (zD (.int (1))))
 (zU (unpSw [7, 8] (y8 [(zG 4), (op2 zX (zG 2) (zD (.int (1))))]))
 yA)
 yA)
 (zU (ifC (yR ltI (zG 7) (zG 8))
 (zU (xY (y8 [(y8 [(zD (.str (Str.ofString "bool"))), (zD (.int (1)))]), (op2 xK (zG 3) (zD (.int (4))))]))
 yA)
 yA)
 (zU (xY (y8 [(y8 [(zD (.str (Str.ofString "bool"))), (zD (.int (0)))]), (op2 xK (zG 3) (zD (.int (4))))]))
 yA)))))))))))))
noncomputable def wR : XF := zDz 7 9 (uJ []) u7z
noncomputable def vWz : SX :=
 (zU (qEz [5, 6, 7, 8, 9, 10] (zG 0))
 (zU (qEz [11, 12, 13, 14] (op2 zX (zD uO) (zG 1)))
 (zU (yX 15 (op2 uK (op1 vM (zG 5)) (zD (.int (1)))))
 (zU (yX 16 (op2 kOz (x8 (xX [(zD (.int (0)))])) (op2 xK (zD (.int (1))) (zG 13))))
 (zU (yX 17 (op2 kOz (x8 (xX [(zD (.int (0)))])) (op2 uK (op1 vM (zG 12)) (zG 13))))
 (zU (ifC (yR eqI (zG 2) (zD (.int (0))))
 (zU (yX 5 (yQ w8 [.loc 5, .loc 11, .loc 12, .loc 13, .loc 15, .loc 3]))
 (zU (qEz [9, 10] (yQ wR [.loc 11, .loc 13, .loc 9, .loc 10, .loc 3, .loc 15, .ex (x8 (xX []))]))
 yA))
 (zU (yX 18 (zD (.int (0))))
 (zU (ifC (yR eqI (zG 11) (zD (.str (Str.ofString "lam"))))
 (zU (yX 18 (zD (.int (1))))
 yA)
 yA)
 (zU (yX 5 (yQ w8 [.ex (op2 xK (zG 5) (x8 (xX [(y8 [(zD (.str (Str.ofString "ref"))), (zG 18), (zD (.int (0))), (zD (.int (0)))])]))), .loc 11, .loc 12, .loc 13, .ex (op2 xK (zG 15) (zD (.int (1)))), .loc 3]))
 (zU (yX 19 (op2 uK (op1 vM (zG 5)) (zD (.int (1)))))
 (zU (ifC (yR eqI (zG 2) (zD (.int (1))))
 (zU (yX 5 (op2 xK (zG 5) (x8 (xX [(y8 [(zD (.str (Str.ofString "let"))), (zG 15), (zG 19), (zD (.int (0)))])]))))
 (zU (yX 17 (op2 xK (op2 xK (op2 xK (x8 (xX [(zD (.int (0)))])) (zG 16)) (x8 (xX [(zD (.int (0)))]))) (zG 17)))
 (zU (yX 16 (x8 (xX [(zD (.int (0)))])))
 yA)))
 (zU (yX 5 (op2 xK (zG 5) (x8 (xX [(y8 [(zD (.str (Str.ofString "lam"))), (zG 19), (zD (.int (0))), (zD (.int (0)))]), (y8 [(zD (.str (Str.ofString "app"))), (op2 xK (zG 19) (zD (.int (1)))), (zG 15), (zD (.int (0)))])]))))
 (zU (yX 20 (zD (.int (1))))
 (zU (ifC (yR eqI (zG 14) (zD (.str (Str.ofString ""))))
 (zU (yX 20 (zD (.int (0))))
 yA)
 yA)
 (zU (yX 16 (op2 xK (op2 xK (op2 xK (op2 xK (x8 (xX [(zD (.int (0))), (zD (.int (0)))])) (zG 16)) (x8 (xX [(zD (.int (0)))]))) (zG 17)) (x8 (xX [(zG 20), (zD (.int (0)))]))))
 (zU (yX 17 (x8 (xX [])))
 yA))))))
 (zU (ifC (zAz vJ (zG 9))
 (zU (yX 10 (op2 uK (op2 xK (zG 10) (op2 kOz (zD (.int (2))) (zG 2))) (zD (.int (1)))))
 yA)
 (zU (qEz [9, 21] (yQ wR [.loc 11, .loc 13, .loc 9, .ex (zD (.int (1))), .loc 3, .ex (op2 xK (zG 15) (zD (.int (1)))), .ex (x8 (xX [(zG 9)]))]))
 (zU (yX 10 (op2 xK (op2 xK (zG 10) (op2 kOz (zD (.int (2))) (zG 2))) (zG 21)))
 yA)))
 yA)))))))
 (zU (yX 8 (op2 xK (zG 16) (zG 8)))
 (zU (ifC (yR eqI (zG 7) (zD (.str (Str.ofString ""))))
 (zU (yX 6 (yQ v9 [.loc 11, .loc 13, .loc 14, .loc 6, .loc 4]))
 (zU (yX 8 (op2 xK (op2 xK (zG 8) (zG 17)) (x8 (xX [(yQ qC [.loc 14, .loc 2, .ex (boolC (zAz vJ (zG 6)))])]))))
 (zU (ifC (zAz vJ (zG 6))
 (zU (yX 7 (zD (.str (Str.ofString "clash"))))
 yA)
 yA)
 yA)))
 yA)
 (zU (xY (y8 [(zG 5), (zG 6), (zG 7), (zG 8), (zG 9), (zG 10)]))
 yA)))))))))
noncomputable def v8 : XF := zDz 5 22 (uJ []) vWz
noncomputable def zWz : SX :=
 (zU (ifC (yR eqI (zG 3) (zD (.str (Str.ofString "var"))))
 (zU (ifC (yR uTz (zG 4) (zG 1))
 (zU (yAz 1 (zG 4))
 yA)
 yA)
 (zU (yAz 2 (y8 [(zD (.str (Str.ofString "var"))), (op2 uYz (zG 1) (zG 4))]))
 yA))
 (zU (yAz 2 (y8 [(zG 3), (zD (.int (0)))]))
 yA))
 yA)
noncomputable def wBz : SX :=
 (zU (kPz 1 (xX []))
 (zU (kPz 2 (xX []))
 (zU (z4q (tgtT [3, 4]) (zG 0) zWz)
 (zU (ghC 2 (xY (zG 2)))
 yA))))
noncomputable def jJ : XF := zDz 1 5 (uJ []) wBz
noncomputable def blaw : SX :=
 (zU (ifC (yR ltI (op1 vM (zG 0)) (zD (.int (10))))
 (zU (xY (zD (.bool true)))
 yA)
 yA)
 (zU (yX 1 (op2 zX (zG 0) (zD (.int (0)))))
 (zU (yX 2 (yQ z0z [.ex (yQ xC [.ex (op2 zX (zG 0) (zD (.int (1)))), .ex (zD (.int (12)))]), .loc 1]))
 (zU (yX 2 (yQ v8 [.loc 2, .ex (yQ xC [.ex (op2 zX (zG 0) (zD (.int (2)))), .ex (zD (.int (12)))]), .ex (yQ xC [.ex (op2 zX (zG 0) (zD (.int (3)))), .ex (zD (.int (3)))]), .ex (op2 uK (op2 xK (zG 1) (yQ xC [.ex (op2 zX (zG 0) (zD (.int (4)))), .ex (zD (.int (3)))])) (zD (.int (1)))), .ex (zD (.int (10)))]))
 (zU (yX 2 (yQ v8 [.loc 2, .ex (yQ xC [.ex (op2 zX (zG 0) (zD (.int (5)))), .ex (zD (.int (12)))]), .ex (yQ xC [.ex (op2 zX (zG 0) (zD (.int (6)))), .ex (zD (.int (3)))]), .ex (op2 uK (op2 xK (zG 1) (yQ xC [.ex (op2 zX (zG 0) (zD (.int (7)))), .ex (zD (.int (3)))])) (zD (.int (1)))), .ex (zD (.int (20)))]))
 (zU (qEz [3, 4, 5, 6, 7, 8] (zG 2))
 (zU (yX 9 (z7z (zG 3) none none))
 (zU (yX 10 (op1 maxI (op1 k9 (zG 6))))
 (zU (yX 11 (op2 xK (zG 10) (op2 zX (zD wK) (yQ xC [.ex (op2 zX (zG 0) (zD (.int (8)))), .ex (zD (.int (8)))]))))
 (zU (yX 12 (zG 5))
 (zU (ifC (yR ltI (zG 11) (zG 10))
 (zU (yX 12 (zD (.str (Str.ofString "fuel"))))
 yA)
 yA)
 (zU (yX 13 (zD .none))
 (zU (yX 14 (zD (.str (Str.ofString ""))))
 (zU (tryC 13 (yQ kP [.ex (zG 3), .ex (zG 11)]) [(x9, (zU (yX 14 (zD (.str (Str.ofString "clash"))))
 yA)), (wE, (zU (yX 14 (zD (.str (Str.ofString "occurs"))))
 yA)), (vY, (zU (yX 14 (zD (.str (Str.ofString "fuel"))))
 yA))])
 (zU (ifC (yR neI (zG 14) (zG 12))
 (zU (xY (zD (.bool false)))
 yA)
 yA)
 (zU (ifC (yR neI (zG 3) (zG 9))
 (zU (xY (zD (.bool false)))
 yA)
 yA)
 (zU (ifC (yR eqI (zG 12) (zD (.str (Str.ofString ""))))
 (zU (ifC (yR neI (zG 13) (yQ jJ [.loc 4]))
 (zU (xY (zD (.bool false)))
 yA)
 yA)
 (zU (ifC (notB (zAz uG (zG 13)))
 (zU (xY (zD (.bool false)))
 yA)
 yA)
 yA))
 yA)
 (zU (yX 11 (op2 xK (zG 8) (op2 zX (zD wK) (yQ xC [.ex (op2 zX (zG 0) (zD (.int (9)))), .ex (zD (.int (8)))]))))
 (zU (yX 15 (y8 [(zD (.str (Str.ofString "done"))), (zG 7)]))
 (zU (ifC (yR ltI (zG 11) (zG 8))
 (zU (yX 15 (y8 [(zD (.str (Str.ofString "fuel"))), (zD .none)]))
 yA)
 (zU (ifC (zAz vJ (zG 7))
 (zU (yX 15 (y8 [(zD (.str (Str.ofString "stuck"))), (zD .none)]))
 yA)
 yA)
 yA))
 (zU (yX 16 (yQ xrun [.loc 3, .loc 11]))
 (zU (ifC (yR neI (zG 16) (zG 15))
 (zU (xY (zD (.bool false)))
 yA)
 yA)
 (zU (ifC (j6 (yR eqI (op2 zX (zG 15) (zD (.int (0)))) (zD (.str (Str.ofString "done")))) (j6 (yR eqI (op1 vM (op2 zX (zG 15) (zD (.int (1))))) (zD (.int (2)))) (yDz true)))
 (zU (ifC (notB (zAz isIntI (op2 zX (op2 zX (zG 16) (zD (.int (1)))) (zD (.int (1))))))
 (zU (xY (zD (.bool false)))
 yA)
 yA)
 yA)
 yA)
 (zU (ifC (yR neI (zG 3) (zG 9))
 (zU (xY (zD (.bool false)))
 yA)
 yA)
 (zU (xY (zD (.bool true)))
 yA)))))))))))))))))))))))))
noncomputable def xlaw : XF := zDz 1 17 (uJ []) blaw
theorem o1 {a b : Nat} (h : 0 < b := by decide) : a < a + b := Nat.lt_add_of_pos_right h
theorem o2 {a b c : Nat} (h : a ≤ b := by decide) : c + a ≤ c + b := Nat.add_le_add_left h _
theorem o4 {a b : Nat} (h : a < b := by assumption) : a ≤ b := Nat.le_of_lt h
theorem o5 {a b c : Nat} (h : a ≤ b := by assumption) (k : b ≤ c := by decide) : a ≤ c := Nat.le_trans h k
theorem o7 {a b c : Nat} (h : a < b := by assumption) (k : b ≤ c := by decide) : a < c := Nat.lt_of_lt_of_le h k
theorem o8 {a b c : Nat} (h : a < b := by assumption) (k : b ≤ c := by decide) : a ≤ c := Nat.le_trans (Nat.le_of_lt h) k
theorem o9 {a b c d : Nat} (h : a ≤ b := by assumption) (i : b < c := by assumption) (k : c ≤ d := by decide) : a ≤ d := Nat.le_trans h (Nat.le_trans (Nat.le_of_lt i) k)
theorem p1 {a b : Nat} (h : a ≤ b := by assumption) (k : b ≤ lim := by decide) : a ≤ lim := Nat.le_trans h k
theorem p2 {a b : Nat} (h : a ≤ b := by assumption) (k : b < lim := by decide) : a < lim := Nat.lt_of_le_of_lt h k
theorem p3 {a b : Nat} (h : a < b := by assumption) (k : b ≤ lim := by decide) : a ≤ lim := Nat.le_trans (Nat.le_of_lt h) k
theorem p5 {a b c : Nat} (h : a + c ≤ b := by assumption) (k : b < lim := by decide) : a < lim := Nat.lt_of_le_of_lt (Nat.le_trans (Nat.le_add_right _ _) h) k
end
end Mine
local macro_rules | `(tactic| omega) => `(tactic| first | (with_reducible first | exact Nat.le_refl _ | exact Nat.le_succ _ | exact Nat.lt_add_one _ | exact Nat.le_add_right _ _ | exact Mine.o1 | exact Mine.o2 | assumption | exact Mine.o4 | exact Mine.o5 | exact Mine.o7 | exact Mine.o8 | exact Mine.o9) | decide | (simp +arith only; done) | ((with_reducible first | refine Nat.le_trans ?_ (by assumption) | refine Nat.lt_of_le_of_lt ?_ (by assumption)); (simp +arith only; done)) | lia | omega (config := {}))
namespace Mine.Pl
open PySem PySem.SeqAt
local macro_rules | `(tactic| trivial) => `(tactic| first | (with_reducible first | exact p1 | exact p2 | exact p3 | exact p5) | (simp only [lim]; omega))
inductive It where
  | int | bool | fn | pr
  | var (k : Int)
  deriving DecidableEq
noncomputable abbrev Ty := List It
noncomputable def It.con : It → Bool
  | .fn => true
  | .pr => true
  | _ => false
noncomputable def u0 : Ty → List Int → List Int
  | [], met => met
  | .var k :: r, met => if k ∈ met then u0 r met else u0 r (met ++ [k])
  | _ :: r, met => u0 r met
inductive Kd where
  | num | bool | ref | lam | app | let_ | add | less | pair | fst | snd | if_
structure Node where
  kd : Kd
  a : Int
  b : Int
  c : Int
noncomputable def xP (nd : Node) : List Int :=
  match nd.kd with
  | .lam | .fst | .snd => [nd.a]
  | .app | .let_ | .add | .less | .pair => [nd.a, nd.b]
  | .if_ => [nd.a, nd.b, nd.c]
  | _ => []
noncomputable def eI : It → PyData
  | .int => .tuple [.str (Str.ofString "int"), .int 0]
  | .bool => .tuple [.str (Str.ofString "bool"), .int 0]
  | .fn => .tuple [.str (Str.ofString "fun"), .int 0]
  | .pr => .tuple [.str (Str.ofString "pair"), .int 0]
  | .var k => .tuple [.str (Str.ofString "var"), .int k]
noncomputable def eT (t : Ty) : PyData := .list (t.map eI)
theorem qKz (a : String) : PyData.strOk (Str.ofString a) = true := by
  rw [Str.ofString_eq_toList]
  simp only [PyData.strOk, List.all_toArray, List.all_eq_true, List.mem_map]
  rintro _ ⟨ch, _, rfl⟩
  have := ch.valid
  simp only [decide_eq_true_eq]
  rcases this with h | h
  · have h' : ch.toNat < 0xd800 := h
    omega
  · have h' : ch.toNat < 0x110000 := h.2
    omega
theorem jVz : ∀ {a b : List Char}, a.map Char.toNat = b.map Char.toNat → a = b
  | [], [], _ => rfl
  | [], _ :: _, h => by cases h
  | _ :: _, [], h => by cases h
  | x :: a, y :: b, h => by
    simp only [List.map_cons, List.cons.injEq] at h
    rw [Char.toNat_inj.mp h.1, jVz h.2]
theorem str_beq (a b : String) : (Str.ofString a == Str.ofString b) = (a == b) := by
  rw [Bool.eq_iff_iff, beq_iff_eq, beq_iff_eq]
  constructor
  · intro h
    rw [Str.ofString_eq_toList, Str.ofString_eq_toList] at h
    injection h with h
    have h : a.toList.map Char.toNat = b.toList.map Char.toNat := congrArg Array.toList h
    exact String.toList_inj.mp (jVz h)
  · rintro rfl; rfl
theorem yG (a b : String) : eqI (.str (Str.ofString a)) (.str (Str.ofString b)) = some (a == b) := by
  simp [eqI, shaped, PyData.canLay0, PyData.depth, qKz, PyData.eqv, str_beq]
noncomputable def Kd.str : Kd → String
  | .num => "num" | .bool => "bool" | .ref => "ref" | .lam => "lam" | .app => "app" | .let_ => "let" | .add => "add" | .less => "less" | .pair => "pair" | .fst => "fst" | .snd => "snd" | .if_ => "if"
noncomputable def eN (nd : Node) : PyData := .tuple [.str (Str.ofString nd.kd.str), .int nd.a, .int nd.b, .int nd.c]
section
variable {f g : SX} {t : BX} {σ σ' : Sta} {d : PyData} {x : Addr} {r : Out (Fl × Sta)}
theorem zB (h : f σ = some (.ok (.next, σ'))) (k : g σ' = r) : zU f g σ = r := by unfold zU; rw [h]; exact k
theorem zR (h : f σ = some (.ok (.ret d, σ'))) : zU f g σ = some (.ok (.ret d, σ')) := by unfold zU; rw [h]; rfl
theorem seq_cont (h : f σ = some (.ok (.cont, σ'))) : zU f g σ = some (.ok (.cont, σ')) := by unfold zU; rw [h]; rfl
theorem yK (h : f σ = some (.error x)) : zU f g σ = some (.error x) := by unfold zU; rw [h]; rfl
theorem zW (h : t σ = some (.ok true)) (k : f σ = r) : ifC t f g σ = r := by unfold ifC; rw [h]; exact k
theorem zF (h : t σ = some (.ok false)) (k : g σ = r) : ifC t f g σ = r := by unfold ifC; rw [h]; exact k
theorem yC {np nloc : Nat} {pin : Nat → Bool} {args : List Slot} (ha : args.length = np) (hp : ySz pin 0 args = true) (h : f (args.map some ++ List.replicate (nloc - args.length) none) = some (.ok (.ret d, σ'))) : zDz np nloc pin f args = some (.ok (d, σ')) := by
  unfold zDz; rw [if_pos ⟨ha, hp⟩, h]; rfl
theorem x5 {np nloc : Nat} {pin : Nat → Bool} {args : List Slot} (ha : args.length = np) (hp : ySz pin 0 args = true) (h : f (args.map some ++ List.replicate (nloc - args.length) none) = some (.error x)) : zDz np nloc pin f args = some (.error x) := by
  unfold zDz; rw [if_pos ⟨ha, hp⟩, h]; rfl
theorem zV {p : PyData → PyData → Option Bool} {e₁ e₂ : EX} {a b : PyData} {c : Bool} (h1 : rd e₁ σ = some (.ok a)) (h2 : rd e₂ σ = some (.ok b)) (h : p a b = some c) : yR p e₁ e₂ σ = some (.ok c) := by
  unfold yR; rw [h1]; show bnd (rd e₂ σ) _ = _; rw [h2]; show okP (p a b) = _; rw [h]; rfl
theorem vK {p : PyData → Option PyData} {e : EX} {a b : PyData} (h1 : rd e σ = some (.ok a)) (h : p a = some b) : op1 p e σ = some (.ok (.pv b)) := by
  unfold op1; rw [h1]; show okP ((p a).map AV.pv) = _; rw [h]; rfl
theorem zO {p : PyData → PyData → Option PyData} {e₁ e₂ : EX} {a b c : PyData} (h1 : rd e₁ σ = some (.ok a)) (h2 : rd e₂ σ = some (.ok b)) (h : p a b = some c) : op2 p e₁ e₂ σ = some (.ok (.pv c)) := by
  unfold op2; rw [h1]; show bnd (rd e₂ σ) _ = _; rw [h2]; show okP ((p a b).map AV.pv) = _; rw [h]; rfl
theorem yB {e : EX} (h : e σ = some (.ok (.pv d))) : rd e σ = some (.ok d) := by unfold rd; rw [h]; rfl
theorem yPz {e : EX} (h : e σ = some (.ok (.pv d))) : yCz e σ = some (.ok d) := by unfold yCz; rw [h]; rfl
theorem z2 {e : EX} {i : Nat} (h : e σ = some (.ok (.pv d))) : yX i e σ = some (.ok (.next, σ.set i (some (.fz d)))) := by unfold yX; rw [yPz h]; rfl
theorem yH {e : EX} (h : e σ = some (.ok (.pv d))) : xY e σ = some (.ok (.ret d, σ)) := by unfold xY; rw [yPz h]; rfl
theorem xQ {e : EX} {i : Nat} {l : List PyData} (hs : σ[i]? = some (some (.ol l))) (h : e σ = some (.ok (.pv d))) (hl : l.length ≤ lim) : yAz i e σ = some (.ok (.next, σ.set i (some (.ol (l ++ [d]))))) := by
  unfold yAz; rw [hs]; show bnd (yCz e σ) _ = _; rw [yPz h]; show (if _ then _ else _) = _; rw [if_pos hl]
end
inductive G2 (r : Out (PyData × Sta)) (d : PyData) : Prop
  | mk (o0 o1 : Option Slot) (τ : Sta) (h : r = some (.ok (d, o0 :: o1 :: τ))) : G2 r d
inductive G3 (r : Out (PyData × Sta)) (d : PyData) (K : List PyData) : Prop
  | mk (o0 o1 : Option Slot) (τ : Sta) (h : r = some (.ok (d, o0 :: o1 :: some (.ol K) :: τ))) : G3 r d K
inductive G4 (r : Out (PyData × Sta)) (d : PyData) (K : List PyData) : Prop
  | mk (o0 o1 o2 : Option Slot) (τ : Sta) (h : r = some (.ok (d, o0 :: o1 :: o2 :: some (.ol K) :: τ))) : G4 r d K
inductive G6 (r : Out (PyData × Sta)) (d : PyData) (K T : List PyData) : Prop
  | mk (o0 o1 o2 o3 : Option Slot) (τ : Sta) (h : r = some (.ok (d, o0 :: o1 :: o2 :: o3 :: some (.ol K) :: some (.ol T) :: τ))) : G6 r d K T
inductive F2 (r : Out (Fl × Sta)) (d₀ : PyData) (out : List PyData) : Prop
  | mk (o1 o3 : Option Slot) (h : r = some (.ok (.next, [some (.fz d₀), o1, some (.ol out), o3]))) : F2 r d₀ out
inductive F3 (r : Out (Fl × Sta)) (d₀ : PyData) (out : List PyData) : Prop
  | mk (o1 o3 o4 : Option Slot) (h : r = some (.ok (.next, [some (.fz d₀), o1, some (.ol out), o3, o4]))) : F3 r d₀ out
inductive Gv (r : Out (PyData × Sta)) (d : PyData) (k : Nat) : Prop
  | mk (τ : Sta) (h : r = some (.ok (d, τ))) (hl : k ≤ τ.length) : Gv r d k
section
variable {st : PyData → Sta → Option Sta} {b : SX} {t : BX} {σ σ₁ σ₂ : Sta} {d : PyData} {l : List PyData} {x : Addr} {r : Out (Fl × Sta)}
theorem yL (h1 : st d σ = some σ₁) (h2 : b σ₁ = some (.ok (.next, σ₂))) (k : vL st b l σ₂ = r) : vL st b (d :: l) σ = r := by
  unfold vL; rw [h1]; show bnd (b σ₁) _ = _; rw [h2]; exact k
theorem for_ret {d' : PyData} (h1 : st d σ = some σ₁) (h2 : b σ₁ = some (.ok (.ret d', σ₂))) : vL st b (d :: l) σ = some (.ok (.ret d', σ₂)) := by
  unfold vL; rw [h1]; show bnd (b σ₁) _ = _; rw [h2]; rfl
theorem vH {n : Nat} (h1 : t σ = some (.ok true)) (h2 : b σ = some (.ok (.next, σ₂))) (k : wM t b n σ₂ = r) : wM t b (n + 1) σ = r := by
  unfold wM; rw [h1]; show bnd (b σ) _ = _; rw [h2]; exact k
theorem zRq {n : Nat} (h1 : t σ = some (.ok true)) (h2 : b σ = some (.ok (.cont, σ₂))) (k : wM t b n σ₂ = r) : wM t b (n + 1) σ = r := by
  unfold wM; rw [h1]; show bnd (b σ) _ = _; rw [h2]; exact k
theorem while_ret {n : Nat} (h1 : t σ = some (.ok true)) (h2 : b σ = some (.ok (.ret d, σ₂))) : wM t b (n + 1) σ = some (.ok (.ret d, σ₂)) := by
  unfold wM; rw [h1]; show bnd (b σ) _ = _; rw [h2]; rfl
theorem qD {n : Nat} (h1 : t σ = some (.ok true)) (h2 : b σ = some (.error x)) : wM t b (n + 1) σ = some (.error x) := by
  unfold wM; rw [h1]; show bnd (b σ) _ = _; rw [h2]; rfl
theorem kS {n : Nat} (h1 : t σ = some (.ok false)) : wM t b (n + 1) σ = some (.ok (.next, σ)) := by
  unfold wM; rw [h1]; rfl
theorem yS {u : BX} {c : Out Bool} (h : t σ = some (.ok true)) (k : u σ = c) : j6 t u σ = c := by unfold j6; rw [h]; exact k
theorem y3 {u : BX} (h : t σ = some (.ok false)) : j6 t u σ = some (.ok false) := by unfold j6; rw [h]; rfl
theorem uM {u : BX} (h : t σ = some (.ok true)) : orB t u σ = some (.ok true) := by unfold orB; rw [h]; rfl
theorem zZ {u : BX} {c : Out Bool} (h : t σ = some (.ok false)) (k : u σ = c) : orB t u σ = c := by unfold orB; rw [h]; exact k
end
theorem vU : ∀ l : List Int, wN (l.map PyData.int) = some l
  | [] => rfl
  | i :: r => by simp [wN, vU r]
theorem qY (k : Int) (l : List Int) : uTz (.int k) (.list (l.map PyData.int)) = some (!l.contains k) := by
  show ((wN (l.map PyData.int)).map fun ns => ns.contains k).map not = _
  rw [vU]; rfl
theorem in_ints (k : Int) (l : List Int) : inI (.int k) (.list (l.map PyData.int)) = some (l.contains k) := by
  show ((wN (l.map PyData.int)).map fun ns => ns.contains k) = _
  rw [vU]; rfl
theorem qI : ∀ (t : Ty) (met : List Int), (u0 t met).length ≤ met.length + t.length
  | [], met => by simp [u0]
  | i :: r, met => by
    induction i with
    | var k =>
      unfold u0
      split
      · have := qI r met; simp only [List.length_cons]; omega
      · have := qI r (met ++ [k]); simp only [List.length_cons, List.length_append, List.length_nil] at *; omega
    | _ => have := qI r met; simp only [u0, List.length_cons] at *; omega
theorem z1z (d₀ : PyData) : ∀ (t : Ty) (met : List Int) (o : Option Slot), met.length + t.length ≤ lim → ∃ o', vL (zRz 2) uUz (t.map eI) [some (.fz d₀), some (.ol (met.map .int)), o] = some (.ok (.next, [some (.fz d₀), some (.ol ((u0 t met).map .int)), o']))
  | [], met, o, _ => ⟨o, rfl⟩
  | i :: r, met, o, hl => by
    simp only [List.length_cons] at hl
    induction i with
    | var k =>
      by_cases hk : k ∈ met
      · obtain ⟨o', h⟩ := z1z d₀ r met (some (.fz (eI (.var k)))) (by omega)
        refine ⟨o', yL rfl (zB (zF (yS (by with_unfolding_all rfl) (y3 (zV rfl rfl ((qY k met).trans (by simp [hk]))))) rfl) rfl) (by rw [u0, if_pos hk]; exact h)⟩
      · obtain ⟨o', h⟩ := z1z d₀ r (met ++ [k]) (some (.fz (eI (.var k)))) (by simp; omega)
        refine ⟨o', yL rfl (zB (zW (yS (by with_unfolding_all rfl) (yS (zV rfl rfl ((qY k met).trans (by simp [hk]))) rfl)) (zB (xQ rfl rfl (by simp; omega)) rfl)) rfl) (by rw [u0, if_neg hk]; simpa using h)⟩
    | int => obtain ⟨o', h⟩ := z1z d₀ r met (some (.fz (eI .int))) (by omega); exact ⟨o', yL rfl (by with_unfolding_all rfl) h⟩
    | bool => obtain ⟨o', h⟩ := z1z d₀ r met (some (.fz (eI .bool))) (by omega); exact ⟨o', yL rfl (by with_unfolding_all rfl) h⟩
    | fn => obtain ⟨o', h⟩ := z1z d₀ r met (some (.fz (eI .fn))) (by omega); exact ⟨o', yL rfl (by with_unfolding_all rfl) h⟩
    | pr => obtain ⟨o', h⟩ := z1z d₀ r met (some (.fz (eI .pr))) (by omega); exact ⟨o', yL rfl (by with_unfolding_all rfl) h⟩
inductive Tr where
  | int | bool
  | var (k : Nat)
  | fn (a b : Tr)
  | pr (a b : Tr)
  deriving DecidableEq
noncomputable def Tr.enc : Tr → Ty
  | .int => [.int]
  | .bool => [.bool]
  | .var k => [.var k]
  | .fn a b => a.enc ++ b.enc ++ [.fn]
  | .pr a b => a.enc ++ b.enc ++ [.pr]
noncomputable def eR (t : Tr) : PyData := eT t.enc
noncomputable def Tr.len : Tr → Nat
  | .fn a b => a.len + b.len + 1
  | .pr a b => a.len + b.len + 1
  | _ => 1
theorem yN : ∀ t : Tr, t.enc.length = t.len
  | .int => rfl
  | .bool => rfl
  | .var _ => rfl
  | .fn a b => by simp [Tr.enc, Tr.len, yN a, yN b, Nat.add_assoc]
  | .pr a b => by simp [Tr.enc, Tr.len, yN a, yN b, Nat.add_assoc]
theorem kI : ∀ t : Tr, 0 < t.len
  | .int => Nat.one_pos
  | .bool => Nat.one_pos
  | .var _ => Nat.one_pos
  | .fn _ _ => Nat.succ_pos _
  | .pr _ _ => Nat.succ_pos _
theorem uFz : ∀ (t u : Tr) (p q : Ty), p ++ t.enc = q ++ u.enc → p = q ∧ t = u := by
  intro t
  induction t with
  | int => intro u p q h; cases u <;> simp [Tr.enc, ← List.append_assoc] at h ⊢ <;> first | exact h | skip
  | bool => intro u p q h; cases u <;> simp [Tr.enc, ← List.append_assoc] at h ⊢ <;> first | exact h | skip
  | var k =>
    intro u p q h
    induction u with
    | var j => simp [Tr.enc] at h ⊢; exact ⟨h.1, by omega⟩
    | _ => simp [Tr.enc, ← List.append_assoc] at h
  | fn a b iha ihb =>
    intro u p q h
    induction u with
    | fn c d =>
      simp only [Tr.enc, ← List.append_assoc] at h
      have h' := List.append_inj_left' h rfl
      obtain ⟨h1, rfl⟩ := ihb d _ _ h'
      obtain ⟨rfl, rfl⟩ := iha c _ _ h1
      exact ⟨rfl, rfl⟩
    | _ => simp [Tr.enc, ← List.append_assoc] at h
  | pr a b iha ihb =>
    intro u p q h
    induction u with
    | pr c d =>
      simp only [Tr.enc, ← List.append_assoc] at h
      have h' := List.append_inj_left' h rfl
      obtain ⟨h1, rfl⟩ := ihb d _ _ h'
      obtain ⟨rfl, rfl⟩ := iha c _ _ h1
      exact ⟨rfl, rfl⟩
    | _ => simp [Tr.enc, ← List.append_assoc] at h
theorem enc_inj {t u : Tr} (h : t.enc = u.enc) : t = u := (uFz t u [] [] (by simpa using h)).2
theorem eqv_eI : ∀ i j : It, PyData.eqv (eI i) (eI j) = decide (i = j) := by
  intro i j
  cases i <;> cases j <;> simp [eI, PyData.eqv, PyData.eqvAll, str_beq]
  rfl
theorem kBz : ∀ t u : Ty, PyData.eqvAll (t.map eI) (u.map eI) = decide (t = u)
  | [], [] => rfl
  | [], _ :: _ => rfl
  | _ :: _, [] => rfl
  | i :: t, j :: u => by simp [PyData.eqvAll, eqv_eI, kBz t u]
theorem yLz (i : It) : (eI i).canLay0 = true ∧ (eI i).depth = 1 := by
  cases i <;> simp [eI, PyData.canLay0, PyData.canLayAll0, qKz, PyData.depth, PyData.depthAll]
theorem x7z : ∀ t : Ty, PyData.canLayAll0 (t.map eI) = true ∧ PyData.depthAll (t.map eI) ≤ 1
  | [] => by simp [PyData.canLayAll0, PyData.depthAll]
  | i :: t => by
    have h1 := yLz i; have h2 := x7z t
    simp only [List.map_cons, PyData.canLayAll0, PyData.depthAll, h1.1, h1.2, h2.1, Bool.and_self, true_and]
    omega
theorem jOz (t : Ty) : shaped (eT t) = true := by
  have h := x7z t
  simp only [shaped, eT, PyData.canLay0, PyData.depth, h.1, Bool.true_and, decide_eq_true_eq]
  omega
theorem eq_eT (t u : Ty) : eqI (eT t) (eT u) = some (decide (t = u)) := by
  unfold eqI
  rw [jOz, jOz]
  show some (PyData.eqvAll _ _) = _
  rw [kBz]
theorem eq_eR (t u : Tr) : eqI (eR t) (eR u) = some (decide (t = u)) := by
  unfold eR
  rw [eq_eT]
  congr 1
  by_cases h : t = u
  · subst h; simp
  · simp only [decide_eq_decide]; exact ⟨fun e => enc_inj e, fun e => by rw [e]⟩
theorem v0 {l : List PyData} {d : PyData} {s : Nat} (h : l[s]? = some d) (hs : l.length ≤ lim) : zX (.list l) (.int (s : Nat)) = some d := by
  have hlt : s < l.length := (List.getElem?_eq_some_iff.mp h).1
  show idx? l (s : Int) = some d
  unfold idx?
  rw [if_pos (by omega), if_pos (by simp only [lim] at *; omega)]
  simpa using h
theorem hCz {t : Ty} {i : It} {s : Nat} (h : t[s]? = some i) (hs : t.length ≤ lim) : zX (eT t) (.int (s : Nat)) = some (eI i) := v0 (by simp [h]) (by simpa using hs)
theorem xL {a b c : Int} (h : a - b = c) : uK (.int a) (.int b) = some (.int c) := by subst h; rfl
theorem yM {a b c : Int} (h : a + b = c) : xK (.int a) (.int b) = some (.int c) := by subst h; rfl
theorem uZz {a b : Int} (h : b < a) : gtI (.int a) (.int b) = some true := by show some (decide (b < a)) = _; rw [decide_eq_true h]
theorem gt_int' {a b : Int} (h : ¬ b < a) : gtI (.int a) (.int b) = some false := by show some (decide (b < a)) = _; rw [decide_eq_false h]
noncomputable def It.nm : It → String
  | .int => "int" | .bool => "bool" | .fn => "fun" | .pr => "pair" | .var _ => "var"
theorem q0z (i : It) : zX (eI i) (.int 0) = some (.str (Str.ofString i.nm)) := by cases i <;> rfl
noncomputable abbrev kY : BX := j6 (yR gtI (zG 3) (zD (.int (0)))) (j6 (yR gtI (zG 2) (zD (.int (0)))) (yDz true))
theorem jZ {a b : Slot} {s w : Nat} (hs : 0 < s) (hw : 0 < w) : kY [some a, some b, some (.fz (.int (s : Nat))), some (.fz (.int (w : Nat)))] = some (.ok true) :=
  yS (zV rfl rfl (uZz (by omega))) (yS (zV rfl rfl (uZz (by omega))) rfl)
theorem zYq {a b : Slot} {s : Nat} : kY [some a, some b, some (.fz (.int (s : Nat))), some (.fz (.int (0 : Nat)))] = some (.ok false) :=
  y3 (zV rfl rfl (gt_int' (by omega)))
theorem j0 {t : Ty} {i : It} {s w : Nat} {b : Slot} (h : t[s]? = some i) (hl : t.length ≤ lim) :
    q8 [some (.fz (eT t)), some b, some (.fz (.int ((s + 1 : Nat) : Int))), some (.fz (.int ((w + 1 : Nat) : Int)))] = some (.ok (.next, [some (.fz (eT t)), some b, some (.fz (.int (s : Nat))), some (.fz (.int ((if i.con then w + 2 else w : Nat) : Int)))])) := by
  have e1 : zX (eT t) (.int ((s : Nat) : Int)) = some (eI i) := hCz h hl
  refine zB (z2 (zO rfl rfl (xL (c := (s : Nat)) (by omega)))) (zB ?_ rfl)
  have hh : rd (op2 zX (op2 zX (zG 0) (zG 2)) (zD (.int (0)))) [some (.fz (eT t)), some b, some (.fz (.int (s : Nat))), some (.fz (.int ((w + 1 : Nat) : Int)))] = some (.ok (.str (Str.ofString i.nm))) :=
    yB (zO (yB (zO rfl rfl e1)) rfl (q0z i))
  have up : ∀ (σ : Sta) (v : Nat), σ[3]? = some (some (.fz (.int ((w + 1 : Nat) : Int)))) → yX 3 (op2 xK (zG 3) (zD (.int (1)))) σ = some (.ok (.next, σ.set 3 (some (.fz (.int ((w + 2 : Nat) : Int)))))) := fun σ v hσ => by
    refine z2 (zO (a := .int ((w + 1 : Nat) : Int)) (b := .int 1) ?_ rfl (yM (by omega)))
    unfold rd zG; rw [hσ]; rfl
  induction i with
  | fn => exact zW (uM (zV hh rfl (yG _ _))) (zB (up _ 0 rfl) rfl)
  | pr => exact zW (zZ (zV hh rfl (yG _ _)) (uM (zV hh rfl (yG _ _)))) (zB (up _ 0 rfl) rfl)
  | int => exact zF (zZ (zV hh rfl (yG _ _)) (zZ (zV hh rfl (yG _ _)) rfl)) (zB (z2 (zO rfl rfl (xL (c := (w : Nat)) (by omega)))) rfl)
  | bool => exact zF (zZ (zV hh rfl (yG _ _)) (zZ (zV hh rfl (yG _ _)) rfl)) (zB (z2 (zO rfl rfl (xL (c := (w : Nat)) (by omega)))) rfl)
  | var k => exact zF (zZ (zV hh rfl (yG _ _)) (zZ (zV hh rfl (yG _ _)) rfl)) (zB (z2 (zO rfl rfl (xL (c := (w : Nat)) (by omega)))) rfl)
theorem kJz {t A post : Ty} {i : It} {n : Nat} (ht : t = A ++ i :: post) (hn : n = A.length) : t[n]? = some i := by
  subst ht; subst hn; simp
theorem j1 {t : Ty} (hl : t.length ≤ lim) (b : Slot) : ∀ (u : Tr) (pre post : Ty) (w N : Nat), t = pre ++ u.enc ++ post →
    wM kY q8 (N + u.len) [some (.fz (eT t)), some b, some (.fz (.int ((pre.length + u.len : Nat) : Int))), some (.fz (.int ((w + 1 : Nat) : Int)))] = wM kY q8 N [some (.fz (eT t)), some b, some (.fz (.int (pre.length : Nat))), some (.fz (.int (w : Nat)))]
  | .int, pre, post, w, N, h => vH (jZ (by simp [Tr.len]) (by omega)) (j0 (i := .int) (by rw [h]; simp [Tr.enc]) hl) rfl
  | .bool, pre, post, w, N, h => vH (jZ (by simp [Tr.len]) (by omega)) (j0 (i := .bool) (by rw [h]; simp [Tr.enc]) hl) rfl
  | .var k, pre, post, w, N, h => vH (jZ (by simp [Tr.len]) (by omega)) (j0 (i := .var k) (by rw [h]; simp [Tr.enc]) hl) rfl
  | .fn x y, pre, post, w, N, h => by
    have e1 : pre.length + (Tr.fn x y).len = (pre.length + x.len + y.len) + 1 := by simp only [Tr.len]; omega
    have e2 : N + (Tr.fn x y).len = (N + x.len + y.len) + 1 := by simp only [Tr.len]; omega
    rw [e1, e2]
    refine vH (jZ (by omega) (by omega)) (j0 (i := .fn) (kJz (A := pre ++ x.enc ++ y.enc) (post := post) (by rw [h]; simp [Tr.enc]) (by simp [yN, Nat.add_assoc])) hl) ?_
    have h1 := j1 hl b y (pre ++ x.enc) ([.fn] ++ post) (w + 1) (N + x.len) (by rw [h]; simp [Tr.enc])
    have h2 := j1 hl b x pre (y.enc ++ [.fn] ++ post) w N (by rw [h]; simp [Tr.enc])
    rw [List.length_append, yN] at h1
    exact h1.trans h2
  | .pr x y, pre, post, w, N, h => by
    have e1 : pre.length + (Tr.pr x y).len = (pre.length + x.len + y.len) + 1 := by simp only [Tr.len]; omega
    have e2 : N + (Tr.pr x y).len = (N + x.len + y.len) + 1 := by simp only [Tr.len]; omega
    rw [e1, e2]
    refine vH (jZ (by omega) (by omega)) (j0 (i := .pr) (kJz (A := pre ++ x.enc ++ y.enc) (post := post) (by rw [h]; simp [Tr.enc]) (by simp [yN, Nat.add_assoc])) hl) ?_
    have h1 := j1 hl b y (pre ++ x.enc) ([.pr] ++ post) (w + 1) (N + x.len) (by rw [h]; simp [Tr.enc])
    have h2 := j1 hl b x pre (y.enc ++ [.pr] ++ post) w N (by rw [h]; simp [Tr.enc])
    rw [List.length_append, yN] at h1
    exact h1.trans h2
theorem cut_eT {t : Ty} (lo hi : Option Int) : cutL (t.map eI) lo hi = ((t.drop (lo.elim 0 (clipAt t.length))).take (hi.elim t.length (clipAt t.length) - lo.elim 0 (clipAt t.length))).map eI := by
  unfold cutL; simp [List.map_take, List.map_drop]
theorem wRz {n k : Nat} (h : k ≤ n) : clipAt n (k : Int) = k := by
  unfold clipAt; rw [if_neg (by omega)]; omega
theorem xAz {e : EX} {l : List PyData} {lo hi : Option EX} {a b : Option Int} {σ : Sta} (h : rd e σ = some (.ok (.list l))) (h1 : optI lo σ = some (.ok a)) (h2 : optI hi σ = some (.ok b)) (hl : l.length ≤ lim) : z7z e lo hi σ = some (.ok (.pv (.list (cutL l a b)))) := by
  unfold z7z; rw [h]; show bnd (optI lo σ) _ = _; rw [h1]; show bnd (optI hi σ) _ = _; rw [h2]
  show (if l.length ≤ lim then _ else _) = _
  rw [if_pos hl]
theorem uRz {e : EX} {i : Int} {σ : Sta} (h : rd e σ = some (.ok (.int i))) (hi : -(2 ^ 62) < i ∧ i < 2 ^ 62) : optI (some e) σ = some (.ok (some i)) := by
  unfold optI; dsimp only; rw [h]; show (if _ then _ else _) = _; rw [if_pos hi]
theorem wJ {l : List PyData} (h : l.length ≤ lim) : vM (.list l) = some (.int (l.length : Nat)) := by
  show (if l.length ≤ lim then _ else _) = _; rw [if_pos h]
theorem frz2 {e₁ e₂ : EX} {a b : PyData} {σ : Sta} (h1 : e₁ σ = some (.ok (.pv a))) (h2 : e₂ σ = some (.ok (.pv b))) : x8 (xX [e₁, e₂]) σ = some (.ok (.pv (.list [a, b]))) := by
  unfold x8 xX pvs; rw [yPz h1]; show bnd (bnd (pvs [e₂] σ) _) _ = _; unfold pvs; rw [yPz h2]; rfl
noncomputable def Tr.two (c : Bool) (a b : Tr) : Tr := if c then .fn a b else .pr a b
theorem xMz (c : Bool) (a b : Tr) : (Tr.two c a b).enc = a.enc ++ b.enc ++ [if c then .fn else .pr] := by cases c <;> rfl
theorem x_parts (c : Bool) (a b : Tr) (hl : (Tr.two c a b).len ≤ lim) : ∃ τ, jW [.fz (eR (Tr.two c a b))] = some (.ok (.list [eR a, eR b], some (.fz (eR (Tr.two c a b))) :: τ)) := by
  have hlen : (Tr.two c a b).len = a.len + b.len + 1 := by cases c <;> rfl
  have hl' : (Tr.two c a b).enc.length ≤ lim := by rw [yN]; exact hl
  have hlen' : (Tr.two c a b).enc.length = a.len + b.len + 1 := by rw [yN, hlen]
  have hlast : (Tr.two c a b).enc[a.len + b.len]? = some (if c then It.fn else .pr) := kJz (A := a.enc ++ b.enc) (post := []) (xMz c a b) (by simp [yN])
  refine ⟨[some (.fz (.int ((a.len + b.len : Nat) : Int))), some (.fz (.int ((a.len : Nat) : Int))), some (.fz (.int ((0 : Nat) : Int)))], yC rfl rfl (zB (z2 (zO (yB (vK rfl (wJ (by simpa using hl')))) rfl (xL (c := ((a.len + b.len : Nat) : Int)) (by simp only [List.length_map, hlen']; omega)))) ?_)⟩
  have hh : ∀ x y : Slot, rd (op2 zX (op2 zX (zG 0) (zG 1)) (zD (.int (0)))) [some (.fz (eR (Tr.two c a b))), some (.fz (.int ((a.len + b.len : Nat) : Int))), none, none] = some (.ok (.str (Str.ofString (if c then It.fn else .pr : It).nm))) := fun _ _ =>
    yB (zO (yB (zO rfl rfl (hCz hlast hl'))) rfl (q0z _))
  refine zB (zF ?_ rfl) ?_
  · induction c with
    | true => exact y3 (zV (hh (.ol []) (.ol [])) rfl (by show (eqI _ _).map not = _; rw [yG]; rfl))
    | false => exact yS (zV (hh (.ol []) (.ol [])) rfl (by show (eqI _ _).map not = _; rw [yG]; rfl)) (y3 (zV (hh (.ol []) (.ol [])) rfl (by show (eqI _ _).map not = _; rw [yG]; rfl)))
  refine zB (z2 rfl) (zB (z2 rfl) (zB (σ' := [some (.fz (eR (Tr.two c a b))), some (.fz (.int ((a.len + b.len : Nat) : Int))), some (.fz (.int ((a.len : Nat) : Int))), some (.fz (.int ((0 : Nat) : Int)))]) ?_ (zR (yH (frz2 ?_ ?_)))))
  · show wM kY q8 ((((a.len + b.len : Nat) : Int)).toNat + 1) _ = _
    have e : (((a.len + b.len : Nat) : Int)).toNat + 1 = (a.len + 1) + b.len := by omega
    rw [e]
    have h1 := j1 hl' (.fz (.int ((a.len + b.len : Nat) : Int))) b a.enc [if c then .fn else .pr] 0 (a.len + 1) (xMz c a b)
    rw [yN] at h1
    exact h1.trans (kS zYq)
  · have h := xAz (e := zG 0) (lo := none) (hi := some (zG 2)) (l := (Tr.two c a b).enc.map eI) (a := none) (b := some ((a.len : Nat) : Int)) (σ := [some (.fz (eR (Tr.two c a b))), some (.fz (.int ((a.len + b.len : Nat) : Int))), some (.fz (.int ((a.len : Nat) : Int))), some (.fz (.int ((0 : Nat) : Int)))]) rfl rfl (uRz rfl (by simp only [lim] at *; omega)) (by simpa using hl')
    rw [cut_eT] at h
    refine h.trans ?_
    have hc := wRz (n := (Tr.two c a b).enc.length) (k := a.len) (by omega)
    simp only [Option.elim, hc]
    rw [xMz]
    simp [eR, eT, ← yN]
  · have h := xAz (e := zG 0) (lo := some (zG 2)) (hi := some (zG 1)) (l := (Tr.two c a b).enc.map eI) (a := some ((a.len : Nat) : Int)) (b := some ((a.len + b.len : Nat) : Int)) (σ := [some (.fz (eR (Tr.two c a b))), some (.fz (.int ((a.len + b.len : Nat) : Int))), some (.fz (.int ((a.len : Nat) : Int))), some (.fz (.int ((0 : Nat) : Int)))]) rfl (uRz rfl (by simp only [lim] at *; omega)) (uRz rfl (by simp only [lim] at *; omega)) (by simpa using hl')
    rw [cut_eT] at h
    refine h.trans ?_
    have hc := wRz (n := (Tr.two c a b).enc.length) (k := a.len) (by omega)
    have hc2 := wRz (n := (Tr.two c a b).enc.length) (k := a.len + b.len) (by omega)
    simp only [Option.elim, hc, hc2]
    rw [xMz]
    simp [eR, eT, ← yN]
noncomputable abbrev Sb := List (Nat × Tr)
noncomputable def vZ (s : Sb) : List Int := s.map fun p => (p.1 : Int)
noncomputable def qF (s : Sb) : List PyData := s.map fun p => eR p.2
noncomputable def eS (s : Sb) : PyData := dictD (vZ s) (qF s)
noncomputable def sS (own : Bool) (s : Sb) : Slot := if own then .od (vZ s) (qF s) else .fz (eS s)
theorem vHz (k : Nat) : ∀ s : Sb, vD (k : Int) (((vZ s).map PyData.int).zip (qF s)) = (s.lookup k).map eR
  | [] => rfl
  | (j, t) :: r => by
    show (if (j : Int) = (k : Int) then some (eR t) else vD (k : Int) (((vZ r).map PyData.int).zip (qF r))) = _
    rw [vHz k r, List.lookup_cons]
    by_cases h : k = j
    · subst h; simp
    · rw [if_neg (by omega), show (k == j) = false from by simpa using h]
theorem in_eS (k : Nat) (s : Sb) : inI (.int (k : Int)) (eS s) = some (s.lookup k).isSome := by
  show some (vD (k : Int) (((vZ s).map PyData.int).zip (qF s))).isSome = _
  rw [vHz]; simp
theorem item_eS (k : Nat) (s : Sb) {t : Tr} (h : s.lookup k = some t) : zX (eS s) (.int (k : Int)) = some (eR t) := by
  show vD (k : Int) (((vZ s).map PyData.int).zip (qF s)) = _
  rw [vHz, h]; rfl
noncomputable def Tr.once (s : Sb) : Tr → Tr
  | .int => .int
  | .bool => .bool
  | .var k => (s.lookup k).getD (.var k)
  | .fn a b => .fn (a.once s) (b.once s)
  | .pr a b => .pr (a.once s) (b.once s)
theorem rd_sS {own : Bool} {s : Sb} {a : Option Slot} {r : List (Option Slot)} : rd (zG 1) (a :: some (sS own s) :: r) = some (.ok (eS s)) := by cases own <;> rfl
theorem yUz (s : Sb) : ∀ t : Tr, t.len ≤ (t.once s).len
  | .int => Nat.le_refl _
  | .bool => Nat.le_refl _
  | .var k => kI _
  | .fn a b => by have := yUz s a; have := yUz s b; simp only [Tr.once, Tr.len]; omega
  | .pr a b => by have := yUz s a; have := yUz s b; simp only [Tr.once, Tr.len]; omega
theorem cat_ok {e₁ e₂ : EX} {x y : List PyData} {σ : Sta} (h1 : rd e₁ σ = some (.ok (.list x))) (h2 : rd e₂ σ = some (.ok (.list y))) (hl : x.length + y.length ≤ lim) : catF e₁ e₂ σ = some (.ok (x ++ y)) := by
  unfold catF; rw [h1]; show bnd (rd e₂ σ) _ = _; rw [h2]; show (if _ then _ else _) = _; rw [if_pos hl]
theorem xR {f : FX} {i : Nat} {l : List PyData} {σ : Sta} (h : f σ = some (.ok l)) : kPz i f σ = some (.ok (.next, σ.set i (some (.ol l)))) := by unfold kPz; rw [h]; rfl
theorem vAz {own : Bool} {s : Sb} {d₀ : PyData} : ∀ (t : Tr) (out : List PyData) (o : Option Slot), out.length + (t.once s).len ≤ lim →
    ∃ o', ∀ r, vL (zRz 3) kK (t.enc.map eI ++ r) [some (.fz d₀), some (sS own s), some (.ol out), o] = vL (zRz 3) kK r [some (.fz d₀), some (sS own s), some (.ol (out ++ (t.once s).enc.map eI)), o']
  | .int, out, o, hl => ⟨_, fun r => yL rfl (zB (zF (y3 (by with_unfolding_all rfl)) (zB (xQ rfl rfl (by simp only [Tr.once, Tr.len] at hl; omega)) rfl)) rfl) rfl⟩
  | .bool, out, o, hl => ⟨_, fun r => yL rfl (zB (zF (y3 (by with_unfolding_all rfl)) (zB (xQ rfl rfl (by simp only [Tr.once, Tr.len] at hl; omega)) rfl)) rfl) rfl⟩
  | .var v, out, o, hl => by
    cases hv : s.lookup v with
    | none =>
      refine ⟨some (.fz (eI (.var v))), fun r => yL rfl (zB (zF (yS (by with_unfolding_all rfl) (y3 (zV rfl rd_sS ((in_eS v s).trans (by rw [hv]; rfl))))) (zB (xQ rfl rfl (by simp only [Tr.once, hv, Option.getD_none, Tr.len] at hl; omega)) rfl)) rfl) ?_⟩
      simp only [Tr.once, hv, Option.getD_none]; rfl
    | some u =>
      refine ⟨some (.fz (eI (.var v))), fun r => yL rfl (zB (zW (yS (by with_unfolding_all rfl) (yS (zV rfl rd_sS ((in_eS v s).trans (by rw [hv]; rfl))) rfl)) (zB (xR (cat_ok rfl (yB (zO rd_sS rfl (item_eS v s hv))) (by simp only [Tr.once, hv, Option.getD_some] at hl; simp [yN]; omega))) rfl)) rfl) ?_⟩
      simp only [Tr.once, hv, Option.getD_some]; rfl
  | .fn a b, out, o, hl => by
    simp only [Tr.once, Tr.len] at hl
    obtain ⟨o1, h1⟩ := vAz (own := own) (s := s) (d₀ := d₀) a out o (by omega)
    obtain ⟨o2, h2⟩ := vAz (own := own) (s := s) (d₀ := d₀) b (out ++ (a.once s).enc.map eI) o1 (by simp [yN]; omega)
    refine ⟨some (.fz (eI .fn)), fun r => ?_⟩
    simp only [Tr.enc, Tr.once, List.map_append, List.append_assoc]
    rw [h1, h2]
    refine yL rfl (zB (zF (y3 (by with_unfolding_all rfl)) (zB (xQ rfl rfl (by simp [yN]; omega)) rfl)) rfl) ?_
    simp only [List.append_assoc]; rfl
  | .pr a b, out, o, hl => by
    simp only [Tr.once, Tr.len] at hl
    obtain ⟨o1, h1⟩ := vAz (own := own) (s := s) (d₀ := d₀) a out o (by omega)
    obtain ⟨o2, h2⟩ := vAz (own := own) (s := s) (d₀ := d₀) b (out ++ (a.once s).enc.map eI) o1 (by simp [yN]; omega)
    refine ⟨some (.fz (eI .pr)), fun r => ?_⟩
    simp only [Tr.enc, Tr.once, List.map_append, List.append_assoc]
    rw [h1, h2]
    refine yL rfl (zB (zF (y3 (by with_unfolding_all rfl)) (zB (xQ rfl rfl (by simp [yN]; omega)) rfl)) rfl) ?_
    simp only [List.append_assoc]; rfl
mutual
theorem yMz : ∀ d : PyData, Spec.same d d = true
  | .none => by simp [Spec.same]
  | .bool _ => by simp [Spec.same]
  | .int _ => by simp [Spec.same]
  | .str _ => by simp [Spec.same]
  | .list l => by simp only [Spec.same]; exact qE l
  | .tuple l => by simp only [Spec.same]; exact qE l
  | .dict l => by simp only [Spec.same]; exact zUz l
theorem qE : ∀ l : List PyData, Spec.sameAll l l = true
  | [] => by simp [Spec.sameAll]
  | d :: r => by simp [Spec.sameAll, yMz d, qE r]
theorem zUz : ∀ l : List (PyData × PyData), Spec.samePairs l l = true
  | [] => by simp [Spec.samePairs]
  | (a, b) :: r => by simp [Spec.samePairs, yMz a, yMz b, zUz r]
end
theorem kD : ∀ sl : Slot, yKz sl sl = true
  | .fz d => yMz d
  | .ol l => qE l
  | .od ks ds => by simp [yKz, qE]
theorem x_once {own : Bool} {s : Sb} (t : Tr) (hl : (t.once s).len ≤ lim) : ∃ o3, uA [.fz (eR t), sS own s] = some (.ok (eR (t.once s), [some (.fz (eR t)), some (sS own s), some (.fz (eR (t.once s))), o3])) := by
  have hp : ySz (uJ [1]) 0 [.fz (eR t), sS own s] = true := by cases own <;> rfl
  obtain ⟨o3, h⟩ := vAz (own := own) (s := s) (d₀ := eR t) t [] none (by simpa using hl)
  have h := h []
  rw [List.append_nil, List.nil_append] at h
  exact ⟨o3, yC rfl hp (zB (xR rfl) (zB h (zR rfl)))⟩
noncomputable def Tr.appN (s : Sb) : Nat → Tr → Tr
  | 0, t => t
  | n + 1, t => if t.once s = t then t else (t.once s).appN s n
noncomputable def Tr.app (s : Sb) (t : Tr) : Tr := t.appN s (s.length + 1)
theorem xEz (s : Sb) : ∀ (n : Nat) (t : Tr), t.len ≤ (t.appN s n).len
  | 0, t => Nat.le_refl _
  | n + 1, t => by
    unfold Tr.appN
    split
    · exact Nat.le_refl _
    · exact Nat.le_trans (yUz s t) (xEz s n _)
theorem kHz {own : Bool} {s : Sb} {t : Tr} {d₀ : PyData} {o3 o4 : Option Slot} (hl : (t.once s).len ≤ lim) :
    yQ uA [.loc 2, .loc 1] [some (.fz d₀), some (sS own s), some (.fz (eR t)), o3, o4] = some (.ok (.pv (eR (t.once s)))) := by
  obtain ⟨o, h⟩ := x_once (own := own) (s := s) t hl
  induction own with
  | true =>
    unfold yQ
    show bnd (uA [.fz (eR t), sS true s]) _ = _
    rw [h]
    show (if xZ _ _ _ = true then _ else _) = _
    rw [if_pos]
    simp [xZ, sS, kD]
  | false =>
    unfold yQ
    show bnd (uA [.fz (eR t), sS false s]) _ = _
    rw [h]
    rfl
theorem zLq {own : Bool} {s : Sb} {d₀ : PyData} : ∀ (l : List PyData) (t : Tr) (o3 o4 : Option Slot), (t.appN s l.length).len ≤ lim → (∀ n, l.length = n + 1 → (t.once s).len ≤ lim) →
    (∃ o3' o4', vL (zRz 3) y1z l [some (.fz d₀), some (sS own s), some (.fz (eR t)), o3, o4] = some (.ok (.next, [some (.fz d₀), some (sS own s), some (.fz (eR (t.appN s l.length))), o3', o4']))) ∨
    (∃ o2' o3' o4', vL (zRz 3) y1z l [some (.fz d₀), some (sS own s), some (.fz (eR t)), o3, o4] = some (.ok (.ret (eR (t.appN s l.length)), [some (.fz d₀), some (sS own s), o2', o3', o4'])))
  | [], t, o3, o4, _, _ => .inl ⟨o3, o4, rfl⟩
  | d :: r, t, o3, o4, hl, h1 => by
    have h1 := h1 r.length rfl
    by_cases hf : t.once s = t
    · refine .inr ⟨some (.fz (eR t)), some (.fz d), some (.fz (eR (t.once s))), ?_⟩
      have e : t.appN s (d :: r).length = t.once s := by simp only [List.length_cons, Tr.appN, if_pos hf]; exact hf.symm
      rw [e]
      exact for_ret rfl (zB (z2 (kHz h1)) (zR (zW (zV rfl rfl ((eq_eR _ _).trans (by simp [hf]))) (zR (yH rfl)))))
    · have e : t.appN s (d :: r).length = (t.once s).appN s r.length := by simp only [List.length_cons, Tr.appN, if_neg hf]
      rw [e] at hl ⊢
      have h2 : ∀ n, r.length = n + 1 → ((t.once s).once s).len ≤ lim := fun n hn => by
        rw [hn] at hl
        unfold Tr.appN at hl
        split at hl
        · rename_i q; rw [q]; exact hl
        · exact Nat.le_trans (xEz s n _) hl
      have step : vL (zRz 3) y1z (d :: r) [some (.fz d₀), some (sS own s), some (.fz (eR t)), o3, o4] = vL (zRz 3) y1z r [some (.fz d₀), some (sS own s), some (.fz (eR (t.once s))), some (.fz d), some (.fz (eR (t.once s)))] :=
        yL rfl (zB (z2 (kHz h1)) (zB (zF (zV rfl rfl ((eq_eR _ _).trans (by simp [hf]))) rfl) (zB (z2 rfl) rfl))) rfl
      rw [step]
      exact zLq r (t.once s) _ _ hl h2
theorem kvs_len (s : Sb) : (((vZ s).map PyData.int).zip (qF s)).length = s.length := by simp [vZ, qF]
theorem len_eS {s : Sb} (h : s.length ≤ lim) : vM (eS s) = some (.int (s.length : Nat)) := by
  show (if (((vZ s).map PyData.int).zip (qF s)).length ≤ lim then some (PyData.int ((((vZ s).map PyData.int).zip (qF s)).length : Nat)) else none) = _
  rw [kvs_len, if_pos h]
theorem z6z {st : PyData → Sta → Option Sta} {e : EX} {b : SX} {σ : Sta} {n : Nat} (h : rd e σ = some (.ok (.int (n : Nat)))) (hn : n ≤ lim) : forR st e b σ = vL st b ((List.range n).map fun i => PyData.int ((i : Nat) : Int)) σ := by
  unfold forR; rw [h]; show (if _ then _ else _) = _; rw [if_pos ⟨by omega, by omega⟩]; simp
theorem q6z (l : List PyData) : cutL l none none = l := by simp [cutL]
theorem x_apply {own : Bool} {s : Sb} (t : Tr) (hs : s.length < lim) (hl : (t.app s).len ≤ lim) : ∃ o2 o3 o4, jK [.fz (eR t), sS own s] = some (.ok (eR (t.app s), [some (.fz (eR t)), some (sS own s), o2, o3, o4])) := by
  have hp : ySz (uJ [1]) 0 [.fz (eR t), sS own s] = true := by cases own <;> rfl
  have hlt : t.len ≤ lim := Nat.le_trans (xEz s _ t) hl
  have h1 : yX 2 (z7z (zG 0) none none) [some (.fz (eR t)), some (sS own s), none, none, none] = some (.ok (.next, [some (.fz (eR t)), some (sS own s), some (.fz (eR t)), none, none])) := by
    have := xAz (e := zG 0) (lo := none) (hi := none) (l := t.enc.map eI) (a := none) (b := none) (σ := [some (.fz (eR t)), some (sS own s), none, none, none]) rfl rfl rfl (by simpa [yN] using hlt)
    rw [q6z] at this
    exact z2 this
  have hr : rd (op2 xK (op1 vM (zG 1)) (zD (.int (1)))) [some (.fz (eR t)), some (sS own s), some (.fz (eR t)), none, none] = some (.ok (.int ((s.length + 1 : Nat) : Int))) :=
    yB (zO (yB (vK rd_sS (len_eS (by omega)))) rfl (yM (by omega)))
  have hll : ((List.range (s.length + 1)).map fun i => PyData.int ((i : Nat) : Int)).length = s.length + 1 := by simp
  have go := zLq (own := own) (s := s) (d₀ := eR t) ((List.range (s.length + 1)).map fun i => PyData.int ((i : Nat) : Int)) t none none (by rw [hll]; exact hl) (fun n hn => by
    have hl' := hl
    unfold Tr.app Tr.appN at hl'
    split at hl'
    · rename_i q; rw [q]; exact hl'
    · exact Nat.le_trans (xEz s _ _) hl')
  rw [hll] at go
  rcases go with ⟨o3, o4, h⟩ | ⟨o2, o3, o4, h⟩
  · exact ⟨_, o3, o4, yC rfl hp (zB h1 (zB ((z6z hr (by omega)).trans h) (zR (yH rfl))))⟩
  · exact ⟨o2, o3, o4, yC rfl hp (zB h1 (zR ((z6z hr (by omega)).trans h)))⟩
noncomputable def Tr.has (v : Nat) : Tr → Bool
  | .int => false
  | .bool => false
  | .var k => k == v
  | .fn a b => a.has v || b.has v
  | .pr a b => a.has v || b.has v
noncomputable def Tr.sub : Tr → Nat → Tr → Tr
  | .int, _, _ => .int
  | .bool, _, _ => .bool
  | .var j, k, y => if j = k then y else .var j
  | .fn a b, k, y => .fn (a.sub k y) (b.sub k y)
  | .pr a b, k, y => .pr (a.sub k y) (b.sub k y)
structure Good (s : Sb) (rk : Nat → Nat) : Prop where
  low : ∀ k u, s.lookup k = some u → ∀ v, u.has v = true → rk v < rk k
  free : ∀ k, s.lookup k = none → rk k = 0
  bound : ∀ k u, s.lookup k = some u → 1 ≤ rk k
  top : ∀ k, rk k ≤ s.length
noncomputable def Tr.iter (s : Sb) : Nat → Tr → Tr
  | 0, t => t
  | n + 1, t => (t.once s).iter s n
theorem wOz {s : Sb} {t : Tr} (h : t.once s = t) : ∀ n, t.iter s n = t
  | 0 => rfl
  | n + 1 => by rw [Tr.iter, h, wOz h n]
theorem xFz (s : Sb) : ∀ (n : Nat) (t : Tr), t.appN s n = t.iter s n
  | 0, t => rfl
  | n + 1, t => by
    unfold Tr.appN Tr.iter
    split
    · rename_i h; rw [h, wOz h]
    · exact xFz s n _
theorem zJz {s : Sb} {v : Nat} : ∀ t : Tr, (t.once s).has v = true → ∃ j, t.has j = true ∧ ((s.lookup j = none ∧ v = j) ∨ ∃ u, s.lookup j = some u ∧ u.has v = true)
  | .int, h => by cases h
  | .bool, h => by cases h
  | .var j, h => by
    refine ⟨j, by simp [Tr.has], ?_⟩
    cases e : s.lookup j with
    | none => simp [Tr.once, e, Tr.has] at h; exact .inl ⟨rfl, h.symm⟩
    | some u => simp [Tr.once, e] at h; exact .inr ⟨u, rfl, h⟩
  | .fn a b, h => by
    simp only [Tr.once, Tr.has, Bool.or_eq_true] at h
    rcases h with h | h
    · obtain ⟨j, h1, h2⟩ := zJz a h; exact ⟨j, by simp [Tr.has, h1], h2⟩
    · obtain ⟨j, h1, h2⟩ := zJz b h; exact ⟨j, by simp [Tr.has, h1], h2⟩
  | .pr a b, h => by
    simp only [Tr.once, Tr.has, Bool.or_eq_true] at h
    rcases h with h | h
    · obtain ⟨j, h1, h2⟩ := zJz a h; exact ⟨j, by simp [Tr.has, h1], h2⟩
    · obtain ⟨j, h1, h2⟩ := zJz b h; exact ⟨j, by simp [Tr.has, h1], h2⟩
theorem j2 {s : Sb} : ∀ t : Tr, (∀ v, t.has v = true → s.lookup v = none) → t.once s = t
  | .int, _ => rfl
  | .bool, _ => rfl
  | .var j, h => by simp [Tr.once, h j (by simp [Tr.has])]
  | .fn a b, h => by simp only [Tr.once]; rw [j2 a fun v hv => h v (by simp [Tr.has, hv]), j2 b fun v hv => h v (by simp [Tr.has, hv])]
  | .pr a b, h => by simp only [Tr.once]; rw [j2 a fun v hv => h v (by simp [Tr.has, hv]), j2 b fun v hv => h v (by simp [Tr.has, hv])]
theorem j3z {s : Sb} {rk : Nat → Nat} (G : Good s rk) : ∀ (n : Nat) (t : Tr), (∀ v, t.has v = true → rk v ≤ n) → ∀ v, (t.iter s n).has v = true → s.lookup v = none
  | 0, t, h, v, hv => by
    cases e : s.lookup v with
    | none => rfl
    | some u => have := G.bound v u e; have := h v hv; omega
  | n + 1, t, h, v, hv => j3z G n (t.once s) (fun w hw => by
      obtain ⟨j, h1, h2 | ⟨u, h2, h3⟩⟩ := zJz t hw
      · rw [h2.2, G.free j h2.1]; omega
      · have := G.low j u h2 w h3; have := h j h1; omega) v hv
section
variable {s : Sb} {rk : Nat → Nat}
theorem wUz (G : Good s rk) (t : Tr) : ∀ v, (t.app s).has v = true → s.lookup v = none := by
  intro v hv
  unfold Tr.app at hv
  rw [xFz] at hv
  exact j3z G _ t (fun w _ => Nat.le_succ_of_le (G.top w)) v hv
theorem app_fix (G : Good s rk) (t : Tr) : (t.app s).once s = t.app s := j2 _ (wUz G t)
theorem yBq (G : Good s rk) (F : Tr → Tr) (hint : F .int = .int) (hbool : F .bool = .bool) (hfn : ∀ a b, F (.fn a b) = .fn (F a) (F b)) (hpr : ∀ a b, F (.pr a b) = .pr (F a) (F b))
    (hfree : ∀ j, s.lookup j = none → F (.var j) = .var j) (hb : ∀ j u, s.lookup j = some u → F (.var j) = F u) (t : Tr) : t.app s = F t := by
  have h1 : ∀ t : Tr, F (t.once s) = F t := by
    intro t
    induction t with
    | int => rfl
    | bool => rfl
    | var j =>
      cases e : s.lookup j with
      | none => simp [Tr.once, e]
      | some u => simp [Tr.once, e]; exact (hb j u e).symm
    | fn a b iha ihb => simp only [Tr.once, hfn, iha, ihb]
    | pr a b iha ihb => simp only [Tr.once, hpr, iha, ihb]
  have h2 : ∀ (n : Nat) (t : Tr), F (Tr.iter s n t) = F t := by
    intro n
    induction n with
    | zero => intro t; rfl
    | succ n ih => intro t; rw [Tr.iter, ih, h1]
  have h3 : ∀ t : Tr, (∀ v, t.has v = true → s.lookup v = none) → F t = t := by
    intro t
    induction t with
    | int => intro _; exact hint
    | bool => intro _; exact hbool
    | var j => intro h; exact hfree j (h j (by simp [Tr.has]))
    | fn a b iha ihb => intro h; rw [hfn, iha fun v hv => h v (by simp [Tr.has, hv]), ihb fun v hv => h v (by simp [Tr.has, hv])]
    | pr a b iha ihb => intro h; rw [hpr, iha fun v hv => h v (by simp [Tr.has, hv]), ihb fun v hv => h v (by simp [Tr.has, hv])]
  have h4 := h3 (t.app s) (wUz G t)
  rw [← h4]
  unfold Tr.app
  rw [xFz, h2]
theorem y2z (s : Sb) : ∀ (n : Nat), Tr.iter s n .int = .int ∧ Tr.iter s n .bool = .bool ∧ (∀ a b, Tr.iter s n (.fn a b) = .fn (a.iter s n) (b.iter s n)) ∧ (∀ a b, Tr.iter s n (.pr a b) = .pr (a.iter s n) (b.iter s n))
  | 0 => ⟨rfl, rfl, fun _ _ => rfl, fun _ _ => rfl⟩
  | n + 1 => by
    obtain ⟨h1, h2, h3, h4⟩ := y2z s n
    exact ⟨h1, h2, fun a b => by simp only [Tr.iter, Tr.once, h3], fun a b => by simp only [Tr.iter, Tr.once, h4]⟩
theorem qU (t : Tr) : t.app s = t.iter s (s.length + 1) := xFz s _ t
theorem xD : Tr.app s .int = .int := by rw [qU]; exact (y2z s _).1
theorem vW : Tr.app s .bool = .bool := by rw [qU]; exact (y2z s _).2.1
theorem vP (a b : Tr) : Tr.app s (.fn a b) = .fn (a.app s) (b.app s) := by simp only [qU]; exact (y2z s _).2.2.1 a b
theorem uW (a b : Tr) : Tr.app s (.pr a b) = .pr (a.app s) (b.app s) := by simp only [qU]; exact (y2z s _).2.2.2 a b
theorem vO {k : Nat} (h : s.lookup k = none) : Tr.app s (.var k) = .var k := by rw [qU]; exact wOz (by simp [Tr.once, h]) _
theorem j2z (s : Sb) : ∀ (n : Nat) (t : Tr), (t.once s).iter s n = (t.iter s n).once s
  | 0, t => rfl
  | n + 1, t => by rw [Tr.iter, j2z s n, Tr.iter]
theorem app_once (G : Good s rk) (t : Tr) : (t.once s).app s = t.app s := by rw [qU, j2z, ← qU, app_fix G]
theorem app_var (G : Good s rk) {k : Nat} {u : Tr} (h : s.lookup k = some u) : Tr.app s (.var k) = u.app s := by rw [← app_once G (.var k)]; simp [Tr.once, h]
theorem z9z {t : Tr} (h : ∀ v, t.has v = true → s.lookup v = none) : t.app s = t := by rw [qU]; exact wOz (j2 t h) _
theorem kC {k : Nat} {y : Tr} : ∀ t : Tr, t.has k = false → t.sub k y = t
  | .int, _ => rfl
  | .bool, _ => rfl
  | .var j, h => by simp only [Tr.has, beq_eq_false_iff_ne] at h; simp [Tr.sub, h]
  | .fn a b, h => by simp only [Tr.has, Bool.or_eq_false_iff] at h; simp only [Tr.sub]; rw [kC a h.1, kC b h.2]
  | .pr a b, h => by simp only [Tr.has, Bool.or_eq_false_iff] at h; simp only [Tr.sub]; rw [kC a h.1, kC b h.2]
theorem xH {k j : Nat} {y : Tr} : (s ++ [(k, y)]).lookup j = (s.lookup j).or (if j = k then some y else none) := by
  rw [List.lookup_append]
  congr 1
  by_cases h : j = k
  · subst h; simp [List.lookup]
  · simp [List.lookup, h, show (j == k) = false from by simpa using h]
theorem h7z (G : Good s rk) {k : Nat} {y : Tr} (hk : s.lookup k = none) (hy : ∀ v, y.has v = true → s.lookup v = none) (ho : y.has k = false) : ∃ rk', Good (s ++ [(k, y)]) rk' := by
  refine ⟨fun v => if v = k then 1 else if (s.lookup v).isSome then rk v + 1 else 0, fun j u hj v hv => ?_, fun j hj => ?_, fun j u hj => ?_, fun j => ?_⟩
  · rw [xH] at hj
    cases e : s.lookup j with
    | some u' =>
      rw [e] at hj
      obtain rfl : u' = u := Option.some.inj hj
      have hjk : j ≠ k := fun q => by rw [q, hk] at e; cases e
      have h1 := G.low j u' e v hv
      have h2 := G.bound j u' e
      have h3 : (if j = k then 1 else if (some u').isSome = true then rk j + 1 else 0) = rk j + 1 := by rw [if_neg hjk]; rfl
      show (if v = k then 1 else if (s.lookup v).isSome = true then rk v + 1 else 0) < _
      rw [h3]
      split
      · omega
      · split <;> omega
    | none =>
      rw [e] at hj
      simp only [Option.none_or] at hj
      split at hj
      · rename_i q; subst q; cases hj
        have hvk : v ≠ j := fun q => by rw [q, ho] at hv; cases hv
        simp [hvk, hy v hv]
      · cases hj
  · rw [xH] at hj
    cases e : s.lookup j with
    | some u' => rw [e] at hj; cases hj
    | none =>
      rw [e] at hj
      simp only [Option.none_or] at hj
      split at hj
      · cases hj
      · rename_i q; simp [q, e]
  · rw [xH] at hj
    cases e : s.lookup j with
    | some u' =>
      have hjk : j ≠ k := fun q => by rw [q, hk] at e; cases e
      simp [hjk, e]
    | none =>
      rw [e] at hj
      simp only [Option.none_or] at hj
      split at hj
      · rename_i q; simp [q]
      · cases hj
  · have := G.top j
    simp only [List.length_append, List.length_cons, List.length_nil]
    split
    · omega
    · split <;> omega
theorem app_put (G : Good s rk) {k : Nat} {y : Tr} (hk : s.lookup k = none) (hy : ∀ v, y.has v = true → s.lookup v = none) (ho : y.has k = false) (t : Tr) : t.app (s ++ [(k, y)]) = (t.app s).sub k y := by
  obtain ⟨rk', G'⟩ := h7z G hk hy ho
  refine yBq G' (fun t => (t.app s).sub k y) (by simp only [xD]; rfl) (by simp only [vW]; rfl) (fun a b => by simp only [vP]; rfl) (fun a b => by simp only [uW]; rfl) (fun j hj => ?_) (fun j u hj => ?_) t
  · rw [xH] at hj
    cases e : s.lookup j with
    | some u' => rw [e] at hj; cases hj
    | none =>
      rw [e] at hj
      simp only [Option.none_or] at hj
      split at hj
      · cases hj
      · rename_i q; simp only [vO e, Tr.sub, if_neg q]
  · rw [xH] at hj
    cases e : s.lookup j with
    | some u' =>
      rw [e] at hj
      obtain rfl : u' = u := Option.some.inj hj
      simp only [app_var G e]
    | none =>
      rw [e] at hj
      simp only [Option.none_or] at hj
      split at hj
      · rename_i q; subst q; cases hj
        show (Tr.app s (.var j)).sub j y = (y.app s).sub j y
        rw [vO e, z9z hy, kC y ho]
        simp [Tr.sub]
      · cases hj
end
theorem wZ : ∀ (t u : Ty) (met : List Int), u0 (t ++ u) met = u0 u (u0 t met)
  | [], u, met => rfl
  | .var k :: t, u, met => by
    simp only [List.cons_append, u0]
    split
    · exact wZ t u met
    · exact wZ t u _
  | .int :: t, u, met => wZ t u met
  | .bool :: t, u, met => wZ t u met
  | .fn :: t, u, met => wZ t u met
  | .pr :: t, u, met => wZ t u met
theorem k0 (k : Int) : ∀ (t : Tr) (met : List Int), k ∈ u0 t.enc met ↔ k ∈ met ∨ ∃ n : Nat, k = n ∧ t.has n = true
  | .int, met => by simp [Tr.enc, u0, Tr.has]
  | .bool, met => by simp [Tr.enc, u0, Tr.has]
  | .var j, met => by
    simp only [Tr.enc, u0, Tr.has, beq_iff_eq]
    split
    · rename_i h
      constructor
      · exact .inl
      · rintro (h1 | ⟨n, rfl, rfl⟩)
        · exact h1
        · exact h
    · simp only [List.mem_append, List.mem_singleton]
      constructor
      · rintro (h1 | h1)
        · exact .inl h1
        · exact .inr ⟨j, h1, rfl⟩
      · rintro (h1 | ⟨n, rfl, rfl⟩)
        · exact .inl h1
        · exact .inr rfl
  | .fn a b, met => by
    simp only [Tr.enc, wZ]
    show k ∈ u0 [.fn] _ ↔ _
    simp only [u0]
    rw [k0 k b, k0 k a]
    simp only [Tr.has, Bool.or_eq_true]
    constructor
    · rintro ((h | ⟨n, h1, h2⟩) | ⟨n, h1, h2⟩)
      · exact .inl h
      · exact .inr ⟨n, h1, .inl h2⟩
      · exact .inr ⟨n, h1, .inr h2⟩
    · rintro (h | ⟨n, h1, h2 | h2⟩)
      · exact .inl (.inl h)
      · exact .inl (.inr ⟨n, h1, h2⟩)
      · exact .inr ⟨n, h1, h2⟩
  | .pr a b, met => by
    simp only [Tr.enc, wZ]
    show k ∈ u0 [.pr] _ ↔ _
    simp only [u0]
    rw [k0 k b, k0 k a]
    simp only [Tr.has, Bool.or_eq_true]
    constructor
    · rintro ((h | ⟨n, h1, h2⟩) | ⟨n, h1, h2⟩)
      · exact .inl h
      · exact .inr ⟨n, h1, .inl h2⟩
      · exact .inr ⟨n, h1, .inr h2⟩
    · rintro (h | ⟨n, h1, h2 | h2⟩)
      · exact .inl (.inl h)
      · exact .inl (.inr ⟨n, h1, h2⟩)
      · exact .inr ⟨n, h1, h2⟩
theorem uC : ∀ (t : Ty) (met : List Int), met.Nodup → (u0 t met).Nodup
  | [], met, h => h
  | .var k :: t, met, h => by
    unfold u0
    split
    · exact uC t met h
    · rename_i hk
      exact uC t _ (List.nodup_append.mpr ⟨h, by simp, by simp; intro a ha e; subst e; exact hk ha⟩)
  | .int :: t, met, h => uC t met h
  | .bool :: t, met, h => uC t met h
  | .fn :: t, met, h => uC t met h
  | .pr :: t, met, h => uC t met h
theorem j4z (k : Int) : ∀ l : List Int, (insI k l).Perm (k :: l)
  | [] => .refl _
  | x :: r => by
    unfold insI
    split
    · exact .refl _
    · exact ((j4z k r).cons x).trans (.swap k x r)
theorem yJz : ∀ l : List Int, (srtI l).Perm l
  | [] => .refl _
  | x :: r => (j4z x (srtI r)).trans ((yJz r).cons x)
noncomputable def Tr.vars (t : Tr) : List Int := srtI (u0 t.enc [])
theorem kA (k : Int) (t : Tr) : k ∈ t.vars ↔ ∃ n : Nat, k = n ∧ t.has n = true := by
  unfold Tr.vars
  rw [(yJz _).mem_iff, k0]; simp
theorem zSq (t : Tr) : t.vars.Nodup := (yJz _).nodup_iff.mpr (uC _ _ .nil)
theorem vars_has (n : Nat) (t : Tr) : t.vars.contains (n : Int) = t.has n := by
  rw [Bool.eq_iff_iff, List.contains_iff_mem, kA]
  constructor
  · rintro ⟨m, h1, h2⟩
    obtain rfl : m = n := by omega
    exact h2
  · intro h; exact ⟨n, rfl, h⟩
theorem wIz (t : Tr) : t.vars.length ≤ t.len := by
  unfold Tr.vars
  rw [(yJz _).length_eq]
  have := qI t.enc []
  rw [yN] at this
  simpa using this
theorem x_vars (t : Tr) (hl : t.len < 64) : ∃ τ, qS [.fz (eR t)] = some (.ok (.list (t.vars.map .int), some (.fz (eR t)) :: τ)) := by
  obtain ⟨o, h⟩ := z1z (eR t) t.enc [] none (by simp only [List.length_nil, yN, lim]; omega)
  have hm := qI t.enc []
  rw [yN] at hm
  have hs : qNz (.list ((u0 t.enc []).map PyData.int)) = some (.list (t.vars.map PyData.int)) := by
    show (if ((u0 t.enc []).map PyData.int).length < 64 then _ else _) = _
    rw [if_pos (by simp only [List.length_map, List.length_nil] at *; omega), vU]; rfl
  exact ⟨_, yC rfl rfl (zB (xR rfl) (zB h (zR (yH (vK rfl hs)))))⟩
theorem qZz (n : Nat) (t : Tr) : inI (.int (n : Int)) (.list (t.vars.map PyData.int)) = some (t.has n) := by rw [in_ints, vars_has]
noncomputable def eP (p : Tr × Tr) : PyData := .tuple [eR p.1, eR p.2]
noncomputable def eW (ws : List (Tr × Tr)) : List PyData := (ws.map eP).reverse
theorem vMz (p : Tr × Tr) (ws : List (Tr × Tr)) : eW (p :: ws) = eW ws ++ [eP p] := by simp [eW]
theorem kCz (ws : List (Tr × Tr)) : (eW ws).length = ws.length := by simp [eW]
theorem zNz {own : Bool} {s : Sb} {t : Tr} {σ : Sta} {e : EX} {i : Nat} (he : e σ = some (.ok (.pv (eR t)))) (hi : σ[i]? = some (some (sS own s))) (hs : s.length < lim) (hl : (t.app s).len ≤ lim) :
    yQ jK [.ex e, .loc i] σ = some (.ok (.pv (eR (t.app s)))) := by
  obtain ⟨o2, o3, o4, h⟩ := x_apply (own := own) (s := s) t hs hl
  have ha : vE [.ex e, .loc i] σ = some (.ok [.fz (eR t), sS own s]) := by
    unfold vE; rw [yPz he]; show bnd (vE [.loc i] σ) _ = _
    unfold vE; rw [hi]; rfl
  unfold yQ
  rw [ha]
  show bnd (jK [.fz (eR t), sS own s]) _ = _
  rw [h]
  show (if xZ _ _ _ = true then _ else _) = _
  rw [if_pos]
  simp only [xZ, hi]
  induction own with
  | true => simp [sS, kD]
  | false => simp [sS]
theorem k7 {t : Tr} {σ : Sta} {i : Nat} (hi : σ[i]? = some (some (.fz (eR t)))) (hl : t.len < 64) : yQ qS [.loc i] σ = some (.ok (.pv (.list (t.vars.map .int)))) := by
  obtain ⟨τ, h⟩ := x_vars t hl
  unfold yQ
  have ha : vE [.loc i] σ = some (.ok [.fz (eR t)]) := by unfold vE; rw [hi]; rfl
  rw [ha]
  show bnd (qS [.fz (eR t)]) _ = _
  rw [h]
  show (if xZ _ _ _ = true then _ else _) = _
  rw [if_pos]
  simp [xZ, hi]
theorem u5z {c : Bool} {a b : Tr} {σ : Sta} {i : Nat} (hi : σ[i]? = some (some (.fz (eR (Tr.two c a b))))) (hl : (Tr.two c a b).len ≤ lim) : yQ jW [.loc i] σ = some (.ok (.pv (.list [eR a, eR b]))) := by
  obtain ⟨τ, h⟩ := x_parts c a b hl
  unfold yQ
  have ha : vE [.loc i] σ = some (.ok [.fz (eR (Tr.two c a b))]) := by unfold vE; rw [hi]; rfl
  rw [ha]
  show bnd (jW [.fz (eR (Tr.two c a b))]) _ = _
  rw [h]
  show (if xZ _ _ _ = true then _ else _) = _
  rw [if_pos]
  simp [xZ, hi]
theorem zCq {e : EX} {i : Nat} {l : List PyData} {k : Nat} {σ : Sta} (hs : σ[i]? = some (some (.ol l))) (h : rd e σ = some (.ok (.int (k : Nat)))) (hk : k < l.length) (hl : l.length ≤ lim) : z7q i e σ = some (.ok (.next, σ.set i (some (.ol (l.eraseIdx k))))) := by
  unfold z7q; rw [hs]; show bnd (rd e σ) _ = _; rw [h]; show (if _ then _ else _) = _; rw [if_pos ⟨by omega, by omega, hl⟩]; simp
theorem jPz {e v : EX} {i : Nat} {ks : List Int} {ds : List PyData} {j : Int} {d : PyData} {σ : Sta} (hv : v σ = some (.ok (.pv d))) (hs : σ[i]? = some (some (.od ks ds))) (h : rd e σ = some (.ok (.int j))) (hl : ks.length ≤ lim) :
    setC i e v σ = some (.ok (.next, σ.set i (some (.od (vX j d ks ds).1 (vX j d ks ds).2)))) := by
  unfold setC; rw [yPz hv]; show (match σ[i]? with | some (some (.od ks ds)) => _ | _ => _) = _; rw [hs]; show bnd (rd e σ) _ = _; rw [h]; show (if _ then _ else _) = _; rw [if_pos hl]
theorem le_int {a b : Int} (h : a ≤ b) : leI (.int a) (.int b) = some true := by show some (decide (a ≤ b)) = _; rw [decide_eq_true h]
theorem le_int' {a b : Int} (h : ¬ a ≤ b) : leI (.int a) (.int b) = some false := by show some (decide (a ≤ b)) = _; rw [decide_eq_false h]
theorem qPz {i : Nat} {l : List PyData} {σ : Sta} (h : σ[i]? = some (some (.ol l))) : rd (zG i) σ = some (.ok (.list l)) := by
  have h1 : zG i σ = some (.ok (.own i)) := by unfold zG; rw [h]
  have h2 : kEz σ (.own i) = some (.list l) := by
    show (match σ[i]? with | some (some sl) => if sl.isOwn = true then some sl.view else none | _ => none) = _
    rw [h]; rfl
  unfold rd; rw [h1]; show okP (kEz σ (.own i)) = _; rw [h2]; rfl
theorem un_pre {a b d : PyData} {F : Int} {s : Sb} {x y : Tr} {ws : List (Tr × Tr)} {o5 o7 o8 o9 o10 o11 o12 o13 : Option Slot} {g : SX} {R : Out (Fl × Sta)} (hF : 0 < F) (hs : s.length < lim) (hw : ws.length < lim) (hx : (x.app s).len ≤ lim) (hy : (y.app s).len ≤ lim)
    (k : g [some (.fz a), some (.fz b), some (.fz d), some (.fz (.int (F - 1))), some (sS true s), o5, some (.ol (eW ws)), some (.fz (eP (x, y))), some (.fz (eR (x.app s))), some (.fz (eR (y.app s))), o10, o11, o12, o13] = R) :
    (zU (ifC (yR leI (zG 3) (zD (.int (0)))) (zU (yOz vY) yA) yA)
    (zU (yX 3 (op2 uK (zG 3) (zD (.int (1)))))
    (zU (yX 7 (op2 zX (zG 6) (op2 uK (op1 vM (zG 6)) (zD (.int (1))))))
    (zU (z7q 6 (op2 uK (op1 vM (zG 6)) (zD (.int (1)))))
    (zU (yX 8 (yQ jK [.ex (op2 zX (zG 7) (zD (.int (0)))), .loc 4]))
    (zU (yX 9 (yQ jK [.ex (op2 zX (zG 7) (zD (.int (1)))), .loc 4])) g))))))
      [some (.fz a), some (.fz b), some (.fz d), some (.fz (.int F)), some (sS true s), o5, some (.ol (eW ((x, y) :: ws))), o7, o8, o9, o10, o11, o12, o13] = R := by
  have hl : (eW ((x, y) :: ws)).length = ws.length + 1 := by rw [kCz]; rfl
  have hi : ∀ (σ : Sta), σ[6]? = some (some (.ol (eW ((x, y) :: ws)))) → rd (op2 uK (op1 vM (zG 6)) (zD (.int (1)))) σ = some (.ok (.int (ws.length : Nat))) := fun σ hσ => by
    refine yB (zO (yB (vK (a := .list (eW ((x, y) :: ws))) ?_ (wJ (by rw [hl]; omega)))) rfl (xL (by rw [hl]; omega)))
    exact qPz hσ
  refine zB (zF (zV rfl rfl (le_int' (by omega))) rfl) (zB (z2 (zO rfl rfl (xL rfl))) ?_)
  refine zB (z2 (zO rfl (hi _ rfl) (v0 (d := eP (x, y)) (by rw [vMz]; simp [kCz]) (by rw [hl]; omega)))) ?_
  refine zB (zCq rfl (hi _ rfl) (by rw [hl]; omega) (by rw [hl]; omega)) ?_
  have he : (eW ((x, y) :: ws)).eraseIdx ws.length = eW ws := by
    rw [vMz, ← kCz ws, List.eraseIdx_append_of_length_le (Nat.le_refl _)]; simp
  refine zB (z2 (zNz (own := true) rfl rfl hs hx)) (zB (z2 (zNz (own := true) rfl rfl hs hy)) ?_)
  refine Eq.trans ?_ k
  show g _ = g _
  congr 1
  show [_, _, _, _, _, _, some (Slot.ol ((eW ((x, y) :: ws)).eraseIdx ws.length)), _, _, _, _, _, _, _] = _
  rw [he]
noncomputable def Tr.root : Tr → It
  | .int => .int
  | .bool => .bool
  | .var k => .var k
  | .fn _ _ => .fn
  | .pr _ _ => .pr
theorem root_at (t : Tr) : t.enc[t.len - 1]? = some t.root := by
  induction t with
  | int => rfl
  | bool => rfl
  | var k => rfl
  | fn a b => exact kJz (A := a.enc ++ b.enc) (post := []) rfl (by simp [yN, Tr.len])
  | pr a b => exact kJz (A := a.enc ++ b.enc) (post := []) rfl (by simp [yN, Tr.len])
theorem eq_eI (i j : It) : eqI (eI i) (eI j) = some (decide (i = j)) := by
  unfold eqI
  have h1 := yLz i; have h2 := yLz j
  have s1 : shaped (eI i) = true := by simp only [shaped, h1.1, h1.2]; rfl
  have s2 : shaped (eI j) = true := by simp only [shaped, h2.1, h2.2]; rfl
  rw [s1, s2]; show some (PyData.eqv _ _) = _; rw [eqv_eI]
theorem last_ok {t : Tr} {i : Nat} {σ : Sta} (hi : σ[i]? = some (some (.fz (eR t)))) (hl : t.len ≤ lim) : op2 zX (zG i) (op2 uK (op1 vM (zG i)) (zD (.int (1)))) σ = some (.ok (.pv (eI t.root))) := by
  have hn : rd (zG i) σ = some (.ok (eR t)) := by
    have h1 : zG i σ = some (.ok (.pv (eR t))) := by unfold zG; rw [hi]
    exact yB h1
  have hp := kI t
  refine zO hn (yB (zO (yB (vK hn (wJ (by simpa [yN] using hl)))) rfl (xL (c := ((t.len - 1 : Nat) : Int)) (by simp only [List.length_map, yN]; omega)))) (hCz (root_at t) (by rw [yN]; exact hl))
section
variable {a b d : PyData} {F : Int} {s : Sb} {x y : Tr} {ws : List (Tr × Tr)} {o5 o7 o8 o9 o10 o11 o12 o13 : Option Slot}
noncomputable abbrev uSt (a b d : PyData) (F : Int) (s : Sb) (o5 : Option Slot) (ws : List (Tr × Tr)) (o7 o8 o9 o10 o11 o12 o13 : Option Slot) : Sta :=
  [some (.fz a), some (.fz b), some (.fz d), some (.fz (.int F)), some (sS true s), o5, some (.ol (eW ws)), o7, o8, o9, o10, o11, o12, o13]
theorem z3z (hF : F ≤ 0) : wC (uSt a b d F s o5 ws o7 o8 o9 o10 o11 o12 o13) = some (.error vY) := yK (zW (zV rfl rfl (le_int hF)) rfl)
inductive UnG (r : Out (Fl × Sta)) (fl : Fl) (a b d : PyData) (F : Int) (s : Sb) (o5 : Option Slot) (ws : List (Tr × Tr)) : Prop
  | mk (o7 o8 o9 o10 o11 o12 o13 : Option Slot) (h : r = some (.ok (fl, uSt a b d F s o5 ws o7 o8 o9 o10 o11 o12 o13))) : UnG r fl a b d F s o5 ws
theorem un_same (hF : 0 < F) (hs : s.length < lim) (hw : ws.length < lim) (hx : (x.app s).len ≤ lim) (hy : (y.app s).len ≤ lim) (h : x.app s = y.app s) :
    UnG (wC (uSt a b d F s o5 ((x, y) :: ws) o7 o8 o9 o10 o11 o12 o13)) .cont a b d (F - 1) s o5 ws :=
  ⟨_, _, _, _, _, _, _, un_pre hF hs hw hx hy (seq_cont (zW (zV rfl rfl ((eq_eR _ _).trans (by rw [h]; simp))) rfl))⟩
theorem qN {i : Nat} {it : It} {σ : Sta} (hi : σ[i]? = some (some (.fz (eI it)))) : rd (op2 zX (zG i) (zD (.int (0)))) σ = some (.ok (.str (Str.ofString it.nm))) := by
  have h1 : zG i σ = some (.ok (.pv (eI it))) := by unfold zG; rw [hi]
  exact yB (zO (yB h1) rfl (q0z it))
theorem uSz {i : Nat} {k : Int} {σ : Sta} (hi : σ[i]? = some (some (.fz (eI (.var k))))) : rd (op2 zX (zG i) (zD (.int (1)))) σ = some (.ok (.int k)) := by
  have h1 : zG i σ = some (.ok (.pv (eI (.var k)))) := by unfold zG; rw [hi]
  exact yB (zO (yB h1) rfl rfl)
theorem xUz {t : Tr} (h : ∀ k, t ≠ .var k) : (t.root.nm == "var") = false := by
  induction t with
  | var k => exact absurd rfl (h k)
  | _ => rfl
theorem w7z {k : Nat} {y : Tr} : ∀ {s : Sb}, s.lookup k = none → vX (k : Int) (eR y) (vZ s) (qF s) = (vZ (s ++ [(k, y)]), qF (s ++ [(k, y)]))
  | [], _ => rfl
  | (j, t) :: r, h => by
    rw [List.lookup_cons] at h
    split at h
    · cases h
    · rename_i q
      have hjk : ¬ ((j : Int) = (k : Int)) := fun e => by
        have : k = j := by omega
        subst this; simp at q
      have ih := w7z (k := k) (y := y) (s := r) h
      show vX (k : Int) (eR y) ((j : Int) :: vZ r) (eR t :: qF r) = _
      unfold vX
      rw [if_neg hjk, ih]; rfl
theorem uHz {g : SX} {R : Out (Fl × Sta)} (hF : 0 < F) (hs : s.length < lim) (hw : ws.length < lim) (hx : (x.app s).len ≤ lim) (hy : (y.app s).len ≤ lim) (h : x.app s ≠ y.app s)
    (k : g (uSt a b d (F - 1) s o5 ws (some (.fz (eP (x, y)))) (some (.fz (eR (x.app s)))) (some (.fz (eR (y.app s)))) (some (.fz (eI (x.app s).root))) (some (.fz (eI (y.app s).root))) o12 o13) = R) :
    (zU (ifC (yR leI (zG 3) (zD (.int (0)))) (zU (yOz vY) yA) yA)
    (zU (yX 3 (op2 uK (zG 3) (zD (.int (1)))))
    (zU (yX 7 (op2 zX (zG 6) (op2 uK (op1 vM (zG 6)) (zD (.int (1))))))
    (zU (z7q 6 (op2 uK (op1 vM (zG 6)) (zD (.int (1)))))
    (zU (yX 8 (yQ jK [.ex (op2 zX (zG 7) (zD (.int (0)))), .loc 4]))
    (zU (yX 9 (yQ jK [.ex (op2 zX (zG 7) (zD (.int (1)))), .loc 4]))
    (zU (ifC (yR eqI (zG 8) (zG 9)) (zU contC yA) yA)
    (zU (yX 10 (op2 zX (zG 8) (op2 uK (op1 vM (zG 8)) (zD (.int (1))))))
    (zU (yX 11 (op2 zX (zG 9) (op2 uK (op1 vM (zG 9)) (zD (.int (1)))))) g)))))))))
      (uSt a b d F s o5 ((x, y) :: ws) o7 o8 o9 o10 o11 o12 o13) = R := by
  refine un_pre hF hs hw hx hy (zB (zF (zV rfl rfl ((eq_eR _ _).trans (by simp [h]))) rfl) ?_)
  exact zB (z2 (last_ok rfl hx)) (zB (z2 (last_ok rfl hy)) k)
theorem un_bindL {kv : Nat} (hF : 0 < F) (hs : s.length < lim) (hw : ws.length < lim) (hy : (y.app s).len < 64) (hx : x.app s = .var kv) (h : x.app s ≠ y.app s) (ho : (y.app s).has kv = false) (hk : s.lookup kv = none) :
    UnG (wC (uSt a b d F s o5 ((x, y) :: ws) o7 o8 o9 o10 o11 o12 o13)) .next a b d (F - 1) (s ++ [(kv, y.app s)]) o5 ws := by
  have hr : (x.app s).root = .var kv := by rw [hx]; rfl
  refine ⟨some (.fz (eP (x, y))), some (.fz (eR (x.app s))), some (.fz (eR (y.app s))), some (.fz (eI (x.app s).root)), some (.fz (eI (y.app s).root)), o12, o13, uHz hF hs hw (by rw [hx]; simp [Tr.len, lim]) (by trivial) h (zB (zW (zV (qN (it := (x.app s).root) rfl) rfl ((yG _ _).trans (by rw [hr]; rfl))) ?_) rfl)⟩
  rw [hr]
  refine zB (zF (zV (uSz rfl) (yB (k7 (t := y.app s) rfl hy)) ((qZz kv _).trans (by rw [ho]))) rfl) (zB ?_ rfl)
  refine (jPz (ks := vZ s) (ds := qF s) (d := eR (y.app s)) rfl rfl (uSz rfl) (by simp [vZ]; omega)).trans ?_
  rw [w7z hk]
  rfl
theorem un_occL {kv : Nat} (hF : 0 < F) (hs : s.length < lim) (hw : ws.length < lim) (hy : (y.app s).len < 64) (hx : x.app s = .var kv) (h : x.app s ≠ y.app s) (ho : (y.app s).has kv = true) :
    wC (uSt a b d F s o5 ((x, y) :: ws) o7 o8 o9 o10 o11 o12 o13) = some (.error wE) := by
  have hr : (x.app s).root = .var kv := by rw [hx]; rfl
  refine uHz hF hs hw (by rw [hx]; simp [Tr.len, lim]) (by trivial) h (yK (zW (zV (qN (it := (x.app s).root) rfl) rfl ((yG _ _).trans (by rw [hr]; rfl))) ?_))
  rw [hr]
  exact yK (zW (zV (uSz rfl) (yB (k7 (t := y.app s) rfl hy)) ((qZz kv _).trans (by rw [ho]))) rfl)
theorem un_bindR {kv : Nat} (hF : 0 < F) (hs : s.length < lim) (hw : ws.length < lim) (hx : (x.app s).len < 64) (hn : ∀ k, x.app s ≠ .var k) (hy : y.app s = .var kv) (ho : (x.app s).has kv = false) (hk : s.lookup kv = none) :
    UnG (wC (uSt a b d F s o5 ((x, y) :: ws) o7 o8 o9 o10 o11 o12 o13)) .next a b d (F - 1) (s ++ [(kv, x.app s)]) o5 ws := by
  have hr : (y.app s).root = .var kv := by rw [hy]; rfl
  refine ⟨some (.fz (eP (x, y))), some (.fz (eR (x.app s))), some (.fz (eR (y.app s))), some (.fz (eI (x.app s).root)), some (.fz (eI (y.app s).root)), o12, o13, uHz hF hs hw (by trivial) (by rw [hy]; simp [Tr.len, lim]) (by rw [hy]; exact hn kv)
    (zB (zF (zV (qN (it := (x.app s).root) rfl) rfl ((yG _ _).trans (by rw [xUz hn]))) (zB (zW (zV (qN (it := (y.app s).root) rfl) rfl ((yG _ _).trans (by rw [hr]; rfl))) ?_) rfl)) rfl)⟩
  rw [hr]
  refine zB (zF (zV (uSz rfl) (yB (k7 (t := x.app s) rfl hx)) ((qZz kv _).trans (by rw [ho]))) rfl) (zB ?_ rfl)
  refine (jPz (ks := vZ s) (ds := qF s) (d := eR (x.app s)) rfl rfl (uSz rfl) (by simp [vZ]; omega)).trans ?_
  rw [w7z hk]
  rfl
theorem un_clash (hF : 0 < F) (hs : s.length < lim) (hw : ws.length < lim) (hx : (x.app s).len ≤ lim) (hy : (y.app s).len ≤ lim) (hn : ∀ k, x.app s ≠ .var k) (hm : ∀ k, y.app s ≠ .var k) (hd : (x.app s).root ≠ (y.app s).root) :
    wC (uSt a b d F s o5 ((x, y) :: ws) o7 o8 o9 o10 o11 o12 o13) = some (.error x9) := by
  refine uHz hF hs hw hx hy (fun e => hd (by rw [e])) (yK (zF (zV (qN (it := (x.app s).root) rfl) rfl ((yG _ _).trans (by rw [xUz hn]))) (yK (zF (zV (qN (it := (y.app s).root) rfl) rfl ((yG _ _).trans (by rw [xUz hm]))) (yK (zF (zV rfl rfl ((eq_eI _ _).trans (by simp [hd]))) rfl))))))
theorem vN {e₁ e₂ : EX} {p q : PyData} {σ : Sta} (h1 : e₁ σ = some (.ok (.pv p))) (h2 : e₂ σ = some (.ok (.pv q))) : y8 [e₁, e₂] σ = some (.ok (.pv (.tuple [p, q]))) := by
  unfold y8 pvs; rw [yPz h1]; show bnd (bnd (pvs [e₂] σ) _) _ = _; unfold pvs; rw [yPz h2]; rfl
theorem hOz (c : Bool) (p q : Tr) : (Tr.two c p q).root = if c then .fn else .pr := by cases c <;> rfl
theorem jHz (c : Bool) (p q : Tr) : ∀ k, Tr.two c p q ≠ .var k := by intro k; cases c <;> (intro e; cases e)
theorem un_split {c : Bool} {x0 x1 y0 y1 : Tr} (hF : 0 < F) (hs : s.length < lim) (hw : ws.length + 1 < lim) (hx : x.app s = Tr.two c x0 x1) (hy : y.app s = Tr.two c y0 y1) (hlx : (x.app s).len ≤ lim) (hly : (y.app s).len ≤ lim) (h : x.app s ≠ y.app s) :
    UnG (wC (uSt a b d F s o5 ((x, y) :: ws) o7 o8 o9 o10 o11 o12 o13)) .next a b d (F - 1) s o5 ((x0, y0) :: (x1, y1) :: ws) := by
  have hrx : (x.app s).root = if c then .fn else .pr := by rw [hx, hOz]
  have hry : (y.app s).root = if c then .fn else .pr := by rw [hy, hOz]
  refine ⟨some (.fz (eP (x, y))), some (.fz (eR (x.app s))), some (.fz (eR (y.app s))), some (.fz (eI (x.app s).root)), some (.fz (eI (y.app s).root)), some (.fz (.list [eR x0, eR x1])), some (.fz (.list [eR y0, eR y1])), uHz hF hs (by omega) hlx hly h
    (zB (zF (zV (qN (it := (x.app s).root) rfl) rfl ((yG _ _).trans (by rw [xUz (by rw [hx]; exact jHz c x0 x1)]))) (zB (zF (zV (qN (it := (y.app s).root) rfl) rfl ((yG _ _).trans (by rw [xUz (by rw [hy]; exact jHz c y0 y1)]))) (zB (zW (zV rfl rfl ((eq_eI _ _).trans (by rw [hrx, hry]; simp))) ?_) rfl)) rfl)) rfl)⟩
  refine zB (z2 (u5z (c := c) (a := x0) (b := x1) (by rw [← hx]; rfl) (by rw [← hx]; exact hlx))) (zB (z2 (u5z (c := c) (a := y0) (b := y1) (by rw [← hy]; rfl) (by rw [← hy]; exact hly))) ?_)
  refine zB (xQ (l := eW ws) rfl (vN (p := eR x1) (q := eR y1) rfl rfl) (by rw [kCz]; omega)) (zB (xQ (l := eW ws ++ [.tuple [eR x1, eR y1]]) rfl (vN (p := eR x0) (q := eR y0) rfl rfl) (by simp [kCz]; omega)) ?_)
  show some (Except.ok (Fl.next, [_, _, _, _, _, _, some (Slot.ol ((eW ws ++ [.tuple [eR x1, eR y1]]) ++ [.tuple [eR x0, eR y0]])), _, _, _, _, _, _, _])) = _
  unfold uSt
  rw [vMz, vMz]
  rfl
end
noncomputable def Lay (n : Nat) (d : PyData) : Prop := d.canLay0 = true ∧ d.depth ≤ n
theorem layAll {n : Nat} : ∀ {l : List PyData}, (∀ d ∈ l, Lay n d) → PyData.canLayAll0 l = true ∧ PyData.depthAll l ≤ n
  | [], _ => by simp [PyData.canLayAll0, PyData.depthAll]
  | d :: r, h => by
    have h1 := h d (by simp); have h2 := layAll (l := r) fun e he => h e (by simp [he])
    simp only [PyData.canLayAll0, PyData.depthAll, h1.1, h2.1, Bool.and_self, true_and]
    have := h1.2; have := h2.2
    omega
theorem vT {n : Nat} {l : List PyData} (h : ∀ d ∈ l, Lay n d) : Lay (n + 1) (.list l) := by
  have h := layAll h
  refine ⟨?_, ?_⟩
  · simp only [PyData.canLay0, h.1]
  · simp only [PyData.depth]; omega
theorem vC {n : Nat} {l : List PyData} (h : ∀ d ∈ l, Lay n d) : Lay (n + 1) (.tuple l) := by
  have h := layAll h
  refine ⟨?_, ?_⟩
  · simp only [PyData.canLay0, h.1]
  · simp only [PyData.depth]; omega
theorem Lay.up {n m : Nat} {d : PyData} (h : Lay n d) (hm : n ≤ m) : Lay m d := ⟨h.1, Nat.le_trans h.2 hm⟩
theorem uD (n : Nat) (i : Int) : Lay n (.int i) := ⟨rfl, by simp [PyData.depth]⟩
theorem kJ (n : Nat) (s : String) : Lay n (.str (Str.ofString s)) := ⟨by simp [PyData.canLay0, qKz], by simp [PyData.depth]⟩
theorem x7 (n : Nat) : Lay n .none := ⟨rfl, by simp [PyData.depth]⟩
theorem lay_eR (t : Tr) : Lay 2 (eR t) := by
  refine vT fun d hd => ?_
  obtain ⟨i, _, rfl⟩ := List.mem_map.mp hd
  have := yLz i
  exact ⟨this.1, by omega⟩
theorem uL {n : Nat} {d : PyData} (h : Lay n d) (hn : n ≤ 64) : shaped d = true := by
  have := h.2
  simp only [shaped, h.1, Bool.true_and, decide_eq_true_eq]; omega
theorem ne_nil {n : Nat} {l : List PyData} (h : Lay n (.list l)) (hn : n ≤ 64) : neI (.list l) (.list []) = some (!l.isEmpty) := by
  unfold neI eqI
  rw [uL h hn, uL (n := 1) (vT (n := 0) (by simp)) (by omega)]
  induction l with
  | nil => simp [PyData.eqv, PyData.eqvAll]
  | cons d r => simp [PyData.eqv, PyData.eqvAll]
theorem eq_nil {n : Nat} {l : List PyData} (h : Lay n (.list l)) (hn : n ≤ 64) : eqI (.list l) (.list []) = some l.isEmpty := by
  unfold eqI
  rw [uL h hn, uL (n := 1) (vT (n := 0) (by simp)) (by omega)]
  induction l with
  | nil => simp [PyData.eqv, PyData.eqvAll]
  | cons d r => simp [PyData.eqv, PyData.eqvAll]
section
variable {a b d : PyData} {F : Int} {s : Sb} {x y : Tr} {ws : List (Tr × Tr)} {o5 o7 o8 o9 o10 o11 o12 o13 : Option Slot}
theorem un_occR {kv : Nat} (hF : 0 < F) (hs : s.length < lim) (hw : ws.length < lim) (hx : (x.app s).len < 64) (hn : ∀ k, x.app s ≠ .var k) (hy : y.app s = .var kv) (ho : (x.app s).has kv = true) :
    wC (uSt a b d F s o5 ((x, y) :: ws) o7 o8 o9 o10 o11 o12 o13) = some (.error wE) := by
  have hr : (y.app s).root = .var kv := by rw [hy]; rfl
  refine uHz hF hs hw (by trivial) (by rw [hy]; simp [Tr.len, lim]) (by rw [hy]; exact hn kv)
    (yK (zF (zV (qN (it := (x.app s).root) rfl) rfl ((yG _ _).trans (by rw [xUz hn]))) (yK (zW (zV (qN (it := (y.app s).root) rfl) rfl ((yG _ _).trans (by rw [hr]; rfl))) ?_))))
  rw [hr]
  exact yK (zW (zV (uSz rfl) (yB (k7 (t := x.app s) rfl hx)) ((qZz kv _).trans (by rw [ho]))) rfl)
end
inductive Un : List (Tr × Tr) → Sb → Nat → Except Addr Sb → Prop
  | nil {s : Sb} : Un [] s 0 (.ok s)
  | same {x y : Tr} {ws : List (Tr × Tr)} {s : Sb} {n : Nat} {r : Except Addr Sb} : (x.app s).len < 64 → x.app s = y.app s → Un ws s n r → Un ((x, y) :: ws) s (n + 1) r
  | bindL {x y : Tr} {ws : List (Tr × Tr)} {s : Sb} {n : Nat} {r : Except Addr Sb} (k : Nat) : (y.app s).len < 64 → x.app s = .var k → (y.app s) ≠ .var k → (y.app s).has k = false → s.lookup k = none → Un ws (s ++ [(k, y.app s)]) n r → Un ((x, y) :: ws) s (n + 1) r
  | bindR {x y : Tr} {ws : List (Tr × Tr)} {s : Sb} {n : Nat} {r : Except Addr Sb} (k : Nat) : (x.app s).len < 64 → y.app s = .var k → (∀ j, x.app s ≠ .var j) → (x.app s).has k = false → s.lookup k = none → Un ws (s ++ [(k, x.app s)]) n r → Un ((x, y) :: ws) s (n + 1) r
  | split {x y : Tr} {ws : List (Tr × Tr)} {s : Sb} {n : Nat} {r : Except Addr Sb} (c : Bool) (x0 x1 y0 y1 : Tr) : (x.app s).len < 64 → (y.app s).len < 64 → x.app s = Tr.two c x0 x1 → y.app s = Tr.two c y0 y1 → x.app s ≠ y.app s → Un ((x0, y0) :: (x1, y1) :: ws) s n r → Un ((x, y) :: ws) s (n + 1) r
  | occL {x y : Tr} {ws : List (Tr × Tr)} {s : Sb} (k : Nat) : (y.app s).len < 64 → x.app s = .var k → y.app s ≠ .var k → (y.app s).has k = true → Un ((x, y) :: ws) s 1 (.error wE)
  | occR {x y : Tr} {ws : List (Tr × Tr)} {s : Sb} (k : Nat) : (x.app s).len < 64 → y.app s = .var k → (∀ j, x.app s ≠ .var j) → (x.app s).has k = true → Un ((x, y) :: ws) s 1 (.error wE)
  | clash {x y : Tr} {ws : List (Tr × Tr)} {s : Sb} : (x.app s).len < 64 → (y.app s).len < 64 → (∀ j, x.app s ≠ .var j) → (∀ j, y.app s ≠ .var j) → (x.app s).root ≠ (y.app s).root → Un ((x, y) :: ws) s 1 (.error x9)
noncomputable abbrev x1z : BX := yR neI (zG 6) (x8 (xX []))
theorem lay_eW (ws : List (Tr × Tr)) : Lay 4 (.list (eW ws)) := by
  refine vT fun d hd => ?_
  simp only [eW, List.mem_reverse, List.mem_map] at hd
  obtain ⟨p, _, rfl⟩ := hd
  refine vC fun e he => ?_
  simp only [List.mem_cons, List.not_mem_nil] at he
  rcases he with rfl | rfl | he
  · exact lay_eR _
  · exact lay_eR _
  · cases he
theorem qM {a b d : PyData} {F : Int} {s : Sb} {ws : List (Tr × Tr)} {o5 o7 o8 o9 o10 o11 o12 o13 : Option Slot} : x1z (uSt a b d F s o5 ws o7 o8 o9 o10 o11 o12 o13) = some (.ok (!ws.isEmpty)) := by
  refine zV rfl rfl ((ne_nil (lay_eW ws) (by omega)).trans ?_)
  induction ws with
  | nil => rfl
  | cons p r => rw [vMz]; simp
structure Ju where
  (o7 o8 o9 o10 o11 o12 o13 : Option Slot)
noncomputable abbrev unEnd (a b d : PyData) (F : Int) (o5 : Option Slot) (n : Nat) (N : Nat) (σ : Sta) (r : Except Addr Sb) : Prop :=
    ((n : Int) ≤ F → ∃ J : Ju, wM x1z wC N σ = match r with
      | .ok s' => some (.ok (.next, uSt a b d (F - n) s' o5 [] J.o7 J.o8 J.o9 J.o10 J.o11 J.o12 J.o13))
      | .error e => some (.error e)) ∧
    (F < n → 0 < n → wM x1z wC N σ = some (.error vY))
theorem qFz {a b d : PyData} {F : Int} {o5 : Option Slot} {n N : Nat} {σ σ' : Sta} {r : Except Addr Sb} (ht : x1z σ = some (.ok true)) (hb : wC σ = some (.ok (.next, σ')) ∨ wC σ = some (.ok (.cont, σ'))) (hF : 0 < F) (k : unEnd a b d (F - 1) o5 n N σ' r) : unEnd a b d F o5 (n + 1) (N + 1) σ r := by
  have e : wM x1z wC (N + 1) σ = wM x1z wC N σ' := by
    rcases hb with h | h
    · exact vH ht h rfl
    · exact zRq ht h rfl
  refine ⟨fun h => ?_, fun h _ => ?_⟩
  · obtain ⟨J, hk⟩ := k.1 (by omega)
    refine ⟨J, ?_⟩
    rw [e, hk]
    induction r with
    | ok s' => simp only []; rw [show F - 1 - (n : Int) = F - ((n + 1 : Nat) : Int) from by omega]
    | error e => rfl
  · rw [e]; exact k.2 (by omega) (by omega)
theorem kWz {a b d : PyData} {F : Int} {o5 : Option Slot} {N : Nat} {σ : Sta} {x : Addr} (ht : x1z σ = some (.ok true)) (hb : 0 < F → wC σ = some (.error x)) (hf : F ≤ 0 → wC σ = some (.error vY)) : unEnd a b d F o5 1 (N + 1) σ (.error x) :=
  ⟨fun h => ⟨⟨none, none, none, none, none, none, none⟩, qD ht (hb (by omega))⟩, fun h _ => qD ht (hf (by omega))⟩
theorem qGz {a b d : PyData} {F : Int} {o5 : Option Slot} {n N : Nat} {σ : Sta} {r : Except Addr Sb} (ht : x1z σ = some (.ok true)) (hF : F ≤ 0) (hf : wC σ = some (.error vY)) : unEnd a b d F o5 (n + 1) (N + 1) σ r :=
  ⟨fun h => by omega, fun _ _ => qD ht hf⟩
theorem un_loop {a b d : PyData} {o5 : Option Slot} {ws : List (Tr × Tr)} {s : Sb} {n : Nat} {r : Except Addr Sb} (h : Un ws s n r) : ∀ (F : Int) (N : Nat) (o7 o8 o9 o10 o11 o12 o13 : Option Slot), F.toNat + 1 ≤ N → s.length + n < lim → ws.length + n < lim →
    unEnd a b d F o5 n N (uSt a b d F s o5 ws o7 o8 o9 o10 o11 o12 o13) r := by
  induction h with
  | nil =>
    intro F N o7 o8 o9 o10 o11 o12 o13 hN _ _
    obtain ⟨N, rfl⟩ : ∃ M, N = M + 1 := ⟨N - 1, by omega⟩
    refine ⟨fun hF => ⟨⟨o7, o8, o9, o10, o11, o12, o13⟩, ?_⟩, fun hF h0 => by omega⟩
    rw [kS qM]; simp
  | @same x y ws s n r h1 h2 _ ih =>
    intro F N o7 o8 o9 o10 o11 o12 o13 hN hs hw
    obtain ⟨N, rfl⟩ : ∃ M, N = M + 1 := ⟨N - 1, by omega⟩
    by_cases hF : 0 < F
    · simp only [List.length_cons] at hw
      obtain ⟨p1, p2, p3, p4, p5, p6, p7, h⟩ := un_same (ws := ws) (a := a) (b := b) (d := d) (o5 := o5) (o7 := o7) (o8 := o8) (o9 := o9) (o10 := o10) (o11 := o11) (o12 := o12) (o13 := o13) hF (by omega) (by omega) (by trivial) (by rw [← h2]; trivial) h2
      exact qFz qM (.inr h) hF (ih (F - 1) N _ _ _ _ _ _ _ (by omega) (by omega) (by omega))
    · exact qGz qM (by omega) (z3z (by omega))
  | @bindL x y ws s n r k h1 h2 h3 h4 h5 _ ih =>
    intro F N o7 o8 o9 o10 o11 o12 o13 hN hs hw
    obtain ⟨N, rfl⟩ : ∃ M, N = M + 1 := ⟨N - 1, by omega⟩
    by_cases hF : 0 < F
    · simp only [List.length_cons] at hw
      obtain ⟨p1, p2, p3, p4, p5, p6, p7, h⟩ := un_bindL (ws := ws) (a := a) (b := b) (d := d) (o5 := o5) (o7 := o7) (o8 := o8) (o9 := o9) (o10 := o10) (o11 := o11) (o12 := o12) (o13 := o13) hF (by omega) (by omega) h1 h2 (by rw [h2]; exact h3.symm) h4 h5
      exact qFz qM (.inl h) hF (ih (F - 1) N _ _ _ _ _ _ _ (by omega) (by simp only [List.length_append, List.length_cons, List.length_nil]; omega) (by omega))
    · exact qGz qM (by omega) (z3z (by omega))
  | @bindR x y ws s n r k h1 h2 h3 h4 h5 _ ih =>
    intro F N o7 o8 o9 o10 o11 o12 o13 hN hs hw
    obtain ⟨N, rfl⟩ : ∃ M, N = M + 1 := ⟨N - 1, by omega⟩
    by_cases hF : 0 < F
    · simp only [List.length_cons] at hw
      obtain ⟨p1, p2, p3, p4, p5, p6, p7, h⟩ := un_bindR (ws := ws) (a := a) (b := b) (d := d) (o5 := o5) (o7 := o7) (o8 := o8) (o9 := o9) (o10 := o10) (o11 := o11) (o12 := o12) (o13 := o13) hF (by omega) (by omega) h1 h3 h2 h4 h5
      exact qFz qM (.inl h) hF (ih (F - 1) N _ _ _ _ _ _ _ (by omega) (by simp only [List.length_append, List.length_cons, List.length_nil]; omega) (by omega))
    · exact qGz qM (by omega) (z3z (by omega))
  | @split x y ws s n r c x0 x1 y0 y1 h1 h2 h3 h4 h5 _ ih =>
    intro F N o7 o8 o9 o10 o11 o12 o13 hN hs hw
    obtain ⟨N, rfl⟩ : ∃ M, N = M + 1 := ⟨N - 1, by omega⟩
    by_cases hF : 0 < F
    · simp only [List.length_cons] at hw
      obtain ⟨p1, p2, p3, p4, p5, p6, p7, h⟩ := un_split (ws := ws) (a := a) (b := b) (d := d) (o5 := o5) (o7 := o7) (o8 := o8) (o9 := o9) (o10 := o10) (o11 := o11) (o12 := o12) (o13 := o13) hF (by omega) (by omega) h3 h4 (by trivial) (by trivial) h5
      exact qFz qM (.inl h) hF (ih (F - 1) N _ _ _ _ _ _ _ (by omega) (by omega) (by simp only [List.length_cons]; omega))
    · exact qGz qM (by omega) (z3z (by omega))
  | occL k h1 h2 h3 h4 =>
    intro F N o7 o8 o9 o10 o11 o12 o13 hN hs hw
    obtain ⟨N, rfl⟩ : ∃ M, N = M + 1 := ⟨N - 1, by omega⟩
    simp only [List.length_cons] at hw
    exact kWz qM (fun hF => un_occL hF (by omega) (by omega) h1 h2 (by rw [h2]; exact h3.symm) h4) (fun hF => z3z hF)
  | occR k h1 h2 h3 h4 =>
    intro F N o7 o8 o9 o10 o11 o12 o13 hN hs hw
    obtain ⟨N, rfl⟩ : ∃ M, N = M + 1 := ⟨N - 1, by omega⟩
    simp only [List.length_cons] at hw
    exact kWz qM (fun hF => un_occR hF (by omega) (by omega) h1 h3 h2 h4) (fun hF => z3z hF)
  | clash h1 h2 h3 h4 h5 =>
    intro F N o7 o8 o9 o10 o11 o12 o13 hN hs hw
    obtain ⟨N, rfl⟩ : ∃ M, N = M + 1 := ⟨N - 1, by omega⟩
    simp only [List.length_cons] at hw
    exact kWz qM (fun hF => un_clash hF (by omega) (by omega) (by trivial) (by trivial) h3 h4 h5) (fun hF => z3z hF)
noncomputable def uT (s : Sb) : Prop := (s.map (·.1)).Nodup
theorem zZq {s1 s2 : Sb} {k : Nat} {t : Tr} (h : uT (s1 ++ (k, t) :: s2)) : s1.lookup k = none ∧ (s1 ++ (k, t) :: s2).lookup k = some t := by
  have h1 : s1.lookup k = none := by
    rw [List.lookup_eq_none_iff]
    intro p hp
    simp only [uT, List.map_append, List.map_cons, List.nodup_append] at h
    have := h.2.2 p.1 (List.mem_map_of_mem hp) k (by simp)
    simpa using fun e => this e.symm
  refine ⟨h1, ?_⟩
  rw [List.lookup_append, h1]
  simp [List.lookup]
theorem hHz {i j : Nat} {s : Sb} (hij : i ≠ j) (hi2 : i ≠ 2) (hj2 : j ≠ 2) (hn : uT s) (hs : s.length ≤ lim) (hl : ∀ p ∈ s, p.2.len ≤ lim) : ∀ (s2 s1 : Sb) (σ : Sta), s = s1 ++ s2 → i < σ.length → j < σ.length → σ[2]? = some (some (.fz (eS s))) → σ[i]? = some (some (.od (vZ s1) (qF s1))) →
    ∃ o, vL (zRz j) (zU (setC i (zG j) (z7z (op2 zX (zG 2) (zG j)) none none)) yA) ((vZ s2).map PyData.int) σ = some (.ok (.next, (σ.set j o).set i (some (.od (vZ s) (qF s)))))
  | [], s1, σ, e, hi, hj, h2, h3 => by
    refine ⟨σ[j], ?_⟩
    rw [List.append_nil] at e
    subst e
    have h4 : (σ.set j σ[j]).set i (some (.od (vZ s) (qF s))) = σ := by
      rw [List.set_getElem_self]
      have : σ[i] = some (.od (vZ s) (qF s)) := by rw [List.getElem?_eq_getElem hi] at h3; exact Option.some.inj h3
      rw [← this, List.set_getElem_self]
    rw [h4]
    rfl
  | (k, t) :: r, s1, σ, e, hi, hj, h2, h3 => by
    subst e
    obtain ⟨hk1, hk2⟩ := zZq hn
    obtain ⟨o, h⟩ := hHz hij hi2 hj2 hn hs hl r (s1 ++ [(k, t)]) ((σ.set j (some (.fz (.int k)))).set i (some (.od (vZ (s1 ++ [(k, t)])) (qF (s1 ++ [(k, t)]))))) (by simp) (by simpa using hi) (by simpa using hj) (by rw [List.getElem?_set_ne hi2, List.getElem?_set_ne hj2]; exact h2) (by rw [List.getElem?_set_self (by simpa using hi)])
    refine ⟨o, yL (σ₁ := σ.set j (some (.fz (.int k)))) rfl (zB ?_ rfl) (h.trans ?_)⟩
    · have hnj : ∀ τ : Sta, τ[j]? = some (some (.fz (.int (k : Int)))) → rd (zG j) τ = some (.ok (.int k)) := fun τ hτ => by unfold rd zG; rw [hτ]; rfl
      have hj' : (σ.set j (some (.fz (.int (k : Int)))))[j]? = some (some (.fz (.int (k : Int)))) := by rw [List.getElem?_set_self hj]
      have h2' : rd (zG 2) (σ.set j (some (.fz (.int (k : Int))))) = some (.ok (eS (s1 ++ (k, t) :: r))) := by
        unfold rd zG; rw [List.getElem?_set_ne hj2, h2]; rfl
      have hc := xAz (e := op2 zX (zG 2) (zG j)) (lo := none) (hi := none) (l := t.enc.map eI) (a := none) (b := none) (yB (zO h2' (hnj _ hj') (item_eS k _ hk2))) rfl rfl (by simpa [yN] using hl (k, t) (by simp))
      rw [q6z] at hc
      refine (jPz (ks := vZ s1) (ds := qF s1) hc (by rw [List.getElem?_set_ne (Ne.symm hij)]; exact h3) (hnj _ hj') (by simp [vZ] at hs ⊢; omega)).trans ?_
      have := w7z (k := k) (y := t) hk1
      unfold eR eT at this
      rw [this]
    · congr 3
      apply List.ext_getElem?
      intro m
      by_cases h1 : i = m
      · subst h1; rw [List.getElem?_set_self (by simpa using hi), List.getElem?_set_self (by simpa using hi)]
      · rw [List.getElem?_set_ne h1, List.getElem?_set_ne h1]
        by_cases h2 : j = m
        · subst h2; rw [List.getElem?_set_self (by simpa using hj), List.getElem?_set_self (by simpa using hj)]
        · rw [List.getElem?_set_ne h2, List.getElem?_set_ne h2, List.getElem?_set_ne h1, List.getElem?_set_ne h2]
theorem h3z (s : Sb) : j1z (eS s) = some ((vZ s).map PyData.int) := by
  show some ((((vZ s).map PyData.int).zip (qF s)).map (·.1)) = _
  rw [List.map_fst_zip]
  simp [vZ, qF]
theorem xXz {st : PyData → Sta → Option Sta} {e : EX} {b : SX} {σ : Sta} {d : PyData} {l : List PyData} (h : e σ = some (.ok (.pv d))) (hd : j1z d = some l) : z4q st e b σ = vL st b l σ := by
  unfold z4q; rw [yPz h]; show (match j1z d with | some l => _ | none => _) = _; rw [hd]
theorem un_pos {ws : List (Tr × Tr)} {s : Sb} {n : Nat} {r : Except Addr Sb} (h : Un ws s n r) : ws ≠ [] → 0 < n := by
  induction h with
  | nil => intro h; exact absurd rfl h
  | _ => intro _; exact Nat.succ_pos _
noncomputable def v5z (s : Sb) : Prop := ∀ p ∈ s, p.2.len ≤ lim
theorem kQz {x y : Tr} {s : Sb} {n : Nat} {r : Except Addr Sb} (h : Un [(x, y)] s n r) (hd : uT s) (ht : v5z s) (hs : s.length + n < lim) (hn : n + 1 < lim) (F : Int) :
    ((n : Int) ≤ F → match r with
      | .ok s' => Gv (jV [.fz (eR x), .fz (eR y), .fz (eS s), .fz (.int F)]) (eS s') 4
      | .error e => jV [.fz (eR x), .fz (eR y), .fz (eS s), .fz (.int F)] = some (.error e)) ∧
    (F < n → jV [.fz (eR x), .fz (eR y), .fz (eS s), .fz (.int F)] = some (.error vY)) := by
  obtain ⟨o, hc⟩ := hHz (i := 4) (j := 5) (s := s) (by decide) (by decide) (by decide) hd (by omega) ht s [] [some (.fz (eR x)), some (.fz (eR y)), some (.fz (eS s)), some (.fz (.int F)), some (.od [] []), none, none, none, none, none, none, none, none, none] rfl (by simp) (by simp) rfl rfl
  have hc := (xXz (st := zRz 5) (e := zG 2) (b := h0z) (d := eS s) rfl (h3z s)).trans hc
  have hn0 : 0 < n := un_pos h (by simp)
  have hl := un_loop (a := eR x) (b := eR y) (d := eS s) (o5 := o) h F (F.toNat + 2) none none none none none none none (by omega) (by omega) (by simp only [List.length_cons, List.length_nil]; omega)
  refine ⟨fun hF => ?_, fun hF => ?_⟩
  · obtain ⟨J, hw⟩ := hl.1 hF
    induction r with
    | ok s' =>
      exact ⟨_, yC rfl rfl (zB rfl (zB hc (zB (xR rfl) (zB hw (zR rfl))))), Nat.le_of_ble_eq_true rfl⟩
    | error e =>
      exact x5 rfl rfl (zB rfl (zB hc (zB (xR rfl) (yK hw))))
  · exact x5 rfl rfl (zB rfl (zB hc (zB (xR rfl) (yK (hl.2 hF hn0)))))
theorem k8 {x : XF} {as : List Arg} {σ τ : Sta} {vs : List Slot} {d : PyData} (ha : vE as σ = some (.ok vs)) (hx : x vs = some (.ok (d, τ))) (hu : xZ as τ σ = true) : yQ x as σ = some (.ok (.pv d)) := by
  unfold yQ; rw [ha]; show bnd (x vs) _ = _; rw [hx]; show (if _ then _ else _) = _; rw [if_pos hu]
noncomputable def u1z (σ : Sta) : List Arg → Bool
  | [] => true
  | .ex _ :: r => u1z σ r
  | .loc i :: r => (match σ[i]? with
    | some (some (.fz _)) => true
    | _ => false) && u1z σ r
theorem zTq {σ : Sta} : ∀ (as : List Arg) (τ : Sta), u1z σ as = true → as.length ≤ τ.length → xZ as τ σ = true := by
  intro as
  induction as with
  | nil => intro τ _ _; rfl
  | cons a r ih =>
    intro τ hf hl
    induction τ with
    | nil => exact absurd hl (Nat.not_succ_le_zero _)
    | cons t τ =>
      have hl' := Nat.le_of_succ_le_succ hl
      induction a with
      | ex e => exact ih τ hf hl'
      | loc i =>
        have h2 := Bool.and_eq_true_iff.mp hf
        refine Bool.and_eq_true_iff.mpr ⟨?_, ih τ h2.2 hl'⟩
        have h3 := h2.1
        revert h3
        cases σ[i]? with
        | none => exact fun h => absurd h Bool.false_ne_true
        | some o => induction o with
          | none => exact fun h => absurd h Bool.false_ne_true
          | some sl => induction sl with
            | fz d => exact fun _ => rfl
            | ol l => exact fun h => absurd h Bool.false_ne_true
            | od ks ds => exact fun h => absurd h Bool.false_ne_true
theorem v3 {x : XF} {as : List Arg} {σ : Sta} {vs : List Slot} {d : PyData} {k : Nat} (ha : vE as σ = some (.ok vs)) (h : Gv (x vs) d k) (hk : as.length ≤ k) (hf : u1z σ as = true) : yQ x as σ = some (.ok (.pv d)) := by
  obtain ⟨τ, h, hl⟩ := h
  exact k8 ha h (zTq as τ hf (Nat.le_trans hk hl))
theorem xBz {x : XF} {as : List Arg} {σ : Sta} {vs : List Slot} {e : Addr} (ha : vE as σ = some (.ok vs)) (hx : x vs = some (.error e)) : yQ x as σ = some (.error e) := by
  unfold yQ; rw [ha]; show bnd (x vs) _ = _; rw [hx]; rfl
theorem y4 {e : EX} {r : List Arg} {σ : Sta} {d : PyData} {vs : List Slot} (h : e σ = some (.ok (.pv d))) (hr : vE r σ = some (.ok vs)) : vE (.ex e :: r) σ = some (.ok (.fz d :: vs)) := by
  unfold vE; rw [yPz h]; show bnd (vE r σ) _ = _; rw [hr]; rfl
theorem z9 {i : Nat} {r : List Arg} {σ : Sta} {sl : Slot} {vs : List Slot} (h : σ[i]? = some (some sl)) (hr : vE r σ = some (.ok vs)) : vE (.loc i :: r) σ = some (.ok (sl :: vs)) := by
  unfold vE; rw [h]; show bnd (vE r σ) _ = _; rw [hr]; rfl
theorem zN {e : EX} {r : List EX} {σ : Sta} {d : PyData} {ds : List PyData} (h : e σ = some (.ok (.pv d))) (hr : pvs r σ = some (.ok ds)) : pvs (e :: r) σ = some (.ok (d :: ds)) := by
  unfold pvs; rw [yPz h]; show bnd (pvs r σ) _ = _; rw [hr]; rfl
theorem y2 {es : List EX} {σ : Sta} {ds : List PyData} (h : pvs es σ = some (.ok ds)) : y8 es σ = some (.ok (.pv (.tuple ds))) := by unfold y8; rw [h]; rfl
theorem zYz {es : List EX} {σ : Sta} {ds : List PyData} (h : pvs es σ = some (.ok ds)) : x8 (xX es) σ = some (.ok (.pv (.list ds))) := by unfold x8 xX; rw [h]; rfl
theorem uQ {e : EX} {i : Nat} {σ : Sta} {x : Addr} (h : e σ = some (.error x)) : yX i e σ = some (.error x) := by unfold yX yCz; rw [h]; rfl
theorem xRz {e : EX} {σ : Sta} {x : Addr} (h : e σ = some (.error x)) : xY e σ = some (.error x) := by unfold xY yCz; rw [h]; rfl
theorem xNz {es : List EX} {σ : Sta} {x : Addr} (h : pvs es σ = some (.error x)) : y8 es σ = some (.error x) := by unfold y8; rw [h]; rfl
theorem zGz {e : EX} {r : List EX} {σ : Sta} {x : Addr} (h : e σ = some (.error x)) : pvs (e :: r) σ = some (.error x) := by unfold pvs yCz; rw [h]; rfl
theorem zFz {e : EX} {r : List EX} {σ : Sta} {d : PyData} {x : Addr} (h : e σ = some (.ok (.pv d))) (hr : pvs r σ = some (.error x)) : pvs (e :: r) σ = some (.error x) := by
  unfold pvs; rw [yPz h]; show bnd (pvs r σ) _ = _; rw [hr]; rfl
theorem yFz {e : EX} {is : List Nat} {σ : Sta} {ds : List PyData} (h : rd e σ = some (.ok (.tuple ds))) (hl : ds.length = is.length) : qEz is e σ = some (.ok (.next, w0z is ds σ)) := by
  unfold qEz; rw [h]; show (if _ then _ else _) = _; rw [if_pos hl]
theorem unp_err {e : EX} {is : List Nat} {σ : Sta} {x : Addr} (h : e σ = some (.error x)) : qEz is e σ = some (.error x) := by unfold qEz rd; rw [h]; rfl
theorem z8q {t : Tr} {σ : Sta} {e : EX} (he : e σ = some (.ok (.pv (eR t)))) (hl : t.len < 64) : yQ qS [.ex e] σ = some (.ok (.pv (.list (t.vars.map .int)))) := by
  obtain ⟨τ, h⟩ := x_vars t hl
  exact k8 (y4 he rfl) h rfl
noncomputable def xW : List It → List Int → List It
  | [], _ => []
  | .var k :: r, seen => if k ∈ seen then .var (seen.idxOf k) :: xW r seen else .var (seen.length) :: xW r (seen ++ [k])
  | i :: r, seen => i :: xW r seen
noncomputable def kW (n : Nat) : List PyData := (List.range n).map fun i => PyData.int ((i : Nat) : Int)
theorem vGz (k : Int) : ∀ (seen : List Int) (n : Nat) (l : List PyData), (∀ i, i < seen.length → l[i]? = some (.int ((n + i : Nat) : Int))) → vD k ((seen.map PyData.int).zip l) = if k ∈ seen then some (.int ((n + seen.idxOf k : Nat) : Int)) else none
  | [], n, l, _ => by simp [vD]
  | j :: r, n, l, h => by
    induction l with
    | nil => have := h 0 (by simp); simp at this
    | cons d l =>
      have h0 := h 0 (by simp)
      simp at h0
      subst h0
      have ih := vGz k r (n + 1) l fun i hi => by
        have := h (i + 1) (by simpa using hi)
        rw [List.getElem?_cons_succ] at this
        rw [this]; congr 2; omega
      show (if j = k then _ else vD k _) = _
      by_cases e : j = k
      · subst e; simp
      · rw [if_neg e]
        show vD k ((r.map PyData.int).zip l) = _
        rw [ih]
        have e' : ¬ k = j := fun h => e h.symm
        simp only [List.mem_cons, e', false_or]
        split
        · rw [List.idxOf_cons]; simp [show (j == k) = false from by simpa using e]; omega
        · rfl
theorem wKz (k : Int) (seen : List Int) : vD k ((seen.map PyData.int).zip (kW seen.length)) = if k ∈ seen then some (.int ((seen.idxOf k : Nat) : Int)) else none := by
  have := vGz k seen 0 (kW seen.length) (fun i hi => by simp [kW, List.getElem?_range hi])
  simpa using this
theorem hUz (k : Int) (d : PyData) : ∀ (seen : List Int) (l : List PyData), k ∉ seen → seen.length = l.length → vX k d seen l = (seen ++ [k], l ++ [d])
  | [], [], _, _ => rfl
  | [], _ :: _, _, h => by cases h
  | _ :: _, [], _, h => by cases h
  | j :: r, e :: l, hk, hl => by
    simp only [List.mem_cons, not_or] at hk
    unfold vX
    rw [if_neg (fun e => hk.1 e.symm), hUz k d r l hk.2 (by simpa using hl)]; rfl
theorem kM (d₀ : PyData) : ∀ (t : Ty) (seen : List Int) (out : List PyData) (o : Option Slot), seen.length + t.length ≤ lim → out.length + t.length ≤ lim →
    F2 (vL (zRz 3) x5z (t.map eI) [some (.fz d₀), some (.od seen (kW seen.length)), some (.ol out), o]) d₀ (out ++ (xW t seen).map eI)
  | [], seen, out, o, _, _ => ⟨_, _, by simp [xW]; rfl⟩
  | i :: r, seen, out, o, h1, h2 => by
    simp only [List.length_cons] at h1 h2
    induction i with
    | var k =>
      by_cases hk : k ∈ seen
      · obtain ⟨o1, o3, h⟩ := kM d₀ r seen (out ++ [eI (.var (seen.idxOf k))]) (some (.fz (eI (.var k)))) (by omega) (by simp; omega)
        refine ⟨o1, o3, yL rfl (zB (zW (by with_unfolding_all rfl) (zB (zF (zV rfl rfl ?_) rfl) (zB (xQ rfl (vN rfl (zO rfl rfl ?_)) (by omega)) rfl))) rfl) (h.trans ?_)⟩
        · show some (!(vD k ((seen.map PyData.int).zip (kW seen.length))).isSome) = _
          rw [wKz, if_pos hk]; rfl
        · show vD k ((seen.map PyData.int).zip (kW seen.length)) = _
          rw [wKz, if_pos hk]
        · simp [xW, hk]
      · obtain ⟨o1, o3, h⟩ := kM d₀ r (seen ++ [k]) (out ++ [eI (.var (seen.length))]) (some (.fz (eI (.var k)))) (by simp; omega) (by simp; omega)
        have hz : kW (seen ++ [k]).length = kW seen.length ++ [.int (seen.length : Nat)] := by simp [kW, List.range_succ]
        refine ⟨o1, o3, yL rfl (zB (zW (by with_unfolding_all rfl) (zB (σ' := [some (.fz d₀), some (.od (seen ++ [k]) (kW (seen ++ [k]).length)), some (.ol out), some (.fz (eI (.var k)))]) (zW (zV rfl rfl ?_) (zB ?_ rfl)) (zB (xQ rfl (vN rfl (zO rfl rfl ?_)) (by omega)) rfl))) rfl) (h.trans ?_)⟩
        · show some (!(vD k ((seen.map PyData.int).zip (kW seen.length))).isSome) = _
          rw [wKz, if_neg hk]; rfl
        · refine (jPz (d := .int (seen.length : Nat)) (vK (a := .dict ((seen.map PyData.int).zip (kW seen.length))) rfl ?_) rfl rfl (by omega)).trans ?_
          · show (if _ then _ else _) = _
            have : ((seen.map PyData.int).zip (kW seen.length)).length = seen.length := by simp [kW]
            rw [this, if_pos (by omega)]
          · rw [hUz k _ seen (kW seen.length) hk (by simp [kW]), ← hz]; rfl
        · show vD k (((seen ++ [k]).map PyData.int).zip (kW (seen ++ [k]).length)) = _
          rw [wKz, if_pos (by simp)]
          have : (seen ++ [k]).idxOf k = seen.length := by rw [List.idxOf_append]; simp [hk]
          rw [this]
        · simp [xW, hk]
    | int =>
      obtain ⟨o1, o3, h⟩ := kM d₀ r seen (out ++ [eI .int]) (some (.fz (eI .int))) (by omega) (by simp; omega)
      exact ⟨o1, o3, yL rfl (zB (zF (by with_unfolding_all rfl) (zB (xQ rfl rfl (by omega)) rfl)) rfl) (h.trans (by simp [xW]))⟩
    | bool =>
      obtain ⟨o1, o3, h⟩ := kM d₀ r seen (out ++ [eI .bool]) (some (.fz (eI .bool))) (by omega) (by simp; omega)
      exact ⟨o1, o3, yL rfl (zB (zF (by with_unfolding_all rfl) (zB (xQ rfl rfl (by omega)) rfl)) rfl) (h.trans (by simp [xW]))⟩
    | fn =>
      obtain ⟨o1, o3, h⟩ := kM d₀ r seen (out ++ [eI .fn]) (some (.fz (eI .fn))) (by omega) (by simp; omega)
      exact ⟨o1, o3, yL rfl (zB (zF (by with_unfolding_all rfl) (zB (xQ rfl rfl (by omega)) rfl)) rfl) (h.trans (by simp [xW]))⟩
    | pr =>
      obtain ⟨o1, o3, h⟩ := kM d₀ r seen (out ++ [eI .pr]) (some (.fz (eI .pr))) (by omega) (by simp; omega)
      exact ⟨o1, o3, yL rfl (zB (zF (by with_unfolding_all rfl) (zB (xQ rfl rfl (by omega)) rfl)) rfl) (h.trans (by simp [xW]))⟩
theorem kSz (t : Ty) (hl : t.length ≤ lim) : Gv (xKz [.fz (eT t)]) (eT (xW t [])) 1 := by
  obtain ⟨o1, o3, h⟩ := kM (eT t) t [] [] none (by simpa using hl) (by simpa using hl)
  exact ⟨_, yC rfl rfl (zB rfl (zB (xR rfl) (zB h (zR rfl)))), Nat.le_of_ble_eq_true rfl⟩
noncomputable abbrev Sch := List Nat × Tr
noncomputable abbrev Env := List Sch
noncomputable def wX (vs : List Nat) : List Int := vs.map fun n : Nat => (n : Int)
noncomputable def eIds (vs : List Nat) : PyData := .list ((wX vs).map .int)
noncomputable def kDz (c : Sch) : PyData := .tuple [eIds c.1, eR c.2]
noncomputable def eEnv (env : Env) : PyData := .list (env.map kDz)
noncomputable def xWz (s : Sb) (c : Sch) : List Int := (c.2.app s).vars.filter fun v => !(wX c.1).contains v
noncomputable def qQ (s : Sb) (env : Env) : List Int := env.flatMap (xWz s)
noncomputable def jB (s : Sb) (env : Env) (t : Tr) : Sch := (((t.app s).vars.filter fun v => !(qQ s env).contains v).map Int.toNat, t.app s)
theorem gen_in {a b d : PyData} {c : Sch} {o6 : Option Slot} : ∀ (l held : List Int) (o5 : Option Slot), held.length + l.length ≤ lim →
    ∃ o5', vL (zRz 5) yZz (l.map PyData.int) [some (.fz a), some (.fz b), some (.fz d), some (.ol (held.map .int)), some (.fz (kDz c)), o5, o6] = some (.ok (.next, [some (.fz a), some (.fz b), some (.fz d), some (.ol ((held ++ l.filter fun v => !(wX c.1).contains v).map .int)), some (.fz (kDz c)), o5', o6]))
  | [], held, o5, _ => ⟨o5, by simp; rfl⟩
  | v :: r, held, o5, hl => by
    simp only [List.length_cons] at hl
    cases hv : (wX c.1).contains v with
    | true =>
      obtain ⟨o5', h⟩ := gen_in (a := a) (b := b) (d := d) (c := c) (o6 := o6) r held (some (.fz (.int v))) (by omega)
      refine ⟨o5', yL rfl (zB (zF (zV rfl (yB (zO rfl rfl rfl)) ((qY v (wX c.1)).trans (by rw [hv]; rfl))) rfl) rfl) (h.trans ?_)⟩
      simp only [List.filter_cons, hv, Bool.not_true]; rfl
    | false =>
      obtain ⟨o5', h⟩ := gen_in (a := a) (b := b) (d := d) (c := c) (o6 := o6) r (held ++ [v]) (some (.fz (.int v))) (by simp; omega)
      refine ⟨o5', yL rfl (zB (zW (zV rfl (yB (zO rfl rfl rfl)) ((qY v (wX c.1)).trans (by rw [hv]; rfl))) (zB (xQ rfl rfl (by simp; omega)) rfl)) rfl) ?_⟩
      have e : [some (Slot.fz a), some (.fz b), some (.fz d), some (.ol (held.map PyData.int)), some (.fz (kDz c)), some (.fz (.int v)), o6].set 3 (some (.ol (held.map PyData.int ++ [.int v]))) = [some (.fz a), some (.fz b), some (.fz d), some (.ol ((held ++ [v]).map PyData.int)), some (.fz (kDz c)), some (.fz (.int v)), o6] := by simp
      refine (congrArg _ e).trans (h.trans ?_)
      simp only [List.filter_cons, hv, Bool.not_false, ↓reduceIte, List.append_assoc, List.singleton_append]
theorem gen_out {a : PyData} {s : Sb} {d : PyData} {o6 : Option Slot} (hs : s.length < lim) : ∀ (env : Env) (held : List Int) (o4 o5 : Option Slot), held.length + 64 * env.length ≤ lim → (∀ c ∈ env, (c.2.app s).len < 64) →
    ∃ o4' o5', vL (zRz 4) y0z (env.map kDz) [some (.fz a), some (.fz (eS s)), some (.fz d), some (.ol (held.map .int)), o4, o5, o6] = some (.ok (.next, [some (.fz a), some (.fz (eS s)), some (.fz d), some (.ol ((held ++ qQ s env).map .int)), o4', o5', o6]))
  | [], held, o4, o5, _, _ => ⟨o4, o5, by simp [qQ]; rfl⟩
  | c :: r, held, o4, o5, hl, hc => by
    simp only [List.length_cons] at hl
    have h64 := hc c (by simp)
    have hvl := wIz (c.2.app s)
    obtain ⟨o5', h1⟩ := gen_in (a := a) (b := eS s) (d := d) (c := c) (o6 := o6) (c.2.app s).vars held o5 (by omega)
    have hone : (xWz s c).length ≤ (c.2.app s).vars.length := List.length_filter_le _ _
    obtain ⟨o4', o5'', h2⟩ := gen_out (a := a) (d := d) (o6 := o6) hs r (held ++ xWz s c) (some (.fz (kDz c))) o5' (by simp only [List.length_append]; omega) (fun e he => hc e (by simp [he]))
    refine ⟨o4', o5'', yL rfl (zB ((xXz (z8q (zNz (own := false) (s := s) (t := c.2) rfl rfl hs (by trivial)) h64) rfl).trans h1) rfl) (h2.trans ?_)⟩
    simp [qQ, xWz]
theorem z3q {s : Sb} : ∀ (env : Env), (∀ c ∈ env, (c.2.app s).len < 64) → (qQ s env).length ≤ 64 * env.length
  | [], _ => by simp [qQ]
  | c :: r, h => by
    have := z3q r fun e he => h e (by simp [he])
    have h1 : (xWz s c).length ≤ (c.2.app s).vars.length := List.length_filter_le _ _
    have h2 := wIz (c.2.app s)
    have h3 := h c (by simp)
    have h4 : qQ s (c :: r) = xWz s c ++ qQ s r := by simp [qQ]
    rw [h4]
    simp only [List.length_append, List.length_cons]; omega
theorem uWz {l : List Int} (h : ∀ v ∈ l, ∃ n : Nat, v = n) : wX (l.map Int.toNat) = l := by
  unfold wX
  rw [List.map_map]
  conv => rhs; rw [← List.map_id l]
  apply List.map_congr_left
  intro v hv
  obtain ⟨n, rfl⟩ := h v hv
  simp
theorem jDz {t : Tr} {s : Sb} {env : Env} (hs : s.length < lim) (ht : (t.app s).len < 64) (hc : ∀ c ∈ env, (c.2.app s).len < 64) (hl : env.length ≤ 10000) :
    Gv (zZz [.fz (eR t), .fz (eS s), .fz (eEnv env)]) (kDz (jB s env t)) 3 := by
  obtain ⟨o4, o5, h⟩ := gen_out (a := eR t) (d := eEnv env) (o6 := none) hs env [] none none (by simp only [List.length_nil, lim]; omega) hc
  have hf : filtI (.list ((t.app s).vars.map PyData.int)) (.list ((([] : List Int) ++ qQ s env).map PyData.int)) = some (eIds (jB s env t).1) := by
    show (match wN ((t.app s).vars.map PyData.int), wN ((([] : List Int) ++ qQ s env).map PyData.int) with
      | some ns, some hs => if ns.length ≤ 1000 then some (PyData.list ((ns.filter fun v => !hs.contains v).map .int)) else none
      | _, _ => none) = _
    rw [vU, vU]
    have := wIz (t.app s)
    show (if _ then _ else _) = _
    rw [if_pos (by omega)]
    unfold eIds jB
    simp only [List.nil_append]
    rw [uWz]
    intro v hv
    obtain ⟨n, h, _⟩ := (kA v (t.app s)).mp (List.mem_filter.mp hv).1
    exact ⟨n, h⟩
  exact ⟨_, yC rfl rfl (zB (xR rfl) (zB ((xXz rfl rfl).trans h) (zB (z2 (k8 (x := jK) (z9 rfl (z9 rfl rfl)) (x_apply (own := false) t hs (by trivial)).choose_spec.choose_spec.choose_spec rfl)) (zR (yH (vN (zO (yB (k7 (t := t.app s) rfl ht)) rfl hf) rfl)))))), Nat.le_of_ble_eq_true rfl⟩
noncomputable def xJz (vs : List Nat) (f : Nat) : Sb := (vs.zipIdx f).map fun p => (p.1, Tr.var p.2)
theorem renB_snoc (vs : List Nat) (v f : Nat) : xJz (vs ++ [v]) f = xJz vs f ++ [(v, .var (f + vs.length))] := by simp [xJz, List.zipIdx_append]
theorem renB_len (vs : List Nat) (f : Nat) : (xJz vs f).length = vs.length := by simp [xJz]
theorem renB_none {vs : List Nat} {f v : Nat} (h : v ∉ vs) : (xJz vs f).lookup v = none := by
  rw [List.lookup_eq_none_iff]
  rintro p hp
  simp only [xJz, List.mem_map] at hp
  obtain ⟨q, hq, rfl⟩ := hp
  have := List.fst_mem_of_mem_zipIdx hq
  show (v != q.1) = true
  rw [bne_iff_ne]
  intro e
  exact h (e ▸ this)
theorem renB_var {vs : List Nat} {f v : Nat} {u : Tr} (h : (xJz vs f).lookup v = some u) : ∃ j, u = .var j := by
  have : (v, u) ∈ xJz vs f := by
    revert h
    generalize xJz vs f = l
    intro h
    induction l with
    | nil => cases h
    | cons p r ih =>
      rw [List.lookup_cons] at h
      split at h
      · rename_i q; cases h; simp at q; subst q; simp
      · exact List.mem_cons_of_mem _ (ih h)
  simp only [xJz, List.mem_map] at this
  obtain ⟨q, _, e⟩ := this
  exact ⟨q.2, by cases e; rfl⟩
theorem uN {vs : List Nat} {f : Nat} : ∀ t : Tr, (t.once (xJz vs f)).len = t.len
  | .int => rfl
  | .bool => rfl
  | .var v => by
    simp only [Tr.once]
    cases h : (xJz vs f).lookup v with
    | none => rfl
    | some u => obtain ⟨j, rfl⟩ := renB_var h; rfl
  | .fn a b => by simp only [Tr.once, Tr.len, uN a, uN b]
  | .pr a b => by simp only [Tr.once, Tr.len, uN a, uN b]
theorem inst_go {c : Sch} {f : Nat} (hn : c.1.Nodup) (hl : c.1.length ≤ lim) : ∀ (v2 v1 : List Nat) (o : Option Slot), c.1 = v1 ++ v2 →
    ∃ o', vL (zRz 3) u8 ((List.range' v1.length v2.length).map fun i => PyData.int ((i : Nat) : Int)) [some (.fz (kDz c)), some (.fz (.int f)), some (.od (vZ (xJz v1 f)) (qF (xJz v1 f))), o] = some (.ok (.next, [some (.fz (kDz c)), some (.fz (.int f)), some (.od (vZ (xJz c.1 f)) (qF (xJz c.1 f))), o']))
  | [], v1, o, e => ⟨o, by rw [List.append_nil] at e; rw [e]; rfl⟩
  | v :: r, v1, o, e => by
    obtain ⟨o', h⟩ := inst_go hn hl r (v1 ++ [v]) (some (.fz (.int v1.length))) (by simp [e])
    have hv : v ∉ v1 := by
      rw [e, List.nodup_append] at hn
      intro hm
      exact hn.2.2 v hm v (by simp) rfl
    rw [List.length_append, List.length_singleton] at h
    refine ⟨o', ?_⟩
    rw [List.length_cons, List.range'_succ, List.map_cons]
    refine yL rfl (zB ((jPz (d := eR (.var (f + v1.length))) (zYz (zN (vN rfl (zO rfl rfl (yM rfl))) rfl)) rfl (yB (zO (yB (zO rfl rfl rfl)) rfl (v0 (l := (wX c.1).map PyData.int) (s := v1.length) (d := .int v) ?_ ?_))) (by simp [vZ, renB_len]; rw [e] at hl; simp at hl; omega)).trans ?_) rfl) h
    · rw [e]; simp [wX]
    · simpa [wX] using hl
    · rw [w7z (renB_none hv), ← renB_snoc]; rfl
theorem qDz {c : Sch} {f : Nat} (hn : c.1.Nodup) (hl : c.1.length ≤ lim) (ht : c.2.len ≤ lim) :
    Gv (kR [.fz (kDz c), .fz (.int f)]) (.tuple [eR (c.2.once (xJz c.1 f)), .int ((f + c.1.length : Nat) : Int)]) 2 := by
  obtain ⟨o, h⟩ := inst_go (f := f) hn hl c.1 [] none rfl
  have hlen : rd (op1 vM (op2 zX (zG 0) (zD (.int (0))))) [some (.fz (kDz c)), some (.fz (.int f)), some (.od [] []), none] = some (.ok (.int (c.1.length : Nat))) :=
    yB (vK (yB (zO rfl rfl rfl)) ((wJ (by simpa [wX] using hl)).trans (by simp [wX])))
  have hlen2 : rd (op1 vM (op2 zX (zG 0) (zD (.int (0))))) [some (.fz (kDz c)), some (.fz (.int f)), some (.od (vZ (xJz c.1 f)) (qF (xJz c.1 f))), o] = some (.ok (.int (c.1.length : Nat))) :=
    yB (vK (yB (zO rfl rfl rfl)) ((wJ (by simpa [wX] using hl)).trans (by simp [wX])))
  obtain ⟨o3, ho⟩ := x_once (own := true) (s := xJz c.1 f) c.2 (by rw [uN]; exact ht)
  have h' := (z6z (st := zRz 3) (b := u8) hlen (by omega)).trans ((congrArg (fun l => vL (zRz 3) u8 (l.map fun i => PyData.int ((i : Nat) : Int)) _) List.range_eq_range').trans h)
  exact ⟨_, yC rfl rfl (zB rfl (zB h' (zR (yH (vN (k8 (y4 (zO rfl rfl rfl) (z9 rfl rfl)) ho (Bool.and_eq_true_iff.mpr ⟨kD _, rfl⟩)) (zO rfl hlen2 (yM (by omega)))))))), Nat.le_of_ble_eq_true rfl⟩
inductive Task where
  | visit (p : Nat) (env : Env)
  | bind (p : Nat) (env : Env)
  | join (p : Nat)
noncomputable def jT : Task → PyData
  | .visit p env => .tuple [.str (Str.ofString "visit"), .int p, eEnv env]
  | .bind p env => .tuple [.str (Str.ofString "bind"), .int p, eEnv env]
  | .join p => .tuple [.str (Str.ofString "join"), .int p, .list []]
noncomputable def jD (l : List Task) : List PyData := (l.map jT).reverse
noncomputable def wO (l : List Tr) : List PyData := (l.map eR).reverse
noncomputable def yJ (l : List Node) : PyData := .list (l.map eN)
theorem vV (t : Task) (l : List Task) : jD (t :: l) = jD l ++ [jT t] := by simp [jD]
theorem uF (t : Tr) (l : List Tr) : wO (t :: l) = wO l ++ [eR t] := by simp [wO]
theorem jC (l : List Task) : (jD l).length = l.length := by simp [jD]
theorem xT (l : List Tr) : (wO l).length = l.length := by simp [wO]
theorem hBz {i : Nat} {nd : Node} {q : String} {σ : Sta} (h : σ[i]? = some (some (.fz (eN nd)))) : yR eqI (op2 zX (zG i) (zD (.int (0)))) (zD (.str (Str.ofString q))) σ = some (.ok (nd.kd.str == q)) := by
  have h1 : zG i σ = some (.ok (.pv (eN nd))) := by unfold zG; rw [h]
  exact zV (yB (zO (yB h1) rfl rfl)) rfl (yG _ _)
theorem zXz {i : Nat} {nd : Node} {q : String} {σ : Sta} (h : σ[i]? = some (some (.fz (eN nd)))) (hq : (nd.kd.str == q) = true) : yR eqI (op2 zX (zG i) (zD (.int (0)))) (zD (.str (Str.ofString q))) σ = some (.ok true) := by rw [← hq]; exact hBz h
theorem jQ {i : Nat} {nd : Node} {q : String} {σ : Sta} (h : σ[i]? = some (some (.fz (eN nd)))) (hq : (nd.kd.str == q) = false) : yR eqI (op2 zX (zG i) (zD (.int (0)))) (zD (.str (Str.ofString q))) σ = some (.ok false) := by rw [← hq]; exact hBz h
theorem uZ {nodes : List Node} {p : Nat} {nd : Node} (h : nodes[p]? = some nd) (hl : nodes.length ≤ lim) : zX (yJ nodes) (.int p) = some (eN nd) := v0 (by simp [h]) (by simpa using hl)
theorem kRz (nd : Node) : Gv (uH [.fz (eN nd)]) (.list ((xP nd).map .int)) 1 := by
  obtain ⟨kd, a, b, c⟩ := nd
  cases kd <;> exact ⟨_, by with_unfolding_all rfl, Nat.le_of_ble_eq_true rfl⟩
theorem xCz {nd : Node} {σ : Sta} {i : Nat} (hi : σ[i]? = some (some (.fz (eN nd)))) : yQ uH [.loc i] σ = some (.ok (.pv (.list ((xP nd).map .int)))) := by
  exact v3 (z9 hi rfl) (kRz nd) (Nat.le_refl _) (by simp [u1z, hi])
theorem rev_ok {e : EX} {l : List PyData} {σ : Sta} (h : rd e σ = some (.ok (.list l))) (hl : l.length ≤ lim) : revC e σ = some (.ok (.pv (.list l.reverse))) := by
  refine vK h ?_
  show (if _ then _ else _) = _
  rw [if_pos hl]
theorem wD {x y : List PyData} (h : x.length + y.length ≤ lim) : xK (.list x) (.list y) = some (.list (x ++ y)) := by
  show (if _ then _ else _) = _; rw [if_pos h]
section
variable {nodes : List Node} {p f : Nat} {env : Env} {td ty : List PyData}
noncomputable abbrev kVz (nodes : List Node) (p : Nat) (env : Env) (f : Nat) (td ty : List PyData) : List Slot := [.fz (yJ nodes), .fz (.int p), .fz (eEnv env), .fz (.int f), .ol td, .ol ty]
theorem v_num {a b c : Int} (hn : nodes[p]? = some ⟨.num, a, b, c⟩) (hl : nodes.length ≤ lim) (hy : ty.length ≤ lim) :
    G6 (w0 (kVz nodes p env f td ty)) (.int f) td (ty ++ [eR .int]) :=
  ⟨_, _, _, _, _, yC rfl rfl (zB (z2 (zO rfl rfl (uZ hn hl))) (zR (zW (zXz rfl rfl) (zB (xQ rfl rfl hy) (zR (yH rfl))))))⟩
theorem v_bool {a b c : Int} (hn : nodes[p]? = some ⟨.bool, a, b, c⟩) (hl : nodes.length ≤ lim) (hy : ty.length ≤ lim) :
    G6 (w0 (kVz nodes p env f td ty)) (.int f) td (ty ++ [eR .bool]) :=
  ⟨_, _, _, _, _, yC rfl rfl (zB (z2 (zO rfl rfl (uZ hn hl))) (zB (zF (jQ rfl rfl) rfl) (zR (zW (zXz rfl rfl) (zB (xQ rfl rfl hy) (zR (yH rfl)))))))⟩
theorem v_ref {i : Nat} {b c : Int} {k : Sch} (hn : nodes[p]? = some ⟨.ref, i, b, c⟩) (hl : nodes.length ≤ lim) (hy : ty.length ≤ lim) (he : env[i]? = some k) (hel : env.length ≤ lim) (hk : k.1.Nodup) (hk1 : k.1.length ≤ lim) (hk2 : k.2.len ≤ lim) :
    G6 (w0 (kVz nodes p env f td ty)) (.int ((f + k.1.length : Nat) : Int)) td (ty ++ [eR (k.2.once (xJz k.1 f))]) := by
  have h := qDz (f := f) hk hk1 hk2
  have hi : zX (eEnv env) (.int i) = some (kDz k) := v0 (by simp [he]) (by simpa using hel)
  exact ⟨_, _, _, _, _, yC rfl rfl (zB (z2 (zO rfl rfl (uZ hn hl))) (zB (zF (jQ rfl rfl) rfl) (zB (zF (jQ rfl rfl) rfl) (zR (zW (zXz rfl rfl) (zB (yFz (yB (v3 (y4 (zO rfl (yB (zO rfl rfl rfl)) hi) (z9 rfl rfl)) h (Nat.le_refl _) rfl)) rfl) (zB (xQ rfl rfl hy) (zR (yH rfl)))))))))⟩
theorem v_let {a : Nat} {b c : Int} (hn : nodes[p]? = some ⟨.let_, a, b, c⟩) (hl : nodes.length ≤ lim) (ht : td.length < lim) :
    G6 (w0 (kVz nodes p env f td ty)) (.int f) (td ++ [jT (.bind p env)] ++ [jT (.visit a env)]) ty :=
  ⟨_, _, _, _, _, yC rfl rfl (zB (z2 (zO rfl rfl (uZ hn hl))) (zB (zF (jQ rfl rfl) rfl) (zB (zF (jQ rfl rfl) rfl) (zB (zF (jQ rfl rfl) rfl) (zR (zW (zXz rfl rfl) (zB (xQ (d := jT (.bind p env)) rfl (y2 (zN rfl (zN rfl (zN rfl rfl)))) (by omega)) (zB (xQ (d := jT (.visit a env)) rfl (y2 (zN rfl (zN (zO rfl rfl rfl) (zN rfl rfl)))) (by simp; omega)) (zR (yH rfl))))))))))⟩
theorem v_lam {a : Nat} {b c : Int} (hn : nodes[p]? = some ⟨.lam, a, b, c⟩) (hl : nodes.length ≤ lim) (ht : td.length < lim) (hy : ty.length ≤ lim) (hel : env.length < lim) :
    G6 (w0 (kVz nodes p env f td ty)) (.int ((f + 1 : Nat) : Int)) (td ++ [jT (.join p)] ++ [jT (.visit a (([], .var f) :: env))]) (ty ++ [eR (.var f)]) :=
  ⟨_, _, _, _, _, yC rfl rfl (zB (z2 (zO rfl rfl (uZ hn hl))) (zB (zF (jQ rfl rfl) rfl) (zB (zF (jQ rfl rfl) rfl) (zB (zF (jQ rfl rfl) rfl) (zB (zF (jQ rfl rfl) rfl)
    (zB (xQ (d := jT (.join p)) rfl (y2 (zN rfl (zN rfl (zN rfl rfl)))) (by omega))
    (zR (zW (zXz rfl rfl) (zB (xQ (d := eR (.var f)) rfl rfl hy) (zB (xQ (d := jT (.visit a (([], .var f) :: env))) rfl (y2 (zN rfl (zN (zO rfl rfl rfl) (zN (zO (a := .list [kDz ([], .var f)]) (b := eEnv env) rfl rfl (wD (by simp; omega))) rfl)))) (by simp; omega)) (zR (yH (zO rfl rfl (yM (by omega)))))))))))))))⟩
theorem kids_go {o0 o1 o3 o5 o6 o7 o8 : Option Slot} : ∀ (l : List Nat) (td : List PyData) (o9 : Option Slot), td.length + l.length ≤ lim →
    ∃ o9', vL (zRz 9) yWz (l.map fun n : Nat => PyData.int n) [o0, o1, some (.fz (eEnv env)), o3, some (.ol td), o5, o6, o7, o8, o9] = some (.ok (.next, [o0, o1, some (.fz (eEnv env)), o3, some (.ol (td ++ l.map fun n => jT (.visit n env))), o5, o6, o7, o8, o9']))
  | [], td, o9, _ => ⟨o9, by simp; rfl⟩
  | n :: r, td, o9, h => by
    simp only [List.length_cons] at h
    obtain ⟨o9', hg⟩ := kids_go (o0 := o0) (o1 := o1) (o3 := o3) (o5 := o5) (o6 := o6) (o7 := o7) (o8 := o8) r (td ++ [jT (.visit n env)]) (some (.fz (.int n))) (by simp; omega)
    exact ⟨o9', yL rfl (zB (xQ (d := jT (.visit n env)) rfl (y2 (zN rfl (zN rfl (zN rfl rfl)))) (by omega)) rfl) (hg.trans (by simp))⟩
theorem v_kids {nd : Node} {l : List Nat} (hn : nodes[p]? = some nd) (hl : nodes.length ≤ lim) (ht : td.length + 4 ≤ lim) (hk : nd.kd = .app ∨ nd.kd = .add ∨ nd.kd = .less ∨ nd.kd = .pair ∨ nd.kd = .fst ∨ nd.kd = .snd ∨ nd.kd = .if_) (hc : xP nd = wX l) (hl3 : l.length ≤ 3) :
    G6 (w0 (kVz nodes p env f td ty)) (.int f) (td ++ [jT (.join p)] ++ l.reverse.map fun n => jT (.visit n env)) ty := by
  obtain ⟨o9, hg⟩ := kids_go (env := env) (o0 := some (.fz (yJ nodes))) (o1 := some (.fz (.int p))) (o3 := some (.fz (.int f))) (o5 := some (.ol ty)) (o6 := some (.fz (eN nd))) (o7 := none) (o8 := none) l.reverse (td ++ [jT (.join p)]) none (by simp; omega)
  have hch : ((xP nd).map PyData.int).reverse = l.reverse.map fun n : Nat => PyData.int n := by rw [hc]; simp [wX]
  have hlen : ((xP nd).map PyData.int).length ≤ lim := by rw [hc]; simp only [wX, List.length_map, lim]; omega
  rw [← hch] at hg
  have hne : (nd.kd.str == "num") = false ∧ (nd.kd.str == "bool") = false ∧ (nd.kd.str == "ref") = false ∧ (nd.kd.str == "let") = false ∧ (nd.kd.str == "lam") = false := by
    rcases hk with h | h | h | h | h | h | h <;> rw [h] <;> decide
  obtain ⟨h1, h2, h3, h4, h5⟩ := hne
  have T : ∀ (q : String) (σ : Sta), σ[6]? = some (some (.fz (eN nd))) → (nd.kd.str == q) = false → yR eqI (op2 zX (zG 6) (zD (.int (0)))) (zD (.str (Str.ofString q))) σ = some (.ok false) := fun q σ hσ hq => by rw [← hq]; exact hBz hσ
  exact ⟨_, _, _, _, _, yC rfl rfl (zB (z2 (zO rfl rfl (uZ hn hl))) (zB (zF (T _ _ rfl h1) rfl) (zB (zF (T _ _ rfl h2) rfl) (zB (zF (T _ _ rfl h3) rfl) (zB (zF (T _ _ rfl h4) rfl)
    (zB (xQ (d := jT (.join p)) rfl (y2 (zN rfl (zN rfl (zN rfl rfl)))) (by omega))
    (zB (zF (T _ _ rfl h5) rfl) (zB ((xXz (rev_ok (yB (xCz rfl)) hlen) rfl).trans hg) (zR (yH rfl))))))))))⟩
end
theorem vDz {s : Sb} {k : Nat} {y : Tr} (h : uT s) (hk : s.lookup k = none) : uT (s ++ [(k, y)]) := by
  unfold uT
  rw [List.map_append, List.nodup_append]
  refine ⟨h, by simp, ?_⟩
  intro a ha b hb
  simp only [List.map_cons, List.map_nil, List.mem_singleton] at hb
  subst hb
  rintro rfl
  obtain ⟨p, hp, e⟩ := List.mem_map.mp ha
  rw [List.lookup_eq_none_iff] at hk
  have := hk p hp
  simp [e] at this
theorem qIz {s : Sb} {k : Nat} {y : Tr} (h : v5z s) (hy : y.len < 64) : v5z (s ++ [(k, y)]) := by
  intro p hp
  simp only [List.mem_append, List.mem_singleton] at hp
  rcases hp with hp | rfl
  · exact h p hp
  · trivial
theorem wJz {ws : List (Tr × Tr)} {s : Sb} {n : Nat} {r : Except Addr Sb} (h : Un ws s n r) : ∀ s', r = .ok s' → uT s → v5z s → uT s' ∧ v5z s' ∧ s'.length ≤ s.length + n := by
  induction h with
  | nil => intro s' e h1 h2; cases e; exact ⟨h1, h2, by omega⟩
  | same _ _ _ ih => intro s' e h1 h2; obtain ⟨a, b, c⟩ := ih s' e h1 h2; exact ⟨a, b, by omega⟩
  | bindL k h1 h2 h3 h4 h5 _ ih => intro s' e g1 g2; obtain ⟨a, b, c⟩ := ih s' e (vDz g1 h5) (qIz g2 h1); simp only [List.length_append, List.length_cons, List.length_nil] at c; exact ⟨a, b, by omega⟩
  | bindR k h1 h2 h3 h4 h5 _ ih => intro s' e g1 g2; obtain ⟨a, b, c⟩ := ih s' e (vDz g1 h5) (qIz g2 h1); simp only [List.length_append, List.length_cons, List.length_nil] at c; exact ⟨a, b, by omega⟩
  | split c x0 x1 y0 y1 _ _ _ _ _ _ ih => intro s' e h1 h2; obtain ⟨a, b, c⟩ := ih s' e h1 h2; exact ⟨a, b, by omega⟩
  | occL => intro s' e; cases e
  | occR => intro s' e; cases e
  | clash => intro s' e; cases e
inductive Jn : Kd → List Tr → Sb → Nat → Nat → Except Addr (Tr × Sb × Nat) → Prop
  | lam {a b : Tr} {s : Sb} {f : Nat} : Jn .lam [a, b] s f 0 (.ok (.fn a b, s, f))
  | pair {a b : Tr} {s : Sb} {f : Nat} : Jn .pair [a, b] s f 0 (.ok (.pr a b, s, f))
  | app {a b : Tr} {s s' : Sb} {f n : Nat} : Un [(a, .fn b (.var f))] s n (.ok s') → Jn .app [a, b] s f n (.ok (.var f, s', f + 1))
  | appE {a b : Tr} {s : Sb} {f n : Nat} {e : Addr} : Un [(a, .fn b (.var f))] s n (.error e) → Jn .app [a, b] s f n (.error e)
  | if_ {a b c : Tr} {s s1 s2 : Sb} {f n m : Nat} : Un [(a, .bool)] s n (.ok s1) → Un [(b, c)] s1 m (.ok s2) → Jn .if_ [a, b, c] s f (max n m) (.ok (b, s2, f))
  | ifE1 {a b c : Tr} {s : Sb} {f n : Nat} {e : Addr} : Un [(a, .bool)] s n (.error e) → Jn .if_ [a, b, c] s f n (.error e)
  | ifE2 {a b c : Tr} {s s1 : Sb} {f n m : Nat} {e : Addr} : Un [(a, .bool)] s n (.ok s1) → Un [(b, c)] s1 m (.error e) → Jn .if_ [a, b, c] s f (max n m) (.error e)
  | ar {k : Kd} {a b : Tr} {s s1 s2 : Sb} {f n m : Nat} : (k = .add ∨ k = .less) → Un [(a, .int)] s n (.ok s1) → Un [(b, .int)] s1 m (.ok s2) → Jn k [a, b] s f (max n m) (.ok (if k.str == "add" then .int else .bool, s2, f))
  | arE1 {k : Kd} {a b : Tr} {s : Sb} {f n : Nat} {e : Addr} : (k = .add ∨ k = .less) → Un [(a, .int)] s n (.error e) → Jn k [a, b] s f n (.error e)
  | arE2 {k : Kd} {a b : Tr} {s s1 : Sb} {f n m : Nat} {e : Addr} : (k = .add ∨ k = .less) → Un [(a, .int)] s n (.ok s1) → Un [(b, .int)] s1 m (.error e) → Jn k [a, b] s f (max n m) (.error e)
  | pj {k : Kd} {a : Tr} {s s' : Sb} {f n : Nat} : (k = .fst ∨ k = .snd) → Un [(a, .pr (.var f) (.var (f + 1)))] s n (.ok s') → Jn k [a] s f n (.ok (.var (if k.str == "fst" then f else f + 1), s', f + 2))
  | pjE {k : Kd} {a : Tr} {s : Sb} {f n : Nat} {e : Addr} : (k = .fst ∨ k = .snd) → Un [(a, .pr (.var f) (.var (f + 1)))] s n (.error e) → Jn k [a] s f n (.error e)
theorem wG {x y : Tr} {s s' : Sb} {n : Nat} (h : Un [(x, y)] s n (.ok s')) (hd : uT s) (ht : v5z s) (hs : s.length + n < lim) (hn : n + 1 < lim) {F : Int} {as : List Arg} {σ : Sta} (ha : vE as σ = some (.ok [.fz (eR x), .fz (eR y), .fz (eS s), .fz (.int F)])) (hu : as.length ≤ 4 ∧ u1z σ as = true) (hF : (n : Int) ≤ F) : yQ jV as σ = some (.ok (.pv (eS s'))) := by
  exact v3 ha ((kQz h hd ht hs hn F).1 hF) hu.1 hu.2
theorem u7 {x y : Tr} {s : Sb} {n : Nat} {e : Addr} (h : Un [(x, y)] s n (.error e)) (hd : uT s) (ht : v5z s) (hs : s.length + n < lim) (hn : n + 1 < lim) {F : Int} {as : List Arg} {σ : Sta} (ha : vE as σ = some (.ok [.fz (eR x), .fz (eR y), .fz (eS s), .fz (.int F)])) (hF : (n : Int) ≤ F) : yQ jV as σ = some (.error e) := by
  exact xBz ha ((kQz h hd ht hs hn F).1 hF)
theorem xO {x y : Tr} {s : Sb} {n : Nat} {r : Except Addr Sb} (h : Un [(x, y)] s n r) (hd : uT s) (ht : v5z s) (hs : s.length + n < lim) (hn : n + 1 < lim) {F : Int} {as : List Arg} {σ : Sta} (ha : vE as σ = some (.ok [.fz (eR x), .fz (eR y), .fz (eS s), .fz (.int F)])) (hF : F < n) : yQ jV as σ = some (.error vY) :=
  xBz ha ((kQz h hd ht hs hn F).2 hF)
noncomputable abbrev jArgs (k : Kd) (ps : List Tr) (s : Sb) (f : Nat) (F : Int) : List Slot := [.fz (.str (Str.ofString k.str)), .fz (.list (ps.map eR)), .fz (eS s), .fz (.int f), .fz (.int F)]
noncomputable def jRes (k : Kd) (ps : List Tr) (s : Sb) (f m : Nat) (r : Except Addr (Tr × Sb × Nat)) (F : Int) : Prop :=
  ((m : Int) ≤ F → match r with
    | .ok (t, s', f') => Gv (uX (jArgs k ps s f F)) (.tuple [eR t, eS s', .int f']) 5
    | .error e => uX (jArgs k ps s f F) = some (.error e)) ∧ (F < m → uX (jArgs k ps s f F) = some (.error vY))
theorem wL {k q : String} {r : Sta} (h : (k == q) = true) : yR eqI (zG 0) (zD (.str (Str.ofString q))) (some (.fz (.str (Str.ofString k))) :: r) = some (.ok true) := zV rfl rfl ((yG k q).trans (by rw [h]))
theorem yU {k q : String} {r : Sta} (h : (k == q) = false) : yR eqI (zG 0) (zD (.str (Str.ofString q))) (some (.fz (.str (Str.ofString k))) :: r) = some (.ok false) := zV rfl rfl ((yG k q).trans (by rw [h]))
theorem qZ {t : BX} {a b : EX} {σ : Sta} {r : Out AV} (h : t σ = some (.ok true)) (k : a σ = r) : qP t a b σ = r := by unfold qP; rw [h]; exact k
theorem u6 {t : BX} {a b : EX} {σ : Sta} {r : Out AV} (h : t σ = some (.ok false)) (k : b σ = r) : qP t a b σ = r := by unfold qP; rw [h]; exact k
theorem gh_ok {i : Nat} {f : SX} {σ : Sta} {sl : Slot} {r : Out (Fl × Sta)} (h : σ[i]? = some (some sl)) (k : f (σ.set i (some (.fz sl.view))) = r) : ghC i f σ = r := by unfold ghC; rw [h]; exact k
theorem j_make {k : Kd} (hk : k = .lam ∨ k = .pair) {a b : Tr} {s : Sb} {f : Nat} (hd : uT s) (ht : v5z s) (hs : s.length ≤ lim) (hl : a.len + b.len < lim) (F : Int) : Gv (uX (jArgs k [a, b] s f F)) (.tuple [eR (Tr.two (k.str == "lam") a b), eS s, .int f]) 5 := by
  obtain ⟨o, hc⟩ := hHz (i := 5) (j := 6) (s := s) (by decide) (by decide) (by decide) hd hs ht s [] [some (.fz (.str (Str.ofString k.str))), some (.fz (.list [eR a, eR b])), some (.fz (eS s)), some (.fz (.int f)), some (.fz (.int F)), some (.od [] []), none, none, none, none, none, none, none, none] rfl (by simp) (by simp) rfl rfl
  have hc := (xXz (st := zRz 6) (e := zG 2) (b := yYz) (d := eS s) rfl (h3z s)).trans hc
  have h1 : xK (eR a) (eR b) = some (.list (a.enc.map eI ++ b.enc.map eI)) := wD (by simp [yN]; omega)
  have h2 : ∀ i : It, xK (.list (a.enc.map eI ++ b.enc.map eI)) (.list [eI i]) = some (.list (a.enc.map eI ++ b.enc.map eI ++ [eI i])) := fun i => wD (by simp [yN]; omega)
  rcases hk with rfl | rfl
  · exact ⟨_, yC rfl rfl (zR (zW (uM (wL rfl)) (zB rfl (zB hc (zB (z2 (d := eI .fn) (qZ (wL rfl) rfl)) (zR (gh_ok rfl (yH (y2 (zN (zO (yB (zO (yB (zO rfl rfl rfl)) (yB (zO rfl rfl rfl)) h1)) rfl ((h2 .fn).trans (by simp [eR, eT, Tr.two, Tr.enc, Kd.str]))) (zN rfl (zN rfl rfl)))))))))))), Nat.le_of_ble_eq_true rfl⟩
  · exact ⟨_, yC rfl rfl (zR (zW (zZ (yU rfl) (uM (wL rfl))) (zB rfl (zB hc (zB (z2 (d := eI .pr) (u6 (yU rfl) rfl)) (zR (gh_ok rfl (yH (y2 (zN (zO (yB (zO (yB (zO rfl rfl rfl)) (yB (zO rfl rfl rfl)) h1)) rfl ((h2 .pr).trans (by simp [eR, eT, Tr.two, Tr.enc, Kd.str]))) (zN rfl (zN rfl rfl)))))))))))), Nat.le_of_ble_eq_true rfl⟩
theorem zDq {e : EX} {t : Tr} {σ : Sta} (h : rd e σ = some (.ok (eR t))) (hl : t.len ≤ lim) : z7z e none none σ = some (.ok (.pv (eR t))) := by
  have := xAz (lo := none) (hi := none) (a := none) (b := none) h rfl rfl (by simpa [yN] using hl)
  rw [q6z] at this; exact this
section
variable {a b c : Tr} {s s1 s2 : Sb} {f n m : Nat} {e : Addr} {F : Int}
theorem qV {e1 e2 : EX} {i j : Nat} {σ : Sta} {d1 d2 : PyData} {q1 q2 : Slot} (h1 : e1 σ = some (.ok (.pv d1))) (h2 : e2 σ = some (.ok (.pv d2))) (h3 : σ[i]? = some (some q1)) (h4 : σ[j]? = some (some q2)) : vE [.ex e1, .ex e2, .loc i, .loc j] σ = some (.ok [.fz d1, .fz d2, q1, q2]) := y4 h1 (y4 h2 (z9 h3 (z9 h4 rfl)))
theorem kMz {e1 : EX} {k i j : Nat} {σ : Sta} {d1 : PyData} {q0 q1 q2 : Slot} (h1 : e1 σ = some (.ok (.pv d1))) (h2 : σ[k]? = some (some q0)) (h3 : σ[i]? = some (some q1)) (h4 : σ[j]? = some (some q2)) : vE [.ex e1, .loc k, .loc i, .loc j] σ = some (.ok [.fz d1, q0, q1, q2]) := y4 h1 (z9 h2 (z9 h3 (z9 h4 rfl)))
theorem app_w (hb : b.len ≤ 1000) : xK (eR b) (.list [eI (.var f), eI .fn]) = some (eR (.fn b (.var f))) := (wD (by simp only [List.length_map, yN, List.length_cons, List.length_nil, lim]; omega)).trans (by simp [eR, eT, Tr.enc])
theorem j_app (hu : Un [(a, .fn b (.var f))] s n (.ok s1)) (hd : uT s) (ht : v5z s) (hs : s.length + 2 * n + 2 < lim) (hb : b.len ≤ 1000) : jRes .app [a, b] s f n (.ok (.var f, s1, f + 1)) F :=
  ⟨fun hF => ⟨_, yC rfl rfl <| zB (zF (zZ (yU rfl) (zZ (yU rfl) rfl)) rfl) <| zR <| zW (wL rfl) <| zB (z2 (zO (yB (zO rfl rfl rfl)) rfl (app_w hb))) <| zR <| yH <| y2 <| zN rfl <| zN (wG hu hd ht (by omega) (by omega) (kMz (zO rfl rfl rfl) rfl rfl rfl) ⟨Nat.le_refl _, rfl⟩ hF) <| zN (zO rfl rfl (yM rfl)) rfl, Nat.le_of_ble_eq_true rfl⟩,
  fun hF => x5 rfl rfl <| zB (zF (zZ (yU rfl) (zZ (yU rfl) rfl)) rfl) <| yK <| zW (wL rfl) <| zB (z2 (zO (yB (zO rfl rfl rfl)) rfl (app_w hb))) <| yK <| xRz <| xNz <| zFz (d := eR (.var f)) rfl <| zGz (xO hu hd ht (by omega) (by omega) (kMz (zO rfl rfl rfl) rfl rfl rfl) hF)⟩
theorem j_appE (hu : Un [(a, .fn b (.var f))] s n (.error e)) (hd : uT s) (ht : v5z s) (hs : s.length + 2 * n + 2 < lim) (hb : b.len ≤ 1000) : jRes .app [a, b] s f n (.error e) F :=
  ⟨fun hF => x5 rfl rfl <| zB (zF (zZ (yU rfl) (zZ (yU rfl) rfl)) rfl) <| yK <| zW (wL rfl) <| zB (z2 (zO (yB (zO rfl rfl rfl)) rfl (app_w hb))) <| yK <| xRz <| xNz <| zFz (d := eR (.var f)) rfl <| zGz (u7 hu hd ht (by omega) (by omega) (kMz (zO rfl rfl rfl) rfl rfl rfl) hF),
  fun hF => x5 rfl rfl <| zB (zF (zZ (yU rfl) (zZ (yU rfl) rfl)) rfl) <| yK <| zW (wL rfl) <| zB (z2 (zO (yB (zO rfl rfl rfl)) rfl (app_w hb))) <| yK <| xRz <| xNz <| zFz (d := eR (.var f)) rfl <| zGz (xO hu hd ht (by omega) (by omega) (kMz (zO rfl rfl rfl) rfl rfl rfl) hF)⟩
theorem j_if (hu : Un [(a, .bool)] s n (.ok s1)) (hv : Un [(b, c)] s1 m (.ok s2)) (hd : uT s) (ht : v5z s) (hs : s.length + 2 * (max n m) + 2 < lim) (hb : b.len ≤ 1000) : jRes .if_ [a, b, c] s f (max n m) (.ok (b, s2, f)) F := by
  obtain ⟨hd1, ht1, hl1⟩ := wJz hu s1 rfl hd ht
  refine ⟨fun hF => ⟨_, yC rfl rfl <| zB (zF (zZ (yU rfl) (zZ (yU rfl) rfl)) rfl) <| zB (zF (yU rfl) rfl) <| zR <| zW (wL rfl) <| zB (z2 (wG hu hd ht (by omega) (by omega) (qV (zO rfl rfl rfl) rfl rfl rfl) ⟨Nat.le_refl _, rfl⟩ (by omega))) <| zR <| yH <| y2 <| zN (zDq (yB (zO rfl rfl rfl)) (by trivial)) <| zN (wG hv hd1 ht1 (by omega) (by omega) (qV (zO rfl rfl rfl) (zO rfl rfl rfl) rfl rfl) ⟨Nat.le_refl _, rfl⟩ (by omega)) <| zN rfl rfl, Nat.le_of_ble_eq_true rfl⟩, fun hF => ?_⟩
  by_cases h1 : F < n
  · exact x5 rfl rfl <| zB (zF (zZ (yU rfl) (zZ (yU rfl) rfl)) rfl) <| zB (zF (yU rfl) rfl) <| yK <| zW (wL rfl) <| yK <| uQ (xO hu hd ht (by omega) (by omega) (qV (zO rfl rfl rfl) rfl rfl rfl) h1)
  · exact x5 rfl rfl <| zB (zF (zZ (yU rfl) (zZ (yU rfl) rfl)) rfl) <| zB (zF (yU rfl) rfl) <| yK <| zW (wL rfl) <| zB (z2 (wG hu hd ht (by omega) (by omega) (qV (zO rfl rfl rfl) rfl rfl rfl) ⟨Nat.le_refl _, rfl⟩ (by omega))) <| yK <| xRz <| xNz <| zFz (zDq (t := b) (yB (zO rfl rfl rfl)) (by trivial)) <| zGz (xO hv hd1 ht1 (by omega) (by omega) (qV (zO rfl rfl rfl) (zO rfl rfl rfl) rfl rfl) (by omega))
theorem j_ifE2 (hu : Un [(a, .bool)] s n (.ok s1)) (hv : Un [(b, c)] s1 m (.error e)) (hd : uT s) (ht : v5z s) (hs : s.length + 2 * (max n m) + 2 < lim) (hb : b.len ≤ 1000) : jRes .if_ [a, b, c] s f (max n m) (.error e) F := by
  obtain ⟨hd1, ht1, hl1⟩ := wJz hu s1 rfl hd ht
  refine ⟨fun hF => x5 rfl rfl <| zB (zF (zZ (yU rfl) (zZ (yU rfl) rfl)) rfl) <| zB (zF (yU rfl) rfl) <| yK <| zW (wL rfl) <| zB (z2 (wG hu hd ht (by omega) (by omega) (qV (zO rfl rfl rfl) rfl rfl rfl) ⟨Nat.le_refl _, rfl⟩ (by omega))) <| yK <| xRz <| xNz <| zFz (zDq (t := b) (yB (zO rfl rfl rfl)) (by trivial)) <| zGz (u7 hv hd1 ht1 (by omega) (by omega) (qV (zO rfl rfl rfl) (zO rfl rfl rfl) rfl rfl) (by omega)), fun hF => ?_⟩
  by_cases h1 : F < n
  · exact x5 rfl rfl <| zB (zF (zZ (yU rfl) (zZ (yU rfl) rfl)) rfl) <| zB (zF (yU rfl) rfl) <| yK <| zW (wL rfl) <| yK <| uQ (xO hu hd ht (by omega) (by omega) (qV (zO rfl rfl rfl) rfl rfl rfl) h1)
  · exact x5 rfl rfl <| zB (zF (zZ (yU rfl) (zZ (yU rfl) rfl)) rfl) <| zB (zF (yU rfl) rfl) <| yK <| zW (wL rfl) <| zB (z2 (wG hu hd ht (by omega) (by omega) (qV (zO rfl rfl rfl) rfl rfl rfl) ⟨Nat.le_refl _, rfl⟩ (by omega))) <| yK <| xRz <| xNz <| zFz (zDq (t := b) (yB (zO rfl rfl rfl)) (by trivial)) <| zGz (xO hv hd1 ht1 (by omega) (by omega) (qV (zO rfl rfl rfl) (zO rfl rfl rfl) rfl rfl) (by omega))
theorem j_ifE1 (hu : Un [(a, .bool)] s n (.error e)) (hd : uT s) (ht : v5z s) (hs : s.length + 2 * n + 2 < lim) : jRes .if_ [a, b, c] s f n (.error e) F :=
  ⟨fun hF => x5 rfl rfl <| zB (zF (zZ (yU rfl) (zZ (yU rfl) rfl)) rfl) <| zB (zF (yU rfl) rfl) <| yK <| zW (wL rfl) <| yK <| uQ (u7 hu hd ht (by omega) (by omega) (qV (zO rfl rfl rfl) rfl rfl rfl) hF),
  fun hF => x5 rfl rfl <| zB (zF (zZ (yU rfl) (zZ (yU rfl) rfl)) rfl) <| zB (zF (yU rfl) rfl) <| yK <| zW (wL rfl) <| yK <| uQ (xO hu hd ht (by omega) (by omega) (qV (zO rfl rfl rfl) rfl rfl rfl) hF)⟩
end
section
variable {k : Kd} {a b c : Tr} {s s1 s2 : Sb} {f n m : Nat} {e : Addr} {F : Int}
theorem ar_no (hk : k = .add ∨ k = .less) : (k.str == "lam") = false ∧ (k.str == "pair") = false ∧ (k.str == "app") = false ∧ (k.str == "if") = false := by
  rcases hk with rfl | rfl <;> decide
theorem wDz (hk : k = .add ∨ k = .less) (r : Sta) : orB (yR eqI (zG 0) (zD (.str (Str.ofString "add")))) (orB (yR eqI (zG 0) (zD (.str (Str.ofString "less")))) (yDz false)) (some (.fz (.str (Str.ofString k.str))) :: r) = some (.ok true) := by
  rcases hk with rfl | rfl
  · exact uM (wL rfl)
  · exact zZ (yU rfl) (uM (wL rfl))
theorem pj_no (hk : k = .fst ∨ k = .snd) : (k.str == "lam") = false ∧ (k.str == "pair") = false ∧ (k.str == "app") = false ∧ (k.str == "if") = false ∧ (k.str == "add") = false ∧ (k.str == "less") = false := by
  rcases hk with rfl | rfl <;> decide
theorem j_ar (hk : k = .add ∨ k = .less) (hu : Un [(a, .int)] s n (.ok s1)) (hv : Un [(b, .int)] s1 m (.ok s2)) (hd : uT s) (ht : v5z s) (hs : s.length + 2 * (max n m) + 2 < lim) : jRes k [a, b] s f (max n m) (.ok (if k.str == "add" then .int else .bool, s2, f)) F := by
  obtain ⟨hd1, ht1, hl1⟩ := wJz hu s1 rfl hd ht
  obtain ⟨h1, h2, h3, h4⟩ := ar_no hk
  refine ⟨fun hF => ?_, fun hF => ?_⟩
  · have hx : ∀ r : Sta, qP (yR eqI (zG 0) (zD (.str (Str.ofString "add")))) (x8 (xX [y8 [zD (.str (Str.ofString "int")), zD (.int 0)]])) (x8 (xX [y8 [zD (.str (Str.ofString "bool")), zD (.int 0)]])) (some (.fz (.str (Str.ofString k.str))) :: r) = some (.ok (.pv (eR (if k.str == "add" then .int else .bool)))) := by
      intro r
      rcases hk with rfl | rfl
      · exact qZ (wL rfl) rfl
      · exact u6 (yU rfl) rfl
    exact ⟨_, yC rfl rfl <| zB (zF (zZ (yU h1) (zZ (yU h2) rfl)) rfl) <| zB (zF (yU h3) rfl) <| zB (zF (yU h4) rfl) <| zR <| zW (wDz hk _) <| zB (z2 (wG hu hd ht (by omega) (by omega) (qV (zO rfl rfl rfl) rfl rfl rfl) ⟨Nat.le_refl _, rfl⟩ (by omega))) <| zB (z2 (wG hv hd1 ht1 (by omega) (by omega) (qV (zO rfl rfl rfl) rfl rfl rfl) ⟨Nat.le_refl _, rfl⟩ (by omega))) <| zR <| yH <| y2 <| zN (hx _) <| zN rfl <| zN rfl rfl, Nat.le_of_ble_eq_true rfl⟩
  · by_cases hn : F < n
    · exact x5 rfl rfl <| zB (zF (zZ (yU h1) (zZ (yU h2) rfl)) rfl) <| zB (zF (yU h3) rfl) <| zB (zF (yU h4) rfl) <| yK <| zW (wDz hk _) <| yK <| uQ (xO hu hd ht (by omega) (by omega) (qV (zO rfl rfl rfl) rfl rfl rfl) hn)
    · exact x5 rfl rfl <| zB (zF (zZ (yU h1) (zZ (yU h2) rfl)) rfl) <| zB (zF (yU h3) rfl) <| zB (zF (yU h4) rfl) <| yK <| zW (wDz hk _) <| zB (z2 (wG hu hd ht (by omega) (by omega) (qV (zO rfl rfl rfl) rfl rfl rfl) ⟨Nat.le_refl _, rfl⟩ (by omega))) <| yK <| uQ (xO hv hd1 ht1 (by omega) (by omega) (qV (zO rfl rfl rfl) rfl rfl rfl) (by omega))
theorem j_arE2 (hk : k = .add ∨ k = .less) (hu : Un [(a, .int)] s n (.ok s1)) (hv : Un [(b, .int)] s1 m (.error e)) (hd : uT s) (ht : v5z s) (hs : s.length + 2 * (max n m) + 2 < lim) : jRes k [a, b] s f (max n m) (.error e) F := by
  obtain ⟨hd1, ht1, hl1⟩ := wJz hu s1 rfl hd ht
  obtain ⟨h1, h2, h3, h4⟩ := ar_no hk
  refine ⟨fun hF => ?_, fun hF => ?_⟩
  · exact x5 rfl rfl <| zB (zF (zZ (yU h1) (zZ (yU h2) rfl)) rfl) <| zB (zF (yU h3) rfl) <| zB (zF (yU h4) rfl) <| yK <| zW (wDz hk _) <| zB (z2 (wG hu hd ht (by omega) (by omega) (qV (zO rfl rfl rfl) rfl rfl rfl) ⟨Nat.le_refl _, rfl⟩ (by omega))) <| yK <| uQ (u7 hv hd1 ht1 (by omega) (by omega) (qV (zO rfl rfl rfl) rfl rfl rfl) (by omega))
  · by_cases hn : F < n
    · exact x5 rfl rfl <| zB (zF (zZ (yU h1) (zZ (yU h2) rfl)) rfl) <| zB (zF (yU h3) rfl) <| zB (zF (yU h4) rfl) <| yK <| zW (wDz hk _) <| yK <| uQ (xO hu hd ht (by omega) (by omega) (qV (zO rfl rfl rfl) rfl rfl rfl) hn)
    · exact x5 rfl rfl <| zB (zF (zZ (yU h1) (zZ (yU h2) rfl)) rfl) <| zB (zF (yU h3) rfl) <| zB (zF (yU h4) rfl) <| yK <| zW (wDz hk _) <| zB (z2 (wG hu hd ht (by omega) (by omega) (qV (zO rfl rfl rfl) rfl rfl rfl) ⟨Nat.le_refl _, rfl⟩ (by omega))) <| yK <| uQ (xO hv hd1 ht1 (by omega) (by omega) (qV (zO rfl rfl rfl) rfl rfl rfl) (by omega))
theorem j_arE1 (hk : k = .add ∨ k = .less) (hu : Un [(a, .int)] s n (.error e)) (hd : uT s) (ht : v5z s) (hs : s.length + 2 * n + 2 < lim) : jRes k [a, b] s f n (.error e) F := by
  obtain ⟨h1, h2, h3, h4⟩ := ar_no hk
  exact ⟨fun hF => x5 rfl rfl <| zB (zF (zZ (yU h1) (zZ (yU h2) rfl)) rfl) <| zB (zF (yU h3) rfl) <| zB (zF (yU h4) rfl) <| yK <| zW (wDz hk _) <| yK <| uQ (u7 hu hd ht (by omega) (by omega) (qV (zO rfl rfl rfl) rfl rfl rfl) hF),
    fun hF => x5 rfl rfl <| zB (zF (zZ (yU h1) (zZ (yU h2) rfl)) rfl) <| zB (zF (yU h3) rfl) <| zB (zF (yU h4) rfl) <| yK <| zW (wDz hk _) <| yK <| uQ (xO hu hd ht (by omega) (by omega) (qV (zO rfl rfl rfl) rfl rfl rfl) hF)⟩
noncomputable abbrev pjW : EX := x8 (xX [y8 [zD (.str (Str.ofString "var")), zG 3], y8 [zD (.str (Str.ofString "var")), op2 xK (zG 3) (zD (.int 1))], y8 [zD (.str (Str.ofString "pair")), zD (.int 0)]])
theorem pj_w {σ : Sta} (h : σ[3]? = some (some (.fz (.int f)))) : pjW σ = some (.ok (.pv (eR (.pr (.var f) (.var (f + 1)))))) := by
  have h1 : zG 3 σ = some (.ok (.pv (.int f))) := by unfold zG; rw [h]
  exact zYz (zN (vN rfl h1) (zN (vN rfl (zO (yB h1) rfl (yM (by omega)))) (zN (vN rfl rfl) rfl)))
theorem j_pj (hk : k = .fst ∨ k = .snd) (hu : Un [(a, .pr (.var f) (.var (f + 1)))] s n (.ok s1)) (hd : uT s) (ht : v5z s) (hs : s.length + 2 * n + 2 < lim) : jRes k [a] s f n (.ok (.var (if k.str == "fst" then f else f + 1), s1, f + 2)) F := by
  obtain ⟨h1, h2, h3, h4, h5, h6⟩ := pj_no hk
  have hx : ∀ (o0 o1 : Option Slot) (r : Sta), qP (yR eqI (zG 0) (zD (.str (Str.ofString "fst")))) (zG 3) (op2 xK (zG 3) (zD (.int 1))) (some (.fz (.str (Str.ofString k.str))) :: o0 :: o1 :: some (.fz (.int f)) :: r) = some (.ok (.pv (.int ((if k.str == "fst" then f else f + 1 : Nat) : Int)))) := by
    intro o0 o1 r
    rcases hk with rfl | rfl
    · exact qZ (wL rfl) rfl
    · exact u6 (yU rfl) (zO rfl rfl (yM rfl))
  exact ⟨fun hF => ⟨_, yC rfl rfl <| zB (zF (zZ (yU h1) (zZ (yU h2) rfl)) rfl) <| zB (zF (yU h3) rfl) <| zB (zF (yU h4) rfl) <| zB (zF (zZ (yU h5) (zZ (yU h6) rfl)) rfl) <| zB (z2 (pj_w rfl)) <| zB (z2 (wG hu hd ht (by omega) (by omega) (kMz (zO rfl rfl rfl) rfl rfl rfl) ⟨Nat.le_refl _, rfl⟩ hF)) <| zB (z2 (hx _ _ _)) <| zR <| yH <| y2 <| zN (zYz (zN (vN rfl rfl) rfl)) <| zN rfl <| zN (zO rfl rfl (yM rfl)) rfl, Nat.le_of_ble_eq_true rfl⟩,
    fun hF => x5 rfl rfl <| zB (zF (zZ (yU h1) (zZ (yU h2) rfl)) rfl) <| zB (zF (yU h3) rfl) <| zB (zF (yU h4) rfl) <| zB (zF (zZ (yU h5) (zZ (yU h6) rfl)) rfl) <| zB (z2 (pj_w rfl)) <| yK <| uQ (xO hu hd ht (by omega) (by omega) (kMz (zO rfl rfl rfl) rfl rfl rfl) hF)⟩
theorem j_pjE (hk : k = .fst ∨ k = .snd) (hu : Un [(a, .pr (.var f) (.var (f + 1)))] s n (.error e)) (hd : uT s) (ht : v5z s) (hs : s.length + 2 * n + 2 < lim) : jRes k [a] s f n (.error e) F := by
  obtain ⟨h1, h2, h3, h4, h5, h6⟩ := pj_no hk
  exact ⟨fun hF => x5 rfl rfl <| zB (zF (zZ (yU h1) (zZ (yU h2) rfl)) rfl) <| zB (zF (yU h3) rfl) <| zB (zF (yU h4) rfl) <| zB (zF (zZ (yU h5) (zZ (yU h6) rfl)) rfl) <| zB (z2 (pj_w rfl)) <| yK <| uQ (u7 hu hd ht (by omega) (by omega) (kMz (zO rfl rfl rfl) rfl rfl rfl) hF),
    fun hF => x5 rfl rfl <| zB (zF (zZ (yU h1) (zZ (yU h2) rfl)) rfl) <| zB (zF (yU h3) rfl) <| zB (zF (yU h4) rfl) <| zB (zF (zZ (yU h5) (zZ (yU h6) rfl)) rfl) <| zB (z2 (pj_w rfl)) <| yK <| uQ (xO hu hd ht (by omega) (by omega) (kMz (zO rfl rfl rfl) rfl rfl rfl) hF)⟩
end
theorem x_join {k : Kd} {ps : List Tr} {s : Sb} {f m : Nat} {r : Except Addr (Tr × Sb × Nat)} (h : Jn k ps s f m r) (hd : uT s) (ht : v5z s) (hs : s.length + 2 * m + 2 < lim) (hl : ∀ p ∈ ps, p.len ≤ 1000) (F : Int) (hF : 0 ≤ F) : jRes k ps s f m r F := by
  induction h with
  | @lam a b =>
    have h1 := hl a (by simp); have h2 := hl b (by simp)
    exact ⟨fun _ => j_make (.inl rfl) hd ht (by omega) (by trivial) F, fun h => by omega⟩
  | @pair a b =>
    have h1 := hl a (by simp); have h2 := hl b (by simp)
    exact ⟨fun _ => j_make (.inr rfl) hd ht (by omega) (by trivial) F, fun h => by omega⟩
  | app hu => exact j_app hu hd ht hs (hl _ (by simp))
  | appE hu => exact j_appE hu hd ht hs (hl _ (by simp))
  | if_ hu hv => exact j_if hu hv hd ht hs (hl _ (by simp))
  | ifE1 hu => exact j_ifE1 hu hd ht hs
  | ifE2 hu hv => exact j_ifE2 hu hv hd ht hs (hl _ (by simp))
  | ar hk hu hv => exact j_ar hk hu hv hd ht hs
  | arE1 hk hu => exact j_arE1 hk hu hd ht hs
  | arE2 hk hu hv => exact j_arE2 hk hu hv hd ht hs
  | pj hk hu => exact j_pj hk hu hd ht hs
  | pjE hk hu => exact j_pjE hk hu hd ht hs
structure IS where
  todo : List Task
  types : List Tr
  s : Sb
  f : Nat
structure Jk where
  (o6 o7 o8 o9 o10 o11 o12 o13 : Option Slot)
noncomputable abbrev iSt (nodes : List Node) (F : Int) (S : IS) (J : Jk) : Sta :=
  [some (.fz (yJ nodes)), some (.fz (.int F)), some (.ol (jD S.todo)), some (.ol (wO S.types)), some (.fz (eS S.s)), some (.fz (.int S.f)), J.o6, J.o7, J.o8, J.o9, J.o10, J.o11, J.o12, J.o13]
noncomputable def yDq (nodes : List Node) (S : IS) (m : Nat) (r : Except Addr IS) : Prop := ∀ (F : Int) (J : Jk), 0 < F →
  ((m : Int) ≤ F - 1 → ∃ J', kG (iSt nodes F S J) = match r with
    | .ok S' => some (.ok (.next, iSt nodes (F - 1) S' J'))
    | .error e => some (.error e)) ∧
  (F - 1 < m → kG (iSt nodes F S J) = some (.error vY))
theorem step0 {nodes : List Node} {S S' : IS} (h : ∀ (F : Int) (J : Jk), 0 < F → ∃ J', kG (iSt nodes F S J) = some (.ok (.next, iSt nodes (F - 1) S' J'))) : yDq nodes S 0 (.ok S') :=
  fun F J hF => ⟨fun _ => h F J hF, fun h => by omega⟩
section
variable {nodes : List Node} {p : Nat} {nd : Node} {F : Int} {todo : List Task} {types : List Tr} {s : Sb} {f : Nat} {J : Jk}
theorem in_fuel {S : IS} (hF : F ≤ 0) : kG (iSt nodes F S J) = some (.error vY) := yK (zW (zV rfl rfl (le_int hF)) rfl)
theorem j5z {T : Task} {nm : String} {ed : PyData} {g : SX} {R : Out (Fl × Sta)} (hF : 0 < F) (hT : jT T = .tuple [.str (Str.ofString nm), .int p, ed]) (hn : nodes[p]? = some nd) (hl : nodes.length ≤ lim) (ht : todo.length < lim)
    (k : g [some (.fz (yJ nodes)), some (.fz (.int (F - 1))), some (.ol (jD todo)), some (.ol (wO types)), some (.fz (eS s)), some (.fz (.int f)), some (.fz (.str (Str.ofString nm))), some (.fz (.int p)), some (.fz ed), some (.fz (eN nd)), J.o10, J.o11, J.o12, J.o13] = R) :
    (zU (ifC (yR leI (zG 1) (zD (.int (0)))) (zU (yOz vY) yA) yA)
    (zU (yX 1 (op2 uK (zG 1) (zD (.int (1)))))
    (zU (qEz [6, 7, 8] (op2 zX (zG 2) (op2 uK (op1 vM (zG 2)) (zD (.int (1))))))
    (zU (z7q 2 (op2 uK (op1 vM (zG 2)) (zD (.int (1)))))
    (zU (yX 9 (op2 zX (zG 0) (zG 7))) g)))))
      (iSt nodes F ⟨T :: todo, types, s, f⟩ J) = R := by
  have hlen : (jD (T :: todo)).length = todo.length + 1 := by rw [jC]; rfl
  have hi : ∀ (σ : Sta), σ[2]? = some (some (.ol (jD (T :: todo)))) → rd (op2 uK (op1 vM (zG 2)) (zD (.int (1)))) σ = some (.ok (.int (todo.length : Nat))) := fun σ hσ => by
    refine yB (zO (yB (vK (a := .list (jD (T :: todo))) (qPz hσ) (wJ (by rw [hlen]; omega)))) rfl (xL (by rw [hlen]; omega)))
  have hit : zX (.list (jD (T :: todo))) (.int (todo.length : Nat)) = some (.tuple [.str (Str.ofString nm), .int p, ed]) := by
    rw [← hT]; exact v0 (by rw [vV]; simp [jC]) (by rw [hlen]; omega)
  refine zB (zF (zV rfl rfl (le_int' (by omega))) rfl) (zB (z2 (zO rfl rfl (xL rfl))) ?_)
  refine zB (yFz (ds := [.str (Str.ofString nm), .int p, ed]) (yB (zO (qPz rfl) (hi _ rfl) hit)) rfl) ?_
  refine zB (zCq rfl (hi _ rfl) (by rw [hlen]; omega) (by rw [hlen]; omega)) ?_
  have he : (jD (T :: todo)).eraseIdx todo.length = jD todo := by
    rw [vV, ← jC todo, List.eraseIdx_append_of_length_le (Nat.le_refl _)]; simp
  refine zB (z2 (zO rfl rfl (uZ hn hl))) ?_
  refine Eq.trans ?_ k
  refine congrArg g ?_
  show [_, _, some (Slot.ol ((jD (T :: todo)).eraseIdx todo.length)), _, _, _, _, _, _, _, _, _, _, _] = _
  rw [he]
theorem k9z {i : Nat} {x : XF} {as : List Arg} {σ σ' τ : Sta} {vs : List Slot} {d : PyData} (ha : vE as σ = some (.ok vs)) (hx : x vs = some (.ok (d, τ))) (ht : vQ as τ σ = some σ') : hG i x as σ = some (.ok (.next, σ'.set i (some (.fz d)))) := by
  unfold hG; rw [ha]; show bnd (x vs) _ = _; rw [hx]; show (match vQ as τ σ with | some σ' => _ | none => _) = _; rw [ht]
theorem qX {env : Env} {todo' : List Task} {types' : List Tr} {f' : Nat} (hn : nodes[p]? = some nd) (hl : nodes.length ≤ lim) (ht : todo.length < lim)
    (h : G6 (w0 (kVz nodes p env f (jD todo) (wO types))) (.int f') (jD todo') (wO types')) :
    yDq nodes ⟨.visit p env :: todo, types, s, f⟩ 0 (.ok ⟨todo', types', s, f'⟩) := by
  obtain ⟨o0, o1, o2, o3, τ, h⟩ := h
  exact step0 fun F J hF => ⟨⟨_, _, _, _, _, _, _, _⟩, j5z hF rfl hn hl ht <|
    zB (zW (zV rfl rfl (yG "visit" "visit")) (zB (k9z rfl h rfl) rfl)) rfl⟩
end
theorem app_todo {i : Nat} {e : EX} {σ : Sta} {todo : List Task} {T : Task} (hs : σ[i]? = some (some (.ol (jD todo)))) (h : e σ = some (.ok (.pv (jT T)))) (hl : todo.length ≤ lim) : yAz i e σ = some (.ok (.next, σ.set i (some (.ol (jD (T :: todo)))))) := by
  rw [vV]; exact xQ hs h (by rw [jC]; exact hl)
theorem app_types {i : Nat} {e : EX} {σ : Sta} {types : List Tr} {t : Tr} (hs : σ[i]? = some (some (.ol (wO types)))) (h : e σ = some (.ok (.pv (eR t)))) (hl : types.length ≤ lim) : yAz i e σ = some (.ok (.next, σ.set i (some (.ol (wO (t :: types)))))) := by
  rw [uF]; exact xQ hs h (by rw [xT]; exact hl)
section
variable {nodes : List Node} {p : Nat} {todo : List Task} {types : List Tr} {s : Sb} {f : Nat} {env : Env}
theorem st_num {a b c : Int} (hn : nodes[p]? = some ⟨.num, a, b, c⟩) (hl : nodes.length ≤ lim) (ht : todo.length < lim) (hy : types.length < lim) : yDq nodes ⟨.visit p env :: todo, types, s, f⟩ 0 (.ok ⟨todo, .int :: types, s, f⟩) := by
  refine qX hn hl ht ?_
  rw [uF]
  exact v_num hn hl (by rw [xT]; omega)
theorem st_bool {a b c : Int} (hn : nodes[p]? = some ⟨.bool, a, b, c⟩) (hl : nodes.length ≤ lim) (ht : todo.length < lim) (hy : types.length < lim) : yDq nodes ⟨.visit p env :: todo, types, s, f⟩ 0 (.ok ⟨todo, .bool :: types, s, f⟩) := by
  refine qX hn hl ht ?_
  rw [uF]
  exact v_bool hn hl (by rw [xT]; omega)
theorem st_ref {i : Nat} {b c : Int} {k : Sch} (hn : nodes[p]? = some ⟨.ref, i, b, c⟩) (hl : nodes.length ≤ lim) (ht : todo.length < lim) (hy : types.length < lim) (he : env[i]? = some k) (hel : env.length ≤ lim) (hk : k.1.Nodup) (hk1 : k.1.length ≤ lim) (hk2 : k.2.len ≤ lim) :
    yDq nodes ⟨.visit p env :: todo, types, s, f⟩ 0 (.ok ⟨todo, k.2.once (xJz k.1 f) :: types, s, f + k.1.length⟩) := by
  refine qX hn hl ht ?_
  rw [uF]
  exact v_ref hn hl (by rw [xT]; omega) he hel hk hk1 hk2
theorem st_let {a : Nat} {b c : Int} (hn : nodes[p]? = some ⟨.let_, a, b, c⟩) (hl : nodes.length ≤ lim) (ht : todo.length < lim) :
    yDq nodes ⟨.visit p env :: todo, types, s, f⟩ 0 (.ok ⟨.visit a env :: .bind p env :: todo, types, s, f⟩) := by
  refine qX hn hl ht ?_
  rw [vV, vV]
  exact v_let hn hl (by rw [jC]; omega)
theorem st_lam {a : Nat} {b c : Int} (hn : nodes[p]? = some ⟨.lam, a, b, c⟩) (hl : nodes.length ≤ lim) (ht : todo.length < lim) (hy : types.length < lim) (hel : env.length < lim) :
    yDq nodes ⟨.visit p env :: todo, types, s, f⟩ 0 (.ok ⟨.visit a (([], .var f) :: env) :: .join p :: todo, .var f :: types, s, f + 1⟩) := by
  refine qX hn hl ht ?_
  rw [vV, vV, uF]
  exact v_lam hn hl (by rw [jC]; omega) (by rw [xT]; omega) hel
theorem z6q (l : List Nat) (r : List Task) : jD (l.map (fun n => Task.visit n env) ++ r) = jD r ++ l.reverse.map fun n => jT (.visit n env) := by
  simp only [jD, List.map_append, List.reverse_append, List.map_map, List.map_reverse]; rfl
theorem xPz {nd : Node} {l : List Nat} (hn : nodes[p]? = some nd) (hl : nodes.length ≤ lim) (ht : todo.length + 4 ≤ lim) (hk : nd.kd = .app ∨ nd.kd = .add ∨ nd.kd = .less ∨ nd.kd = .pair ∨ nd.kd = .fst ∨ nd.kd = .snd ∨ nd.kd = .if_) (hc : xP nd = wX l) (hl3 : l.length ≤ 3) :
    yDq nodes ⟨.visit p env :: todo, types, s, f⟩ 0 (.ok ⟨l.map (fun n => Task.visit n env) ++ .join p :: todo, types, s, f⟩) := by
  refine qX hn hl (by omega) ?_
  rw [z6q, vV]
  exact v_kids hn hl (by rw [jC]; omega) hk hc hl3
theorem jZz {t : Tr} {σ : Sta} (h : σ[3]? = some (some (.ol (wO (t :: types))))) (hy : types.length < lim) : rd (op2 uK (op1 vM (zG 3)) (zD (.int (1)))) σ = some (.ok (.int (types.length : Nat))) ∧ op2 zX (zG 3) (op2 uK (op1 vM (zG 3)) (zD (.int (1)))) σ = some (.ok (.pv (eR t))) := by
  have hlen : (wO (t :: types)).length = types.length + 1 := by rw [xT]; rfl
  have h1 : rd (op2 uK (op1 vM (zG 3)) (zD (.int (1)))) σ = some (.ok (.int (types.length : Nat))) :=
    yB (zO (yB (vK (a := .list (wO (t :: types))) (qPz h) (wJ (by rw [hlen]; omega)))) rfl (xL (by rw [hlen]; omega)))
  exact ⟨h1, zO (qPz h) h1 (v0 (by rw [uF]; simp [xT]) (by rw [hlen]; omega))⟩
theorem st_bind {t : Tr} {a : Int} {b : Nat} {c : Int} (hn : nodes[p]? = some ⟨.let_, a, b, c⟩) (hl : nodes.length ≤ lim) (ht : todo.length < lim) (hy : types.length < lim) (hs : s.length < lim) (h64 : (t.app s).len < 64) (hc : ∀ c ∈ env, (c.2.app s).len < 64) (hel : env.length ≤ 10000) :
    yDq nodes ⟨.bind p env :: todo, t :: types, s, f⟩ 0 (.ok ⟨.visit b (jB s env t :: env) :: todo, types, s, f⟩) := by
  have h := jDz (env := env) hs h64 hc hel
  have he : (wO (t :: types)).eraseIdx types.length = wO types := by
    rw [uF, ← xT types, List.eraseIdx_append_of_length_le (Nat.le_refl _)]; simp
  have hd : ∀ σ : Sta, σ[3]? = some (some (.ol (wO (t :: types)))) → z7q 3 (op2 uK (op1 vM (zG 3)) (zD (.int (1)))) σ = some (.ok (.next, σ.set 3 (some (.ol (wO types))))) := fun σ hσ => by
    have := zCq hσ (jZz hσ hy).1 (by rw [xT]; simp) (by rw [xT]; simp; omega)
    rw [he] at this; exact this
  have hE : xK (.list [kDz (jB s env t)]) (eEnv env) = some (eEnv (jB s env t :: env)) := wD (by simp only [List.length_map, List.length_cons, List.length_nil, lim]; omega)
  exact step0 fun F J hF => ⟨⟨_, _, _, _, _, _, _, _⟩, j5z hF rfl hn hl ht <|
    zB (zF (zV rfl rfl (yG "bind" "visit")) (zB (zW (zV rfl rfl (yG "bind" "bind")) <|
      zB (z2 (v3 (y4 (jZz rfl hy).2 (z9 rfl (z9 rfl rfl))) h (Nat.le_refl _) rfl)) <| zB (hd _ rfl) <| zB (app_todo (T := .visit b (jB s env t :: env)) rfl (y2 (zN rfl (zN (zO rfl rfl rfl) (zN (zO rfl rfl hE) rfl)))) (by omega)) rfl) rfl)) rfl⟩
noncomputable def v3z (nd : Node) : Nat := if nd.kd.str == "lam" then 2 else (xP nd).length
noncomputable def arK (k : Kd) : Nat := match k with
  | .lam | .app | .let_ | .add | .less | .pair => 2
  | .fst | .snd => 1
  | .if_ => 3
  | _ => 0
theorem ar_eq (nd : Node) : v3z nd = arK nd.kd := by obtain ⟨k, a, b, c⟩ := nd; cases k <;> rfl
theorem jn_ar {k : Kd} {ps : List Tr} {m : Nat} {r : Except Addr (Tr × Sb × Nat)} (h : Jn k ps s f m r) : arK k = ps.length := by
  induction h with
  | ar hk => rcases hk with rfl | rfl <;> rfl
  | arE1 hk => rcases hk with rfl | rfl <;> rfl
  | arE2 hk => rcases hk with rfl | rfl <;> rfl
  | pj hk => rcases hk with rfl | rfl <;> rfl
  | pjE hk => rcases hk with rfl | rfl <;> rfl
  | _ => rfl
theorem jn_arity {nd : Node} {ps : List Tr} {m : Nat} {r : Except Addr (Tr × Sb × Nat)} (h : Jn nd.kd ps s f m r) : v3z nd = ps.length := (ar_eq nd).trans (jn_ar h)
theorem q7z {nd : Node} {σ : Sta} (h : σ[9]? = some (some (.fz (eN nd)))) : qP (yR eqI (op2 zX (zG 9) (zD (.int (0)))) (zD (.str (Str.ofString "lam")))) (zD (.int (2))) (op1 vM (yQ uH [.loc 9])) σ = some (.ok (.pv (.int (v3z nd : Nat)))) := by
  cases e : nd.kd.str == "lam" with
  | true => rw [show v3z nd = 2 from by simp [v3z, e]]; exact qZ (zXz h e) rfl
  | false =>
    rw [show v3z nd = (xP nd).length from by simp [v3z, e]]
    refine u6 (jQ h e) (vK (yB (xCz h)) ?_)
    have h3 : (xP nd).length ≤ 3 := by unfold xP; split <;> simp
    exact (wJ (by simp only [List.length_map, lim]; omega)).trans (by simp)
theorem x6z (ps rest : List Tr) : wO (ps.reverse ++ rest) = wO rest ++ ps.map eR := by simp [wO]
theorem qLz {nd : Node} {ps : List Tr} {m : Nat} {r : Except Addr (Tr × Sb × Nat)} (hn : nodes[p]? = some nd) (hl : nodes.length ≤ lim) (ht : todo.length < lim) (hy : types.length + ps.length < lim) (hj : Jn nd.kd ps s f m r) (hd : uT s) (hth : v5z s) (hs : s.length + 2 * m + 2 < lim) (hp : ∀ q ∈ ps, q.len ≤ 1000) :
    yDq nodes ⟨.join p :: todo, ps.reverse ++ types, s, f⟩ m (r.map fun q => ⟨todo, q.1 :: types, q.2.1, q.2.2⟩) := by
  intro F J hF
  have hx := x_join hj hd hth hs hp (F - 1) (by omega)
  have har := jn_arity hj
  have hlen : (wO (ps.reverse ++ types)).length = types.length + ps.length := by rw [xT]; simp; omega
  have hi : ∀ σ : Sta, σ[3]? = some (some (.ol (wO (ps.reverse ++ types)))) → σ[11]? = some (some (.fz (.int (v3z nd : Nat)))) → rd (op2 uK (op1 vM (zG 3)) (zG 11)) σ = some (.ok (.int (types.length : Nat))) := fun σ h3 h11 => by
    have hn11 : zG 11 σ = some (.ok (.pv (.int (v3z nd : Nat)))) := by unfold zG; rw [h11]
    exact yB (zO (yB (vK (qPz h3) (wJ (by rw [hlen]; omega)))) (yB hn11) (xL (by rw [hlen, har]; omega)))
  have hcut : ∀ σ : Sta, σ[3]? = some (some (.ol (wO (ps.reverse ++ types)))) → σ[11]? = some (some (.fz (.int (v3z nd : Nat)))) → z7z (zG 3) (some (op2 uK (op1 vM (zG 3)) (zG 11))) none σ = some (.ok (.pv (.list (ps.map eR)))) := fun σ h3 h11 => by
    have := xAz (hi := none) (b := none) (qPz h3) (uRz (hi σ h3 h11) (by simp only [lim] at *; omega)) rfl (by rw [hlen]; omega)
    refine this.trans ?_
    unfold cutL
    simp only [Option.elim]
    rw [wRz (by rw [hlen]; omega), hlen]
    rw [x6z]
    rw [List.drop_append_of_le_length (by rw [xT]; omega), List.drop_of_length_le (by rw [xT]; omega)]
    simp only [List.nil_append, Nat.add_sub_cancel_left]
    rw [List.take_of_length_le (by simp)]
  have hdel : ∀ σ : Sta, σ[3]? = some (some (.ol (wO (ps.reverse ++ types)))) → σ[11]? = some (some (.fz (.int (v3z nd : Nat)))) → vOz 3 (op2 uK (op1 vM (zG 3)) (zG 11)) σ = some (.ok (.next, σ.set 3 (some (.ol (wO types))))) := fun σ h3 h11 => by
    unfold vOz; rw [h3]; show bnd (rd _ σ) _ = _; rw [hi σ h3 h11]; show (if _ then _ else _) = _
    rw [if_pos ⟨by omega, by rw [hlen]; omega, by rw [hlen]; omega⟩]
    have : (wO (ps.reverse ++ types)).take ((types.length : Nat) : Int).toNat = wO types := by
      rw [x6z, Int.toNat_natCast, List.take_append_of_le_length (by rw [xT]; omega), List.take_of_length_le (by rw [xT]; omega)]
    rw [this]
  refine ⟨fun hm => ?_, fun hm => ?_⟩
  · have hx := hx.1 hm
    induction r with
    | ok q =>
      obtain ⟨t, s', f'⟩ := q
      exact ⟨⟨_, _, _, _, _, _, _, _⟩, j5z (T := .join p) hF rfl hn hl ht <|
        zB (zF (zV rfl rfl (yG "join" "visit")) (zB (zF (zV rfl rfl (yG "join" "bind")) <|
          zB (z2 (q7z rfl)) <| zB (z2 (hcut _ rfl rfl)) <| zB (hdel _ rfl rfl) <| zB (yFz (yB (v3 (y4 (zO rfl rfl rfl) (z9 rfl (z9 rfl (z9 rfl (z9 rfl rfl))))) hx (Nat.le_refl _) rfl)) rfl) <| zB (app_types (t := t) rfl rfl (by omega)) rfl) rfl)) rfl⟩
    | error e =>
      exact ⟨J, j5z (T := .join p) hF rfl hn hl ht <|
        yK (zF (zV rfl rfl (yG "join" "visit")) (yK (zF (zV rfl rfl (yG "join" "bind")) <|
          zB (z2 (q7z rfl)) <| zB (z2 (hcut _ rfl rfl)) <| zB (hdel _ rfl rfl) <| yK (unp_err (xBz (y4 (zO rfl rfl rfl) (z9 rfl (z9 rfl (z9 rfl (z9 rfl rfl))))) hx)))))⟩
  · exact j5z (T := .join p) hF rfl hn hl ht <|
        yK (zF (zV rfl rfl (yG "join" "visit")) (yK (zF (zV rfl rfl (yG "join" "bind")) <|
          zB (z2 (q7z rfl)) <| zB (z2 (hcut _ rfl rfl)) <| zB (hdel _ rfl rfl) <| yK (unp_err (xBz (y4 (zO rfl rfl rfl) (z9 rfl (z9 rfl (z9 rfl (z9 rfl rfl))))) (hx.2 hm))))))
end
noncomputable abbrev j6z : BX := yR neI (zG 2) (x8 (xX []))
theorem lay_sch (c : Sch) : Lay 3 (kDz c) := by
  refine vC fun d hd => ?_
  simp only [List.mem_cons, List.not_mem_nil] at hd
  rcases hd with rfl | rfl | hd
  · refine (vT (n := 0) fun e he => ?_).up (by omega)
    obtain ⟨i, _, rfl⟩ := List.mem_map.mp he
    exact uD 0 i
  · exact lay_eR _
  · cases hd
theorem lay_env (env : Env) : Lay 4 (eEnv env) := by
  refine vT fun d hd => ?_
  obtain ⟨c, _, rfl⟩ := List.mem_map.mp hd
  exact lay_sch c
theorem lay_task (T : Task) : Lay 5 (jT T) := by
  cases T <;> refine vC fun d hd => ?_ <;> simp only [List.mem_cons, List.not_mem_nil] at hd <;> rcases hd with rfl | rfl | rfl | hd
  all_goals first | exact kJ 4 _ | exact uD 4 _ | exact lay_env _ | exact (vT (n := 3) (by simp)) | cases hd
theorem lay_todo (l : List Task) : Lay 6 (.list (jD l)) := by
  refine vT fun d hd => ?_
  simp only [jD, List.mem_reverse, List.mem_map] at hd
  obtain ⟨T, _, rfl⟩ := hd
  exact lay_task T
theorem hEz {nodes : List Node} {F : Int} {S : IS} {J : Jk} : j6z (iSt nodes F S J) = some (.ok (!S.todo.isEmpty)) := by
  refine zV rfl rfl ((ne_nil (lay_todo S.todo) (by omega)).trans ?_)
  cases h : S.todo with
  | nil => rfl
  | cons p r => rw [vV]; simp
inductive Goes (nodes : List Node) : List Nat → IS → Except Addr IS → Prop
  | refl {S : IS} : Goes nodes [] S (.ok S)
  | step {S S' : IS} {m : Nat} {tr : List Nat} {R : Except Addr IS} : S.todo ≠ [] → yDq nodes S m (.ok S') → Goes nodes tr S' R → Goes nodes (m :: tr) S R
  | err {S : IS} {m : Nat} {e : Addr} : S.todo ≠ [] → yDq nodes S m (.error e) → Goes nodes [m] S (.error e)
theorem wT {nodes : List Node} {t1 t2 : List Nat} {S S1 : IS} {R : Except Addr IS} (h1 : Goes nodes t1 S (.ok S1)) (h2 : Goes nodes t2 S1 R) : Goes nodes (t1 ++ t2) S R := by
  generalize hq : (Except.ok S1 : Except Addr IS) = q at h1
  induction h1 with
  | refl => cases hq; exact h2
  | step a b _ ih => exact .step a b (ih hq)
  | err => cases hq
noncomputable def jG (F : Int) : List Nat → Prop
  | [] => True
  | m :: r => (m : Int) ≤ F - 1 ∧ jG (F - 1) r
theorem j9z {nodes : List Node} {tr : List Nat} {S : IS} {R : Except Addr IS} (h : Goes nodes tr S R) : (∀ S', R = .ok S' → S'.todo = []) → ∀ (F : Int) (N : Nat) (J : Jk), F.toNat + 1 ≤ N →
    (jG F tr → ∃ J' F', wM j6z kG N (iSt nodes F S J) = match R with
      | .ok S' => some (.ok (.next, iSt nodes F' S' J'))
      | .error e => some (.error e)) ∧
    (¬ jG F tr → wM j6z kG N (iSt nodes F S J) = some (.error vY)) := by
  induction h with
  | @refl S =>
    intro hR F N J hN
    obtain ⟨N, rfl⟩ : ∃ M, N = M + 1 := ⟨N - 1, by omega⟩
    refine ⟨fun _ => ⟨J, F, ?_⟩, fun h => absurd trivial h⟩
    exact kS (hEz.trans (by rw [hR S rfl]; rfl))
  | @step S S' m tr R h0 h1 h2 ih =>
    intro hR F N J hN
    obtain ⟨N, rfl⟩ : ∃ M, N = M + 1 := ⟨N - 1, by omega⟩
    have ht : j6z (iSt nodes F S J) = some (.ok true) := hEz.trans (by cases h : S.todo with
      | nil => exact absurd h h0
      | cons _ _ => rfl)
    by_cases hF : 0 < F
    · by_cases hm : (m : Int) ≤ F - 1
      · obtain ⟨J', hb⟩ := (h1 F J hF).1 hm
        have := ih hR (F - 1) N J' (by omega)
        refine ⟨fun he => ?_, fun he => ?_⟩
        · obtain ⟨J2, F', hk⟩ := this.1 he.2
          exact ⟨J2, F', vH ht hb hk⟩
        · exact vH ht hb (this.2 fun hk => he ⟨hm, hk⟩)
      · refine ⟨fun he => absurd he.1 hm, fun _ => qD ht ((h1 F J hF).2 (by omega))⟩
    · exact ⟨fun he => by have := he.1; omega, fun _ => qD ht (in_fuel (by omega))⟩
  | @err S m e h0 h1 =>
    intro hR F N J hN
    obtain ⟨N, rfl⟩ : ∃ M, N = M + 1 := ⟨N - 1, by omega⟩
    have ht : j6z (iSt nodes F S J) = some (.ok true) := hEz.trans (by cases h : S.todo with
      | nil => exact absurd h h0
      | cons _ _ => rfl)
    by_cases hF : 0 < F
    · refine ⟨fun he => ?_, fun he => ?_⟩
      · obtain ⟨J', hb⟩ := (h1 F J hF).1 he.1
        exact ⟨J', F, qD ht hb⟩
      · refine qD ht ((h1 F J hF).2 ?_)
        by_cases hm : (m : Int) ≤ F - 1
        · exact absurd ⟨hm, trivial⟩ he
        · omega
    · exact ⟨fun he => by have := he.1; omega, fun _ => qD ht (in_fuel (by omega))⟩
theorem x_infer {nodes : List Node} {tr : List Nat} {U : Tr} {s : Sb} {f : Nat} {l : Nat} (hl : nodes.length = l + 1) (hlim : nodes.length ≤ lim) (h : Goes nodes tr ⟨[.visit l []], [], [], 0⟩ (.ok ⟨[], [U], s, f⟩)) (hs : s.length < lim) (hU : (U.app s).len ≤ lim) (F : Int) :
    (jG F tr → G2 (kP [.fz (yJ nodes), .fz (.int F)]) (eT (xW (U.app s).enc []))) ∧ (¬ jG F tr → kP [.fz (yJ nodes), .fz (.int F)] = some (.error vY)) := by
  have hlen : rd (op1 vM (zG 0)) [some (.fz (yJ nodes)), some (.fz (.int F)), none, none, none, none, none, none, none, none, none, none, none, none] = some (.ok (.int (nodes.length : Nat))) := yB (vK rfl ((wJ (by simpa using hlim)).trans (by simp)))
  have hloop := j9z h (fun S' e => by cases e; rfl) F (F.toNat + 2) ⟨none, none, none, none, none, none, none, none⟩ (by omega)
  have hcan := kSz (U.app s).enc (by rw [yN]; exact hU)
  refine ⟨fun he => ?_, fun he => ?_⟩
  · obtain ⟨J', F', hw⟩ := hloop.1 he
    exact ⟨_, _, _, yC rfl rfl <| zB (xR (zN (y2 (zN rfl (zN (zO hlen rfl (xL (c := l) (by omega))) (zN rfl rfl)))) rfl)) <| zB (xR rfl) <| zB (z2 rfl) <| zB (z2 rfl) <| zB hw <| zR <| yH <| v3 (y4 (zNz (own := false) (t := U) (s := s) (zO rfl rfl rfl) rfl hs hU) rfl) hcan (Nat.le_refl _) rfl⟩
  · exact x5 rfl rfl <| zB (xR (zN (y2 (zN rfl (zN (zO hlen rfl (xL (c := l) (by omega))) (zN rfl rfl)))) rfl)) <| zB (xR rfl) <| zB (z2 rfl) <| zB (z2 rfl) <| yK (hloop.2 he)
theorem x_inferE {nodes : List Node} {tr : List Nat} {e : Addr} {l : Nat} (hl : nodes.length = l + 1) (hlim : nodes.length ≤ lim) (h : Goes nodes tr ⟨[.visit l []], [], [], 0⟩ (.error e)) (F : Int) :
    (jG F tr → kP [.fz (yJ nodes), .fz (.int F)] = some (.error e)) ∧ (¬ jG F tr → kP [.fz (yJ nodes), .fz (.int F)] = some (.error vY)) := by
  have hlen : rd (op1 vM (zG 0)) [some (.fz (yJ nodes)), some (.fz (.int F)), none, none, none, none, none, none, none, none, none, none, none, none] = some (.ok (.int (nodes.length : Nat))) := yB (vK rfl ((wJ (by simpa using hlim)).trans (by simp)))
  have hloop := j9z h (fun S' e => by cases e) F (F.toNat + 2) ⟨none, none, none, none, none, none, none, none⟩ (by omega)
  refine ⟨fun he => ?_, fun he => ?_⟩
  · obtain ⟨J', F', hw⟩ := hloop.1 he
    exact x5 rfl rfl <| zB (xR (zN (y2 (zN rfl (zN (zO hlen rfl (xL (c := l) (by omega))) (zN rfl rfl)))) rfl)) <| zB (xR rfl) <| zB (z2 rfl) <| zB (z2 rfl) <| yK hw
  · exact x5 rfl rfl <| zB (xR (zN (y2 (zN rfl (zN (zO hlen rfl (xL (c := l) (by omega))) (zN rfl rfl)))) rfl)) <| zB (xR rfl) <| zB (z2 rfl) <| zB (z2 rfl) <| yK (hloop.2 he)
noncomputable abbrev Rz := Except Addr (Tr × Sb × Nat)
structure Inf (nodes : List Node) (env : Env) (s : Sb) (f p : Nat) (tr : List Nat) (R : Rz) : Prop where
  go : ∀ (todo : List Task) (types : List Tr), todo.length + 4 * tr.length + 10 ≤ 100000 → types.length + 4 * tr.length + 10 ≤ 100000 → Goes nodes tr ⟨.visit p env :: todo, types, s, f⟩ (R.map fun q => ⟨todo, q.1 :: types, q.2.1, q.2.2⟩)
structure SOk (s : Sb) : Prop where
  dup : uT s
  thin : v5z s
  len : s.length ≤ 100000
theorem y5z {nodes : List Node} {S : IS} {m : Nat} {r : Rz} {g : Tr × Sb × Nat → IS} (h0 : S.todo ≠ []) (h : yDq nodes S m (r.map g)) : Goes nodes [m] S (r.map g) := by
  induction r with
  | ok q => exact .step h0 h .refl
  | error e => exact .err h0 h
noncomputable def z1q (k : Kd) : Prop := k = .app ∨ k = .add ∨ k = .less ∨ k = .pair ∨ k = .fst ∨ k = .snd ∨ k = .if_
section
variable {nodes : List Node} {env : Env} {s s1 s2 s3 : Sb} {f f1 f2 f3 p a b c : Nat} {t1 t2 t3 : List Nat} {U V W : Tr} {nd : Node} {m : Nat} {r R : Rz} {e : Addr}
theorem yV {x y z : Int} (hl : nodes.length ≤ 10000) (hn : nodes[p]? = some ⟨.num, x, y, z⟩) : Inf nodes env s f p [0] (.ok (.int, s, f)) :=
  ⟨fun todo types h1 h2 => .step (by simp) (st_num hn (by trivial) (by trivial) (by trivial)) .refl⟩
theorem v6 {x y z : Int} (hl : nodes.length ≤ 10000) (hn : nodes[p]? = some ⟨.bool, x, y, z⟩) : Inf nodes env s f p [0] (.ok (.bool, s, f)) :=
  ⟨fun todo types h1 h2 => .step (by simp) (st_bool hn (by trivial) (by trivial) (by trivial)) .refl⟩
theorem qXz {i : Nat} {y z : Int} {k : Sch} (hl : nodes.length ≤ 10000) (hn : nodes[p]? = some ⟨.ref, i, y, z⟩) (he : env[i]? = some k) (hel : env.length ≤ 1000) (hk : k.1.Nodup) (hk1 : k.1.length ≤ 64) (hk2 : k.2.len ≤ 64) : Inf nodes env s f p [0] (.ok (k.2.once (xJz k.1 f), s, f + k.1.length)) :=
  ⟨fun todo types h1 h2 => .step (by simp) (st_ref hn (by trivial) (by trivial) (by trivial) he (by trivial) hk (by trivial) (by trivial)) .refl⟩
theorem jR {y z : Int} (hl : nodes.length ≤ 10000) (hn : nodes[p]? = some ⟨.lam, a, y, z⟩) (hel : env.length ≤ 1000) (ha : Inf nodes (([], .var f) :: env) s (f + 1) a t1 (.ok (U, s1, f1))) (h1 : SOk s1) (hU : U.len ≤ 1000) : Inf nodes env s f p (0 :: (t1 ++ [0])) (.ok (.fn (.var f) U, s1, f1)) := by
  refine ⟨fun todo types h2 h3 => ?_⟩
  simp only [List.length_cons, List.length_append, List.length_nil] at h2 h3
  refine .step (by simp) (st_lam hn (by trivial) (by trivial) (by trivial) (by trivial)) ?_
  refine wT (ha.go (.join p :: todo) (.var f :: types) (by simp only [List.length_cons]; omega) (by simp only [List.length_cons]; omega)) ?_
  exact y5z (r := .ok (.fn (.var f) U, s1, f1)) (by simp) (qLz (ps := [.var f, U]) (nd := ⟨.lam, a, y, z⟩) hn (by trivial) (by trivial) (by simp only [lim, List.length_cons, List.length_nil]; omega) .lam h1.dup h1.thin (by have := h1.len; trivial) (by
    intro q hq
    simp only [List.mem_cons, List.not_mem_nil] at hq
    rcases hq with rfl | rfl | hq
    · simp [Tr.len]
    · exact hU
    · cases hq))
theorem wPz {y z : Int} (hl : nodes.length ≤ 10000) (hn : nodes[p]? = some ⟨.lam, a, y, z⟩) (hel : env.length ≤ 1000) (ha : Inf nodes (([], .var f) :: env) s (f + 1) a t1 (.error e)) : Inf nodes env s f p (0 :: t1) (.error e) := by
  refine ⟨fun todo types h2 h3 => ?_⟩
  simp only [List.length_cons] at h2 h3
  refine .step (by simp) (st_lam hn (by trivial) (by trivial) (by trivial) (by trivial)) ?_
  exact ha.go (.join p :: todo) (.var f :: types) (by simp only [List.length_cons]; omega) (by simp only [List.length_cons]; omega)
theorem qYz {z : Int} (hl : nodes.length ≤ 10000) (hn : nodes[p]? = some ⟨.let_, a, b, z⟩) (hel : env.length ≤ 1000) (ha : Inf nodes env s f a t1 (.ok (U, s1, f1))) (h1 : SOk s1) (h64 : (U.app s1).len < 64) (hc : ∀ c ∈ env, (c.2.app s1).len < 64) (hb : Inf nodes (jB s1 env U :: env) s1 f1 b t2 R) : Inf nodes env s f p (0 :: (t1 ++ 0 :: t2)) R := by
  refine ⟨fun todo types h2 h3 => ?_⟩
  simp only [List.length_cons, List.length_append] at h2 h3
  refine .step (by simp) (st_let hn (by trivial) (by trivial)) ?_
  refine wT (ha.go (.bind p env :: todo) types (by simp only [List.length_cons]; omega) (by omega)) ?_
  exact .step (by simp) (st_bind hn (by trivial) (by trivial) (by trivial) (by have := h1.len; trivial) h64 hc (by omega)) (hb.go todo types (by omega) (by omega))
theorem inf_letE {z : Int} (hl : nodes.length ≤ 10000) (hn : nodes[p]? = some ⟨.let_, a, b, z⟩) (ha : Inf nodes env s f a t1 (.error e)) : Inf nodes env s f p (0 :: t1) (.error e) := by
  refine ⟨fun todo types h2 h3 => ?_⟩
  simp only [List.length_cons] at h2 h3
  refine .step (by simp) (st_let hn (by trivial) (by trivial)) ?_
  exact ha.go (.bind p env :: todo) types (by simp only [List.length_cons]; omega) (by omega)
theorem inf1 (hl : nodes.length ≤ 10000) (hn : nodes[p]? = some nd) (hk : z1q nd.kd) (hc : xP nd = wX [a]) (ha : Inf nodes env s f a t1 (.ok (U, s1, f1))) (hj : Jn nd.kd [U] s1 f1 m r) (h1 : SOk s1) (hm : m ≤ 1000) (hU : U.len ≤ 1000) : Inf nodes env s f p (0 :: (t1 ++ [m])) r := by
  refine ⟨fun todo types h2 h3 => ?_⟩
  simp only [List.length_cons, List.length_append, List.length_nil] at h2 h3
  refine .step (by simp) (xPz hn (by trivial) (by trivial) hk hc (by simp)) ?_
  refine wT (ha.go (.join p :: todo) types (by simp only [List.length_cons]; omega) (by omega)) ?_
  exact y5z (by simp) (qLz (ps := [U]) hn (by trivial) (by trivial) (by simp only [lim, List.length_cons, List.length_nil]; omega) hj h1.dup h1.thin (by have := h1.len; trivial) (by
    intro q hq
    simp only [List.mem_cons, List.not_mem_nil] at hq
    rcases hq with rfl | hq
    · exact hU
    · cases hq))
theorem hDz {l : List Nat} (hl : nodes.length ≤ 10000) (hn : nodes[p]? = some nd) (hk : z1q nd.kd) (hc : xP nd = wX (a :: l)) (hl3 : l.length ≤ 2) (ha : Inf nodes env s f a t1 (.error e)) : Inf nodes env s f p (0 :: t1) (.error e) := by
  refine ⟨fun todo types h2 h3 => ?_⟩
  simp only [List.length_cons, List.length_append, List.length_nil] at h2 h3
  have hp : 0 < t1.length := by
    induction t1 with
    | nil => have h := ha.go [] [] (by simp) (by simp); cases h
    | cons _ _ => simp
  refine .step (by simp) (xPz hn (by trivial) (by trivial) hk hc (by simp; omega)) ?_
  exact ha.go (l.map (fun n => Task.visit n env) ++ .join p :: todo) types (by simp only [List.length_cons, List.length_append, List.length_map]; omega) (by omega)
theorem yEz (hl : nodes.length ≤ 10000) (hn : nodes[p]? = some nd) (hk : z1q nd.kd) (hc : xP nd = wX [a, b]) (ha : Inf nodes env s f a t1 (.ok (U, s1, f1))) (hb : Inf nodes env s1 f1 b t2 (.ok (V, s2, f2))) (hj : Jn nd.kd [U, V] s2 f2 m r) (h1 : SOk s2) (hm : m ≤ 1000) (hU : U.len ≤ 1000) (hV : V.len ≤ 1000) : Inf nodes env s f p (0 :: (t1 ++ (t2 ++ [m]))) r := by
  refine ⟨fun todo types h2 h3 => ?_⟩
  simp only [List.length_cons, List.length_append, List.length_nil] at h2 h3
  refine .step (by simp) (xPz hn (by trivial) (by trivial) hk hc (by simp)) ?_
  refine wT (ha.go (.visit b env :: .join p :: todo) types (by simp only [List.length_cons]; omega) (by omega)) ?_
  refine wT (hb.go (.join p :: todo) (U :: types) (by simp only [List.length_cons]; omega) (by simp only [List.length_cons]; omega)) ?_
  exact y5z (by simp) (qLz (ps := [U, V]) hn (by trivial) (by trivial) (by simp only [lim, List.length_cons, List.length_nil]; omega) hj h1.dup h1.thin (by have := h1.len; trivial) (by
    intro q hq
    simp only [List.mem_cons, List.not_mem_nil] at hq
    rcases hq with rfl | rfl | hq
    · exact hU
    · exact hV
    · cases hq))
theorem z2q {l : List Nat} (hl : nodes.length ≤ 10000) (hn : nodes[p]? = some nd) (hk : z1q nd.kd) (hc : xP nd = wX (a :: b :: l)) (hl3 : l.length ≤ 1) (ha : Inf nodes env s f a t1 (.ok (U, s1, f1))) (hb : Inf nodes env s1 f1 b t2 (.error e)) : Inf nodes env s f p (0 :: (t1 ++ t2)) (.error e) := by
  refine ⟨fun todo types h2 h3 => ?_⟩
  simp only [List.length_cons, List.length_append, List.length_nil] at h2 h3
  have hp : 0 < t2.length := by
    induction t2 with
    | nil => have h := hb.go [] [] (by simp) (by simp); cases h
    | cons _ _ => simp
  refine .step (by simp) (xPz hn (by trivial) (by trivial) hk hc (by simp; omega)) ?_
  refine wT (ha.go (.visit b env :: (l.map (fun n => Task.visit n env) ++ .join p :: todo)) types (by simp only [List.length_cons, List.length_append, List.length_map]; omega) (by omega)) ?_
  exact hb.go (l.map (fun n => Task.visit n env) ++ .join p :: todo) (U :: types) (by simp only [List.length_cons, List.length_append, List.length_map]; omega) (by simp only [List.length_cons]; omega)
theorem inf3 (hl : nodes.length ≤ 10000) (hn : nodes[p]? = some nd) (hk : z1q nd.kd) (hc : xP nd = wX [a, b, c]) (ha : Inf nodes env s f a t1 (.ok (U, s1, f1))) (hb : Inf nodes env s1 f1 b t2 (.ok (V, s2, f2))) (hcc : Inf nodes env s2 f2 c t3 (.ok (W, s3, f3))) (hj : Jn nd.kd [U, V, W] s3 f3 m r) (h1 : SOk s3) (hm : m ≤ 1000) (hU : U.len ≤ 1000) (hV : V.len ≤ 1000) (hW : W.len ≤ 1000) : Inf nodes env s f p (0 :: (t1 ++ (t2 ++ (t3 ++ [m])))) r := by
  refine ⟨fun todo types h2 h3 => ?_⟩
  simp only [List.length_cons, List.length_append, List.length_nil] at h2 h3
  refine .step (by simp) (xPz hn (by trivial) (by trivial) hk hc (by simp)) ?_
  have hp2 : 0 < t2.length := by
    induction t2 with
    | nil => have h := hb.go [] [] (by simp) (by simp); cases h
    | cons _ _ => simp
  refine wT (ha.go (.visit b env :: .visit c env :: .join p :: todo) types (by simp only [List.length_cons]; omega) (by omega)) ?_
  refine wT (hb.go (.visit c env :: .join p :: todo) (U :: types) (by simp only [List.length_cons]; omega) (by simp only [List.length_cons]; omega)) ?_
  refine wT (hcc.go (.join p :: todo) (V :: U :: types) (by simp only [List.length_cons]; omega) (by simp only [List.length_cons]; omega)) ?_
  exact y5z (by simp) (qLz (ps := [U, V, W]) hn (by trivial) (by trivial) (by simp only [lim, List.length_cons, List.length_nil]; omega) hj h1.dup h1.thin (by have := h1.len; trivial) (by
    intro q hq
    simp only [List.mem_cons, List.not_mem_nil] at hq
    rcases hq with rfl | rfl | rfl | hq
    · exact hU
    · exact hV
    · exact hW
    · cases hq))
theorem inf3E (hl : nodes.length ≤ 10000) (hn : nodes[p]? = some nd) (hk : z1q nd.kd) (hc : xP nd = wX [a, b, c]) (ha : Inf nodes env s f a t1 (.ok (U, s1, f1))) (hb : Inf nodes env s1 f1 b t2 (.ok (V, s2, f2))) (hcc : Inf nodes env s2 f2 c t3 (.error e)) : Inf nodes env s f p (0 :: (t1 ++ (t2 ++ t3))) (.error e) := by
  refine ⟨fun todo types h2 h3 => ?_⟩
  simp only [List.length_cons, List.length_append, List.length_nil] at h2 h3
  refine .step (by simp) (xPz hn (by trivial) (by trivial) hk hc (by simp)) ?_
  have hp2 : 0 < t2.length := by
    induction t2 with
    | nil => have h := hb.go [] [] (by simp) (by simp); cases h
    | cons _ _ => simp
  have hp3 : 0 < t3.length := by
    induction t3 with
    | nil => have h := hcc.go [] [] (by simp) (by simp); cases h
    | cons _ _ => simp
  refine wT (ha.go (.visit b env :: .visit c env :: .join p :: todo) types (by simp only [List.length_cons]; omega) (by omega)) ?_
  refine wT (hb.go (.visit c env :: .join p :: todo) (U :: types) (by simp only [List.length_cons]; omega) (by simp only [List.length_cons]; omega)) ?_
  exact hcc.go (.join p :: todo) (V :: U :: types) (by simp only [List.length_cons]; omega) (by simp only [List.length_cons]; omega)
end
noncomputable def Tr.low (t : Tr) (f : Nat) : Prop := ∀ v, t.has v = true → v < f
theorem Tr.low.up {t : Tr} {f g : Nat} (h : t.low f) (hg : f ≤ g) : t.low g := fun v hv => Nat.lt_of_lt_of_le (h v hv) hg
theorem xJ (f : Nat) : Tr.int.low f := fun v h => by cases h
theorem v5 (f : Nat) : Tr.bool.low f := fun v h => by cases h
theorem y7 {k f : Nat} (h : k < f) : (Tr.var k).low f := fun v hv => by simp [Tr.has] at hv; omega
theorem uU {a b : Tr} {f : Nat} (ha : a.low f) (hb : b.low f) : (Tr.fn a b).low f := fun v hv => by
  simp only [Tr.has, Bool.or_eq_true] at hv
  rcases hv with h | h
  · exact ha v h
  · exact hb v h
theorem qJ {a b : Tr} {f : Nat} (ha : a.low f) (hb : b.low f) : (Tr.pr a b).low f := fun v hv => by
  simp only [Tr.has, Bool.or_eq_true] at hv
  rcases hv with h | h
  · exact ha v h
  · exact hb v h
theorem yVz {s : Sb} {k : Nat} {u : Tr} (h : s.lookup k = some u) : (k, u) ∈ s := by
  induction s with
  | nil => cases h
  | cons p r ih =>
    rw [List.lookup_cons] at h
    split at h
    · rename_i q; cases h; simp at q; subst q; simp
    · exact List.mem_cons_of_mem _ (ih h)
structure WF (s : Sb) (f : Nat) : Prop where
  good : ∃ rk, Good s rk
  dup : uT s
  thin : v5z s
  dom : ∀ q ∈ s, q.1 < f
  ran : ∀ q ∈ s, q.2.low f
theorem qRz : ∀ (n : Nat) (l : List Nat), l.Nodup → (∀ v ∈ l, v < n) → l.length ≤ n
  | 0, l, _, h => by
    induction l with
    | nil => simp
    | cons a r => exact absurd (h a (by simp)) (by omega)
  | n + 1, l, hd, h => by
    by_cases hm : n ∈ l
    · have := qRz n (l.erase n) (hd.erase n) (fun v hv => by
        have h1 := (hd.mem_erase_iff).mp hv
        have := h v h1.2
        omega)
      rw [List.length_erase_of_mem hm] at this
      omega
    · have := qRz n l hd (fun v hv => by
        have := h v hv
        by_cases e : v = n
        · subst e; exact absurd hv hm
        · omega)
      omega
section
variable {s : Sb} {f : Nat}
theorem WF.len (W : WF s f) : s.length ≤ f := by
  have := qRz f (s.map fun q : Nat × Tr => q.1) W.dup (fun v hv => by
    obtain ⟨q, hq, rfl⟩ := List.mem_map.mp hv
    exact W.dom q hq)
  simpa using this
theorem WF.ok (W : WF s f) (hf : f ≤ 100000) : SOk s := ⟨W.dup, W.thin, Nat.le_trans W.len hf⟩
theorem WF.up {g : Nat} (W : WF s f) (h : f ≤ g) : WF s g := ⟨W.good, W.dup, W.thin, fun q hq => Nat.lt_of_lt_of_le (W.dom q hq) h, fun q hq => (W.ran q hq).up h⟩
theorem WF.out (W : WF s f) {v : Nat} (h : f ≤ v) : s.lookup v = none := by
  cases e : s.lookup v with
  | none => rfl
  | some u => have := W.dom _ (yVz e); simp only at this; omega
theorem WF.var (W : WF s f) {v : Nat} (h : f ≤ v) : Tr.app s (.var v) = .var v := vO (W.out h)
theorem wf_nil : WF [] 0 := ⟨⟨fun _ => 0, ⟨fun k u h => (by cases h), fun k _ => rfl, fun k u h => (by cases h), fun k => Nat.le_refl _⟩⟩, by simp [uT], fun q hq => by simp at hq, fun q hq => by simp at hq, fun q hq => by simp at hq⟩
theorem once_low (W : WF s f) {t : Tr} (h : t.low f) : (t.once s).low f := fun v hv => by
  obtain ⟨j, h1, h2 | ⟨u, h2, h3⟩⟩ := zJz t hv
  · rw [h2.2]; exact h j h1
  · exact W.ran _ (yVz h2) v h3
theorem h4z (W : WF s f) : ∀ (n : Nat) (t : Tr), t.low f → (t.iter s n).low f
  | 0, t, h => h
  | n + 1, t, h => h4z W n _ (once_low W h)
theorem jU (W : WF s f) {t : Tr} (h : t.low f) : (t.app s).low f := by rw [qU]; exact h4z W _ t h
theorem app_app (W : WF s f) (t : Tr) : (t.app s).app s = t.app s := by
  obtain ⟨rk, G⟩ := W.good
  exact z9z (wUz G t)
theorem WF.free (W : WF s f) (t : Tr) : ∀ v, (t.app s).has v = true → s.lookup v = none := by
  obtain ⟨rk, G⟩ := W.good
  exact wUz G t
theorem uB {t : Tr} {k : Nat} {y : Tr} (h : t.low k) : t.sub k y = t := kC t (by
  cases e : t.has k with
  | false => rfl
  | true => have := h k e; omega)
theorem jX (W : WF s f) {k : Nat} {y : Tr} (hk : s.lookup k = none) (hkf : k < f) (hy : y.low f) (hyf : ∀ v, y.has v = true → s.lookup v = none) (ho : y.has k = false) (hl : y.len < 64) : WF (s ++ [(k, y)]) f ∧ ∀ t : Tr, t.app (s ++ [(k, y)]) = (t.app s).sub k y := by
  obtain ⟨rk, G⟩ := W.good
  refine ⟨⟨h7z G hk hyf ho, vDz W.dup hk, qIz W.thin hl, fun q hq => ?_, fun q hq => ?_⟩, app_put G hk hyf ho⟩
  · simp only [List.mem_append, List.mem_singleton] at hq
    rcases hq with hq | rfl
    · exact W.dom q hq
    · exact hkf
  · simp only [List.mem_append, List.mem_singleton] at hq
    rcases hq with hq | rfl
    · exact W.ran q hq
    · exact hy
end
noncomputable def Tr.ren (ρ : Nat → Nat) : Tr → Tr
  | .int => .int
  | .bool => .bool
  | .var k => .var (ρ k)
  | .fn a b => .fn (a.ren ρ) (b.ren ρ)
  | .pr a b => .pr (a.ren ρ) (b.ren ρ)
theorem xS (ρ : Nat → Nat) : ∀ t : Tr, (t.ren ρ).len = t.len
  | .int => rfl
  | .bool => rfl
  | .var _ => rfl
  | .fn a b => by simp only [Tr.ren, Tr.len, xS ρ a, xS ρ b]
  | .pr a b => by simp only [Tr.ren, Tr.len, xS ρ a, xS ρ b]
theorem jP {ρ : Nat → Nat} {v : Nat} : ∀ t : Tr, (t.ren ρ).has v = true ↔ ∃ j, t.has j = true ∧ v = ρ j
  | .int => by simp [Tr.ren, Tr.has]
  | .bool => by simp [Tr.ren, Tr.has]
  | .var k => by
    simp only [Tr.ren, Tr.has, beq_iff_eq]
    exact ⟨fun h => ⟨k, rfl, h.symm⟩, fun ⟨j, h1, h2⟩ => by rw [h1, h2]⟩
  | .fn a b => by
    simp only [Tr.ren, Tr.has, Bool.or_eq_true, jP a, jP b]
    constructor
    · rintro (⟨j, h1, h2⟩ | ⟨j, h1, h2⟩)
      · exact ⟨j, .inl h1, h2⟩
      · exact ⟨j, .inr h1, h2⟩
    · rintro ⟨j, h1 | h1, h2⟩
      · exact .inl ⟨j, h1, h2⟩
      · exact .inr ⟨j, h1, h2⟩
  | .pr a b => by
    simp only [Tr.ren, Tr.has, Bool.or_eq_true, jP a, jP b]
    constructor
    · rintro (⟨j, h1, h2⟩ | ⟨j, h1, h2⟩)
      · exact ⟨j, .inl h1, h2⟩
      · exact ⟨j, .inr h1, h2⟩
    · rintro ⟨j, h1 | h1, h2⟩
      · exact .inl ⟨j, h1, h2⟩
      · exact .inr ⟨j, h1, h2⟩
theorem q6 {ρ σ : Nat → Nat} : ∀ {t : Tr}, (∀ v, t.has v = true → ρ v = σ v) → t.ren ρ = t.ren σ
  | .int, _ => rfl
  | .bool, _ => rfl
  | .var k, h => by simp only [Tr.ren]; rw [h k (by simp [Tr.has])]
  | .fn a b, h => by simp only [Tr.ren]; rw [q6 (t := a) fun v hv => h v (by simp [Tr.has, hv]), q6 (t := b) fun v hv => h v (by simp [Tr.has, hv])]
  | .pr a b, h => by simp only [Tr.ren]; rw [q6 (t := a) fun v hv => h v (by simp [Tr.has, hv]), q6 (t := b) fun v hv => h v (by simp [Tr.has, hv])]
structure Fits (ρ : Nat → Nat) (T : Tr) (f f' : Nat) : Prop where
  rng : ∀ v, T.has v = true → f ≤ ρ v ∧ ρ v < f'
  inj : ∀ v w, T.has v = true → T.has w = true → ρ v = ρ w → v = w
theorem Fits.sub {ρ : Nat → Nat} {T T' : Tr} {f f' g g' : Nat} (h : Fits ρ T f f') (hs : ∀ v, T'.has v = true → T.has v = true) (h1 : g ≤ f) (h2 : f' ≤ g') : Fits ρ T' g g' :=
  ⟨fun v hv => by have := h.rng v (hs v hv); omega, fun v w hv hw => h.inj v w (hs v hv) (hs w hw)⟩
theorem Fits.nil {ρ : Nat → Nat} {T : Tr} {f f' : Nat} (h : ∀ v, T.has v = false) : Fits ρ T f f' := ⟨fun v hv => (by rw [h v] at hv; cases hv), fun v w hv => (by rw [h v] at hv; cases hv)⟩
structure Ends (nodes : List Node) (env : Env) (s : Sb) (f p : Nat) (T : Tr) (tr : List Nat) (U : Tr) (s' : Sb) (f' : Nat) (ρ : Nat → Nat) : Prop where
  inf : Inf nodes env s f p tr (.ok (U, s', f'))
  wf : WF s' f'
  le : f ≤ f'
  sz : f' ≤ f + 64 * tr.length
  keep : ∀ t : Tr, t.low f → t.app s' = t.app s
  low : U.low f'
  is : U.app s' = T.ren ρ
  fits : Fits ρ T f f'
inductive OkAt (nodes : List Node) (env : Env) (s : Sb) (f p : Nat) (T : Tr) (tr : List Nat) : Prop
  | mk (U : Tr) (s' : Sb) (f' : Nat) (ρ : Nat → Nat) (E : Ends nodes env s f p T tr U s' f' ρ) : OkAt nodes env s f p T tr
theorem Ends.len {nodes : List Node} {env : Env} {s : Sb} {f p : Nat} {T : Tr} {tr : List Nat} {U : Tr} {s' : Sb} {f' : Nat} {ρ : Nat → Nat} (h : Ends nodes env s f p T tr U s' f' ρ) : U.len ≤ T.len := by
  have h1 := xEz s' (s'.length + 1) U
  have h2 := h.is
  unfold Tr.app at h2
  rw [h2, xS] at h1
  exact h1
structure Ctx (env : Env) (s : Sb) (f : Nat) : Prop where
  wf : WF s f
  len : env.length ≤ 1000
  env : ∀ c ∈ env, c.2.low f ∧ (c.2.app s).len < 64
theorem Inf.cast {nodes : List Node} {env : Env} {s : Sb} {f p : Nat} {tr tr' : List Nat} {R : Rz} (h : Inf nodes env s f p tr R) (e : tr = tr') : Inf nodes env s f p tr' R := e ▸ h
inductive Op where
  | add0 | add1 | less0 | less1 | pair0 | pair1 | fst | snd | if0 | if1 | if2 | lam
noncomputable def Op.kd : Op → Kd
  | .add0 | .add1 => .add
  | .less0 | .less1 => .less
  | .pair0 | .pair1 => .pair
  | .fst => .fst
  | .snd => .snd
  | .if0 | .if1 | .if2 => .if_
  | .lam => .lam
noncomputable def Op.pos : Op → Nat
  | .add1 | .less1 | .pair1 | .if1 => 1
  | .if2 => 2
  | _ => 0
noncomputable def Op.ex : Op → List Bool
  | .fst | .snd | .lam => []
  | .if0 => [false, false]
  | .if1 | .if2 => [true, false]
  | _ => [false]
inductive Need where
  | any | int | pair | bool
noncomputable def Op.need : Op → Need
  | .pair0 | .pair1 | .lam => .any
  | .fst | .snd => .pair
  | .if0 => .bool
  | _ => .int
noncomputable def Op.node (op : Op) (q L : Nat) : Node := match op with
  | .add0 | .less0 | .pair0 => ⟨op.kd, q, L, 0⟩
  | .add1 | .less1 | .pair1 => ⟨op.kd, L, q, 0⟩
  | .fst | .snd | .lam => ⟨op.kd, q, 0, 0⟩
  | .if0 => ⟨.if_, q, L, (L + 1 : Nat)⟩
  | .if1 => ⟨.if_, L, q, (L + 1 : Nat)⟩
  | .if2 => ⟨.if_, L, (L + 1 : Nat), q⟩
inductive Lit (nodes : List Node) (n : Nat) (b : Bool) : Prop
  | mk (x y z : Int) (h : nodes[n]? = some ⟨if b then .bool else .num, x, y, z⟩) : Lit nodes n b
inductive At (nodes : List Node) (op : Op) (q p : Nat) : Prop
  | mk (L : Nat) (h : nodes[p]? = some (op.node q L)) (k : ∀ i b, op.ex[i]? = some b → Lit nodes (L + i) b) : At nodes op q p
noncomputable def Tr.solid : Tr → Prop
  | .var _ => False
  | .pr a b => a.solid ∧ b.solid
  | _ => True
theorem vB {ρ : Nat → Nat} {t : Tr} (h : t.solid) : ∀ k, t.ren ρ ≠ .var k := by
  induction t with
  | var k => cases h
  | _ => intro k e; cases e
noncomputable def opT (op : Op) (T : Tr) (base : Nat) : Option Tr := match op with
  | .add0 | .add1 | .if1 | .if2 => match T with | .int => some .int | _ => none
  | .less0 | .less1 => match T with | .int => some .bool | _ => none
  | .if0 => match T with | .bool => some .int | _ => none
  | .pair0 => some (.pr T .int)
  | .pair1 => some (.pr .int T)
  | .fst => match T with | .pr a _ => some a | _ => none
  | .snd => match T with | .pr _ b => some b | _ => none
  | .lam => some (.fn (.var base) T)
inductive OpT : Op → Tr → Nat → Tr → Prop
  | add0 {b : Nat} : OpT .add0 .int b .int
  | add1 {b : Nat} : OpT .add1 .int b .int
  | less0 {b : Nat} : OpT .less0 .int b .bool
  | less1 {b : Nat} : OpT .less1 .int b .bool
  | if0 {b : Nat} : OpT .if0 .bool b .int
  | if1 {b : Nat} : OpT .if1 .int b .int
  | if2 {b : Nat} : OpT .if2 .int b .int
  | pair0 {T : Tr} {b : Nat} : OpT .pair0 T b (.pr T .int)
  | pair1 {T : Tr} {b : Nat} : OpT .pair1 T b (.pr .int T)
  | fst {A B : Tr} {b : Nat} : OpT .fst (.pr A B) b A
  | snd {A B : Tr} {b : Nat} : OpT .snd (.pr A B) b B
  | lam {T : Tr} {b : Nat} : OpT .lam T b (.fn (.var b) T)
theorem w9z {op : Op} {T T' : Tr} {b : Nat} (h : opT op T b = some T') : OpT op T b T' := by
  induction op with
  | pair0 => cases h; exact .pair0
  | pair1 => cases h; exact .pair1
  | lam => cases h; exact .lam
  | add0 => cases T <;> first | (cases h; done) | (cases h; exact .add0)
  | add1 => cases T <;> first | (cases h; done) | (cases h; exact .add1)
  | less0 => cases T <;> first | (cases h; done) | (cases h; exact .less0)
  | less1 => cases T <;> first | (cases h; done) | (cases h; exact .less1)
  | if0 => cases T <;> first | (cases h; done) | (cases h; exact .if0)
  | if1 => cases T <;> first | (cases h; done) | (cases h; exact .if1)
  | if2 => cases T <;> first | (cases h; done) | (cases h; exact .if2)
  | fst => cases T <;> first | (cases h; done) | (cases h; exact .fst)
  | snd => cases T <;> first | (cases h; done) | (cases h; exact .snd)
noncomputable def opM (op : Op) (bad : Bool) : Nat := match op.need with
  | .any => 0
  | .pair => if bad then 1 else 3
  | _ => 1
noncomputable def qG (op : Op) (t1 : List Nat) (m : Nat) : List Nat := List.replicate (1 + op.pos) 0 ++ t1 ++ List.replicate (op.ex.length - op.pos) 0 ++ [m]
section
variable {s : Sb} {x y X Y : Tr} {ws : List (Tr × Tr)} {n : Nat} {r : Except Addr Sb} {k : Nat}
theorem Un.putR (hx : x.app s = X) (hl : X.len < 64) (hy : y.app s = .var k) (hn : ∀ j, X ≠ .var j) (ho : X.has k = false) (hk : s.lookup k = none) (h : Un ws (s ++ [(k, X)]) n r) : Un ((x, y) :: ws) s (n + 1) r := by subst hx; exact .bindR k hl hy hn ho hk h
theorem Un.putL (hx : x.app s = .var k) (hy : y.app s = Y) (hl : Y.len < 64) (hn : Y ≠ .var k) (ho : Y.has k = false) (hk : s.lookup k = none) (h : Un ws (s ++ [(k, Y)]) n r) : Un ((x, y) :: ws) s (n + 1) r := by subst hy; exact .bindL k hl hx hn ho hk h
theorem Un.fns {x0 x1 y0 y1 : Tr} (hx : x.app s = .fn x0 x1) (hy : y.app s = .fn y0 y1) (hl : x0.len + x1.len < 63) (hl' : y0.len + y1.len < 63) (hne : Tr.fn x0 x1 ≠ .fn y0 y1) (h : Un ((x0, y0) :: (x1, y1) :: ws) s n r) : Un ((x, y) :: ws) s (n + 1) r :=
  .split true x0 x1 y0 y1 (by rw [hx]; simp only [Tr.len]; omega) (by rw [hy]; simp only [Tr.len]; omega) hx hy (by rw [hx, hy]; exact hne) h
theorem Un.prs {x0 x1 y0 y1 : Tr} (hx : x.app s = .pr x0 x1) (hy : y.app s = .pr y0 y1) (hl : x0.len + x1.len < 63) (hl' : y0.len + y1.len < 63) (hne : Tr.pr x0 x1 ≠ .pr y0 y1) (h : Un ((x0, y0) :: (x1, y1) :: ws) s n r) : Un ((x, y) :: ws) s (n + 1) r :=
  .split false x0 x1 y0 y1 (by rw [hx]; simp only [Tr.len]; omega) (by rw [hy]; simp only [Tr.len]; omega) hx hy (by rw [hx, hy]; exact hne) h
theorem yGz : Un [(.int, .int)] s 1 (.ok s) := .same (by rw [xD]; simp [Tr.len]) rfl .nil
theorem kYz : Un [(.bool, .bool)] s 1 (.ok s) := .same (by rw [vW]; simp [Tr.len]) rfl .nil
theorem un_xi (h : x.app s = .int) : Un [(x, .int)] s 1 (.ok s) := .same (by rw [h]; simp [Tr.len]) (by rw [h, xD]) .nil
theorem un_ix (h : x.app s = .int) : Un [(.int, x)] s 1 (.ok s) := .same (by rw [xD]; simp [Tr.len]) (by rw [h, xD]) .nil
theorem un_xb (h : x.app s = .bool) : Un [(x, .bool)] s 1 (.ok s) := .same (by rw [h]; simp [Tr.len]) (by rw [h, vW]) .nil
theorem kXz (hx : x.app s = X) (hy : y.app s = Y) (hl : X.len < 64) (hl' : Y.len < 64) (hn : ∀ j, X ≠ .var j) (hm : ∀ j, Y ≠ .var j) (hd : X.root ≠ Y.root) : Un ((x, y) :: ws) s 1 (.error x9) := by
  subst hx; subst hy; exact .clash hl hl' hn hm hd
end
theorem q9 {t : Tr} {f k : Nat} (h : t.low f) (hk : f ≤ k) : t.has k = false := by
  cases e : t.has k with
  | false => rfl
  | true => have := h k e; omega
theorem pj_un {s : Sb} {f : Nat} {U A B : Tr} (W : WF s f) (hU : U.low f) (h : U.app s = .pr A B) (hA : ∀ k, A ≠ .var k) (hB : ∀ k, B ≠ .var k) (hl : A.len + B.len < 60) :
    ∃ s2, Un [(U, .pr (.var f) (.var (f + 1)))] s 3 (.ok s2) ∧ WF s2 (f + 2) ∧ (∀ t : Tr, t.low f → t.app s2 = t.app s) ∧ Tr.app s2 (.var f) = A ∧ Tr.app s2 (.var (f + 1)) = B := by
  have hlow : (Tr.pr A B).low f := h ▸ jU W hU
  have hAl : A.low f := fun v hv => hlow v (by simp [Tr.has, hv])
  have hBl : B.low f := fun v hv => hlow v (by simp [Tr.has, hv])
  have hfix := app_app W U
  rw [h, uW] at hfix
  have hfr := W.free U
  rw [h] at hfr
  injection hfix with hAf hBf
  have W2 := W.up (Nat.le_add_right f 2)
  obtain ⟨W3, P3⟩ := jX W2 (k := f) (y := A) (W.out (Nat.le_refl f)) (by omega) (hAl.up (by omega)) (fun v hv => hfr v (by simp [Tr.has, hv])) (q9 hAl (Nat.le_refl _)) (by omega)
  have hf1 : (s ++ [(f, A)]).lookup (f + 1) = none := by rw [xH, W.out (by omega)]; simp
  have hB3 : B.app (s ++ [(f, A)]) = B := by rw [P3, hBf, uB hBl]
  obtain ⟨W4, P4⟩ := jX W3 (k := f + 1) (y := B) hf1 (by omega) (hBl.up (by omega)) (fun v hv => by
    have h1 := hBl v hv
    rw [xH, hfr v (by simp [Tr.has, hv])]; simp; omega) (q9 hBl (by omega)) (by omega)
  have hv0 : Tr.app (s ++ [(f, A)]) (.var f) = A := by rw [P3, W.var (Nat.le_refl f)]; simp [Tr.sub]
  have hv1 : Tr.app (s ++ [(f, A)]) (.var (f + 1)) = .var (f + 1) := by rw [P3, W.var (by omega)]; simp [Tr.sub]
  have hw : Tr.app s (.pr (.var f) (.var (f + 1))) = .pr (.var f) (.var (f + 1)) := by rw [uW, W.var (Nat.le_refl f), W.var (by omega)]
  refine ⟨s ++ [(f, A)] ++ [(f + 1, B)], ?_, W4, fun t ht => ?_, ?_, ?_⟩
  · refine .prs h hw (by omega) (by simp [Tr.len]) (fun e => by injection e with e; exact hA f e) ?_
    refine .putR hAf (by omega) (W.var (Nat.le_refl f)) hA (q9 hAl (Nat.le_refl _)) (W.out (Nat.le_refl f)) ?_
    exact .putR hB3 (by omega) hv1 hB (q9 hBl (by omega)) hf1 .nil
  · rw [P4, P3, uB (jU W ht), uB ((jU W ht).up (by omega))]
  · rw [P4, hv0, uB (hAl.up (by omega))]
  · rw [P4, hv1]; simp [Tr.sub]
section
variable {nodes : List Node} {env : Env} {s : Sb} {f p q : Nat} {T T' : Tr} {t1 tr' : List Nat} {U U' : Tr} {s' : Sb} {f' : Nat} {ρ : Nat → Nat} {op : Op} {base : Nat} {e : Addr}
theorem Ends.same (E : Ends nodes env s f q T t1 U s' f' ρ) (inf' : Inf nodes env s f p tr' (.ok (U', s', f'))) (htr : t1.length ≤ tr'.length) (low' : U'.low f') (is' : U'.app s' = T'.ren ρ) (hs : ∀ v, T'.has v = true → T.has v = true) : Ends nodes env s f p T' tr' U' s' f' ρ :=
  ⟨inf', E.wf, E.le, by have := E.sz; omega, E.keep, low', is', E.fits.sub hs (Nat.le_refl _) (Nat.le_refl _)⟩
theorem op_ok (hl : nodes.length ≤ 10000) (hop : op.kd ≠ .lam) (A : At nodes op q p) (hS : T.solid) (hT : T.len < 40) (H : OkAt nodes env s f q T t1) (hf : f + 64 * t1.length ≤ 50000) (h : opT op T base = some T') : OkAt nodes env s f p T' (qG op t1 (opM op false)) := by
  have lt : ∀ op : Op, t1.length ≤ (qG op t1 (opM op false)).length := fun op => by simp [qG]; omega
  have hO := w9z h
  clear h
  obtain ⟨U, s', f', ρ, E⟩ := H
  have ok := E.wf.ok (by have := E.sz; omega)
  have hU := E.len
  have hE := E.is
  obtain ⟨L, hn, hx⟩ := A
  induction hO with
  | add0 =>
    obtain ⟨_, _, _, hk⟩ := hx 0 false rfl
    exact ⟨.int, s', f', ρ, E.same ((yEz hl hn (.inr (.inl rfl)) rfl E.inf (yV hl hk) (.ar (.inl rfl) (un_xi hE) yGz) ok (by decide) (by omega) (by decide)).cast (by simp [qG, Op.pos, Op.ex, opM, Op.need])) (lt _) (xJ _) xD (by simp [Tr.has])⟩
  | add1 =>
    obtain ⟨_, _, _, hk⟩ := hx 0 false rfl
    exact ⟨.int, s', f', ρ, E.same ((yEz hl hn (.inr (.inl rfl)) rfl (yV hl hk) E.inf (.ar (.inl rfl) yGz (un_xi hE)) ok (by decide) (by decide) (by omega)).cast (by simp [qG, Op.pos, Op.ex, opM, Op.need, List.replicate])) (lt _) (xJ _) xD (by simp [Tr.has])⟩
  | less0 =>
    obtain ⟨_, _, _, hk⟩ := hx 0 false rfl
    exact ⟨.bool, s', f', ρ, E.same ((yEz hl hn (.inr (.inr (.inl rfl))) rfl E.inf (yV hl hk) (.ar (.inr rfl) (un_xi hE) yGz) ok (by decide) (by omega) (by decide)).cast (by simp [qG, Op.pos, Op.ex, opM, Op.need])) (lt _) (v5 _) vW (by simp [Tr.has])⟩
  | less1 =>
    obtain ⟨_, _, _, hk⟩ := hx 0 false rfl
    exact ⟨.bool, s', f', ρ, E.same ((yEz hl hn (.inr (.inr (.inl rfl))) rfl (yV hl hk) E.inf (.ar (.inr rfl) yGz (un_xi hE)) ok (by decide) (by decide) (by omega)).cast (by simp [qG, Op.pos, Op.ex, opM, Op.need, List.replicate])) (lt _) (v5 _) vW (by simp [Tr.has])⟩
  | pair0 =>
    obtain ⟨_, _, _, hk⟩ := hx 0 false rfl
    exact ⟨.pr U .int, s', f', ρ, E.same ((yEz hl hn (.inr (.inr (.inr (.inl rfl)))) rfl E.inf (yV hl hk) .pair ok (by decide) (by omega) (by decide)).cast (by simp [qG, Op.pos, Op.ex, opM, Op.need])) (lt _) (qJ E.low (xJ _)) (by rw [uW, xD, hE]; rfl) (by simp [Tr.has])⟩
  | pair1 =>
    obtain ⟨_, _, _, hk⟩ := hx 0 false rfl
    exact ⟨.pr .int U, s', f', ρ, E.same ((yEz hl hn (.inr (.inr (.inr (.inl rfl)))) rfl (yV hl hk) E.inf .pair ok (by decide) (by decide) (by omega)).cast (by simp [qG, Op.pos, Op.ex, opM, Op.need, List.replicate])) (lt _) (qJ (xJ _) E.low) (by rw [uW, xD, hE]; rfl) (by simp [Tr.has])⟩
  | if0 =>
    obtain ⟨_, _, _, hk⟩ := hx 0 false rfl
    obtain ⟨_, _, _, hk2⟩ := hx 1 false rfl
    exact ⟨.int, s', f', ρ, E.same ((inf3 hl hn (.inr (.inr (.inr (.inr (.inr (.inr rfl)))))) rfl E.inf (yV hl hk) (yV hl hk2) (.if_ (un_xb hE) yGz) ok (by decide) (by omega) (by decide) (by decide)).cast (by simp [qG, Op.pos, Op.ex, opM, Op.need, List.replicate])) (lt _) (xJ _) xD (by simp [Tr.has])⟩
  | if1 =>
    obtain ⟨_, _, _, hk⟩ := hx 0 true rfl
    obtain ⟨_, _, _, hk2⟩ := hx 1 false rfl
    exact ⟨U, s', f', ρ, E.same ((inf3 hl hn (.inr (.inr (.inr (.inr (.inr (.inr rfl)))))) rfl (v6 hl hk) E.inf (yV hl hk2) (.if_ kYz (un_xi hE)) ok (by decide) (by decide) (by omega) (by decide)).cast (by simp [qG, Op.pos, Op.ex, opM, Op.need, List.replicate])) (lt _) E.low hE (by simp [Tr.has])⟩
  | if2 =>
    obtain ⟨_, _, _, hk⟩ := hx 0 true rfl
    obtain ⟨_, _, _, hk2⟩ := hx 1 false rfl
    exact ⟨.int, s', f', ρ, E.same ((inf3 hl hn (.inr (.inr (.inr (.inr (.inr (.inr rfl)))))) rfl (v6 hl hk) (yV hl hk2) E.inf (.if_ kYz (un_ix hE)) ok (by decide) (by decide) (by decide) (by omega)).cast (by simp [qG, Op.pos, Op.ex, opM, Op.need, List.replicate])) (lt _) (xJ _) xD (by simp [Tr.has])⟩
  | @fst T' b _ =>
    have hlen : (T'.ren ρ).len + (b.ren ρ).len < 60 := by rw [xS, xS]; simp only [Tr.len] at hT; omega
    obtain ⟨s2, h1, h2, h3, h4, h5⟩ := pj_un E.wf E.low hE (vB hS.1) (vB hS.2) hlen
    refine ⟨.var f', s2, f' + 2, ρ, (inf1 hl hn (.inr (.inr (.inr (.inr (.inl rfl))))) rfl E.inf (.pj (.inl rfl) h1) ok (by decide) (by omega)).cast (by simp [qG, Op.pos, Op.ex, opM, Op.need]), h2, by have := E.le; omega, by have := E.sz; have := lt .fst; simp only [qG, List.length_append, List.length_cons, List.length_nil] at *; omega, fun t ht => ?_, y7 (by omega), h4, E.fits.sub (fun v hv => by simp [Tr.has, hv]) (Nat.le_refl _) (by omega)⟩
    rw [h3 t (ht.up E.le), E.keep t ht]
  | @snd b T' _ =>
    have hlen : (b.ren ρ).len + (T'.ren ρ).len < 60 := by rw [xS, xS]; simp only [Tr.len] at hT; omega
    obtain ⟨s2, h1, h2, h3, h4, h5⟩ := pj_un E.wf E.low hE (vB hS.1) (vB hS.2) hlen
    refine ⟨.var (f' + 1), s2, f' + 2, ρ, (inf1 hl hn (.inr (.inr (.inr (.inr (.inr (.inl rfl)))))) rfl E.inf (.pj (.inr rfl) h1) ok (by decide) (by omega)).cast (by simp [qG, Op.pos, Op.ex, opM, Op.need]), h2, by have := E.le; omega, by have := E.sz; have := lt .snd; simp only [qG, List.length_append, List.length_cons, List.length_nil] at *; omega, fun t ht => ?_, y7 (by omega), h5, E.fits.sub (fun v hv => by simp [Tr.has, hv]) (Nat.le_refl _) (by omega)⟩
    rw [h3 t (ht.up E.le), E.keep t ht]
  | lam => exact absurd rfl hop
end
section
variable {nodes : List Node} {env : Env} {s : Sb} {f p q : Nat} {T T' : Tr} {t1 tr' : List Nat} {U U' : Tr} {s' : Sb} {f' : Nat} {ρ : Nat → Nat} {op : Op} {base : Nat} {e : Addr}
noncomputable def w2z (T : Tr) : It := match T with
  | .int => .int
  | .bool => .bool
  | .var _ => .int
  | .fn _ _ => .fn
  | .pr _ _ => .pr
theorem yNz (hS : T.solid) : (T.ren ρ).root = w2z T := by cases T <;> first | rfl | cases hS
theorem jGz (hE : U.app s' = T.ren ρ) (hS : T.solid) (hT : T.len < 40) (hr : w2z T ≠ .int) : Un [(U, .int)] s' 1 (.error x9) :=
  kXz hE xD (by rw [xS]; omega) (by decide) (vB hS) (fun j e => by cases e) (by rw [yNz hS]; exact hr)
theorem un_noI' (hE : U.app s' = T.ren ρ) (hS : T.solid) (hT : T.len < 40) (hr : w2z T ≠ .int) : Un [(.int, U)] s' 1 (.error x9) :=
  kXz xD hE (by decide) (by rw [xS]; omega) (fun j e => by cases e) (vB hS) (by rw [yNz hS]; exact hr.symm)
theorem un_noB (hE : U.app s' = T.ren ρ) (hS : T.solid) (hT : T.len < 40) (hr : w2z T ≠ .bool) : Un [(U, .bool)] s' 1 (.error x9) :=
  kXz hE vW (by rw [xS]; omega) (by decide) (vB hS) (fun j e => by cases e) (by rw [yNz hS]; exact hr)
theorem un_noP {a b : Tr} (hE : U.app s' = T.ren ρ) (hS : T.solid) (hT : T.len < 40) (hr : w2z T ≠ .pr) (hab : (a.app s').len + (b.app s').len < 60) : Un [(U, .pr a b)] s' 1 (.error x9) :=
  kXz hE (uW a b) (by rw [xS]; omega) (by simp only [Tr.len]; omega) (vB hS) (fun j e => by cases e) (by rw [yNz hS]; exact hr)
noncomputable def needRt : Op → It
  | .fst | .snd => .pr
  | .if0 => .bool
  | _ => .int
theorem zJq {op : Op} {T : Tr} {b : Nat} (h : opT op T b = none) (hS : T.solid) : w2z T ≠ needRt op := by
  intro e
  induction op with
  | pair0 => cases h
  | pair1 => cases h
  | lam => cases h
  | _ => cases T <;> first | (cases e; done) | (cases h; done) | (cases hS; done)
theorem op_bad (hl : nodes.length ≤ 10000) (A : At nodes op q p) (hS : T.solid) (hT : T.len < 40) (H : OkAt nodes env s f q T t1) (hf : f + 64 * t1.length ≤ 50000) (h : opT op T base = none) : Inf nodes env s f p (qG op t1 (opM op true)) (.error x9) := by
  obtain ⟨L, hn, hx⟩ := A
  obtain ⟨U, s', f', ρ, E⟩ := H
  have ok := E.wf.ok (by have := E.sz; omega)
  have hU := E.len
  have hE := E.is
  have hr := zJq h hS
  induction op with
  | add0 =>
    obtain ⟨_, _, _, hk⟩ := hx 0 false rfl
    exact (yEz hl hn (.inr (.inl rfl)) rfl E.inf (yV hl hk) (.arE1 (.inl rfl) (jGz hE hS hT hr)) ok (by decide) (by omega) (by decide)).cast (by simp [qG, Op.pos, Op.ex, opM, Op.need])
  | add1 =>
    obtain ⟨_, _, _, hk⟩ := hx 0 false rfl
    exact (yEz hl hn (.inr (.inl rfl)) rfl (yV hl hk) E.inf (.arE2 (.inl rfl) yGz (jGz hE hS hT hr)) ok (by decide) (by decide) (by omega)).cast (by simp [qG, Op.pos, Op.ex, opM, Op.need, List.replicate])
  | less0 =>
    obtain ⟨_, _, _, hk⟩ := hx 0 false rfl
    exact (yEz hl hn (.inr (.inr (.inl rfl))) rfl E.inf (yV hl hk) (.arE1 (.inr rfl) (jGz hE hS hT hr)) ok (by decide) (by omega) (by decide)).cast (by simp [qG, Op.pos, Op.ex, opM, Op.need])
  | less1 =>
    obtain ⟨_, _, _, hk⟩ := hx 0 false rfl
    exact (yEz hl hn (.inr (.inr (.inl rfl))) rfl (yV hl hk) E.inf (.arE2 (.inr rfl) yGz (jGz hE hS hT hr)) ok (by decide) (by decide) (by omega)).cast (by simp [qG, Op.pos, Op.ex, opM, Op.need, List.replicate])
  | pair0 => cases h
  | pair1 => cases h
  | if0 =>
    obtain ⟨_, _, _, hk⟩ := hx 0 false rfl
    obtain ⟨_, _, _, hk2⟩ := hx 1 false rfl
    exact (inf3 hl hn (.inr (.inr (.inr (.inr (.inr (.inr rfl)))))) rfl E.inf (yV hl hk) (yV hl hk2) (.ifE1 (un_noB hE hS hT hr)) ok (by decide) (by omega) (by decide) (by decide)).cast (by simp [qG, Op.pos, Op.ex, opM, Op.need, List.replicate])
  | if1 =>
    obtain ⟨_, _, _, hk⟩ := hx 0 true rfl
    obtain ⟨_, _, _, hk2⟩ := hx 1 false rfl
    exact (inf3 hl hn (.inr (.inr (.inr (.inr (.inr (.inr rfl)))))) rfl (v6 hl hk) E.inf (yV hl hk2) (.ifE2 kYz (jGz hE hS hT hr)) ok (by decide) (by decide) (by omega) (by decide)).cast (by simp [qG, Op.pos, Op.ex, opM, Op.need, List.replicate])
  | if2 =>
    obtain ⟨_, _, _, hk⟩ := hx 0 true rfl
    obtain ⟨_, _, _, hk2⟩ := hx 1 false rfl
    exact (inf3 hl hn (.inr (.inr (.inr (.inr (.inr (.inr rfl)))))) rfl (v6 hl hk) (yV hl hk2) E.inf (.ifE2 kYz (un_noI' hE hS hT hr)) ok (by decide) (by decide) (by decide) (by omega)).cast (by simp [qG, Op.pos, Op.ex, opM, Op.need, List.replicate])
  | fst =>
    exact (inf1 hl hn (.inr (.inr (.inr (.inr (.inl rfl))))) rfl E.inf (.pjE (.inl rfl) (un_noP hE hS hT hr (by rw [E.wf.var (Nat.le_refl _), E.wf.var (by omega)]; simp [Tr.len]))) ok (by decide) (by omega)).cast (by simp [qG, Op.pos, Op.ex, opM, Op.need])
  | snd =>
    exact (inf1 hl hn (.inr (.inr (.inr (.inr (.inr (.inl rfl)))))) rfl E.inf (.pjE (.inr rfl) (un_noP hE hS hT hr (by rw [E.wf.var (Nat.le_refl _), E.wf.var (by omega)]; simp [Tr.len]))) ok (by decide) (by omega)).cast (by simp [qG, Op.pos, Op.ex, opM, Op.need])
  | lam => cases h
noncomputable def hWz (op : Op) (t1 : List Nat) : List Nat := List.replicate (1 + op.pos) 0 ++ t1
theorem op_err (hl : nodes.length ≤ 10000) (hop : op.kd ≠ .lam) (A : At nodes op q p) (H : Inf nodes env s f q t1 (.error e)) : Inf nodes env s f p (hWz op t1) (.error e) := by
  obtain ⟨L, hn, hx⟩ := A
  induction op with
  | add0 => exact (hDz (l := [L]) hl hn (.inr (.inl rfl)) rfl (by simp) H).cast (by simp [hWz, Op.pos])
  | less0 => exact (hDz (l := [L]) hl hn (.inr (.inr (.inl rfl))) rfl (by simp) H).cast (by simp [hWz, Op.pos])
  | pair0 => exact (hDz (l := [L]) hl hn (.inr (.inr (.inr (.inl rfl)))) rfl (by simp) H).cast (by simp [hWz, Op.pos])
  | fst => exact (hDz (l := []) hl hn (.inr (.inr (.inr (.inr (.inl rfl))))) rfl (by simp) H).cast (by simp [hWz, Op.pos])
  | snd => exact (hDz (l := []) hl hn (.inr (.inr (.inr (.inr (.inr (.inl rfl)))))) rfl (by simp) H).cast (by simp [hWz, Op.pos])
  | if0 => exact (hDz (l := [L, L + 1]) hl hn (.inr (.inr (.inr (.inr (.inr (.inr rfl)))))) rfl (by simp) H).cast (by simp [hWz, Op.pos])
  | add1 =>
    obtain ⟨_, _, _, hk⟩ := hx 0 false rfl
    exact (z2q (l := []) hl hn (.inr (.inl rfl)) rfl (by simp) (yV hl hk) H).cast (by simp [hWz, Op.pos, List.replicate])
  | less1 =>
    obtain ⟨_, _, _, hk⟩ := hx 0 false rfl
    exact (z2q (l := []) hl hn (.inr (.inr (.inl rfl))) rfl (by simp) (yV hl hk) H).cast (by simp [hWz, Op.pos, List.replicate])
  | pair1 =>
    obtain ⟨_, _, _, hk⟩ := hx 0 false rfl
    exact (z2q (l := []) hl hn (.inr (.inr (.inr (.inl rfl)))) rfl (by simp) (yV hl hk) H).cast (by simp [hWz, Op.pos, List.replicate])
  | if1 =>
    obtain ⟨_, _, _, hk⟩ := hx 0 true rfl
    exact (z2q (l := [L + 1]) hl hn (.inr (.inr (.inr (.inr (.inr (.inr rfl)))))) rfl (by simp) (v6 hl hk) H).cast (by simp [hWz, Op.pos, List.replicate])
  | if2 =>
    obtain ⟨_, _, _, hk⟩ := hx 0 true rfl
    obtain ⟨_, _, _, hk2⟩ := hx 1 false rfl
    exact (inf3E hl hn (.inr (.inr (.inr (.inr (.inr (.inr rfl)))))) rfl (v6 hl hk) (yV hl hk2) H).cast (by simp [hWz, Op.pos, List.replicate])
  | lam => exact absurd rfl hop
theorem zAq {x g h : Nat} (F : Fits ρ T f f') (hg : g ≤ x) (hx : x < f) (hxh : x < h) (hh : f' ≤ h) : Fits (fun v => if v = base then x else ρ v) (.fn (.var base) T) g h := by
  have key : ∀ v, (Tr.fn (.var base) T).has v = true → v ≠ base → T.has v = true := fun v hv hne => by
    simp only [Tr.has, Bool.or_eq_true, beq_iff_eq] at hv
    rcases hv with h | h
    · exact absurd h.symm hne
    · exact h
  refine ⟨fun v hv => ?_, fun v w hv hw => ?_⟩
  · show g ≤ (if v = base then x else ρ v) ∧ (if v = base then x else ρ v) < h
    split
    · exact ⟨hg, hxh⟩
    · rename_i hne
      have := F.rng v (key v hv hne)
      omega
  · show (if v = base then x else ρ v) = (if w = base then x else ρ w) → v = w
    split
    · rename_i h1
      split
      · rename_i h2; intro _; rw [h1, h2]
      · rename_i h2; intro h3; have := F.rng w (key w hw h2); omega
    · rename_i h1
      split
      · rename_i h2; intro h3; have := F.rng v (key v hv h1); omega
      · rename_i h2; exact F.inj v w (key v hv h1) (key w hw h2)
theorem op_lam (hl : nodes.length ≤ 10000) (A : At nodes .lam q p) (hel : env.length ≤ 1000) (W : WF s f) (hT : T.len < 40) (hb : T.has base = false) (H : OkAt nodes (([], .var f) :: env) s (f + 1) q T t1) (hf : f + 64 * t1.length ≤ 50000) : OkAt nodes env s f p (.fn (.var base) T) (qG .lam t1 0) := by
  obtain ⟨L, hn, _⟩ := A
  obtain ⟨U, s', f', ρ, E⟩ := H
  have ok := E.wf.ok (by have := E.sz; omega)
  have hU := E.len
  have hle := E.le
  have hv : Tr.app s' (.var f) = .var f := by rw [E.keep _ (y7 (by omega)), W.var (Nat.le_refl _)]
  have hc : T.ren ρ = T.ren (fun v => if v = base then f else ρ v) := q6 fun v hv => by
    rw [if_neg]; rintro rfl; rw [hb] at hv; cases hv
  refine ⟨.fn (.var f) U, s', f', fun v => if v = base then f else ρ v, (jR hl hn hel E.inf ok (by omega)).cast (by simp [qG, Op.pos, Op.ex]), E.wf, by omega, ?_, fun t ht => E.keep t (ht.up (by omega)), uU (y7 (by omega)) E.low, ?_, zAq E.fits (Nat.le_refl _) (by omega) (by omega) (Nat.le_refl _)⟩
  · have := E.sz; simp only [qG, List.length_append, List.length_cons, List.length_nil, List.length_replicate, Op.pos, Op.ex]; omega
  · rw [vP, hv, E.is, hc]; simp [Tr.ren]
theorem op_lamE (hl : nodes.length ≤ 10000) (A : At nodes .lam q p) (hel : env.length ≤ 1000) (H : Inf nodes (([], .var f) :: env) s (f + 1) q t1 (.error e)) : Inf nodes env s f p (hWz .lam t1) (.error e) := by
  obtain ⟨L, hn, _⟩ := A
  exact (wPz hl hn hel H).cast (by simp [hWz, Op.pos])
end
theorem w4z : ∀ (vs : List Nat) (g v : Nat), (xJz vs g).lookup v = if v ∈ vs then some (.var (g + vs.idxOf v)) else none
  | [], g, v => by simp [xJz]
  | w :: r, g, v => by
    have ih := w4z r (g + 1) v
    show List.lookup v ((w, Tr.var g) :: xJz r (g + 1)) = _
    rw [List.lookup_cons, ih]
    by_cases h : v = w
    · subst h; simp
    · rw [show (v == w) = false from by simpa using h]
      simp only [List.mem_cons, h, false_or]
      split
      · rw [List.idxOf_cons]
        simp [show (w == v) = false from by simpa using fun e : w = v => h e.symm]; omega
      · rfl
theorem kZ {vs : List Nat} {g : Nat} {ρ : Nat → Nat} : ∀ {T : Tr}, (∀ v, T.has v = true → ρ v ∈ vs) → (T.ren ρ).once (xJz vs g) = T.ren fun v => g + vs.idxOf (ρ v)
  | .int, _ => rfl
  | .bool, _ => rfl
  | .var k, h => by simp only [Tr.ren, Tr.once]; rw [w4z, if_pos (h k (by simp [Tr.has]))]; rfl
  | .fn a b, h => by simp only [Tr.ren, Tr.once]; rw [kZ (T := a) fun v hv => h v (by simp [Tr.has, hv]), kZ (T := b) fun v hv => h v (by simp [Tr.has, hv])]
  | .pr a b, h => by simp only [Tr.ren, Tr.once]; rw [kZ (T := a) fun v hv => h v (by simp [Tr.has, hv]), kZ (T := b) fun v hv => h v (by simp [Tr.has, hv])]
theorem idxOf_inj {vs : List Nat} {a b : Nat} (ha : a ∈ vs) (hb : b ∈ vs) (h : vs.idxOf a = vs.idxOf b) : a = b := by
  have h1 := List.getElem_idxOf (List.idxOf_lt_length_of_mem ha)
  have h2 := List.getElem_idxOf (List.idxOf_lt_length_of_mem hb)
  rw [← h1, ← h2]
  simp [h]
structure Whole (k : Sch) (T : Tr) (ρ : Nat → Nat) : Prop where
  ty : k.2 = T.ren ρ
  dup : k.1.Nodup
  mem : ∀ v, T.has v = true → ρ v ∈ k.1
  len : k.1.length ≤ T.len
  inj : ∀ v w, T.has v = true → T.has w = true → ρ v = ρ w → v = w
section
variable {nodes : List Node} {env : Env} {s : Sb} {f p q : Nat} {T T' : Tr} {t1 t2 tr' : List Nat} {U U' : Tr} {s' : Sb} {f' : Nat} {ρ : Nat → Nat} {op : Op} {base : Nat} {e : Addr} {k : Sch}
theorem jRz {i : Nat} {y z : Int} (hl : nodes.length ≤ 10000) (hn : nodes[q]? = some ⟨.ref, i, y, z⟩) (he : env[i]? = some k) (hel : env.length ≤ 1000) (K : Whole k T ρ) (hT : T.len < 40) (W : WF s f) : OkAt nodes env s f q T [0] := by
  have hlen := K.len
  have h2 : k.2.len ≤ 64 := by rw [K.ty, xS]; omega
  have hi := qXz (s := s) (f := f) hl hn he hel K.dup (by omega) h2
  rw [K.ty, kZ K.mem] at hi
  have hr : ∀ v, T.has v = true → f ≤ f + k.1.idxOf (ρ v) ∧ f + k.1.idxOf (ρ v) < f + k.1.length := fun v hv => by
    have := List.idxOf_lt_length_of_mem (K.mem v hv); omega
  refine ⟨_, s, f + k.1.length, fun v => f + k.1.idxOf (ρ v), hi, W.up (by omega), by omega, by simp; omega, fun t _ => rfl, fun v hv => ?_, ?_, ⟨hr, fun v w hv hw e => ?_⟩⟩
  · obtain ⟨j, h1, rfl⟩ := (jP T).mp hv
    exact (hr j h1).2
  · refine z9z fun v hv => ?_
    obtain ⟨j, h1, rfl⟩ := (jP T).mp hv
    exact W.out (hr j h1).1
  · exact K.inj v w hv hw (idxOf_inj (K.mem v hv) (K.mem w hw) (by simpa using e))
theorem y6z (C : Ctx env s f) (E : Ends nodes env s f q T t1 U s' f' ρ) : Whole (jB s' env U) T ρ := by
  have hfil : (U.app s').vars.filter (fun v => !(qQ s' env).contains v) = (U.app s').vars := by
    rw [List.filter_eq_self]
    intro v hv
    obtain ⟨n, rfl, hn⟩ := (kA v _).mp hv
    rw [E.is] at hn
    obtain ⟨j, hj, rfl⟩ := (jP T).mp hn
    have h1 := (E.fits.rng j hj).1
    cases hc : (qQ s' env).contains ((ρ j : Nat) : Int) with
    | false => rfl
    | true =>
      rw [List.contains_iff_mem] at hc
      simp only [qQ, List.mem_flatMap] at hc
      obtain ⟨c, hc1, hc2⟩ := hc
      have h2 := (List.mem_filter.mp hc2).1
      obtain ⟨m, h3, h4⟩ := (kA _ _).mp h2
      obtain ⟨h5, _⟩ := C.env c hc1
      rw [E.keep _ h5] at h4
      have := jU C.wf h5 m h4
      omega
  have hk1 : (jB s' env U).1 = (U.app s').vars.map Int.toNat := by unfold jB; rw [hfil]
  refine ⟨E.is, ?_, fun v hv => ?_, ?_, E.fits.inj⟩
  · rw [hk1]
    have h1 : (wX ((U.app s').vars.map Int.toNat)).Nodup := by
      rw [uWz fun v hv => by obtain ⟨n, h, _⟩ := (kA v _).mp hv; exact ⟨n, h⟩]
      exact zSq _
    unfold wX at h1
    exact List.Pairwise.of_map _ (fun a b h e => h (by rw [e])) h1
  · rw [hk1]
    refine List.mem_map.mpr ⟨((ρ v : Nat) : Int), (kA _ _).mpr ⟨ρ v, rfl, ?_⟩, by simp⟩
    rw [E.is]
    exact (jP T).mpr ⟨v, hv, rfl⟩
  · rw [hk1, List.length_map]
    have := wIz (U.app s')
    rw [E.is, xS] at this
    rw [E.is]; exact this
theorem q5z (C : Ctx env s f) (E : Ends nodes env s f q T t1 U s' f' ρ) : ∀ c ∈ env, c.2.low f' ∧ (c.2.app s').len < 64 := fun c hc => by
  obtain ⟨h1, h2⟩ := C.env c hc
  exact ⟨h1.up E.le, by rw [E.keep _ h1]; exact h2⟩
structure Body (nodes : List Node) (op : Op) (q2 body : Nat) : Prop where
  ref : ∃ y z, nodes[q2]? = some ⟨.ref, ((if op.kd.str == "lam" then 1 else 0 : Nat) : Int), y, z⟩
  at_ : At nodes op q2 body
theorem isLam (op : Op) : (op.kd.str == "lam") = true ↔ op.kd = .lam := by cases op <;> simp [Op.kd, Kd.str]
theorem j0z {op : Op} (h : op.kd = .lam) : op = .lam := by cases op <;> first | rfl | cases h
theorem road1_ok {q2 body : Nat} {z : Int} (hl : nodes.length ≤ 10000) (C : Ctx env s f) (hel : env.length + 2 ≤ 1000) (hn : nodes[p]? = some ⟨.let_, q, body, z⟩) (B : Body nodes op q2 body) (hS : T.solid) (hT : T.len < 40) (hb : T.has base = false) (H : OkAt nodes env s f q T t1) (hf : f + 64 * (t1.length + 4) ≤ 50000) (h : opT op T base = some T') :
    OkAt nodes env s f p T' (0 :: (t1 ++ 0 :: qG op [0] (opM op false))) := by
  obtain ⟨U, s', f', ρ, E⟩ := H
  have K := y6z C E
  have hsz := E.sz
  have ok := E.wf.ok (by omega)
  obtain ⟨y, z', hr⟩ := B.ref
  have H2 : OkAt nodes (jB s' env U :: env) s' f' body T' (qG op [0] (opM op false)) := by
    by_cases hop : op.kd = .lam
    · obtain rfl := j0z hop
      cases h
      exact op_lam hl B.at_ (by simp only [List.length_cons]; omega) E.wf hT hb (jRz (k := jB s' env U) hl hr rfl (by simp only [List.length_cons]; omega) K hT (E.wf.up (by omega))) (by simp only [List.length_cons, List.length_nil]; omega)
    · have hz : (op.kd.str == "lam") = false := by
        cases e : op.kd.str == "lam" with
        | false => rfl
        | true => exact absurd ((isLam op).mp e) hop
      rw [hz] at hr
      exact op_ok hl hop B.at_ hS hT (jRz (k := jB s' env U) hl hr rfl (by simp only [List.length_cons]; omega) K hT E.wf) (by simp only [List.length_cons, List.length_nil]; omega) h
  obtain ⟨U2, s2, f2, ρ2, E2⟩ := H2
  have hle := E.le
  have hle2 := E2.le
  have hsz2 := E2.sz
  refine ⟨U2, s2, f2, ρ2, qYz hl hn (by omega) E.inf ok (by rw [E.is, xS]; omega) (fun c hc => (q5z C E c hc).2) E2.inf, E2.wf, by omega, ?_, fun t ht => ?_, E2.low, E2.is, E2.fits.sub (fun v hv => hv) hle (Nat.le_refl _)⟩
  · simp only [List.length_cons, List.length_append]; omega
  · rw [E2.keep t (ht.up hle), E.keep t ht]
theorem road1_bad {q2 body : Nat} {z : Int} (hl : nodes.length ≤ 10000) (C : Ctx env s f) (hel : env.length + 2 ≤ 1000) (hn : nodes[p]? = some ⟨.let_, q, body, z⟩) (B : Body nodes op q2 body) (hS : T.solid) (hT : T.len < 40) (H : OkAt nodes env s f q T t1) (hf : f + 64 * (t1.length + 4) ≤ 50000) (h : opT op T base = none) :
    Inf nodes env s f p (0 :: (t1 ++ 0 :: qG op [0] (opM op true))) (.error x9) := by
  obtain ⟨U, s', f', ρ, E⟩ := H
  have K := y6z C E
  have hsz := E.sz
  have ok := E.wf.ok (by omega)
  obtain ⟨y, z', hr⟩ := B.ref
  have hz : (op.kd.str == "lam") = false := by
    induction op with
    | lam => cases h
    | _ => decide
  rw [hz] at hr
  exact qYz hl hn (by omega) E.inf ok (by rw [E.is, xS]; omega) (fun c hc => (q5z C E c hc).2) (op_bad hl B.at_ hS hT (jRz (k := jB s' env U) hl hr rfl (by simp only [List.length_cons]; omega) K hT E.wf) (by simp only [List.length_cons, List.length_nil]; omega) h)
end
section
variable {s : Sb} {f x : Nat} {R U P Q T : Tr}
theorem kN (W : WF s f) {t u : Tr} (h : t.app s = u) : u.app s = u := by rw [← h]; exact app_app W t
theorem callB (W : WF s f) (hx : Tr.app s (.var x) = T) (hR : R.app s = Q) (hU : U.app s = T) (hQ : ∀ k, Q ≠ .var k) (hQl : Q.low f) (hl : T.len + Q.len < 60) (hkeep : ∀ t : Tr, t.low x → (t.app s).low x) (hxf : x < f) :
    ∃ s3, Un [(.fn (.var x) R, .fn U (.var f))] s 3 (.ok s3) ∧ WF s3 (f + 1) ∧ (∀ t : Tr, t.low x → t.app s3 = t.app s) ∧ Tr.app s3 (.var f) = Q := by
  have hQQ := kN W hR
  have hTT := kN W hU
  have hp := kI T
  have hfr := W.free R
  rw [hR] at hfr
  obtain ⟨W3, P3⟩ := jX (W.up (Nat.le_succ f)) (k := f) (y := Q) (W.out (Nat.le_refl f)) (by omega) (hQl.up (by omega)) hfr (q9 hQl (Nat.le_refl _)) (by omega)
  refine ⟨s ++ [(f, Q)], ?_, W3, fun t ht => ?_, ?_⟩
  · refine .fns (x0 := T) (x1 := Q) (y0 := T) (y1 := .var f) (by rw [vP, hx, hR]) (by rw [vP, hU, W.var (Nat.le_refl f)]) (by omega) (by simp only [Tr.len]; omega) (fun e => by injection e with _ e; exact hQ f e) ?_
    refine .same (by rw [hTT]; omega) rfl ?_
    exact .putR hQQ (by omega) (W.var (Nat.le_refl f)) hQ (q9 hQl (Nat.le_refl _)) (W.out (Nat.le_refl f)) .nil
  · rw [P3, uB ((hkeep t ht).up (by omega))]
  · rw [P3, W.var (Nat.le_refl f)]; simp [Tr.sub]
theorem callA (W : WF s f) (hx : Tr.app s (.var x) = .var x) (hR : R.app s = Q) (hU : U.app s = T) (hQ : ∀ k, Q.sub x T ≠ .var k) (hQl : Q.low f) (hTl : T.low f) (hTx : T.has x = false) (hTn : ∀ k, T ≠ .var k) (hl : T.len + Q.len < 60) (hl2 : (Q.sub x T).len < 64) (hkeep : ∀ t : Tr, t.low x → (t.app s).low x) (hxf : x < f) (hQn : Q ≠ .var f) (hs : ∀ v, (Q.sub x T).has v = true → (Q.has v = true ∧ v ≠ x) ∨ T.has v = true) :
    ∃ s3, Un [(.fn (.var x) R, .fn U (.var f))] s 3 (.ok s3) ∧ WF s3 (f + 1) ∧ (∀ t : Tr, t.low x → t.app s3 = t.app s) ∧ Tr.app s3 (.var f) = Q.sub x T := by
  have hQQ := kN W hR
  have hTT := kN W hU
  have hp := kI T
  have hfr := W.free R
  rw [hR] at hfr
  have hfT := W.free U
  rw [hU] at hfT
  have hxn : s.lookup x = none := W.free (.var x) x (by rw [hx]; simp [Tr.has])
  have hZl : (Q.sub x T).low f := fun v hv => by
    rcases hs v hv with h | h
    · exact hQl v h.1
    · exact hTl v h
  obtain ⟨W3, P3⟩ := jX (W.up (Nat.le_succ f)) (k := x) (y := T) hxn (by omega) (hTl.up (by omega)) hfT hTx (by omega)
  have hf3 : (s ++ [(x, T)]).lookup f = none := by rw [xH, W.out (Nat.le_refl f)]; simp; omega
  have hQ3 : Q.app (s ++ [(x, T)]) = Q.sub x T := by rw [P3, hQQ]
  have hv3 : Tr.app (s ++ [(x, T)]) (.var f) = .var f := by rw [P3, W.var (Nat.le_refl f)]; simp [Tr.sub]; omega
  obtain ⟨W4, P4⟩ := jX W3 (k := f) (y := Q.sub x T) hf3 (by omega) (hZl.up (by omega)) (fun v hv => by
    rw [xH]
    rcases hs v hv with h | h
    · rw [hfr v h.1]; simp [h.2]
    · rw [hfT v h]; simp; rintro rfl; rw [hTx] at h; cases h) (q9 hZl (Nat.le_refl _)) hl2
  refine ⟨s ++ [(x, T)] ++ [(f, Q.sub x T)], ?_, W4, fun t ht => ?_, ?_⟩
  · refine .fns (x0 := .var x) (x1 := Q) (y0 := T) (y1 := .var f) (by rw [vP, hx, hR]) (by rw [vP, hU, W.var (Nat.le_refl f)]) (by simp only [Tr.len]; omega) (by simp only [Tr.len]; omega) (fun e => by injection e with _ e; exact hQn e) ?_
    refine .putL hx hTT (by omega) (hTn x) hTx hxn ?_
    exact .putR hQ3 hl2 hv3 hQ (q9 hZl (Nat.le_refl _)) hf3 .nil
  · rw [P4, P3, uB (hkeep t ht), uB ((hkeep t ht).up (by omega))]
  · rw [P4, hv3]; simp [Tr.sub]
theorem callE (W : WF s f) (hx : Tr.app s (.var x) = P) (hR : R.app s = Q) (hU : U.app s = T) (hPn : ∀ k, P ≠ .var k) (hTn : ∀ k, T ≠ .var k) (hr : P.root ≠ T.root) (hl : T.len < 40) (hl2 : P.len + Q.len < 20) : Un [(.fn (.var x) R, .fn U (.var f))] s 2 (.error x9) := by
  have hPP := kN W hx
  have hTT := kN W hU
  refine .fns (x0 := P) (x1 := Q) (y0 := T) (y1 := .var f) (by rw [vP, hx, hR]) (by rw [vP, hU, W.var (Nat.le_refl f)]) (by omega) (by simp only [Tr.len]; omega) (fun e => by injection e with e _; exact hr (by rw [e])) ?_
  exact kXz hPP hTT (by omega) (by omega) hPn hTn hr
theorem callC' {g h : Nat} {A B : Tr} {z : Bool} (W : WF s f) (hx : Tr.app s (.var x) = .pr (.var g) (.var h)) (hR : R.app s = .var (if z then g else h)) (hU : U.app s = .pr A B) (hA : ∀ k, A ≠ .var k) (hB : ∀ k, B ≠ .var k) (hAl : A.low f) (hBl : B.low f) (hgx : x ≤ g) (hgh : g < h) (hhf : h < f) (hAg : A.has g = false) (hAh : A.has h = false) (hBg : B.has g = false) (hBh : B.has h = false) (hl : A.len + B.len < 60) (hkeep : ∀ t : Tr, t.low x → (t.app s).low x) :
    ∃ s3, Un [(.fn (.var x) R, .fn U (.var f))] s 5 (.ok s3) ∧ WF s3 (f + 1) ∧ (∀ t : Tr, t.low x → t.app s3 = t.app s) ∧ Tr.app s3 (.var f) = if z then A else B := by
  have hfix := kN W hU
  rw [uW] at hfix
  injection hfix with hAA hBB
  have hfU := W.free U
  rw [hU] at hfU
  have hfx := W.free (.var x)
  rw [hx] at hfx
  have hg : s.lookup g = none := hfx g (by simp [Tr.has])
  have hh : s.lookup h = none := hfx h (by simp [Tr.has])
  have hpg := vO hg
  have hph := vO hh
  obtain ⟨W3, P3⟩ := jX (W.up (Nat.le_succ f)) (k := g) (y := A) hg (by omega) (hAl.up (by omega)) (fun v hv => hfU v (by simp [Tr.has, hv])) hAg (by omega)
  have hh3 : (s ++ [(g, A)]).lookup h = none := by rw [xH, hh]; simp; omega
  have hph3 : Tr.app (s ++ [(g, A)]) (.var h) = .var h := by rw [P3, hph]; simp [Tr.sub]; omega
  have hBB3 : B.app (s ++ [(g, A)]) = B := by rw [P3, hBB, kC B hBg]
  have hv3 : Tr.app (s ++ [(g, A)]) (.var f) = .var f := by rw [P3, W.var (Nat.le_refl f)]; simp [Tr.sub]; omega
  obtain ⟨W4, P4⟩ := jX W3 (k := h) (y := B) hh3 (by omega) (hBl.up (by omega)) (fun v hv => by
    rw [xH, hfU v (by simp [Tr.has, hv])]; simp; rintro rfl; rw [hBg] at hv; cases hv) hBh (by omega)
  have hv4 : Tr.app (s ++ [(g, A)] ++ [(h, B)]) (.var f) = .var f := by rw [P4, hv3]; simp [Tr.sub]; omega
  have hf4 : (s ++ [(g, A)] ++ [(h, B)]).lookup f = none := by rw [xH, xH, W.out (Nat.le_refl f)]; simp; omega
  have hZ : Tr.app (s ++ [(g, A)] ++ [(h, B)]) (.var (if z then g else h)) = if z then A else B := by
    induction z with
    | true => rw [P4, P3]; simp only [↓reduceIte]; rw [hpg]; simp only [Tr.sub, ↓reduceIte]; exact kC A hAh
    | false => rw [P4]; simp only [Bool.false_eq_true, ↓reduceIte]; rw [hph3]; simp [Tr.sub]
  have hZl : (if z then A else B).low f := by cases z; exact hBl; exact hAl
  have hZn : ∀ k, (if z then A else B) ≠ .var k := by cases z; exact hB; exact hA
  have hZlen : (if z then A else B).len < 64 := by cases z <;> simp <;> omega
  obtain ⟨W5, P5⟩ := jX W4 (k := f) (y := if z then A else B) hf4 (by omega) (hZl.up (by omega)) (fun v hv => by
    have := W4.free (.var (if z then g else h))
    rw [hZ] at this
    exact this v hv) (q9 hZl (Nat.le_refl _)) hZlen
  refine ⟨s ++ [(g, A)] ++ [(h, B)] ++ [(f, if z then A else B)], ?_, W5, fun t ht => ?_, ?_⟩
  · refine .fns (x0 := .pr (.var g) (.var h)) (x1 := .var (if z then g else h)) (y0 := .pr A B) (y1 := .var f) (by rw [vP, hx, hR]) (by rw [vP, hU, W.var (Nat.le_refl f)]) (by simp [Tr.len]) (by simp only [Tr.len]; omega) (fun e => by injection e with e _; injection e with e _; exact hA g e.symm) ?_
    refine .prs (x0 := .var g) (x1 := .var h) (y0 := A) (y1 := B) (by rw [uW, hpg, hph]) (by rw [uW, hAA, hBB]) (by simp [Tr.len]) (by omega) (fun e => by injection e with e _; exact hA g e.symm) ?_
    refine .putL hpg hAA (by omega) (hA g) hAg hg ?_
    refine .putL hph3 hBB3 (by omega) (hB h) hBh hh3 ?_
    exact .putR hZ hZlen hv4 hZn (q9 hZl (Nat.le_refl _)) hf4 .nil
  · rw [P5, P4, P3, uB ((hkeep t ht).up hgx), uB ((hkeep t ht).up (by omega)), uB ((hkeep t ht).up (by omega))]
  · rw [P5, hv4]; simp [Tr.sub]
end
noncomputable def Pat (op : Op) (x f1 : Nat) (P Q : Tr) : Prop := match op with
  | .add0 | .add1 | .if1 | .if2 => P = .int ∧ Q = .int
  | .less0 | .less1 => P = .int ∧ Q = .bool
  | .if0 => P = .bool ∧ Q = .int
  | .pair0 => P = .var x ∧ Q = .pr (.var x) .int
  | .pair1 => P = .var x ∧ Q = .pr .int (.var x)
  | .fst => P = .pr (.var (x + 1)) (.var (x + 2)) ∧ Q = .var (x + 1) ∧ x + 3 ≤ f1
  | .snd => P = .pr (.var (x + 1)) (.var (x + 2)) ∧ Q = .var (x + 2) ∧ x + 3 ≤ f1
  | .lam => P = .var x ∧ Q = .fn (.var (x + 1)) (.var x) ∧ x + 2 ≤ f1
noncomputable def wNz (op : Op) : Nat := match op.need with
  | .any => 0
  | _ => 1
structure VarOp (nodes : List Node) (op : Op) (env : Env) (s : Sb) (x body : Nat) (R : Tr) (s1 : Sb) (f1 : Nat) : Prop where
  inf : Inf nodes (([], .var x) :: env) s (x + 1) body (qG op [0] (wNz op)) (.ok (R, s1, f1))
  wf : WF s1 f1
  le : x + 1 ≤ f1
  sz : f1 ≤ x + 3
  keep : ∀ t : Tr, t.low x → t.app s1 = t.app s
  low : R.low f1
  rlen : R.len ≤ 3
  pat : Pat op x f1 (Tr.app s1 (.var x)) (R.app s1)
inductive VarAt (nodes : List Node) (op : Op) (env : Env) (s : Sb) (x body : Nat) : Prop
  | mk (R : Tr) (s1 : Sb) (f1 : Nat) (V : VarOp nodes op env s x body R s1 f1) : VarAt nodes op env s x body
section
variable {nodes : List Node} {env : Env} {s : Sb} {f p q x : Nat} {T T' : Tr} {t1 t2 tr' : List Nat} {U U' : Tr} {s' : Sb} {f' : Nat} {ρ : Nat → Nat} {op : Op} {base : Nat} {e : Addr}
theorem z2z {Y : Tr} (W : WF s x) {g : Nat} (hg : x < g) (hY : Y.low g) (hYx : Y.has x = false) (hYf : ∀ v, Y.has v = true → s.lookup v = none) (hl : Y.len < 64) : WF (s ++ [(x, Y)]) g ∧ (∀ t : Tr, t.low x → t.app (s ++ [(x, Y)]) = t.app s) ∧ Tr.app (s ++ [(x, Y)]) (.var x) = Y ∧ (∀ t : Tr, t.app (s ++ [(x, Y)]) = (t.app s).sub x Y) := by
  obtain ⟨W1, P1⟩ := jX (W.up (Nat.le_of_lt hg)) (k := x) (y := Y) (W.out (Nat.le_refl x)) hg hY hYf hYx hl
  refine ⟨W1, fun t ht => ?_, ?_, P1⟩
  · rw [P1, uB (jU W ht)]
  · rw [P1, W.var (Nat.le_refl x)]; simp [Tr.sub]
theorem op_var {q2 body : Nat} (hl : nodes.length ≤ 10000) (W : WF s x) (hx5 : x ≤ 50000) (hel : env.length + 2 ≤ 1000) (B : Body nodes op q2 body) : VarAt nodes op env s x body := by
  obtain ⟨y, z, hr⟩ := B.ref
  obtain ⟨L, hn, hx⟩ := B.at_
  have W1 : WF s (x + 1) := W.up (by omega)
  have hvx := W.var (Nat.le_refl x)
  have hnx := W.out (Nat.le_refl x)
  have ref0 : ((if op.kd.str == "lam" then 1 else 0 : Nat) = 0) → Inf nodes (([], .var x) :: env) s (x + 1) q2 [0] (.ok (.var x, s, x + 1)) := fun h0 => by
    rw [h0] at hr
    exact qXz (k := ([], .var x)) hl hr rfl (by simp only [List.length_cons]; omega) .nil (by simp) (by simp [Tr.len])
  obtain ⟨WI, KI, XI, _⟩ := z2z (Y := .int) W (Nat.lt_succ_self x) (xJ _) rfl (fun v h => by cases h) (by decide)
  obtain ⟨WB, KB, XB, _⟩ := z2z (Y := .bool) W (Nat.lt_succ_self x) (v5 _) rfl (fun v h => by cases h) (by decide)
  have okI := WI.ok (by omega)
  have ok := W.ok (by omega)
  have uxi : Un [(.var x, .int)] s 1 (.ok (s ++ [(x, .int)])) := .putL hvx xD (by decide) (fun e => by cases e) rfl hnx .nil
  have uix : Un [(.int, .var x)] s 1 (.ok (s ++ [(x, .int)])) := .putR xD (by decide) hvx (fun j e => by cases e) rfl hnx .nil
  have uxb : Un [(.var x, .bool)] s 1 (.ok (s ++ [(x, .bool)])) := .putL hvx vW (by decide) (fun e => by cases e) rfl hnx .nil
  induction op with
  | add0 =>
    obtain ⟨_, _, _, hk⟩ := hx 0 false rfl
    exact ⟨.int, _, x + 1, (yEz hl hn (.inr (.inl rfl)) rfl (ref0 rfl) (yV hl hk) (.ar (.inl rfl) uxi yGz) ok (by decide) (by simp [Tr.len]) (by decide)).cast (by simp [qG, Op.pos, Op.ex, wNz, Op.need]), WI, by omega, by omega, KI, xJ _, by decide, XI, xD⟩
  | add1 =>
    obtain ⟨_, _, _, hk⟩ := hx 0 false rfl
    exact ⟨.int, _, x + 1, (yEz hl hn (.inr (.inl rfl)) rfl (yV hl hk) (ref0 rfl) (.ar (.inl rfl) yGz uxi) ok (by decide) (by decide) (by simp [Tr.len])).cast (by simp [qG, Op.pos, Op.ex, wNz, Op.need, List.replicate]), WI, by omega, by omega, KI, xJ _, by decide, XI, xD⟩
  | less0 =>
    obtain ⟨_, _, _, hk⟩ := hx 0 false rfl
    exact ⟨.bool, _, x + 1, (yEz hl hn (.inr (.inr (.inl rfl))) rfl (ref0 rfl) (yV hl hk) (.ar (.inr rfl) uxi yGz) ok (by decide) (by simp [Tr.len]) (by decide)).cast (by simp [qG, Op.pos, Op.ex, wNz, Op.need]), WI, by omega, by omega, KI, v5 _, by decide, XI, vW⟩
  | less1 =>
    obtain ⟨_, _, _, hk⟩ := hx 0 false rfl
    exact ⟨.bool, _, x + 1, (yEz hl hn (.inr (.inr (.inl rfl))) rfl (yV hl hk) (ref0 rfl) (.ar (.inr rfl) yGz uxi) ok (by decide) (by decide) (by simp [Tr.len])).cast (by simp [qG, Op.pos, Op.ex, wNz, Op.need, List.replicate]), WI, by omega, by omega, KI, v5 _, by decide, XI, vW⟩
  | pair0 =>
    obtain ⟨_, _, _, hk⟩ := hx 0 false rfl
    exact ⟨.pr (.var x) .int, s, x + 1, (yEz hl hn (.inr (.inr (.inr (.inl rfl)))) rfl (ref0 rfl) (yV hl hk) .pair ok (by decide) (by simp [Tr.len]) (by decide)).cast (by simp [qG, Op.pos, Op.ex, wNz, Op.need]), W1, by omega, by omega, fun t _ => rfl, qJ (y7 (by omega)) (xJ _), by simp [Tr.len], hvx, by rw [uW, hvx, xD]⟩
  | pair1 =>
    obtain ⟨_, _, _, hk⟩ := hx 0 false rfl
    exact ⟨.pr .int (.var x), s, x + 1, (yEz hl hn (.inr (.inr (.inr (.inl rfl)))) rfl (yV hl hk) (ref0 rfl) .pair ok (by decide) (by decide) (by simp [Tr.len])).cast (by simp [qG, Op.pos, Op.ex, wNz, Op.need, List.replicate]), W1, by omega, by omega, fun t _ => rfl, qJ (xJ _) (y7 (by omega)), by simp [Tr.len], hvx, by rw [uW, hvx, xD]⟩
  | if0 =>
    obtain ⟨_, _, _, hk⟩ := hx 0 false rfl
    obtain ⟨_, _, _, hk2⟩ := hx 1 false rfl
    exact ⟨.int, _, x + 1, (inf3 hl hn (.inr (.inr (.inr (.inr (.inr (.inr rfl)))))) rfl (ref0 rfl) (yV hl hk) (yV hl hk2) (.if_ uxb yGz) ok (by decide) (by simp [Tr.len]) (by decide) (by decide)).cast (by simp [qG, Op.pos, Op.ex, wNz, Op.need, List.replicate]), WB, by omega, by omega, KB, xJ _, by decide, XB, xD⟩
  | if1 =>
    obtain ⟨_, _, _, hk⟩ := hx 0 true rfl
    obtain ⟨_, _, _, hk2⟩ := hx 1 false rfl
    exact ⟨.var x, _, x + 1, (inf3 hl hn (.inr (.inr (.inr (.inr (.inr (.inr rfl)))))) rfl (v6 hl hk) (ref0 rfl) (yV hl hk2) (.if_ kYz uxi) ok (by decide) (by decide) (by simp [Tr.len]) (by decide)).cast (by simp [qG, Op.pos, Op.ex, wNz, Op.need, List.replicate]), WI, by omega, by omega, KI, y7 (by omega), by simp [Tr.len], XI, XI⟩
  | if2 =>
    obtain ⟨_, _, _, hk⟩ := hx 0 true rfl
    obtain ⟨_, _, _, hk2⟩ := hx 1 false rfl
    exact ⟨.int, _, x + 1, (inf3 hl hn (.inr (.inr (.inr (.inr (.inr (.inr rfl)))))) rfl (v6 hl hk) (yV hl hk2) (ref0 rfl) (.if_ kYz uix) ok (by decide) (by decide) (by decide) (by simp [Tr.len])).cast (by simp [qG, Op.pos, Op.ex, wNz, Op.need, List.replicate]), WI, by omega, by omega, KI, xJ _, by decide, XI, xD⟩
  | fst =>
    have hYl : (Tr.pr (.var (x + 1)) (.var (x + 2))).low (x + 3) := qJ (y7 (by omega)) (y7 (by omega))
    have hYx : (Tr.pr (.var (x + 1)) (.var (x + 2))).has x = false := by simp [Tr.has]
    obtain ⟨WP, KP, XP, PP⟩ := z2z (Y := .pr (.var (x + 1)) (.var (x + 2))) W (g := x + 3) (by omega) hYl hYx (fun v hv => by simp [Tr.has] at hv; exact W.out (by omega)) (by simp [Tr.len])
    have ux : Un [(.var x, .pr (.var (x + 1)) (.var (x + 1 + 1)))] s 1 (.ok (s ++ [(x, .pr (.var (x + 1)) (.var (x + 2)))])) := .putL hvx (by rw [uW, W.var (by omega), W.var (by omega)]) (by simp [Tr.len]) (fun e => by cases e) hYx hnx .nil
    exact ⟨.var (x + 1), _, x + 3, (inf1 hl hn (.inr (.inr (.inr (.inr (.inl rfl))))) rfl (ref0 rfl) (.pj (.inl rfl) ux) ok (by decide) (by simp [Tr.len])).cast (by simp [qG, Op.pos, Op.ex, wNz, Op.need]), WP, by omega, by omega, KP, y7 (by omega), by simp [Tr.len], XP, by rw [PP, W.var (by omega)]; simp [Tr.sub], Nat.le_refl _⟩
  | snd =>
    have hYl : (Tr.pr (.var (x + 1)) (.var (x + 2))).low (x + 3) := qJ (y7 (by omega)) (y7 (by omega))
    have hYx : (Tr.pr (.var (x + 1)) (.var (x + 2))).has x = false := by simp [Tr.has]
    obtain ⟨WP, KP, XP, PP⟩ := z2z (Y := .pr (.var (x + 1)) (.var (x + 2))) W (g := x + 3) (by omega) hYl hYx (fun v hv => by simp [Tr.has] at hv; exact W.out (by omega)) (by simp [Tr.len])
    have ux : Un [(.var x, .pr (.var (x + 1)) (.var (x + 1 + 1)))] s 1 (.ok (s ++ [(x, .pr (.var (x + 1)) (.var (x + 2)))])) := .putL hvx (by rw [uW, W.var (by omega), W.var (by omega)]) (by simp [Tr.len]) (fun e => by cases e) hYx hnx .nil
    exact ⟨.var (x + 2), _, x + 3, (inf1 hl hn (.inr (.inr (.inr (.inr (.inr (.inl rfl)))))) rfl (ref0 rfl) (.pj (.inr rfl) ux) ok (by decide) (by simp [Tr.len])).cast (by simp [qG, Op.pos, Op.ex, wNz, Op.need]), WP, by omega, by omega, KP, y7 (by omega), by simp [Tr.len], XP, by rw [PP, W.var (by omega)]; simp [Tr.sub], Nat.le_refl _⟩
  | lam =>
    have ref1 : Inf nodes (([], .var (x + 1)) :: ([], .var x) :: env) s (x + 1 + 1) q2 [0] (.ok (.var x, s, x + 1 + 1)) := qXz (k := ([], .var x)) hl hr rfl (by simp only [List.length_cons]; omega) .nil (by simp) (by simp [Tr.len])
    exact ⟨.fn (.var (x + 1)) (.var x), s, x + 2, (jR hl hn (by simp only [List.length_cons]; omega) ref1 ok (by simp [Tr.len])).cast (by simp [qG, Op.pos, Op.ex, wNz, Op.need]), W.up (by omega), by omega, by omega, fun t _ => rfl, uU (y7 (by omega)) (y7 (by omega)), by simp [Tr.len], hvx, by rw [vP, hvx, W.var (by omega)], by omega⟩
end
noncomputable def opM2 (op : Op) (bad : Bool) : Nat := if bad then 2 else match op.need with
  | .pair => 5
  | _ => 3
noncomputable def jF (op : Op) (t1 : List Nat) : List Nat := 0 :: (0 :: (qG op [0] (wNz op) ++ [0]) ++ t1)
section
variable {nodes : List Node} {env : Env} {s : Sb} {f p q x : Nat} {T T' : Tr} {t1 t2 tr' : List Nat} {U U' : Tr} {s' : Sb} {f' : Nat} {ρ : Nat → Nat} {op : Op} {base : Nat} {e : Addr}
structure Mid (nodes : List Node) (op : Op) (env : Env) (s : Sb) (f lm q : Nat) (T : Tr) (t1 : List Nat) (R : Tr) (s1 : Sb) (f1 : Nat) (U : Tr) (s2 : Sb) (f2 : Nat) (ρ : Nat → Nat) : Prop where
  fn : Inf nodes env s f lm (0 :: (qG op [0] (wNz op) ++ [0])) (.ok (.fn (.var f) R, s1, f1))
  v : f + 1 ≤ f1 ∧ f1 ≤ f + 3
  e : Ends nodes env s1 f1 q T t1 U s2 f2 ρ
  keep : ∀ t : Tr, t.low f → t.app s2 = t.app s
  rlen : R.len ≤ 3
  rlow : (R.app s2).low f1
  pat : Pat op f f1 (Tr.app s2 (.var f)) (R.app s2)
inductive MidAt (nodes : List Node) (op : Op) (env : Env) (s : Sb) (f lm q : Nat) (T : Tr) (t1 : List Nat) : Prop
  | mk (R : Tr) (s1 : Sb) (f1 : Nat) (U : Tr) (s2 : Sb) (f2 : Nat) (ρ : Nat → Nat) (M : Mid nodes op env s f lm q T t1 R s1 f1 U s2 f2 ρ) : MidAt nodes op env s f lm q T t1
theorem to_mid {q2 body lm : Nat} {y z : Int} (hl : nodes.length ≤ 10000) (C : Ctx env s f) (hel : env.length + 2 ≤ 1000) (hlm : nodes[lm]? = some ⟨.lam, body, y, z⟩) (B : Body nodes op q2 body) (hf : f ≤ 49000)
    (H : ∀ s1 f1, Ctx env s1 f1 → f1 ≤ f + 3 → OkAt nodes env s1 f1 q T t1) : MidAt nodes op env s f lm q T t1 := by
  obtain ⟨R, s1, f1, V⟩ := op_var (env := env) hl C.wf (by omega) hel B
  have hle := V.le
  have hsz := V.sz
  have hr := V.rlen
  have C1 : Ctx env s1 f1 := ⟨V.wf, C.len, fun c hc => by
    obtain ⟨h1, h2⟩ := C.env c hc
    exact ⟨h1.up (by omega), by rw [V.keep _ h1]; exact h2⟩⟩
  obtain ⟨U, s2, f2, ρ, E⟩ := H s1 f1 C1 hsz
  have hR2 : R.app s2 = R.app s1 := E.keep R V.low
  have hv2 : Tr.app s2 (.var f) = Tr.app s1 (.var f) := E.keep _ (y7 (by omega))
  refine ⟨R, s1, f1, U, s2, f2, ρ, jR hl hlm (by omega) V.inf (V.wf.ok (by omega)) (by omega), ⟨hle, hsz⟩, E, fun t ht => ?_, hr, ?_, ?_⟩
  · rw [E.keep t (ht.up (by omega)), V.keep t ht]
  · rw [hR2]; exact jU V.wf V.low
  · rw [hR2, hv2]; exact V.pat
theorem to_midE {q2 body lm : Nat} {y z z' : Int} (hl : nodes.length ≤ 10000) (C : Ctx env s f) (hel : env.length + 2 ≤ 1000) (hn : nodes[p]? = some ⟨.app, lm, q, z'⟩) (hlm : nodes[lm]? = some ⟨.lam, body, y, z⟩) (B : Body nodes op q2 body) (hf : f ≤ 49000)
    (H : ∀ s1 f1, Ctx env s1 f1 → f1 ≤ f + 3 → Inf nodes env s1 f1 q t1 (.error e)) : Inf nodes env s f p (jF op t1) (.error e) := by
  obtain ⟨R, s1, f1, V⟩ := op_var (env := env) hl C.wf (by omega) hel B
  have hle := V.le
  have hsz := V.sz
  have hr := V.rlen
  have C1 : Ctx env s1 f1 := ⟨V.wf, C.len, fun c hc => by
    obtain ⟨h1, h2⟩ := C.env c hc
    exact ⟨h1.up (by omega), by rw [V.keep _ h1]; exact h2⟩⟩
  exact z2q (l := []) hl hn (.inl rfl) rfl (by simp) (jR hl hlm (by omega) V.inf (V.wf.ok (by omega)) (by omega)) (H s1 f1 C1 hsz)
theorem w3z {lm : Nat} {z : Int} {R : Tr} {s1 : Sb} {f1 : Nat} {s2 : Sb} {f2 : Nat} {s3 : Sb} {n : Nat} {ρ' : Nat → Nat} (hl : nodes.length ≤ 10000) (hn : nodes[p]? = some ⟨.app, lm, q, z⟩) (M : Mid nodes op env s f lm q T t1 R s1 f1 U s2 f2 ρ) (hf : f + 64 * (t1.length + 10) ≤ 50000) (hT : T.len < 40) (hn1 : n ≤ 5)
    (h1 : Un [(.fn (.var f) R, .fn U (.var f2))] s2 n (.ok s3)) (h2 : WF s3 (f2 + 1)) (h3 : ∀ t : Tr, t.low f → t.app s3 = t.app s2) (h4 : Tr.app s3 (.var f2) = T'.ren ρ') (h5 : Fits ρ' T' f (f2 + 1)) : OkAt nodes env s f p T' (jF op t1 ++ [n]) := by
  have hv := M.v
  have hE := M.e.sz
  have hle := M.e.le
  have hr := M.rlen
  have hU := M.e.len
  refine ⟨.var f2, s3, f2 + 1, ρ', (yEz hl hn (.inl rfl) rfl M.fn M.e.inf (.app h1) (M.e.wf.ok (by omega)) (by omega) (by simp only [Tr.len]; omega) (by omega)).cast (by simp [jF]), h2, by omega, ?_, fun t ht => ?_, y7 (by omega), h4, h5⟩
  · simp only [jF, List.length_cons, List.length_append, qG]; omega
  · rw [h3 t ht, M.keep t ht]
theorem qSz {lm : Nat} {R : Tr} {s1 : Sb} {f1 : Nat} {s2 : Sb} {f2 : Nat} (C : Ctx env s f) (M : Mid nodes op env s f lm q T t1 R s1 f1 U s2 f2 ρ) : ∀ t : Tr, t.low f → (t.app s2).low f := fun t ht => by rw [M.keep t ht]; exact jU C.wf ht
theorem ren_low (h : Fits ρ T f f') : (T.ren ρ).low f' := fun v hv => by obtain ⟨j, h1, rfl⟩ := (jP T).mp hv; exact (h.rng j h1).2
theorem ren_out (h : Fits ρ T f f') {v : Nat} (hv : v < f) : (T.ren ρ).has v = false := by
  cases e : (T.ren ρ).has v with
  | false => rfl
  | true => obtain ⟨j, h1, rfl⟩ := (jP T).mp e; have := (h.rng j h1).1; omega
section
variable {lm : Nat} {z' : Int} {R : Tr} {s1 s2 : Sb} {f1 f2 : Nat} {Q T'' : Tr}
theorem r2B (hl : nodes.length ≤ 10000) (C : Ctx env s f) (hn : nodes[p]? = some ⟨.app, lm, q, z'⟩) (hT : T.len < 40) (hf : f + 64 * (t1.length + 10) ≤ 49000) (M : Mid nodes op env s f lm q T t1 R s1 f1 U s2 f2 ρ) (h1 : Tr.app s2 (.var f) = T.ren ρ) (h2 : R.app s2 = Q) (h3 : ∀ k, Q ≠ .var k) (h4 : Q.low f2) (h5 : Q.len ≤ 3) (h6 : Q = T''.ren ρ) (h7 : ∀ v, T''.has v = false) : OkAt nodes env s f p T'' (jF op t1 ++ [3]) := by
  have hv := M.v
  have hle := M.e.le
  have hlen := xS ρ T
  obtain ⟨s3, u1, u2, u3, u4⟩ := callB M.e.wf h1 h2 M.e.is h3 h4 (by omega) (qSz C M) (by omega)
  exact w3z hl hn M (by omega) hT (by omega) u1 u2 u3 (u4.trans h6) (.nil h7)
theorem r2A {ρ' : Nat → Nat} (hl : nodes.length ≤ 10000) (C : Ctx env s f) (hn : nodes[p]? = some ⟨.app, lm, q, z'⟩) (hS : T.solid) (hT : T.len < 40) (hf : f + 64 * (t1.length + 10) ≤ 49000) (M : Mid nodes op env s f lm q T t1 R s1 f1 U s2 f2 ρ) (h1 : Tr.app s2 (.var f) = .var f) (h2 : R.app s2 = Q) (h3 : ∀ k, Q ≠ .var k) (h4 : ∀ k, Q.sub f (T.ren ρ) ≠ .var k) (h5 : Q.len ≤ 3) (h6 : (Q.sub f (T.ren ρ)).len < 64) (h7 : ∀ v, (Q.sub f (T.ren ρ)).has v = true → (Q.has v = true ∧ v ≠ f) ∨ (T.ren ρ).has v = true) (h8 : Q.sub f (T.ren ρ) = T''.ren ρ') (h9 : Fits ρ' T'' f (f2 + 1)) : OkAt nodes env s f p T'' (jF op t1 ++ [3]) := by
  have hv := M.v
  have hle := M.e.le
  have hlen := xS ρ T
  obtain ⟨s3, u1, u2, u3, u4⟩ := callA M.e.wf h1 h2 M.e.is h4 (h2 ▸ M.rlow.up hle) (ren_low M.e.fits) (ren_out M.e.fits (by omega)) (vB hS) (by omega) h6 (qSz C M) (by omega) (h3 f2) h7
  exact w3z hl hn M (by omega) hT (by omega) u1 u2 u3 (u4.trans h8) h9
theorem r2C {A B : Tr} (w : Bool) (hl : nodes.length ≤ 10000) (C : Ctx env s f) (hn : nodes[p]? = some ⟨.app, lm, q, z'⟩) (hS : (Tr.pr A B).solid) (hT : (Tr.pr A B).len < 40) (hf : f + 64 * (t1.length + 10) ≤ 49000) (M : Mid nodes op env s f lm q (.pr A B) t1 R s1 f1 U s2 f2 ρ) (h1 : Tr.app s2 (.var f) = .pr (.var (f + 1)) (.var (f + 2))) (h2 : R.app s2 = .var (if w then f + 1 else f + 2)) (h3 : f + 3 ≤ f1) : OkAt nodes env s f p (if w then A else B) (jF op t1 ++ [5]) := by
  have hle := M.e.le
  have E := M.e
  have hTl := ren_low E.fits
  have o : ∀ v, v < f1 → (A.ren ρ).has v = false ∧ (B.ren ρ).has v = false := fun v hv => by
    have := ren_out E.fits hv
    simpa [Tr.ren, Tr.has] using this
  obtain ⟨s3, u1, u2, u3, u4⟩ := callC' (z := w) E.wf h1 h2 E.is (vB hS.1) (vB hS.2) (fun v hv => hTl v (by simp [Tr.ren, Tr.has, hv])) (fun v hv => hTl v (by simp [Tr.ren, Tr.has, hv])) (by omega) (by omega) (by omega) (o _ (by omega)).1 (o _ (by omega)).1 (o _ (by omega)).2 (o _ (by omega)).2 (by rw [xS, xS]; simp only [Tr.len] at hT; omega) (qSz C M)
  have hv := M.v
  refine w3z hl hn M (by omega) hT (by omega) u1 u2 u3 (ρ' := ρ) ?_ (E.fits.sub (fun v hv => ?_) (by omega) (by omega))
  · rw [u4]; cases w <;> rfl
  · cases w
    · exact Bool.or_eq_true_iff.mpr (.inr hv)
    · exact Bool.or_eq_true_iff.mpr (.inl hv)
end
theorem road2_ok {q2 body lm : Nat} {y z z' : Int} (hl : nodes.length ≤ 10000) (C : Ctx env s f) (hel : env.length + 2 ≤ 1000) (hn : nodes[p]? = some ⟨.app, lm, q, z'⟩) (hlm : nodes[lm]? = some ⟨.lam, body, y, z⟩) (B : Body nodes op q2 body) (hS : T.solid) (hT : T.len < 40) (hb : T.has base = false) (hf : f + 64 * (t1.length + 10) ≤ 49000)
    (H : ∀ s1 f1, Ctx env s1 f1 → f1 ≤ f + 3 → OkAt nodes env s1 f1 q T t1) (h : opT op T base = some T') : OkAt nodes env s f p T' (jF op t1 ++ [opM2 op false]) := by
  have hO := w9z h
  clear h
  obtain ⟨R, s1, f1, U, s2, f2, ρ, M⟩ := to_mid hl C hel hlm B (by omega) H
  clear H B hlm hel
  have hP := M.pat
  have hle := M.e.le
  have hv := M.v
  induction hO with
  | add0 => exact r2B hl C hn hT hf M hP.1 hP.2 (fun k e => by cases e) (xJ _) (by decide) rfl (fun v => rfl)
  | add1 => exact r2B hl C hn hT hf M hP.1 hP.2 (fun k e => by cases e) (xJ _) (by decide) rfl (fun v => rfl)
  | if1 => exact r2B hl C hn hT hf M hP.1 hP.2 (fun k e => by cases e) (xJ _) (by decide) rfl (fun v => rfl)
  | if2 => exact r2B hl C hn hT hf M hP.1 hP.2 (fun k e => by cases e) (xJ _) (by decide) rfl (fun v => rfl)
  | if0 => exact r2B hl C hn hT hf M hP.1 hP.2 (fun k e => by cases e) (xJ _) (by decide) rfl (fun v => rfl)
  | less0 => exact r2B hl C hn hT hf M hP.1 hP.2 (fun k e => by cases e) (v5 _) (by decide) rfl (fun v => rfl)
  | less1 => exact r2B hl C hn hT hf M hP.1 hP.2 (fun k e => by cases e) (v5 _) (by decide) rfl (fun v => rfl)
  | @pair0 T _ =>
    have hs : (Tr.pr (.var f) .int).sub f (T.ren ρ) = (Tr.pr T .int).ren ρ := by simp [Tr.sub, Tr.ren]
    exact r2A hl C hn hS hT hf M hP.1 hP.2 (fun k e => by cases e) (fun k e => by rw [hs] at e; cases e) (by simp [Tr.len]) (by rw [hs, xS]; simp only [Tr.len]; omega) (fun v hv => by rw [hs] at hv; simp [Tr.ren, Tr.has] at hv; exact .inr hv) hs (M.e.fits.sub (fun v hv => by simpa [Tr.has] using hv) (by omega) (by omega))
  | @pair1 T _ =>
    have hs : (Tr.pr .int (.var f)).sub f (T.ren ρ) = (Tr.pr .int T).ren ρ := by simp [Tr.sub, Tr.ren]
    exact r2A hl C hn hS hT hf M hP.1 hP.2 (fun k e => by cases e) (fun k e => by rw [hs] at e; cases e) (by simp [Tr.len]) (by rw [hs, xS]; simp only [Tr.len]; omega) (fun v hv => by rw [hs] at hv; simp [Tr.ren, Tr.has] at hv; exact .inr hv) hs (M.e.fits.sub (fun v hv => by simpa [Tr.has] using hv) (by omega) (by omega))
  | @lam T base =>
    have E := M.e
    have hc : T.ren ρ = T.ren (fun v => if v = base then f + 1 else ρ v) := q6 fun v hv => by
      rw [if_neg]; rintro rfl; rw [hb] at hv; cases hv
    have hs' : (Tr.fn (.var (f + 1)) (.var f)).sub f (T.ren ρ) = .fn (.var (f + 1)) (T.ren ρ) := by simp [Tr.sub]
    have hs : (Tr.fn (.var (f + 1)) (.var f)).sub f (T.ren ρ) = (Tr.fn (.var base) T).ren (fun v => if v = base then f + 1 else ρ v) := by rw [hs', hc]; simp [Tr.ren]
    have hf1 := hP.2.2
    refine r2A hl C hn hS hT hf M hP.1 hP.2.1 (fun k e => by cases e) (fun k e => by rw [hs] at e; cases e) (by simp [Tr.len]) (by rw [hs, xS]; simp only [Tr.len]; omega) (fun v hv => ?_) hs (zAq E.fits (Nat.le_succ _) (by omega) (by omega) (by omega))
    rw [hs'] at hv
    simp only [Tr.has, Bool.or_eq_true, beq_iff_eq] at hv
    rcases hv with h | h
    · subst h; exact .inl ⟨by simp [Tr.has], by omega⟩
    · exact .inr h
  | fst => exact r2C true hl C hn hS hT hf M hP.1 hP.2.1 hP.2.2
  | snd => exact r2C false hl C hn hS hT hf M hP.1 hP.2.1 hP.2.2
theorem road2_bad {q2 body lm : Nat} {y z z' : Int} (hl : nodes.length ≤ 10000) (C : Ctx env s f) (hel : env.length + 2 ≤ 1000) (hn : nodes[p]? = some ⟨.app, lm, q, z'⟩) (hlm : nodes[lm]? = some ⟨.lam, body, y, z⟩) (B : Body nodes op q2 body) (hS : T.solid) (hT : T.len < 40) (hf : f + 64 * (t1.length + 10) ≤ 49000)
    (H : ∀ s1 f1, Ctx env s1 f1 → f1 ≤ f + 3 → OkAt nodes env s1 f1 q T t1) (h : opT op T base = none) : Inf nodes env s f p (jF op t1 ++ [opM2 op true]) (.error x9) := by
  obtain ⟨R, s1, f1, U, s2, f2, ρ, M⟩ := to_mid hl C hel hlm B (by omega) H
  have E := M.e
  have hv := M.v
  have hle := E.le
  have hsz := E.sz
  have hP := M.pat
  have hr := M.rlen
  have hU := E.len
  have hTn : ∀ k, T.ren ρ ≠ .var k := vB hS
  have hlen := xS ρ T
  have fin : ∀ {P Q : Tr}, Tr.app s2 (.var f) = P → R.app s2 = Q → (∀ k, P ≠ .var k) → P.root ≠ w2z T → P.len + Q.len < 20 → Inf nodes env s f p (jF op t1 ++ [2]) (.error x9) := fun h1 h2 h3 h4 h5 => by
    have u := callE E.wf h1 h2 E.is h3 hTn (by rw [yNz hS]; exact h4) (by omega) h5
    exact (yEz hl hn (.inl rfl) rfl M.fn E.inf (.appE u) (E.wf.ok (by omega)) (by omega) (by simp only [Tr.len]; omega) (by omega)).cast (by simp [jF])
  have hr := (zJq h hS).symm
  induction op with
  | add0 => exact fin hP.1 hP.2 (fun k e => by cases e) hr (by decide)
  | add1 => exact fin hP.1 hP.2 (fun k e => by cases e) hr (by decide)
  | less0 => exact fin hP.1 hP.2 (fun k e => by cases e) hr (by decide)
  | less1 => exact fin hP.1 hP.2 (fun k e => by cases e) hr (by decide)
  | if0 => exact fin hP.1 hP.2 (fun k e => by cases e) hr (by decide)
  | if1 => exact fin hP.1 hP.2 (fun k e => by cases e) hr (by decide)
  | if2 => exact fin hP.1 hP.2 (fun k e => by cases e) hr (by decide)
  | fst => exact fin hP.1 hP.2.1 (fun k e => by cases e) hr (by simp [Tr.len])
  | snd => exact fin hP.1 hP.2.1 (fun k e => by cases e) hr (by simp [Tr.len])
  | pair0 => cases h
  | pair1 => cases h
  | lam => cases h
end
inductive Rd where
  | r0 | r1 | r2
noncomputable def opEx (op : Op) (lit : Int) : List Node := match op with
  | .fst | .snd | .lam => []
  | .if0 => [⟨.num, lit, 0, 0⟩, ⟨.num, lit + 1, 0, 0⟩]
  | .if1 | .if2 => [⟨.bool, lit.fmod 2, 0, 0⟩, ⟨.num, lit + 1, 0, 0⟩]
  | _ => [⟨.num, lit, 0, 0⟩]
noncomputable def u0z (nodes : List Node) (op : Op) (q : Nat) (lit : Int) : List Node := nodes ++ (opEx op lit ++ [op.node q nodes.length])
noncomputable def u5 (op : Op) : Nat := if op.kd.str == "lam" then 1 else 0
noncomputable def yF (nodes : List Node) (op : Op) (rd : Rd) (lit : Int) : List Node := match rd with
  | .r0 => u0z nodes op (nodes.length - 1) lit
  | .r1 => u0z (nodes ++ [⟨.ref, (u5 op : Nat), 0, 0⟩]) op nodes.length lit ++ [⟨.let_, (nodes.length - 1 : Nat), (nodes.length + 1 + op.ex.length : Nat), 0⟩]
  | .r2 => u0z (nodes ++ [⟨.ref, (u5 op : Nat), 0, 0⟩]) op nodes.length lit ++ [⟨.lam, (nodes.length + 1 + op.ex.length : Nat), 0, 0⟩, ⟨.app, (nodes.length + 2 + op.ex.length : Nat), (nodes.length - 1 : Nat), 0⟩]
noncomputable def uR (op : Op) : List Nat := List.replicate (1 + op.pos) 0
noncomputable def uV (op : Op) : List Nat := List.replicate (op.ex.length - op.pos) 0
noncomputable def xV (op : Op) : Rd → List Nat
  | .r0 => uR op
  | .r1 => [0]
  | .r2 => [0, 0] ++ uR op ++ [0] ++ uV op ++ [wNz op, 0]
noncomputable def wS (op : Op) : Rd → List Nat
  | .r0 => uV op
  | .r1 => [0] ++ uR op ++ [0] ++ uV op
  | .r2 => []
noncomputable def yTz (op : Op) (rd : Rd) (bad : Bool) : Nat := match rd with
  | .r2 => opM2 op bad
  | _ => opM op bad
structure Room (env : Env) (f : Nat) (tr : List Nat) : Prop where
  e : env.length + tr.length ≤ 500
  f : f + 100 * tr.length ≤ 40000
noncomputable def CP (nodes : List Node) (T : Tr) (tr : List Nat) : Prop := ∀ (ext : List Node) (env : Env) (s : Sb) (f : Nat), (nodes ++ ext).length ≤ 10000 → Ctx env s f → Room env f tr → OkAt (nodes ++ ext) env s f (nodes.length - 1) T tr
noncomputable def EP (nodes : List Node) (e : Addr) (tr : List Nat) : Prop := ∀ (ext : List Node) (env : Env) (s : Sb) (f : Nat), (nodes ++ ext).length ≤ 10000 → Ctx env s f → Room env f tr → Inf (nodes ++ ext) env s f (nodes.length - 1) tr (.error e)
theorem kE (op : Op) (lit : Int) : (opEx op lit).length = op.ex.length := by cases op <;> rfl
theorem opEx_at (op : Op) (lit : Int) (i : Nat) (b : Bool) (h : op.ex[i]? = some b) : ∃ x y z, (opEx op lit)[i]? = some ⟨if b then .bool else .num, x, y, z⟩ := by
  cases op <;> first | (simp [Op.ex] at h; done) | skip
  all_goals
    match i, h with
    | 0, h => cases h; exact ⟨_, _, _, rfl⟩
    | 1, h => first | (cases h; exact ⟨_, _, _, rfl⟩) | (cases h; done)
    | n + 2, h => simp [Op.ex] at h
theorem look {α : Type} {A B : List α} {n i : Nat} (h : n = A.length + i) : (A ++ B)[n]? = B[i]? := by
  subst h; rw [List.getElem?_append_right (by omega)]; congr 1; omega
theorem uBz {α : Type} {A B : List α} {n i : Nat} {x : α} (h : n = A.length + i) (hx : B[i]? = some x) : (A ++ B)[n]? = some x := (look h).trans hx
theorem at_grow {A C : List Node} {op : Op} {q p : Nat} {lit : Int} (hp : p = A.length + op.ex.length) : At (A ++ (opEx op lit ++ [op.node q A.length]) ++ C) op q p := by
  refine ⟨A.length, ?_, fun i b hi => ?_⟩
  · rw [List.append_assoc]
    refine uBz hp ?_
    rw [List.append_assoc]
    exact uBz (A := opEx op lit) (i := 0) (by rw [kE]; omega) rfl
  · obtain ⟨x, y, z, h⟩ := opEx_at op lit i b hi
    refine ⟨x, y, z, ?_⟩
    rw [List.append_assoc]
    refine uBz rfl ?_
    rw [List.append_assoc, List.getElem?_append_left (by have := (List.getElem?_eq_some_iff.mp h).1; exact this)]
    exact h
section
variable {nodes ext : List Node} {env : Env} {s : Sb} {f : Nat} {T T' : Tr} {tr : List Nat} {op : Op} {lit : Int} {base : Nat} {e : Addr}
theorem hX (rd : Rd) : (yF nodes op rd lit).length = nodes.length + op.ex.length + (match rd with | .r0 => 1 | .r1 => 3 | .r2 => 4) := by
  cases rd <;> simp only [yF, u0z, List.length_append, List.length_cons, List.length_nil, kE] <;> omega
theorem body_of {C : List Node} : Body (u0z (nodes ++ [⟨.ref, (u5 op : Nat), 0, 0⟩]) op nodes.length lit ++ C) op nodes.length (nodes.length + 1 + op.ex.length) := by
  unfold u0z
  refine ⟨⟨0, 0, ?_⟩, at_grow (by simp)⟩
  rw [List.append_assoc, List.append_assoc]
  exact uBz (i := 0) (by simp) rfl
theorem pre_of (rd : Rd) : ∃ C, yF nodes op rd lit ++ ext = nodes ++ C := by
  cases rd <;> exact ⟨_, by simp only [yF, u0z, List.append_assoc]; rfl⟩
theorem tr0 (m : Nat) : xV op .r0 ++ tr ++ wS op .r0 ++ [m] = qG op tr m := rfl
theorem tr1 (m : Nat) : xV op .r1 ++ tr ++ wS op .r1 ++ [m] = 0 :: (tr ++ 0 :: qG op [0] m) := by simp [xV, wS, qG, uR, uV]
theorem tr2 (m : Nat) : xV op .r2 ++ tr ++ wS op .r2 ++ [m] = jF op tr ++ [m] := by simp [xV, wS, qG, uR, uV, jF]
theorem tr2' : xV op .r2 ++ tr = jF op tr := by simp [xV, qG, uR, uV, jF]
theorem uVz {C : List Node} : (yF nodes op .r1 lit ++ C)[(yF nodes op .r1 lit).length - 1]? = some ⟨.let_, (nodes.length - 1 : Nat), (nodes.length + 1 + op.ex.length : Nat), 0⟩ := by
  rw [List.getElem?_append_left (by rw [hX]; simp only []; omega)]
  unfold yF
  exact uBz (i := 0) (by simp [u0z, kE]) rfl
theorem u9z {C : List Node} : (yF nodes op .r2 lit ++ C)[(yF nodes op .r2 lit).length - 1]? = some ⟨.app, (nodes.length + 2 + op.ex.length : Nat), (nodes.length - 1 : Nat), 0⟩ := by
  rw [List.getElem?_append_left (by rw [hX]; simp only []; omega)]
  unfold yF
  exact uBz (i := 1) (by simp [u0z, kE]; omega) rfl
theorem h2z {C : List Node} : (yF nodes op .r2 lit ++ C)[nodes.length + 2 + op.ex.length]? = some ⟨.lam, (nodes.length + 1 + op.ex.length : Nat), 0, 0⟩ := by
  rw [List.getElem?_append_left (by rw [hX]; simp only []; omega)]
  unfold yF
  exact uBz (i := 0) (by simp [u0z, kE]; omega) rfl
theorem op_at {C : List Node} : At (yF nodes op .r0 lit ++ C) op (nodes.length - 1) ((yF nodes op .r0 lit).length - 1) := at_grow (by rw [hX]; simp only []; omega)
theorem q8z {C : List Node} : Body (yF nodes op .r1 lit ++ C) op nodes.length (nodes.length + 1 + op.ex.length) := by
  unfold yF; rw [List.append_assoc]; exact body_of
theorem wTz {C : List Node} : Body (yF nodes op .r2 lit ++ C) op nodes.length (nodes.length + 1 + op.ex.length) := by
  unfold yF; rw [List.append_assoc]; exact body_of
theorem ctx_lam (C : Ctx env s f) (h : env.length + 1 ≤ 1000) : Ctx (([], .var f) :: env) s (f + 1) := by
  refine ⟨C.wf.up (by omega), by simpa using h, fun c hc => ?_⟩
  simp only [List.mem_cons] at hc
  rcases hc with rfl | hc
  · exact ⟨y7 (by omega), by show (Tr.app s (.var f)).len < 64; rw [C.wf.var (Nat.le_refl _)]; simp [Tr.len]⟩
  · exact ⟨(C.env c hc).1.up (by omega), (C.env c hc).2⟩
theorem tr_len (rd : Rd) (m : Nat) : tr.length + 2 ≤ (xV op rd ++ tr ++ wS op rd ++ [m]).length := by
  cases rd <;> simp [xV, wS, uR, uV] <;> omega
theorem tr_len' (rd : Rd) : tr.length + 1 ≤ (xV op rd ++ tr).length := by
  cases rd <;> simp [xV, uR] <;> omega
theorem wrap_ok (rd : Rd) (h : CP nodes T tr) (hS : T.solid) (hT : T.len < 40) (hb : T.has base = false) (ho : opT op T base = some T') : CP (yF nodes op rd lit) T' (xV op rd ++ tr ++ wS op rd ++ [yTz op rd false]) := by
  intro ext env s f hl C R
  obtain ⟨D, hD⟩ := pre_of (nodes := nodes) (ext := ext) (op := op) (lit := lit) rd
  have he := R.e
  have hf := R.f
  have htl := tr_len (tr := tr) (op := op) rd (yTz op rd false)
  have H : ∀ env s1 f1, Ctx env s1 f1 → env.length + tr.length ≤ 500 → f1 + 100 * tr.length ≤ 40000 → OkAt (yF nodes op rd lit ++ ext) env s1 f1 (nodes.length - 1) T tr := fun env s1 f1 C1 h1 h2 => by
    rw [hD] at hl ⊢
    exact h D env s1 f1 hl C1 ⟨h1, h2⟩
  induction rd with
  | r0 =>
    by_cases hop : op.kd = .lam
    · obtain rfl := j0z hop
      cases ho
      exact op_lam hl op_at (by omega) C.wf hT hb (H _ s (f + 1) (ctx_lam C (by omega)) (by simp only [List.length_cons]; omega) (by omega)) (by omega)
    · exact op_ok hl hop op_at hS hT (H env s f C (by omega) (by omega)) (by omega) ho
  | r1 =>
    rw [tr1]
    exact road1_ok hl C (by omega) uVz q8z hS hT hb (H env s f C (by omega) (by omega)) (by omega) ho
  | r2 =>
    rw [tr2]
    exact road2_ok hl C (by omega) u9z h2z wTz hS hT hb (by omega) (fun s1 f1 C1 h1 => H env s1 f1 C1 (by omega) (by omega)) ho
theorem wrap_bad (rd : Rd) (h : CP nodes T tr) (hS : T.solid) (hT : T.len < 40) (ho : opT op T base = none) : EP (yF nodes op rd lit) x9 (xV op rd ++ tr ++ wS op rd ++ [yTz op rd true]) := by
  intro ext env s f hl C R
  obtain ⟨D, hD⟩ := pre_of (nodes := nodes) (ext := ext) (op := op) (lit := lit) rd
  have he := R.e
  have hf := R.f
  have htl := tr_len (tr := tr) (op := op) rd (yTz op rd true)
  have H : ∀ env s1 f1, Ctx env s1 f1 → env.length + tr.length ≤ 500 → f1 + 100 * tr.length ≤ 40000 → OkAt (yF nodes op rd lit ++ ext) env s1 f1 (nodes.length - 1) T tr := fun env s1 f1 C1 h1 h2 => by
    rw [hD] at hl ⊢
    exact h D env s1 f1 hl C1 ⟨h1, h2⟩
  induction rd with
  | r0 => exact op_bad hl op_at hS hT (H env s f C (by omega) (by omega)) (by omega) ho
  | r1 =>
    rw [tr1]
    exact road1_bad hl C (by omega) uVz q8z hS hT (H env s f C (by omega) (by omega)) (by omega) ho
  | r2 =>
    rw [tr2]
    exact road2_bad hl C (by omega) u9z h2z wTz hS hT (by omega) (fun s1 f1 C1 h1 => H env s1 f1 C1 (by omega) (by omega)) ho
theorem wrap_err (rd : Rd) (h : EP nodes e tr) : EP (yF nodes op rd lit) e (xV op rd ++ tr) := by
  intro ext env s f hl C R
  obtain ⟨D, hD⟩ := pre_of (nodes := nodes) (ext := ext) (op := op) (lit := lit) rd
  have he := R.e
  have hf := R.f
  have htl := tr_len' (tr := tr) (op := op) rd
  have H : ∀ env s1 f1, Ctx env s1 f1 → env.length + tr.length ≤ 500 → f1 + 100 * tr.length ≤ 40000 → Inf (yF nodes op rd lit ++ ext) env s1 f1 (nodes.length - 1) tr (.error e) := fun env s1 f1 C1 h1 h2 => by
    rw [hD] at hl ⊢
    exact h D env s1 f1 hl C1 ⟨h1, h2⟩
  induction rd with
  | r0 =>
    by_cases hop : op.kd = .lam
    · obtain rfl := j0z hop
      exact op_lamE hl op_at (by omega) (H _ s (f + 1) (ctx_lam C (by omega)) (by simp only [List.length_cons]; omega) (by omega))
    · exact op_err hl hop op_at (H env s f C (by omega) (by omega))
  | r1 => exact inf_letE hl uVz (H env s f C (by omega) (by omega))
  | r2 =>
    rw [tr2']
    exact to_midE hl C (by omega) u9z h2z wTz (by omega) (fun s1 f1 C1 h1 => H env s1 f1 C1 (by omega) (by omega))
end
noncomputable def sd0 : List Node := [⟨.ref, 0, 0, 0⟩, ⟨.lam, 0, 0, 0⟩]
noncomputable def sd1 : List Node := [⟨.ref, 0, 0, 0⟩, ⟨.ref, 0, 0, 0⟩, ⟨.app, 0, 1, 0⟩, ⟨.lam, 2, 0, 0⟩]
noncomputable def sd2 : List Node := [⟨.bool, 1, 0, 0⟩, ⟨.ref, 0, 0, 0⟩, ⟨.num, 1, 0, 0⟩, ⟨.pair, 1, 2, 0⟩, ⟨.ref, 0, 0, 0⟩, ⟨.if_, 0, 3, 4⟩, ⟨.lam, 5, 0, 0⟩]
noncomputable def sd3 : List Node := [⟨.ref, 0, 0, 0⟩, ⟨.fst, 0, 0, 0⟩, ⟨.ref, 0, 0, 0⟩, ⟨.num, 1, 0, 0⟩, ⟨.add, 2, 3, 0⟩, ⟨.ref, 1, 0, 0⟩, ⟨.pair, 4, 5, 0⟩, ⟨.let_, 1, 6, 0⟩, ⟨.lam, 7, 0, 0⟩]
noncomputable def sd4 : List Node := [⟨.ref, 0, 0, 0⟩, ⟨.lam, 0, 0, 0⟩, ⟨.ref, 0, 0, 0⟩, ⟨.num, 1, 0, 0⟩, ⟨.app, 2, 3, 0⟩, ⟨.ref, 0, 0, 0⟩, ⟨.bool, 1, 0, 0⟩, ⟨.app, 5, 6, 0⟩, ⟨.pair, 4, 7, 0⟩, ⟨.let_, 1, 8, 0⟩]
noncomputable def sd5 : List Node := [⟨.ref, 0, 0, 0⟩, ⟨.num, 1, 0, 0⟩, ⟨.app, 0, 1, 0⟩, ⟨.ref, 0, 0, 0⟩, ⟨.bool, 1, 0, 0⟩, ⟨.app, 3, 4, 0⟩, ⟨.pair, 2, 5, 0⟩, ⟨.lam, 6, 0, 0⟩, ⟨.ref, 0, 0, 0⟩, ⟨.lam, 8, 0, 0⟩, ⟨.app, 7, 9, 0⟩]
noncomputable def sd6 : List Node := [⟨.ref, 1, 0, 0⟩, ⟨.lam, 0, 0, 0⟩, ⟨.lam, 1, 0, 0⟩, ⟨.ref, 0, 0, 0⟩, ⟨.ref, 1, 0, 0⟩, ⟨.pair, 3, 4, 0⟩, ⟨.lam, 5, 0, 0⟩, ⟨.let_, 2, 6, 0⟩]
noncomputable def sd7 : List Node := [⟨.ref, 0, 0, 0⟩, ⟨.num, 1, 0, 0⟩, ⟨.app, 0, 1, 0⟩, ⟨.num, 1, 0, 0⟩, ⟨.add, 2, 3, 0⟩, ⟨.lam, 4, 0, 0⟩]
noncomputable def sd8 : List Node := [⟨.num, 1, 0, 0⟩, ⟨.num, 2, 0, 0⟩, ⟨.app, 0, 1, 0⟩]
section
variable {nodes ext : List Node} {env : Env} {s : Sb} {f p i : Nat} {T : Tr} {tr : List Nat} {y z : Int}
theorem qA {x : Nat} (hl : nodes.length ≤ 10000) (hn : nodes[p]? = some ⟨.ref, i, y, z⟩) (he : env[i]? = some ([], .var x)) (hel : env.length ≤ 1000) : Inf nodes env s f p [0] (.ok (.var x, s, f)) :=
  qXz (k := ([], .var x)) hl hn he hel .nil (by simp) (by simp [Tr.len])
theorem cp_num (n y z : Int) : CP [⟨.num, n, y, z⟩] .int [0] := fun ext env s f hl C R =>
  ⟨.int, s, f, id, yV hl rfl, C.wf, Nat.le_refl _, by omega, fun _ _ => rfl, xJ _, xD, .nil fun _ => rfl⟩
theorem cp_bool (n y z : Int) : CP [⟨.bool, n, y, z⟩] .bool [0] := fun ext env s f hl C R =>
  ⟨.bool, s, f, id, v6 hl rfl, C.wf, Nat.le_refl _, by omega, fun _ _ => rfl, v5 _, vW, .nil fun _ => rfl⟩
theorem h9z {x v f f' : Nat} {T : Tr} (h : ∀ w, T.has w = true → w = v) (h1 : f ≤ x) (h2 : x < f') : Fits (fun _ => x) T f f' :=
  ⟨fun _ _ => ⟨h1, h2⟩, fun v w hv hw _ => by rw [h v hv, h w hw]⟩
theorem ok_id {a p : Nat} (hl : nodes.length ≤ 10000) (C : Ctx env s f) (hel : env.length + 1 ≤ 1000) (hf : f ≤ 40000) (ha : nodes[a]? = some ⟨.ref, 0, 0, 0⟩) (hp : nodes[p]? = some ⟨.lam, a, 0, 0⟩) : OkAt nodes env s f p (.fn (.var 0) (.var 0)) [0, 0, 0] :=
  ⟨.fn (.var f) (.var f), s, f + 1, fun _ => f, jR hl hp (by omega) (qA (i := 0) hl ha rfl (by simp only [List.length_cons]; omega)) (C.wf.ok (by omega)) (by simp [Tr.len]), C.wf.up (by omega), by omega, by simp, fun _ _ => rfl, uU (y7 (by omega)) (y7 (by omega)), by rw [vP, C.wf.var (Nat.le_refl _)]; rfl, h9z (v := 0) (fun w hw => by simp [Tr.has] at hw; exact hw.symm) (Nat.le_refl _) (by omega)⟩
theorem cp_sd0 : CP sd0 (.fn (.var 0) (.var 0)) [0, 0, 0] := fun ext env s f hl C R => by
  have := R.e; have := R.f
  exact ok_id hl C (by omega) (by omega) rfl rfl
theorem ep_sd1 : EP sd1 wE [0, 0, 0, 0, 1] := fun ext env s f hl C R => by
  have := R.e; have := R.f
  have W1 := C.wf.up (Nat.le_add_right f 1)
  have hv := C.wf.var (Nat.le_refl f)
  have hw : Tr.app s (.fn (.var f) (.var (f + 1))) = .fn (.var f) (.var (f + 1)) := by rw [vP, hv, C.wf.var (by omega)]
  have r0 : ∀ p, (sd1 ++ ext)[p]? = some ⟨.ref, 0, 0, 0⟩ → Inf (sd1 ++ ext) (([], .var f) :: env) s (f + 1) p [0] (.ok (.var f, s, f + 1)) := fun p hp => qA (i := 0) hl hp rfl (by simp only [List.length_cons]; omega)
  refine (wPz (a := 2) hl rfl (by omega) (yEz (a := 0) (b := 1) hl rfl (.inl rfl) rfl (r0 0 rfl) (r0 1 rfl) (.appE (.occL f ?_ hv ?_ ?_)) (W1.ok (by omega)) (by decide) (by simp [Tr.len]) (by simp [Tr.len]))).cast rfl
  · rw [hw]; simp [Tr.len]
  · rw [hw]; exact fun e => by cases e
  · rw [hw]; simp [Tr.has]
theorem ep_sd2 : EP sd2 wE [0, 0, 0, 0, 0, 0, 0, 0, 1] := fun ext env s f hl C R => by
  have := R.e; have := R.f
  have W1 := C.wf.up (Nat.le_add_right f 1)
  have hv := C.wf.var (Nat.le_refl f)
  have hw : Tr.app s (.pr (.var f) .int) = .pr (.var f) .int := by rw [uW, hv, xD]
  have r0 : ∀ p, (sd2 ++ ext)[p]? = some ⟨.ref, 0, 0, 0⟩ → Inf (sd2 ++ ext) (([], .var f) :: env) s (f + 1) p [0] (.ok (.var f, s, f + 1)) := fun p hp => qA (i := 0) hl hp rfl (by simp only [List.length_cons]; omega)
  have hp := yEz (p := 3) (a := 1) (b := 2) hl rfl (.inr (.inr (.inr (.inl rfl)))) rfl (r0 1 rfl) (yV hl rfl) .pair (W1.ok (by omega)) (by decide) (by simp [Tr.len]) (by simp [Tr.len])
  refine (wPz (a := 5) hl rfl (by omega) (inf3 (a := 0) (b := 3) (c := 4) hl rfl (.inr (.inr (.inr (.inr (.inr (.inr rfl)))))) rfl (v6 hl rfl) hp (r0 4 rfl) (.ifE2 (n := 1) (m := 1) kYz (.occR f ?_ hv ?_ ?_)) (W1.ok (by omega)) (by decide) (by simp [Tr.len]) (by simp [Tr.len]) (by simp [Tr.len]))).cast rfl
  · rw [hw]; simp [Tr.len]
  · rw [hw]; exact fun _ e => by cases e
  · rw [hw]; simp [Tr.has]
theorem ep_sd8 : EP sd8 x9 [0, 0, 0, 1] := fun ext env s f hl C R => by
  have := R.e; have := R.f
  refine (yEz (a := 0) (b := 1) hl rfl (.inl rfl) rfl (yV hl rfl) (yV hl rfl) (.appE (kXz xD (vP _ _) (by decide) ?_ (fun j e => by cases e) (fun j e => by cases e) (fun e => by cases e))) (C.wf.ok (by omega)) (by decide) (by decide) (by decide)).cast rfl
  rw [xD, C.wf.var (Nat.le_refl _)]; simp [Tr.len]
theorem ep_sd5 : EP sd5 x9 [0, 0, 0, 0, 0, 0, 1, 0, 0, 0, 2] := fun ext env s f hl C R => by
  have := R.e; have := R.f
  have hv := C.wf.var (Nat.le_refl f)
  have r0 : ∀ p s g, (sd5 ++ ext)[p]? = some ⟨.ref, 0, 0, 0⟩ → Inf (sd5 ++ ext) (([], .var f) :: env) s g p [0] (.ok (.var f, s, g)) := fun p s g hp => qA (i := 0) hl hp rfl (by simp only [List.length_cons]; omega)
  have hY : (Tr.fn .int (.var (f + 1))).has f = false := by simp [Tr.has]
  have hYl : (Tr.fn .int (.var (f + 1))).low (f + 2) := uU (xJ _) (y7 (by omega))
  obtain ⟨W1, K1, X1, P1⟩ := z2z (Y := .fn .int (.var (f + 1))) C.wf (g := f + 2) (by omega) hYl hY (fun v hv => by simp [Tr.has] at hv; exact C.wf.out (by omega)) (by simp [Tr.len])
  have u1 : Un [(.var f, .fn .int (.var (f + 1)))] s 1 (.ok (s ++ [(f, .fn .int (.var (f + 1)))])) := .putL hv (by rw [vP, xD, C.wf.var (by omega)]) (by simp [Tr.len]) (fun e => by cases e) hY (C.wf.out (Nat.le_refl f)) .nil
  have a1 := yEz (p := 2) (a := 0) (b := 1) hl rfl (.inl rfl) rfl (r0 0 s (f + 1) rfl) (yV hl rfl) (.app u1) (C.wf.ok (by omega)) (by decide) (by simp [Tr.len]) (by simp [Tr.len])
  have u2 : Un [(.var f, .fn .bool (.var (f + 2)))] (s ++ [(f, .fn .int (.var (f + 1)))]) 2 (.error x9) :=
    .fns X1 (by rw [vP, vW, W1.var (Nat.le_refl _)]) (by simp [Tr.len]) (by simp [Tr.len]) (fun e => by injection e with e _; cases e) (kXz xD vW (by decide) (by decide) (fun j e => by cases e) (fun j e => by cases e) (fun e => by cases e))
  have a2 := yEz (p := 5) (a := 3) (b := 4) hl rfl (.inl rfl) rfl (r0 3 _ (f + 2) rfl) (v6 hl rfl) (.appE u2) (W1.ok (by omega)) (by decide) (by simp [Tr.len]) (by simp [Tr.len])
  exact (hDz (a := 7) (l := [9]) hl rfl (.inl rfl) rfl (by simp) (wPz (a := 6) hl rfl (by omega) (z2q (p := 6) (a := 2) (b := 5) (l := []) hl rfl (.inr (.inr (.inr (.inl rfl)))) rfl (by simp) a1 a2))).cast rfl
theorem cp_sd7 : CP sd7 (.fn (.fn .int .int) .int) [0, 0, 0, 0, 0, 1, 0, 1, 0] := fun ext env s f hl C R => by
  have := R.e; have := R.f
  have hv := C.wf.var (Nat.le_refl f)
  have r0 : Inf (sd7 ++ ext) (([], .var f) :: env) s (f + 1) 0 [0] (.ok (.var f, s, f + 1)) := qA (i := 0) hl rfl rfl (by simp only [List.length_cons]; omega)
  have hY : (Tr.fn .int (.var (f + 1))).has f = false := by simp [Tr.has]
  have hYl : (Tr.fn .int (.var (f + 1))).low (f + 2) := uU (xJ _) (y7 (by omega))
  obtain ⟨W1, K1, X1, P1⟩ := z2z (Y := .fn .int (.var (f + 1))) C.wf (g := f + 2) (by omega) hYl hY (fun v hv => by simp [Tr.has] at hv; exact C.wf.out (by omega)) (by simp [Tr.len])
  have u1 : Un [(.var f, .fn .int (.var (f + 1)))] s 1 (.ok (s ++ [(f, .fn .int (.var (f + 1)))])) := .putL hv (by rw [vP, xD, C.wf.var (by omega)]) (by simp [Tr.len]) (fun e => by cases e) hY (C.wf.out (Nat.le_refl f)) .nil
  have a1 := yEz (p := 2) (a := 0) (b := 1) hl rfl (.inl rfl) rfl r0 (yV hl rfl) (.app u1) (C.wf.ok (by omega)) (by decide) (by simp [Tr.len]) (by simp [Tr.len])
  have hw : Tr.app (s ++ [(f, .fn .int (.var (f + 1)))]) (.var (f + 1)) = .var (f + 1) := by rw [P1, C.wf.var (by omega)]; simp [Tr.sub]
  have hwn : (s ++ [(f, Tr.fn .int (.var (f + 1)))]).lookup (f + 1) = none := by rw [xH, C.wf.out (by omega)]; simp
  obtain ⟨W2, P2⟩ := jX W1 (k := f + 1) (y := .int) hwn (by omega) (xJ _) (fun v h => by cases h) rfl (by decide)
  have u2 : Un [(.var (f + 1), .int)] (s ++ [(f, .fn .int (.var (f + 1)))]) 1 (.ok (s ++ [(f, .fn .int (.var (f + 1)))] ++ [(f + 1, .int)])) := .putL hw xD (by decide) (fun e => by cases e) rfl hwn .nil
  have a2 := yEz (p := 4) (a := 2) (b := 3) hl rfl (.inr (.inl rfl)) rfl a1 (yV hl rfl) (.ar (.inl rfl) u2 yGz) (W1.ok (by omega)) (by decide) (by simp [Tr.len]) (by simp [Tr.len])
  refine ⟨.fn (.var f) .int, _, f + 2, id, (jR (a := 4) hl rfl (by omega) a2 (W2.ok (by omega)) (by simp [Tr.len, Kd.str])).cast rfl, W2, by omega, by simp, fun t ht => ?_, uU (y7 (by omega)) (xJ _), ?_, .nil fun _ => rfl⟩
  · rw [P2, K1 t ht, uB ((jU C.wf ht).up (by omega))]
  · rw [vP, xD, P2, X1]; simp [Tr.sub, Tr.ren]
end
section
variable {nodes ext : List Node} {env : Env} {s : Sb} {f p q i : Nat} {T : Tr} {tr : List Nat} {y z : Int}
theorem id_app {a b p : Nat} {c : Tr} (hc : c = .int ∨ c = .bool) (hl : nodes.length ≤ 10000) (W : WF s f) (hf : f ≤ 41000) (hp : nodes[p]? = some ⟨.app, a, b, 0⟩) (H : OkAt nodes env s f a (.fn (.var 0) (.var 0)) [0]) (hb : ∀ s f, Inf nodes env s f b [0] (.ok (c, s, f))) : OkAt nodes env s f p c [0, 0, 0, 3] := by
  obtain ⟨U, s', f', ρ, E⟩ := H
  have hle := E.le
  have hsz := E.sz
  have hU := E.len
  simp only [List.length_cons, List.length_nil] at hsz
  have hr := E.fits.rng 0 (by simp [Tr.has])
  have hcl : c.low f' := by rcases hc with rfl | rfl; exact xJ _; exact v5 _
  have hcn : ∀ k, c ≠ .var k := by rcases hc with rfl | rfl <;> exact fun k e => by cases e
  have hch : ∀ v, c.has v = false := by rcases hc with rfl | rfl <;> exact fun v => rfl
  have hcc : ∀ s : Sb, c.app s = c := by rcases hc with rfl | rfl; exact fun s => xD; exact fun s => vW
  have hclen : c.len = 1 := by rcases hc with rfl | rfl <;> rfl
  have hcs : ∀ k y, c.sub k y = c := fun k y => kC c (hch k)
  have hUa : U.app s' = .fn (.var (ρ 0)) (.var (ρ 0)) := E.is
  have hva := E.wf.free U
  rw [hUa] at hva
  have hna : s'.lookup (ρ 0) = none := hva _ (by simp [Tr.has])
  have W1 := E.wf.up (Nat.le_succ f')
  obtain ⟨W2, P2⟩ := jX W1 (k := ρ 0) (y := c) hna (by omega) (hcl.up (by omega)) (fun v h => by rw [hch] at h; cases h) (hch _) (by omega)
  have hv2 : Tr.app (s' ++ [(ρ 0, c)]) (.var (ρ 0)) = c := by rw [P2, vO hna]; simp [Tr.sub]
  have hf2 : Tr.app (s' ++ [(ρ 0, c)]) (.var f') = .var f' := by rw [P2, E.wf.var (Nat.le_refl _)]; simp [Tr.sub]; omega
  have hnf : (s' ++ [(ρ 0, c)]).lookup f' = none := by rw [xH, E.wf.out (Nat.le_refl _)]; simp; omega
  obtain ⟨W3, P3⟩ := jX W2 (k := f') (y := c) hnf (by omega) (hcl.up (by omega)) (fun v h => by rw [hch] at h; cases h) (hch _) (by omega)
  have u : Un [(U, .fn c (.var f'))] s' 3 (.ok (s' ++ [(ρ 0, c)] ++ [(f', c)])) := by
    refine .fns hUa (by rw [vP, hcc, E.wf.var (Nat.le_refl _)]) (by simp [Tr.len]) (by simp only [Tr.len]; omega) (fun e => by injection e with e _; exact hcn _ e.symm) ?_
    refine .putL (vO hna) (hcc _) (by omega) (hcn _) (hch _) hna ?_
    exact .putR hv2 (by omega) hf2 hcn (hch _) hnf .nil
  refine ⟨.var f', _, f' + 1, ρ, (yEz hl hp (.inl rfl) rfl E.inf (hb s' f') (.app u) (E.wf.ok (by omega)) (by decide) (by simp only [Tr.len] at hU; omega) (by omega)).cast rfl, W3, by omega, by simp; omega, fun t ht => ?_, y7 (by omega), ?_, .nil hch⟩
  · have hlow := jU W ht
    rw [P3, P2, E.keep t ht, uB (hlow.up hr.1), uB (hlow.up hle)]
  · rw [P3, hf2]; simp only [Tr.sub, ↓reduceIte]
    rcases hc with rfl | rfl <;> rfl
theorem pair_ok {a b p : Nat} {A B : Tr} {ta tb : List Nat} {U : Tr} {s1 : Sb} {f1 : Nat} {ρ : Nat → Nat} (hl : nodes.length ≤ 10000) (hp : nodes[p]? = some ⟨.pair, a, b, 0⟩) (E : Ends nodes env s f a A ta U s1 f1 ρ) (H : OkAt nodes env s1 f1 b B tb) (hf : f + 64 * (ta.length + tb.length) ≤ 50000) (hA : ∀ v, A.has v = false) (hB : ∀ v, B.has v = false) (hAl : A.len < 40) (hBl : B.len < 40) : OkAt nodes env s f p (.pr A B) (0 :: (ta ++ (tb ++ [0]))) := by
  obtain ⟨V, s2, f2, ρ2, E2⟩ := H
  have h1 := E.le; have h2 := E.sz; have h3 := E2.le; have h4 := E2.sz; have h5 := E.len; have h6 := E2.len
  refine ⟨.pr U V, s2, f2, ρ2, yEz hl hp (.inr (.inr (.inr (.inl rfl)))) rfl E.inf E2.inf .pair (E2.wf.ok (by omega)) (by decide) (by omega) (by omega), E2.wf, by omega, ?_, fun t ht => ?_, qJ (E.low.up h3) E2.low, ?_, .nil fun v => ?_⟩
  · simp only [List.length_cons, List.length_append, List.length_nil]; omega
  · rw [E2.keep t (ht.up h1), E.keep t ht]
  · rw [uW, E2.keep U E.low, E.is, E2.is]
    have : A.ren ρ = A.ren ρ2 := q6 fun v hv => by rw [hA] at hv; cases hv
    rw [this]; rfl
  · simp [Tr.has, hA, hB]
theorem let_ok {q body p : Nat} {z : Int} {T' : Tr} {t1 t2 : List Nat} {U : Tr} {s' : Sb} {f' : Nat} {ρ : Nat → Nat} (hl : nodes.length ≤ 10000) (C : Ctx env s f) (hn : nodes[p]? = some ⟨.let_, q, body, z⟩) (hT : T.len < 40) (E : Ends nodes env s f q T t1 U s' f' ρ) (hf : f + 64 * t1.length ≤ 50000) (H2 : OkAt nodes (jB s' env U :: env) s' f' body T' t2) : OkAt nodes env s f p T' (0 :: (t1 ++ 0 :: t2)) := by
  obtain ⟨U2, s2, f2, ρ2, E2⟩ := H2
  have hsz := E.sz
  have hle := E.le
  have hle2 := E2.le
  have hsz2 := E2.sz
  refine ⟨U2, s2, f2, ρ2, qYz hl hn C.len E.inf (E.wf.ok (by omega)) (by rw [E.is, xS]; omega) (fun c hc => (q5z C E c hc).2) E2.inf, E2.wf, by omega, ?_, fun t ht => ?_, E2.low, E2.is, E2.fits.sub (fun v hv => hv) hle (Nat.le_refl _)⟩
  · simp only [List.length_cons, List.length_append]; omega
  · rw [E2.keep t (ht.up hle), E.keep t ht]
theorem cp_sd4 : CP sd4 (.pr .int .bool) [0, 0, 0, 0, 0, 0, 0, 0, 0, 3, 0, 0, 0, 3, 0] := fun ext env s f hl C R => by
  have he := R.e; have hf := R.f
  obtain ⟨U, s', f', ρ, E⟩ := ok_id (a := 0) (p := 1) hl C (by omega) (by omega) rfl rfl
  have K := y6z C E
  have hsz := E.sz
  simp only [List.length_cons, List.length_nil] at hsz he hf
  refine let_ok (q := 1) (body := 8) (t1 := [0, 0, 0]) (t2 := [0, 0, 0, 0, 3, 0, 0, 0, 3, 0]) hl C rfl (by simp [Tr.len]) E (by simp only [List.length_cons, List.length_nil]; omega) ?_
  have r0 : ∀ p s g, WF s g → (sd4 ++ ext)[p]? = some ⟨.ref, 0, 0, 0⟩ → OkAt (sd4 ++ ext) (jB s' env U :: env) s g p (.fn (.var 0) (.var 0)) [0] := fun p s g W hp => jRz (i := 0) (k := jB s' env U) hl hp rfl (by simp only [List.length_cons]; omega) K (by simp [Tr.len]) W
  obtain ⟨U1, s1, f1, ρ1, E1⟩ := id_app (p := 4) (a := 2) (b := 3) (.inl rfl) hl E.wf (by omega) rfl (r0 2 _ _ E.wf rfl) (fun s f => yV hl rfl)
  have hsz1 := E1.sz
  simp only [List.length_cons, List.length_nil] at hsz1
  exact pair_ok (p := 8) (a := 4) (b := 7) hl rfl E1 (id_app (p := 7) (a := 5) (b := 6) (.inr rfl) hl E1.wf (by omega) rfl (r0 5 _ _ E1.wf rfl) (fun s f => v6 hl rfl)) (by simp only [List.length_cons, List.length_nil]; omega) (fun _ => rfl) (fun _ => rfl) (by decide) (by decide)
theorem cp_sd6 : CP sd6 (.fn (.var 0) (.pr (.var 0) (.fn (.var 1) (.fn (.var 2) (.var 1))))) [0, 0, 0, 0, 0, 0, 0, 0, 0, 0, 0, 0, 0] := fun ext env s f hl C R => by
  have he := R.e; have hf := R.f
  simp only [List.length_cons, List.length_nil] at he hf
  have W2 := C.wf.up (Nat.le_add_right f 2)
  have hE : OkAt (sd6 ++ ext) env s f 2 (.fn (.var 1) (.fn (.var 2) (.var 1))) [0, 0, 0, 0, 0] := by
    have i0 : Inf (sd6 ++ ext) (([], .var (f + 1)) :: ([], .var f) :: env) s (f + 1 + 1) 0 [0] (.ok (.var f, s, f + 1 + 1)) := qA (i := 1) hl rfl rfl (by simp only [List.length_cons]; omega)
    have i1 := jR (p := 1) (a := 0) hl rfl (by simp only [List.length_cons]; omega) i0 (W2.ok (by omega)) (by simp [Tr.len])
    have i2 := jR (p := 2) (a := 1) hl rfl (by omega) i1 (W2.ok (by omega)) (by simp [Tr.len])
    refine ⟨.fn (.var f) (.fn (.var (f + 1)) (.var f)), s, f + 2, fun v => if v = 1 then f else f + 1, i2, W2, by omega, by simp, fun _ _ => rfl, uU (y7 (by omega)) (uU (y7 (by omega)) (y7 (by omega))), ?_, ⟨fun v hv => ?_, fun v w hv hw => ?_⟩⟩
    · rw [vP, vP, C.wf.var (Nat.le_refl _), C.wf.var (by omega)]; simp [Tr.ren]
    · show f ≤ (if v = 1 then f else f + 1) ∧ (if v = 1 then f else f + 1) < f + 2
      split <;> omega
    · simp [Tr.has] at hv hw
      show (if v = 1 then f else f + 1) = (if w = 1 then f else f + 1) → v = w
      split <;> split <;> omega
  obtain ⟨U, s', f', ρ, E⟩ := hE
  have K := y6z C E
  have hsz := E.sz
  simp only [List.length_cons, List.length_nil] at hsz
  refine let_ok (q := 2) (body := 6) (t1 := [0, 0, 0, 0, 0]) (t2 := [0, 0, 0, 0, 0, 0]) hl C rfl (by simp [Tr.len]) E (by simp only [List.length_cons, List.length_nil]; omega) ?_
  have W1 := E.wf.up (Nat.le_succ f')
  have r0 : Inf (sd6 ++ ext) (([], .var f') :: jB s' env U :: env) s' (f' + 1) 3 [0] (.ok (.var f', s', f' + 1)) := qA (i := 0) hl rfl rfl (by simp only [List.length_cons]; omega)
  obtain ⟨U2, s2, f2, ρ2, E2⟩ : OkAt (sd6 ++ ext) (([], .var f') :: jB s' env U :: env) s' (f' + 1) 4 (.fn (.var 1) (.fn (.var 2) (.var 1))) [0] := jRz (i := 1) (k := jB s' env U) hl rfl rfl (by simp only [List.length_cons]; omega) K (by simp [Tr.len]) W1
  have hle2 := E2.le
  have hsz2 := E2.sz
  have hlen2 := E2.len
  simp only [List.length_cons, List.length_nil, Tr.len] at hsz2 hlen2
  have i3 := yEz (p := 5) (a := 3) (b := 4) hl rfl (.inr (.inr (.inr (.inl rfl)))) rfl r0 E2.inf .pair (E2.wf.ok (by omega)) (by decide) (by simp [Tr.len]) (by omega)
  have hv2 : Tr.app s2 (.var f') = .var f' := by rw [E2.keep _ (y7 (by omega)), E.wf.var (Nat.le_refl _)]
  have hr1 := E2.fits.rng 1 (by simp [Tr.has])
  have hr2 := E2.fits.rng 2 (by simp [Tr.has])
  have h12 : ρ2 1 ≠ ρ2 2 := fun e => by have := E2.fits.inj 1 2 (by simp [Tr.has]) (by simp [Tr.has]) e; omega
  refine ⟨.fn (.var f') (.pr (.var f') U2), s2, f2, fun v => if v = 0 then f' else ρ2 v, (jR (p := 6) (a := 5) hl rfl (by simp only [List.length_cons]; omega) i3 (E2.wf.ok (by omega)) (by simp only [Tr.len]; omega)).cast rfl, E2.wf, by omega, by simp only [List.length_cons, List.length_nil]; omega, fun t ht => E2.keep t (ht.up (by omega)), uU (y7 (by omega)) (qJ (y7 (by omega)) E2.low), ?_, ⟨fun v hv => ?_, fun v w hv hw => ?_⟩⟩
  · rw [vP, uW, hv2, E2.is]; simp [Tr.ren]
  · show f' ≤ (if v = 0 then f' else ρ2 v) ∧ (if v = 0 then f' else ρ2 v) < f2
    simp [Tr.has] at hv
    rcases hv with rfl | rfl | rfl | rfl | rfl <;> simp <;> omega
  · show (if v = 0 then f' else ρ2 v) = (if w = 0 then f' else ρ2 w) → v = w
    have hv' : v = 0 ∨ v = 1 ∨ v = 2 := by simp [Tr.has] at hv; omega
    have hw' : w = 0 ∨ w = 1 ∨ w = 2 := by simp [Tr.has] at hw; omega
    rcases hv' with rfl | rfl | rfl <;> rcases hw' with rfl | rfl | rfl <;> simp <;> omega
theorem cp_sd3 : CP sd3 (.fn (.pr .int (.var 0)) (.pr .int (.pr .int (.var 0)))) [0, 0, 0, 0, 1, 0, 0, 0, 0, 0, 1, 0, 0, 0] := fun ext env s f hl C R => by
  have he := R.e; have hf := R.f
  simp only [List.length_cons, List.length_nil] at he hf
  have hv := C.wf.var (Nat.le_refl f)
  have r0 : Inf (sd3 ++ ext) (([], .var f) :: env) s (f + 1) 0 [0] (.ok (.var f, s, f + 1)) := qA (i := 0) hl rfl rfl (by simp only [List.length_cons]; omega)
  have hYl : (Tr.pr (.var (f + 1)) (.var (f + 2))).low (f + 3) := qJ (y7 (by omega)) (y7 (by omega))
  have hYx : (Tr.pr (.var (f + 1)) (.var (f + 2))).has f = false := by simp [Tr.has]
  obtain ⟨W1, K1, X1, P1⟩ := z2z (Y := .pr (.var (f + 1)) (.var (f + 2))) C.wf (g := f + 3) (by omega) hYl hYx (fun v hv => by simp [Tr.has] at hv; exact C.wf.out (by omega)) (by simp [Tr.len])
  have u1 : Un [(.var f, .pr (.var (f + 1)) (.var (f + 1 + 1)))] s 1 (.ok (s ++ [(f, .pr (.var (f + 1)) (.var (f + 2)))])) := .putL hv (by rw [uW, C.wf.var (by omega), C.wf.var (by omega)]) (by simp [Tr.len]) (fun e => by cases e) hYx (C.wf.out (Nat.le_refl f)) .nil
  have a1 := inf1 (p := 1) (a := 0) hl rfl (.inr (.inr (.inr (.inr (.inl rfl))))) rfl r0 (.pj (.inl rfl) u1) (C.wf.ok (by omega)) (by decide) (by simp [Tr.len])
  generalize hs1 : s ++ [(f, Tr.pr (.var (f + 1)) (.var (f + 2)))] = s1 at *
  have hw1 : Tr.app s1 (.var (f + 1)) = .var (f + 1) := by rw [P1, C.wf.var (by omega)]; simp [Tr.sub]
  have hn1 : s1.lookup (f + 1) = none := W1.free (.var (f + 1)) (f + 1) (by rw [hw1]; simp [Tr.has])
  have hgen : jB s1 (([], .var f) :: env) (.var (f + 1)) = ([], .var (f + 1)) := by
    unfold jB
    rw [hw1]
    have hvars : (Tr.var (f + 1)).vars = [((f + 1 : Nat) : Int)] := rfl
    have hheld : (qQ s1 (([], .var f) :: env)).contains ((f + 1 : Nat) : Int) = true := by
      rw [List.contains_iff_mem]
      simp only [qQ, List.flatMap_cons, List.mem_append]
      refine .inl (List.mem_filter.mpr ⟨?_, rfl⟩)
      rw [kA]
      refine ⟨f + 1, rfl, ?_⟩
      show (Tr.app s1 (.var f)).has (f + 1) = true
      rw [X1]; simp [Tr.has]
    rw [hvars, List.filter_cons, hheld]
    rfl
  obtain ⟨W2, P2⟩ := jX W1 (k := f + 1) (y := .int) hn1 (by omega) (xJ _) (fun v h => by cases h) rfl (by decide)
  have u2 : Un [(.var (f + 1), .int)] s1 1 (.ok (s1 ++ [(f + 1, .int)])) := .putL hw1 xD (by decide) (fun e => by cases e) rfl hn1 .nil
  have r1 : Inf (sd3 ++ ext) (([], .var (f + 1)) :: ([], .var f) :: env) s1 (f + 3) 2 [0] (.ok (.var (f + 1), s1, f + 3)) := qA (i := 0) hl rfl rfl (by simp only [List.length_cons]; omega)
  have a2 := yEz (p := 4) (a := 2) (b := 3) hl rfl (.inr (.inl rfl)) rfl r1 (yV hl rfl) (.ar (.inl rfl) u2 yGz) (W1.ok (by omega)) (by decide) (by simp [Tr.len]) (by simp [Tr.len])
  have r2 : Inf (sd3 ++ ext) (([], .var (f + 1)) :: ([], .var f) :: env) (s1 ++ [(f + 1, .int)]) (f + 3) 5 [0] (.ok (.var f, s1 ++ [(f + 1, .int)], f + 3)) := qA (i := 1) hl rfl rfl (by simp only [List.length_cons]; omega)
  have a3 := yEz (p := 6) (a := 4) (b := 5) hl rfl (.inr (.inr (.inr (.inl rfl)))) rfl a2 r2 .pair (W2.ok (by omega)) (by decide) (by simp [Tr.len, Kd.str]) (by simp [Tr.len])
  rw [← hgen] at a3
  have a4 := qYz (p := 7) (a := 1) (b := 6) hl rfl (by simp only [List.length_cons]; omega) a1 (W1.ok (by omega)) (by show (Tr.app s1 (.var (f + 1))).len < 64; rw [hw1]; simp [Tr.len]) (fun c hc => by
    simp only [List.mem_cons] at hc
    rcases hc with rfl | hc
    · show (Tr.app s1 (.var f)).len < 64; rw [X1]; simp [Tr.len]
    · obtain ⟨h1, h2⟩ := C.env c hc
      rw [K1 _ h1]; exact h2) a3
  have a5 := jR (p := 8) (a := 7) hl rfl (by omega) a4 (W2.ok (by omega)) (by simp [Tr.len, Kd.str])
  have hx2 : Tr.app (s1 ++ [(f + 1, .int)]) (.var f) = .pr .int (.var (f + 2)) := by rw [P2, X1]; simp [Tr.sub]
  refine ⟨.fn (.var f) (.pr .int (.var f)), s1 ++ [(f + 1, Tr.int)], f + 3, fun _ => f + 2, a5.cast rfl, W2, by omega, by simp, fun t ht => ?_, uU (y7 (by omega)) (qJ (xJ _) (y7 (by omega))), ?_, h9z (v := 0) (fun w hw => by simp [Tr.has] at hw; exact hw.symm) (by omega) (by omega)⟩
  · rw [P2, K1 t ht, uB ((jU C.wf ht).up (by omega))]
  · rw [vP, uW, xD, hx2]; simp [Tr.ren]
end
noncomputable def It.rn (g : Int → Int) : It → It
  | .var k => .var (g k)
  | i => i
theorem j7z {g : Int → Int} {S : Int → Prop} (inj : ∀ a b, S a → S b → g a = g b → a = b) {k : Int} (hk : S k) : ∀ seen : List Int, (∀ a ∈ seen, S a) → (seen.map g).idxOf (g k) = seen.idxOf k ∧ (g k ∈ seen.map g ↔ k ∈ seen)
  | [], _ => by simp
  | a :: r, h => by
    obtain ⟨h1, h2⟩ := j7z inj hk r fun b hb => h b (by simp [hb])
    have ha := h a (by simp)
    by_cases e : a = k
    · subst e; simp
    · have e' : ¬ g a = g k := fun q => e (inj a k ha hk q)
      have e2 : ¬ k = a := fun q => e q.symm
      have e3 : ¬ g k = g a := fun q => e' q.symm
      constructor
      · rw [List.map_cons, List.idxOf_cons, List.idxOf_cons, h1]
        simp [show (g a == g k) = false from by simpa using e', show (a == k) = false from by simpa using e]
      · simp only [List.map_cons, List.mem_cons, e2, e3, false_or]; exact h2
theorem zFq {g : Int → Int} {S : Int → Prop} (inj : ∀ a b, S a → S b → g a = g b → a = b) : ∀ (t : Ty) (seen : List Int), (∀ k, It.var k ∈ t → S k) → (∀ k ∈ seen, S k) → xW (t.map (It.rn g)) (seen.map g) = xW t seen
  | [], seen, _, _ => rfl
  | i :: r, seen, h, hs => by
    have ih := fun seen hs => zFq inj r seen (fun k hk => h k (by simp [hk])) hs
    induction i with
    | var k =>
      have hk := h k (by simp)
      obtain ⟨h1, h2⟩ := j7z inj hk seen hs
      simp only [List.map_cons, It.rn, xW]
      by_cases hm : k ∈ seen
      · rw [if_pos (h2.mpr hm), if_pos hm, h1, ih seen hs]
      · rw [if_neg (fun q => hm (h2.mp q)), if_neg hm, List.length_map]
        have := ih (seen ++ [k]) (fun j hj => by
          simp only [List.mem_append, List.mem_singleton] at hj
          rcases hj with hj | rfl
          · exact hs j hj
          · exact hk)
        rw [List.map_append] at this
        rw [show [g k] = [k].map g from rfl, this]
    | int => simp only [List.map_cons, It.rn, xW, ih seen hs]
    | bool => simp only [List.map_cons, It.rn, xW, ih seen hs]
    | fn => simp only [List.map_cons, It.rn, xW, ih seen hs]
    | pr => simp only [List.map_cons, It.rn, xW, ih seen hs]
theorem vLz (ρ : Nat → Nat) : ∀ t : Tr, (t.ren ρ).enc = t.enc.map (It.rn fun k => (ρ k.toNat : Nat))
  | .int => rfl
  | .bool => rfl
  | .var k => by simp [Tr.ren, Tr.enc, It.rn]
  | .fn a b => by simp [Tr.ren, Tr.enc, It.rn, vLz ρ a, vLz ρ b]
  | .pr a b => by simp [Tr.ren, Tr.enc, It.rn, vLz ρ a, vLz ρ b]
theorem xYz {k : Int} : ∀ t : Tr, It.var k ∈ t.enc → ∃ n : Nat, k = n ∧ t.has n = true
  | .int, h => by simp [Tr.enc] at h
  | .bool, h => by simp [Tr.enc] at h
  | .var j, h => by simp [Tr.enc] at h; exact ⟨j, h, by simp [Tr.has]⟩
  | .fn a b, h => by
    simp only [Tr.enc, List.mem_append, List.mem_singleton] at h
    rcases h with (h | h) | h
    · obtain ⟨n, h1, h2⟩ := xYz a h; exact ⟨n, h1, by simp [Tr.has, h2]⟩
    · obtain ⟨n, h1, h2⟩ := xYz b h; exact ⟨n, h1, by simp [Tr.has, h2]⟩
    · cases h
  | .pr a b, h => by
    simp only [Tr.enc, List.mem_append, List.mem_singleton] at h
    rcases h with (h | h) | h
    · obtain ⟨n, h1, h2⟩ := xYz a h; exact ⟨n, h1, by simp [Tr.has, h2]⟩
    · obtain ⟨n, h1, h2⟩ := xYz b h; exact ⟨n, h1, by simp [Tr.has, h2]⟩
    · cases h
theorem canon_ren {ρ : Nat → Nat} {T : Tr} (inj : ∀ v w, T.has v = true → T.has w = true → ρ v = ρ w → v = w) : xW (T.ren ρ).enc [] = xW T.enc [] := by
  rw [vLz]
  have := zFq (g := fun k => (ρ k.toNat : Nat)) (S := fun k => ∃ n : Nat, k = n ∧ T.has n = true) (fun a b ha hb h => by
    obtain ⟨n, rfl, h1⟩ := ha
    obtain ⟨m, rfl, h2⟩ := hb
    simp only [Int.toNat_natCast] at h
    rw [inj n m h1 h2 (by omega)]) T.enc [] (fun k hk => xYz T hk) (by simp)
  simpa using this
theorem top_ok {nodes : List Node} {T : Tr} {tr : List Nat} (h : CP nodes T tr) (hl : 0 < nodes.length) (hl2 : nodes.length ≤ 1000) (htr : tr.length ≤ 300) (hT : T.len < 64) (F : Int) :
    (jG F tr → G2 (kP [.fz (yJ nodes), .fz (.int F)]) (eT (xW T.enc []))) ∧ (¬ jG F tr → kP [.fz (yJ nodes), .fz (.int F)] = some (.error vY)) := by
  obtain ⟨U, s', f', ρ, E⟩ := h [] [] [] 0 (by simp; omega) ⟨wf_nil, by simp, by simp⟩ ⟨by simp; omega, by omega⟩
  rw [List.append_nil] at E
  have hg := E.inf.go [] [] (by simp only [List.length_nil]; omega) (by simp only [List.length_nil]; omega)
  have hsz := E.sz
  have hw := E.wf.len
  have := x_infer (l := nodes.length - 1) (U := U) (s := s') (f := f') (by omega) (by trivial) hg (by trivial) (by rw [E.is, xS]; trivial) F
  rw [E.is, canon_ren E.fits.inj] at this
  exact this
theorem top_err {nodes : List Node} {e : Addr} {tr : List Nat} (h : EP nodes e tr) (hl : 0 < nodes.length) (hl2 : nodes.length ≤ 1000) (htr : tr.length ≤ 300) (F : Int) :
    (jG F tr → kP [.fz (yJ nodes), .fz (.int F)] = some (.error e)) ∧ (¬ jG F tr → kP [.fz (yJ nodes), .fz (.int F)] = some (.error vY)) := by
  have hi := h [] [] [] 0 (by simp; omega) ⟨wf_nil, by simp, by simp⟩ ⟨by simp; omega, by omega⟩
  rw [List.append_nil] at hi
  have hg := hi.go [] [] (by simp only [List.length_nil]; omega) (by simp only [List.length_nil]; omega)
  exact x_inferE (l := nodes.length - 1) (by omega) (by trivial) hg F
theorem u4z (F : Int) : ∀ (tr : List Nat) (k : Nat), jG (F - k) tr ↔ ∀ p ∈ tr.zipIdx k, (p.2 : Int) + 1 + p.1 ≤ F
  | [], k => by simp [jG]
  | m :: r, k => by
    have ih := u4z F r (k + 1)
    simp only [jG, List.zipIdx_cons, List.mem_cons, forall_eq_or_imp]
    rw [← ih]
    rw [show F - (k : Int) - 1 = F - ((k + 1 : Nat) : Int) from by omega]
    constructor
    · rintro ⟨h1, h2⟩; exact ⟨by omega, h2⟩
    · rintro ⟨h1, h2⟩; exact ⟨by omega, h2⟩
theorem kAz (F : Int) : ∀ (r : List Int) (x : Int), r.foldl max x ≤ F ↔ x ≤ F ∧ ∀ y ∈ r, y ≤ F
  | [], x => by simp
  | a :: r, x => by
    simp only [List.foldl_cons, kAz F r, List.mem_cons, forall_eq_or_imp]
    constructor
    · rintro ⟨h1, h2⟩; exact ⟨by omega, by omega, h2⟩
    · rintro ⟨h1, h2, h3⟩; exact ⟨by omega, h3⟩
noncomputable def y5 (tr : List Nat) : PyData := .list ((wX tr).map .int)
theorem border_ok {tr : List Nat} (hn : tr ≠ []) (hl : tr.length ≤ 1000) : ∃ B : Int, (∃ l, k9 (y5 tr) = some l ∧ maxI l = some (.int B)) ∧ ∀ F, jG F tr ↔ B ≤ F := by
  have hb : k9 (y5 tr) = some (.list (((wX tr).zipIdx.map fun p => ((p.2 : Int) + 1 + p.1)).map .int)) := by
    show (match wN ((wX tr).map PyData.int) with | some ns => _ | none => _) = _
    rw [vU]
    show (if _ then _ else _) = _
    rw [if_pos (by simpa [wX] using hl)]
    simp [List.map_map, Function.comp_def]
  induction tr with
  | nil => exact absurd rfl hn
  | cons m r =>
    have hq : (wX (m :: r)).zipIdx.map (fun p => ((p.2 : Int) + 1 + p.1)) = (((0 : Nat) : Int) + 1 + (m : Int)) :: ((wX r).zipIdx 1).map (fun p => ((p.2 : Int) + 1 + p.1)) := rfl
    refine ⟨(((wX r).zipIdx 1).map fun p => ((p.2 : Int) + 1 + p.1)).foldl max (((0 : Nat) : Int) + 1 + (m : Int)), ⟨_, hb, ?_⟩, fun F => ?_⟩
    · rw [hq]
      show (match wN (((((0 : Nat) : Int) + 1 + (m : Int)) :: ((wX r).zipIdx 1).map fun p => ((p.2 : Int) + 1 + p.1)).map PyData.int) with | some (x :: r) => _ | _ => _) = _
      rw [vU]
      show (if _ then _ else _) = _
      rw [if_pos (by simp [wX] at hl ⊢; omega)]
    · rw [kAz]
      have := u4z F (m :: r) 0
      rw [show F - ((0 : Nat) : Int) = F from by omega] at this
      rw [this, List.zipIdx_cons]
      simp only [List.mem_cons, forall_eq_or_imp]
      refine and_congr Iff.rfl ?_
      have hz : (wX r).zipIdx 1 = (r.zipIdx 1).map fun p => ((p.1 : Int), p.2) := by
        unfold wX
        rw [List.zipIdx_map]; rfl
      rw [show (0 : Nat) + 1 = 1 from rfl, hz, List.map_map]
      constructor
      · intro h y hy
        obtain ⟨p, hp, rfl⟩ := List.mem_map.mp hy
        exact h p hp
      · intro h p hp
        exact h _ (List.mem_map.mpr ⟨p, hp, rfl⟩)
noncomputable def zQz (i : Int) : PyData := .tuple [.str (Str.ofString "int"), .int i]
noncomputable def kT (i : Int) : PyData := .tuple [.str (Str.ofString "bool"), .int i]
noncomputable def jCz (p : Nat) (env : List PyData) : PyData := .tuple [.str (Str.ofString "clo"), .int p, .list env]
noncomputable def wEz (a b : PyData) : PyData := .tuple [.str (Str.ofString "pair"), a, b]
noncomputable def stE (p : Nat) (env : List PyData) : PyData := .tuple [.str (Str.ofString "eval"), .int p, .list env]
noncomputable def stB (v : PyData) : PyData := .tuple [.str (Str.ofString "back"), v, .list []]
noncomputable def stS : PyData := .tuple [.str (Str.ofString "stuck"), .none, .list []]
noncomputable def fr (p : Nat) (env : List PyData) (v : PyData) : PyData := .tuple [.int p, .list env, v]
noncomputable def Tag (v : PyData) (t : String) : Prop := zX v (.int 0) = some (.str (Str.ofString t))
section
variable {nodes : List Node} {p : Nat} {env K : List PyData} {nd : Node} {v : PyData}
noncomputable abbrev yAq (nodes : List Node) (p : Nat) (env K : List PyData) : List Slot := [.fz (yJ nodes), .fz (.int p), .fz (.list env), .ol K]
theorem cut_l {e : EX} {l : List PyData} {σ : Sta} (h : rd e σ = some (.ok (.list l))) (hl : l.length ≤ lim) : z7z e none none σ = some (.ok (.pv (.list l))) := by
  have := xAz (lo := none) (hi := none) (a := none) (b := none) h rfl rfl hl
  rw [q6z] at this; exact this
theorem b_num {a b c : Int} (hn : nodes[p]? = some ⟨.num, a, b, c⟩) (hl : nodes.length ≤ lim) : G4 (w9 (yAq nodes p env K)) (stB (zQz a)) K :=
  ⟨_, _, _, _, yC rfl rfl <| zB (z2 (zO rfl rfl (uZ hn hl))) <| zR <| zW (zXz rfl rfl) <| zR <| yH rfl⟩
theorem b_bool {a b c : Int} (hn : nodes[p]? = some ⟨.bool, a, b, c⟩) (hl : nodes.length ≤ lim) : G4 (w9 (yAq nodes p env K)) (stB (kT a)) K :=
  ⟨_, _, _, _, yC rfl rfl <| zB (z2 (zO rfl rfl (uZ hn hl))) <| zB (zF (jQ rfl rfl) rfl) <| zR <| zW (zXz rfl rfl) <| zR <| yH rfl⟩
theorem b_ref {i : Nat} {b c : Int} (hn : nodes[p]? = some ⟨.ref, i, b, c⟩) (hl : nodes.length ≤ lim) (he : env[i]? = some v) (hel : env.length ≤ lim) : G4 (w9 (yAq nodes p env K)) (stB v) K :=
  ⟨_, _, _, _, yC rfl rfl <| zB (z2 (zO rfl rfl (uZ hn hl))) <| zB (zF (jQ rfl rfl) rfl) <| zB (zF (jQ rfl rfl) rfl) <| zR <| zW (zXz rfl rfl) <| zR <| yH <| y2 <| zN rfl <| zN (zO rfl (yB (zO rfl rfl rfl)) (v0 he hel)) <| zN rfl rfl⟩
theorem b_lam {a : Nat} {b c : Int} (hn : nodes[p]? = some ⟨.lam, a, b, c⟩) (hl : nodes.length ≤ lim) (hel : env.length ≤ lim) : G4 (w9 (yAq nodes p env K)) (stB (jCz a env)) K :=
  ⟨_, _, _, _, yC rfl rfl <| zB (z2 (zO rfl rfl (uZ hn hl))) <| zB (zF (jQ rfl rfl) rfl) <| zB (zF (jQ rfl rfl) rfl) <| zB (zF (jQ rfl rfl) rfl) <| zR <| zW (zXz rfl rfl) <| zR <| yH <| y2 <| zN rfl <| zN (y2 (zN rfl (zN (zO rfl rfl rfl) (zN (cut_l rfl hel) rfl)))) <| zN rfl rfl⟩
noncomputable def jTz (k : Kd) : Prop := k = .app ∨ k = .let_ ∨ k = .add ∨ k = .less ∨ k = .pair ∨ k = .fst ∨ k = .snd ∨ k = .if_
theorem b_push {k : Kd} {a : Nat} {b c : Int} (hk : jTz k) (hn : nodes[p]? = some ⟨k, a, b, c⟩) (hl : nodes.length ≤ lim) (hel : env.length ≤ lim) (hK : K.length ≤ lim) : G4 (w9 (yAq nodes p env K)) (stE a env) (K ++ [fr p env .none]) := by
  have hne : (k.str == "num") = false ∧ (k.str == "bool") = false ∧ (k.str == "ref") = false ∧ (k.str == "lam") = false := by
    rcases hk with h | h | h | h | h | h | h | h <;> rw [h] <;> decide
  obtain ⟨h1, h2, h3, h4⟩ := hne
  exact ⟨_, _, _, _, yC rfl rfl <| zB (z2 (zO rfl rfl (uZ hn hl))) <| zB (zF (jQ rfl h1) rfl) <| zB (zF (jQ rfl h2) rfl) <| zB (zF (jQ rfl h3) rfl) <| zB (zF (jQ rfl h4) rfl) <| zB (xQ (d := fr p env .none) rfl (y2 (zN rfl (zN rfl (zN rfl rfl)))) hK) <| zR <| yH <| y2 <| zN rfl <| zN (zO rfl rfl rfl) <| zN (cut_l rfl hel) rfl⟩
noncomputable abbrev wFz (nodes : List Node) (v : PyData) (K : List PyData) : List Slot := [.fz (yJ nodes), .fz v, .ol K]
noncomputable abbrev rSt (nodes : List Node) (v : PyData) (K : List PyData) (p : Nat) (env : List PyData) (w : PyData) (nd : Node) : Sta := [some (.fz (yJ nodes)), some (.fz v), some (.ol K), some (.fz (.int p)), some (.fz (.list env)), some (.fz w), some (.fz (eN nd)), some (.fz (.str (Str.ofString nd.kd.str))), none]
theorem w6z {w : PyData} {g : SX} {R : Out (Fl × Sta)} (hn : nodes[p]? = some nd) (hl : nodes.length ≤ lim) (hK : K.length < lim) (k : g (rSt nodes v K p env w nd) = R) :
    (zU (qEz [3, 4, 5] (op2 zX (zG 2) (op2 uK (op1 vM (zG 2)) (zD (.int (1))))))
    (zU (z7q 2 (op2 uK (op1 vM (zG 2)) (zD (.int (1)))))
    (zU (yX 6 (op2 zX (zG 0) (zG 3)))
    (zU (yX 7 (op2 zX (zG 6) (zD (.int (0))))) g)))) [some (.fz (yJ nodes)), some (.fz v), some (.ol (K ++ [fr p env w])), none, none, none, none, none, none] = R := by
  have hlen : (K ++ [fr p env w]).length = K.length + 1 := by simp
  have hi : ∀ (σ : Sta), σ[2]? = some (some (.ol (K ++ [fr p env w]))) → rd (op2 uK (op1 vM (zG 2)) (zD (.int (1)))) σ = some (.ok (.int (K.length : Nat))) := fun σ hσ =>
    yB (zO (yB (vK (qPz hσ) (wJ (by rw [hlen]; omega)))) rfl (xL (by rw [hlen]; omega)))
  have hit : zX (.list (K ++ [fr p env w])) (.int (K.length : Nat)) = some (fr p env w) := v0 (by simp) (by rw [hlen]; omega)
  refine zB (yFz (ds := [.int p, .list env, w]) (yB (zO (qPz rfl) (hi _ rfl) hit)) rfl) ?_
  refine zB (zCq rfl (hi _ rfl) (by rw [hlen]; omega) (by rw [hlen]; omega)) ?_
  have he : (K ++ [fr p env w]).eraseIdx K.length = K := by rw [List.eraseIdx_append_of_length_le (Nat.le_refl _)]; simp
  refine zB (z2 (zO rfl rfl (uZ hn hl))) (zB (z2 (zO rfl rfl rfl)) ?_)
  refine Eq.trans ?_ k
  refine congrArg g ?_
  show [_, _, some (Slot.ol ((K ++ [fr p env w]).eraseIdx K.length)), _, _, _, _, _, _] = _
  rw [he]
theorem wGz {k q : String} {σ : Sta} (hs : σ[7]? = some (some (.fz (.str (Str.ofString k))))) (h : (k == q) = true) : yR eqI (zG 7) (zD (.str (Str.ofString q))) σ = some (.ok true) := by
  have h1 : zG 7 σ = some (.ok (.pv (.str (Str.ofString k)))) := by unfold zG; rw [hs]
  exact zV (yB h1) rfl ((yG k q).trans (by rw [h]))
theorem yBz {k q : String} {σ : Sta} (hs : σ[7]? = some (some (.fz (.str (Str.ofString k))))) (h : (k == q) = false) : yR eqI (zG 7) (zD (.str (Str.ofString q))) σ = some (.ok false) := by
  have h1 : zG 7 σ = some (.ok (.pv (.str (Str.ofString k)))) := by unfold zG; rw [hs]
  exact zV (yB h1) rfl ((yG k q).trans (by rw [h]))
theorem wY (a b : String) : neI (.str (Str.ofString a)) (.str (Str.ofString b)) = some (!(a == b)) := by unfold neI; rw [yG]; rfl
theorem x2z {t : String} {σ : Sta} (hs : σ[1]? = some (some (.fz v))) (h : Tag v t) : rd (op2 zX (zG 1) (zD (.int (0)))) σ = some (.ok (.str (Str.ofString t))) := by
  have h1 : zG 1 σ = some (.ok (.pv v)) := by unfold zG; rw [hs]
  exact yB (zO (yB h1) rfl h)
theorem kLz {l : List PyData} (h : l.length < lim) : xK (.list [v]) (.list l) = some (.list (v :: l)) := wD (by simp; omega)
theorem r_let {a : Int} {b : Nat} {c : Int} (hn : nodes[p]? = some ⟨.let_, a, b, c⟩) (hl : nodes.length ≤ lim) (hK : K.length < lim) (hel : env.length < lim) : G3 (yZ (wFz nodes v (K ++ [fr p env .none]))) (stE b (v :: env)) K :=
  ⟨_, _, _, yC rfl rfl <| w6z hn hl hK <| zR <| zW rfl <| zR <| zW (wGz rfl rfl) <| zR <| yH <| y2 <| zN rfl <| zN (zO rfl rfl rfl) <| zN (zO rfl rfl (kLz hel)) rfl⟩
end
section
variable {nodes : List Node} {p : Nat} {env K : List PyData} {nd : Node} {v w : PyData} {t : String}
noncomputable abbrev rSt8 (nodes : List Node) (v : PyData) (K : List PyData) (p : Nat) (env : List PyData) (w : PyData) (nd : Node) (wt : String) : Sta := [some (.fz (yJ nodes)), some (.fz v), some (.ol K), some (.fz (.int p)), some (.fz (.list env)), some (.fz w), some (.fz (eN nd)), some (.fz (.str (Str.ofString nd.kd.str))), some (.fz (.str (Str.ofString wt)))]
noncomputable def zSz (k : Kd) (t : String) : String := if k.str == "pair" then t else if k.str == "app" then "clo" else if k.str == "if" then "bool" else if k.str == "fst" then "pair" else if k.str == "snd" then "pair" else "int"
theorem jSz {g1 : SX} {g : SX} {R : Out (Fl × Sta)} (hk : (nd.kd.str == "let") = false) (ht : Tag v t) (k : g (rSt8 nodes v K p env w nd (zSz nd.kd t)) = R) :
    (zU (ifC (yR eqI (zG 7) (zD (.str (Str.ofString "let")))) g1 yA)
    (zU (yX 8 (zD (.str (Str.ofString "int"))))
    (zU (ifC (yR eqI (zG 7) (zD (.str (Str.ofString "pair"))))
      (zU (yX 8 (op2 zX (zG 1) (zD (.int (0)))))
      yA)
      (zU (ifC (yR eqI (zG 7) (zD (.str (Str.ofString "app"))))
        (zU (yX 8 (zD (.str (Str.ofString "clo"))))
        yA)
        (zU (ifC (yR eqI (zG 7) (zD (.str (Str.ofString "if"))))
          (zU (yX 8 (zD (.str (Str.ofString "bool"))))
          yA)
          (zU (ifC (orB (yR eqI (zG 7) (zD (.str (Str.ofString "fst")))) (orB (yR eqI (zG 7) (zD (.str (Str.ofString "snd")))) (yDz false)))
            (zU (yX 8 (zD (.str (Str.ofString "pair"))))
            yA)
            yA)
          yA))
        yA))
      yA)) g))) (rSt nodes v K p env w nd) = R := by
  refine zB (zF (yBz rfl hk) rfl) (zB (z2 rfl) ?_)
  unfold zSz at k
  cases h1 : nd.kd.str == "pair" with
  | true =>
    rw [h1] at k
    refine zB (zW (wGz rfl h1) (zB (z2 ?_) rfl)) k
    have h1 : zG 1 [some (Slot.fz (yJ nodes)), some (.fz v), some (.ol K), some (.fz (.int p)), some (.fz (.list env)), some (.fz w), some (.fz (eN nd)), some (.fz (.str (Str.ofString nd.kd.str))), some (.fz (.str (Str.ofString "int")))] = some (.ok (.pv v)) := rfl
    exact zO (yB h1) rfl ht
  | false =>
    rw [h1] at k
    cases h2 : nd.kd.str == "app" with
    | true =>
      rw [h2] at k
      exact zB (zF (yBz rfl h1) (zB (zW (wGz rfl h2) (zB (z2 rfl) rfl)) rfl)) k
    | false =>
      rw [h2] at k
      cases h3 : nd.kd.str == "if" with
      | true =>
        rw [h3] at k
        exact zB (zF (yBz rfl h1) (zB (zF (yBz rfl h2) (zB (zW (wGz rfl h3) (zB (z2 rfl) rfl)) rfl)) rfl)) k
      | false =>
        rw [h3] at k
        cases h4 : nd.kd.str == "fst" with
        | true =>
          rw [h4] at k
          exact zB (zF (yBz rfl h1) (zB (zF (yBz rfl h2) (zB (zF (yBz rfl h3) (zB (zW (uM (wGz rfl h4)) (zB (z2 rfl) rfl)) rfl)) rfl)) rfl)) k
        | false =>
          rw [h4] at k
          cases h5 : nd.kd.str == "snd" with
          | true =>
            rw [h5] at k
            exact zB (zF (yBz rfl h1) (zB (zF (yBz rfl h2) (zB (zF (yBz rfl h3) (zB (zW (zZ (yBz rfl h4) (uM (wGz rfl h5))) (zB (z2 rfl) rfl)) rfl)) rfl)) rfl)) k
          | false =>
            rw [h5] at k
            exact zB (zF (yBz rfl h1) (zB (zF (yBz rfl h2) (zB (zF (yBz rfl h3) (zB (zF (zZ (yBz rfl h4) (zZ (yBz rfl h5) rfl)) rfl) rfl)) rfl)) rfl)) k
theorem r_stuck1 (hn : nodes[p]? = some nd) (hl : nodes.length ≤ lim) (hK : K.length < lim) (hk : (nd.kd.str == "let") = false) (ht : Tag v t) (hw : (t == zSz nd.kd t) = false) : G3 (yZ (wFz nodes v (K ++ [fr p env .none]))) stS K :=
  ⟨_, _, _, yC rfl rfl <| w6z hn hl hK <| zR <| zW rfl <| jSz hk ht <| zR <| zW (zV (x2z rfl ht) rfl ((wY _ _).trans (by rw [hw]; rfl))) <| zR <| yH <| y2 <| zN rfl <| zN rfl <| zN rfl rfl⟩
theorem r_push {b : Nat} {a c : Int} {k : Kd} (hn : nodes[p]? = some ⟨k, a, b, c⟩) (hl : nodes.length ≤ lim) (hK : K.length < lim) (hel : env.length ≤ lim) (hk : k = .app ∨ k = .add ∨ k = .less ∨ k = .pair) (ht : Tag v t) (hw : (t == zSz k t) = true) : G3 (yZ (wFz nodes v (K ++ [fr p env .none]))) (stE b env) (K ++ [fr p env v]) := by
  have hne : (k.str == "let") = false ∧ (k.str == "if") = false ∧ (k.str == "fst") = false ∧ (k.str == "snd") = false := by
    rcases hk with h | h | h | h <;> rw [h] <;> decide
  obtain ⟨h1, h2, h3, h4⟩ := hne
  exact ⟨_, _, _, yC rfl rfl <| w6z hn hl hK <| zR <| zW rfl <| jSz h1 ht <| zB (zF (zV (x2z rfl ht) rfl ((wY _ _).trans (by rw [hw]; rfl))) rfl) <| zB (zF (yBz rfl h2) rfl) <| zB (zF (yBz rfl h3) rfl) <| zB (zF (yBz rfl h4) rfl) <| zB (xQ (d := fr p env v) rfl (y2 (zN rfl (zN rfl (zN rfl rfl)))) (by omega)) <| zR <| yH <| y2 <| zN rfl <| zN (zO rfl rfl rfl) <| zN (cut_l rfl hel) rfl⟩
theorem r_if {b c : Nat} {a i : Int} (hn : nodes[p]? = some ⟨.if_, a, b, c⟩) (hl : nodes.length ≤ lim) (hK : K.length < lim) (hel : env.length ≤ lim) : G3 (yZ (wFz nodes (kT i) (K ++ [fr p env .none]))) (stE (if i = 1 then b else c) env) K := by
  have ht : Tag (kT i) "bool" := rfl
  have he : ∀ σ : Sta, σ[1]? = some (some (.fz (kT i))) → σ[6]? = some (some (.fz (eN ⟨.if_, a, b, c⟩))) → qP (yR eqI (op2 zX (zG 1) (zD (.int (1)))) (zD (.int (1)))) (op2 zX (zG 6) (zD (.int (2)))) (op2 zX (zG 6) (zD (.int (3)))) σ = some (.ok (.pv (.int ((if i = 1 then b else c : Nat) : Int)))) := fun σ h1 h6 => by
    have n1 : zG 1 σ = some (.ok (.pv (kT i))) := by unfold zG; rw [h1]
    have n6 : zG 6 σ = some (.ok (.pv (eN ⟨.if_, a, b, c⟩))) := by unfold zG; rw [h6]
    have hq : eqI (.int i) (.int 1) = some (decide (i = 1)) := by
      unfold eqI
      rw [uL (uD 0 i) (by omega), uL (uD 0 1) (by omega)]
      simp only [Bool.and_self, ↓reduceIte, PyData.eqv, Option.some.injEq]
      first | rfl | (simp [Bool.eq_iff_iff])
    by_cases h : i = 1
    · rw [if_pos h]
      exact qZ (zV (yB (zO (yB n1) rfl rfl)) rfl (hq.trans (by rw [decide_eq_true h]))) (zO (yB n6) rfl rfl)
    · rw [if_neg h]
      exact u6 (zV (yB (zO (yB n1) rfl rfl)) rfl (hq.trans (by rw [decide_eq_false h]))) (zO (yB n6) rfl rfl)
  exact ⟨_, _, _, yC rfl rfl <| w6z hn hl hK <| zR <| zW rfl <| jSz (t := "bool") rfl ht <| zB (zF (zV (x2z rfl ht) rfl (wY _ _)) rfl) <| zR <| zW (wGz rfl rfl) <| zR <| yH <| y2 <| zN rfl <| zN (he _ rfl rfl) <| zN (cut_l rfl hel) rfl⟩
theorem r_fst {a b c : Int} {x y : PyData} (hn : nodes[p]? = some ⟨.fst, a, b, c⟩) (hl : nodes.length ≤ lim) (hK : K.length < lim) : G3 (yZ (wFz nodes (wEz x y) (K ++ [fr p env .none]))) (stB x) K := by
  have ht : Tag (wEz x y) "pair" := rfl
  exact ⟨_, _, _, yC rfl rfl <| w6z hn hl hK <| zR <| zW rfl <| jSz (t := "pair") rfl ht <| zB (zF (zV (x2z rfl ht) rfl (wY _ _)) rfl) <| zB (zF (yBz rfl rfl) rfl) <| zR <| zW (wGz rfl rfl) <| zR <| yH <| y2 <| zN rfl <| zN (zO rfl rfl rfl) <| zN rfl rfl⟩
theorem r_snd {a b c : Int} {x y : PyData} (hn : nodes[p]? = some ⟨.snd, a, b, c⟩) (hl : nodes.length ≤ lim) (hK : K.length < lim) : G3 (yZ (wFz nodes (wEz x y) (K ++ [fr p env .none]))) (stB y) K := by
  have ht : Tag (wEz x y) "pair" := rfl
  exact ⟨_, _, _, yC rfl rfl <| w6z hn hl hK <| zR <| zW rfl <| jSz (t := "pair") rfl ht <| zB (zF (zV (x2z rfl ht) rfl (wY _ _)) rfl) <| zB (zF (yBz rfl rfl) rfl) <| zB (zF (yBz rfl rfl) rfl) <| zR <| zW (wGz rfl rfl) <| zR <| yH <| y2 <| zN rfl <| zN (zO rfl rfl rfl) <| zN rfl rfl⟩
theorem vCz {σ : Sta} (h : σ[5]? = some (some (.fz w))) (hw : w ≠ .none) : zAz vJ (zG 5) σ = some (.ok false) := by
  have h1 : zG 5 σ = some (.ok (.pv w)) := by unfold zG; rw [h]
  unfold zAz; rw [yB h1]
  show okP (vJ w) = _
  cases w <;> first | rfl | exact absurd rfl hw
theorem r_app2 {a b c : Int} {q : Nat} {cenv : List PyData} (hn : nodes[p]? = some ⟨.app, a, b, c⟩) (hl : nodes.length ≤ lim) (hK : K.length < lim) (hc : cenv.length < lim) : G3 (yZ (wFz nodes v (K ++ [fr p env (jCz q cenv)]))) (stE q (v :: cenv)) K :=
  ⟨_, _, _, yC rfl rfl <| w6z hn hl hK <| zB (zF (vCz rfl (fun e => by cases e)) rfl) <| zR <| zW (wGz rfl rfl) <| zR <| yH <| y2 <| zN rfl <| zN (zO rfl rfl rfl) <| zN (zO rfl (yB (zO rfl rfl rfl)) (kLz hc)) rfl⟩
theorem r_pair2 {a b c : Int} (hn : nodes[p]? = some ⟨.pair, a, b, c⟩) (hl : nodes.length ≤ lim) (hK : K.length < lim) (hw : w ≠ .none) : G3 (yZ (wFz nodes v (K ++ [fr p env w]))) (stB (wEz w v)) K :=
  ⟨_, _, _, yC rfl rfl <| w6z hn hl hK <| zB (zF (vCz rfl hw) rfl) <| zB (zF (yBz rfl rfl) rfl) <| zR <| zW (wGz rfl rfl) <| zR <| yH rfl⟩
theorem r_stuck2 {a b c : Int} {k : Kd} (hk : k = .add ∨ k = .less) (hn : nodes[p]? = some ⟨k, a, b, c⟩) (hl : nodes.length ≤ lim) (hK : K.length < lim) (hw : w ≠ .none) (ht : Tag v t) (hi : (t == "int") = false) : G3 (yZ (wFz nodes v (K ++ [fr p env w]))) stS K := by
  have hne : (k.str == "app") = false ∧ (k.str == "pair") = false := by
    rcases hk with h | h <;> rw [h] <;> decide
  exact ⟨_, _, _, yC rfl rfl <| w6z hn hl hK <| zB (zF (vCz rfl hw) rfl) <| zB (zF (yBz rfl hne.1) rfl) <| zB (zF (yBz rfl hne.2) rfl) <| zR <| zW (zV (x2z rfl ht) rfl ((wY _ _).trans (by rw [hi]; rfl))) <| zR <| yH rfl⟩
theorem r_add2 {a b c i j : Int} (hn : nodes[p]? = some ⟨.add, a, b, c⟩) (hl : nodes.length ≤ lim) (hK : K.length < lim) : G3 (yZ (wFz nodes (zQz j) (K ++ [fr p env (zQz i)]))) (stB (zQz (i + j))) K := by
  have ht : Tag (zQz j) "int" := rfl
  exact ⟨_, _, _, yC rfl rfl <| w6z hn hl hK <| zB (zF (vCz rfl (fun e => by cases e)) rfl) <| zB (zF (yBz rfl rfl) rfl) <| zB (zF (yBz rfl rfl) rfl) <| zB (zF (zV (x2z rfl ht) rfl (wY _ _)) rfl) <| zR <| zW (wGz rfl rfl) <| zR <| yH rfl⟩
theorem r_less2 {a b c i j : Int} (hn : nodes[p]? = some ⟨.less, a, b, c⟩) (hl : nodes.length ≤ lim) (hK : K.length < lim) : G3 (yZ (wFz nodes (zQz j) (K ++ [fr p env (zQz i)]))) (stB (kT (if i < j then 1 else 0))) K := by
  have ht : Tag (zQz j) "int" := rfl
  have he : ∀ σ : Sta, σ[1]? = some (some (.fz (zQz j))) → σ[5]? = some (some (.fz (zQz i))) → qP (yR ltI (op2 zX (zG 5) (zD (.int (1)))) (op2 zX (zG 1) (zD (.int (1))))) (zD (.int (1))) (zD (.int (0))) σ = some (.ok (.pv (.int (if i < j then 1 else 0)))) := fun σ h1 h5 => by
    have n1 : zG 1 σ = some (.ok (.pv (zQz j))) := by unfold zG; rw [h1]
    have n5 : zG 5 σ = some (.ok (.pv (zQz i))) := by unfold zG; rw [h5]
    have hq : ltI (.int i) (.int j) = some (decide (i < j)) := rfl
    by_cases h : i < j
    · rw [if_pos h]
      exact qZ (zV (yB (zO (yB n5) rfl rfl)) (yB (zO (yB n1) rfl rfl)) (hq.trans (by rw [decide_eq_true h]))) rfl
    · rw [if_neg h]
      exact u6 (zV (yB (zO (yB n5) rfl rfl)) (yB (zO (yB n1) rfl rfl)) (hq.trans (by rw [decide_eq_false h]))) rfl
  exact ⟨_, _, _, yC rfl rfl <| w6z hn hl hK <| zB (zF (vCz rfl (fun e => by cases e)) rfl) <| zB (zF (yBz rfl rfl) rfl) <| zB (zF (yBz rfl rfl) rfl) <| zB (zF (zV (x2z rfl ht) rfl (wY _ _)) rfl) <| zB (zF (yBz rfl rfl) rfl) <| zR <| yH <| y2 <| zN rfl <| zN (y2 (zN rfl (zN (he _ rfl rfl) rfl))) <| zN rfl rfl⟩
end
noncomputable abbrev Cf := List PyData × PyData
noncomputable def stp : SX := ifC (yR eqI (op2 zX (zG 3) (zD (.int (0)))) (zD (.str (Str.ofString "eval"))))
    (zU (hG 3 w9 [.loc 0, .ex (op2 zX (zG 3) (zD (.int (1)))), .ex (op2 zX (zG 3) (zD (.int (2)))), .loc 2])
    yA)
    (zU (hG 3 yZ [.loc 0, .ex (op2 zX (zG 3) (zD (.int (1)))), .loc 2])
    yA)
noncomputable abbrev uS (nodes : List Node) (F : Int) (c : Cf) : Sta := [some (.fz (yJ nodes)), some (.fz (.int F)), some (.ol c.1), some (.fz c.2)]
structure Half (nodes : List Node) (c c' : Cf) : Prop where
  go : ∀ F : Int, stp (uS nodes F c) = some (.ok (.next, uS nodes F c'))
theorem hQz {k q : String} {a b : PyData} {σ : Sta} (hs : σ[3]? = some (some (.fz (.tuple [.str (Str.ofString k), a, b])))) (h : (k == q) = true) : yR eqI (op2 zX (zG 3) (zD (.int (0)))) (zD (.str (Str.ofString q))) σ = some (.ok true) := by
  have h1 : zG 3 σ = some (.ok (.pv (.tuple [.str (Str.ofString k), a, b]))) := by unfold zG; rw [hs]
  exact zV (yB (zO (yB h1) rfl rfl)) rfl ((yG k q).trans (by rw [h]))
theorem st_no {k q : String} {a b : PyData} {σ : Sta} (hs : σ[3]? = some (some (.fz (.tuple [.str (Str.ofString k), a, b])))) (h : (k == q) = false) : yR eqI (op2 zX (zG 3) (zD (.int (0)))) (zD (.str (Str.ofString q))) σ = some (.ok false) := by
  have h1 : zG 3 σ = some (.ok (.pv (.tuple [.str (Str.ofString k), a, b]))) := by unfold zG; rw [hs]
  exact zV (yB (zO (yB h1) rfl rfl)) rfl ((yG k q).trans (by rw [h]))
section
variable {nodes : List Node} {p : Nat} {env K K' : List PyData} {v d : PyData}
theorem j8z (h : G4 (w9 (yAq nodes p env K)) d K') : Half nodes (K, stE p env) (K', d) := by
  obtain ⟨o0, o1, o2, τ, h⟩ := h
  exact ⟨fun F => zW (hQz (k := "eval") rfl rfl) (zB (k9z (z9 rfl (y4 (zO rfl rfl rfl) (y4 (zO rfl rfl rfl) (z9 rfl rfl)))) h rfl) rfl)⟩
theorem jM (h : G3 (yZ (wFz nodes v K)) d K') : Half nodes (K, stB v) (K', d) := by
  obtain ⟨o0, o1, τ, h⟩ := h
  exact ⟨fun F => zF (st_no (k := "back") rfl rfl) (zB (k9z (z9 rfl (y4 (zO rfl rfl rfl) (z9 rfl rfl))) h rfl) rfl)⟩
end
noncomputable def KOk (K : List PyData) : Prop := K.length ≤ 1000 ∧ ∀ e ∈ K, Lay 50 e
inductive Alive : Cf → Prop
  | ev {K : List PyData} {p : Nat} {env : List PyData} : Alive (K, stE p env)
  | bk {K : List PyData} {v : PyData} : K ≠ [] → KOk K → Alive (K, stB v)
inductive Hs (nodes : List Node) : Nat → Cf → Cf → Prop
  | one {c c' : Cf} : Half nodes c c' → Hs nodes 1 c c'
  | step {n : Nat} {c c' c'' : Cf} : Half nodes c c' → Alive c' → Hs nodes n c' c'' → Hs nodes (n + 1) c c''
theorem v7 {nodes : List Node} {n m : Nat} {a b c : Cf} (h : Hs nodes n a b) (hb : Alive b) (k : Hs nodes m b c) : Hs nodes (m + n) a c := by
  induction h with
  | one h => exact .step h hb k
  | step h1 h2 _ ih => exact .step h1 h2 (ih hb k)
noncomputable abbrev jQz : BX := yR gtI (zG 1) (zD (.int (0)))
theorem ru_stuck {nodes : List Node} {c : Cf} {K : List PyData} {F : Int} (h : Half nodes c (K, stS)) : yXz (uS nodes F c) = some (.ok (.ret (.tuple [.str (Str.ofString "stuck"), .none]), uS nodes (F - 1) (K, stS))) :=
  zB (z2 (zO rfl rfl (xL rfl))) <| zB (h.go (F - 1)) <| zR <| zW (hQz (k := "stuck") rfl rfl) <| zR <| yH rfl
theorem ru_done {nodes : List Node} {c : Cf} {v : PyData} {F : Int} (h : Half nodes c ([], stB v)) : yXz (uS nodes F c) = some (.ok (.ret (.tuple [.str (Str.ofString "done"), v]), uS nodes (F - 1) ([], stB v))) :=
  zB (z2 (zO rfl rfl (xL rfl))) <| zB (h.go (F - 1)) <| zB (zF (st_no (k := "back") rfl rfl) rfl) <| zR <| zW (yS (hQz (k := "back") rfl rfl) (yS (zV rfl rfl (eq_nil (n := 1) (vT (n := 0) (by simp)) (by omega))) rfl)) <| zR <| yH <| y2 <| zN rfl <| zN (zO rfl rfl rfl) rfl
theorem ru_next {nodes : List Node} {c c' : Cf} {F : Int} (h : Half nodes c c') (ha : Alive c') : yXz (uS nodes F c) = some (.ok (.next, uS nodes (F - 1) c')) := by
  induction ha with
  | ev => exact zB (z2 (zO rfl rfl (xL rfl))) <| zB (h.go (F - 1)) <| zB (zF (st_no (k := "eval") rfl rfl) rfl) <| zB (zF (y3 (st_no (k := "eval") rfl rfl)) rfl) rfl
  | @bk K v h1 h2 =>
    have hK : eqI (.list K) (.list []) = some false := by
      rw [eq_nil (vT h2.2) (by omega)]
      induction K with
      | nil => exact absurd rfl h1
      | cons _ _ => rfl
    exact zB (z2 (zO rfl rfl (xL rfl))) <| zB (h.go (F - 1)) <| zB (zF (st_no (k := "back") rfl rfl) rfl) <| zB (zF (yS (hQz (k := "back") rfl rfl) (y3 (zV rfl rfl hK))) rfl) rfl
noncomputable def Finis (c : Cf) (d : PyData) : Prop := (∃ v, c = ([], stB v) ∧ d = .tuple [.str (Str.ofString "done"), v]) ∨ (∃ K, c = (K, stS) ∧ d = .tuple [.str (Str.ofString "stuck"), .none])
theorem ru_last {nodes : List Node} {c c' : Cf} {d : PyData} {F : Int} (h : Half nodes c c') (hf : Finis c' d) : yXz (uS nodes F c) = some (.ok (.ret d, uS nodes (F - 1) c')) := by
  rcases hf with ⟨v, rfl, rfl⟩ | ⟨K, rfl, rfl⟩
  · exact ru_done h
  · exact ru_stuck h
theorem w1z {nodes : List Node} {c : Cf} {F : Int} : jQz (uS nodes F c) = some (.ok (decide (0 < F))) := zV rfl rfl rfl
theorem ru_loop {nodes : List Node} {n : Nat} {c c' : Cf} {d : PyData} (h : Hs nodes n c c') (hf : Finis c' d) : ∀ (F : Int) (N : Nat), F.toNat + 1 ≤ N →
    ((n : Int) ≤ F → ∃ F', wM jQz yXz N (uS nodes F c) = some (.ok (.ret d, uS nodes F' c'))) ∧ (F < n → ∃ F' c'', wM jQz yXz N (uS nodes F c) = some (.ok (.next, uS nodes F' c''))) := by
  induction h with
  | @one c c' h =>
    intro F N hN
    obtain ⟨N, rfl⟩ : ∃ M, N = M + 1 := ⟨N - 1, by omega⟩
    refine ⟨fun hF => ⟨F - 1, while_ret (w1z.trans (by rw [decide_eq_true (by omega)])) (ru_last h hf)⟩, fun hF => ⟨F, c, kS (w1z.trans (by rw [decide_eq_false (by omega)]))⟩⟩
  | @step n c c1 c2 h ha _ ih =>
    intro F N hN
    obtain ⟨N, rfl⟩ : ∃ M, N = M + 1 := ⟨N - 1, by omega⟩
    by_cases h0 : 0 < F
    · obtain ⟨i1, i2⟩ := ih hf (F - 1) N (by omega)
      refine ⟨fun hF => ?_, fun hF => ?_⟩
      · obtain ⟨F', hk⟩ := i1 (by omega)
        exact ⟨F', vH (w1z.trans (by rw [decide_eq_true h0])) (ru_next h ha) hk⟩
      · obtain ⟨F', c'', hk⟩ := i2 (by omega)
        exact ⟨F', c'', vH (w1z.trans (by rw [decide_eq_true h0])) (ru_next h ha) hk⟩
    · exact ⟨fun hF => by omega, fun hF => ⟨F, c, kS (w1z.trans (by rw [decide_eq_false h0]))⟩⟩
theorem x_run {nodes : List Node} {n : Nat} {c' : Cf} {d : PyData} (hl : 0 < nodes.length) (hlim : nodes.length ≤ lim) (h : Hs nodes n ([], stE (nodes.length - 1) []) c') (hf : Finis c' d) (F : Int) :
    ((n : Int) ≤ F → G2 (xrun [.fz (yJ nodes), .fz (.int F)]) d) ∧ (F < n → G2 (xrun [.fz (yJ nodes), .fz (.int F)]) (.tuple [.str (Str.ofString "fuel"), .none])) := by
  have hlen : rd (op1 vM (zG 0)) [some (.fz (yJ nodes)), some (.fz (.int F)), some (.ol []), none] = some (.ok (.int (nodes.length : Nat))) := yB (vK rfl ((wJ (by simpa using hlim)).trans (by simp)))
  have hgo := ru_loop h hf F (F.toNat + 1) (by omega)
  have h0 : ∀ R, wM jQz yXz (F.toNat + 1) (uS nodes F ([], stE (nodes.length - 1) [])) = R → uGz (fun σ => natAt σ 1 + 1) jQz yXz [some (.fz (yJ nodes)), some (.fz (.int F)), some (.ol []), some (.fz (stE (nodes.length - 1) []))] = R := fun R h => h
  refine ⟨fun hF => ?_, fun hF => ?_⟩
  · obtain ⟨F', hw⟩ := hgo.1 hF
    exact ⟨_, _, _, yC rfl rfl <| zB (xR rfl) <| zB (z2 (d := stE (nodes.length - 1) []) (y2 (zN rfl (zN (zO hlen rfl (xL (c := (nodes.length - 1 : Nat)) (by omega))) (zN rfl rfl))))) <| zR (h0 _ hw)⟩
  · obtain ⟨F', c'', hw⟩ := hgo.2 hF
    exact ⟨_, _, _, yC rfl rfl <| zB (xR rfl) <| zB (z2 (d := stE (nodes.length - 1) []) (y2 (zN rfl (zN (zO hlen rfl (xL (c := (nodes.length - 1 : Nat)) (by omega))) (zN rfl rfl))))) <| zB (h0 _ hw) <| zR <| yH rfl⟩
noncomputable def EOk (env : List PyData) : Prop := env.length ≤ 900 ∧ ∀ v ∈ env, Lay 40 v
structure Ev (nodes : List Node) (env : List PyData) (p : Nat) (v : PyData) (n : Nat) : Prop where
  go : ∀ K : List PyData, K.length + 2 * n ≤ 900 → (∀ e ∈ K, Lay 50 e) → Hs nodes n (K, stE p env) (K, stB v)
structure Es (nodes : List Node) (env : List PyData) (p : Nat) (n : Nat) : Prop where
  go : ∀ K : List PyData, K.length + 2 * n ≤ 900 → (∀ e ∈ K, Lay 50 e) → ∃ K', Hs nodes n (K, stE p env) (K', stS)
theorem Ev.cast {nodes : List Node} {env : List PyData} {p : Nat} {v v' : PyData} {n m : Nat} (h : Ev nodes env p v n) (e : n = m) (e' : v = v') : Ev nodes env p v' m := e ▸ e' ▸ h
theorem Es.cast {nodes : List Node} {env : List PyData} {p n m : Nat} (h : Es nodes env p n) (e : n = m) : Es nodes env p m := e ▸ h
theorem lay_fr {p : Nat} {env : List PyData} {v : PyData} (he : EOk env) (hv : Lay 40 v) : Lay 50 (fr p env v) := by
  refine (vC (n := 41) fun e h => ?_).up (by omega)
  simp only [List.mem_cons, List.not_mem_nil] at h
  rcases h with rfl | rfl | rfl | h
  · exact uD _ _
  · exact vT he.2
  · exact hv.up (by omega)
  · cases h
theorem vA {K : List PyData} {p : Nat} {env : List PyData} {v : PyData} (h : ∀ e ∈ K, Lay 50 e) (he : EOk env) (hv : Lay 40 v) : ∀ e ∈ K ++ [fr p env v], Lay 50 e := fun e hm => by
  simp only [List.mem_append, List.mem_singleton] at hm
  rcases hm with hm | rfl
  · exact h e hm
  · exact lay_fr he hv
theorem wH {K : List PyData} {p : Nat} {env : List PyData} {v w : PyData} (hl : K.length ≤ 900) (h : ∀ e ∈ K, Lay 50 e) (he : EOk env) (hv : Lay 40 v) : Alive (K ++ [fr p env v], stB w) :=
  .bk (by simp) ⟨by simp; omega, vA h he hv⟩
section
variable {nodes : List Node} {env : List PyData} {p a b c : Nat} {v va vb : PyData} {na nb nc : Nat} {t : String} {x y z : Int} {k : Kd}
theorem jN (hl : nodes.length ≤ 10000) (hn : nodes[p]? = some ⟨.num, x, y, z⟩) : Ev nodes env p (zQz x) 1 := ⟨fun K h1 h2 => .one (j8z (b_num hn (by trivial)))⟩
theorem vKz (hl : nodes.length ≤ 10000) (hn : nodes[p]? = some ⟨.bool, x, y, z⟩) : Ev nodes env p (kT x) 1 := ⟨fun K h1 h2 => .one (j8z (b_bool hn (by trivial)))⟩
theorem y8z {i : Nat} (hl : nodes.length ≤ 10000) (he : EOk env) (hn : nodes[p]? = some ⟨.ref, i, y, z⟩) (hi : env[i]? = some v) : Ev nodes env p v 1 := ⟨fun K h1 h2 => .one (j8z (b_ref hn (by trivial) hi (by have := he.1; trivial)))⟩
theorem kQ (hl : nodes.length ≤ 10000) (he : EOk env) (hn : nodes[p]? = some ⟨.lam, a, y, z⟩) : Ev nodes env p (jCz a env) 1 := ⟨fun K h1 h2 => .one (j8z (b_lam hn (by trivial) (by have := he.1; trivial)))⟩
theorem push {K : List PyData} (hl : nodes.length ≤ 10000) (he : EOk env) (hk : jTz k) (hn : nodes[p]? = some ⟨k, a, y, z⟩) (hK : K.length ≤ 900) : Half nodes (K, stE p env) (K ++ [fr p env .none], stE a env) :=
  j8z (b_push hk hn (by trivial) (by have := he.1; trivial) (by trivial))
theorem ev_let (hl : nodes.length ≤ 10000) (he : EOk env) (hn : nodes[p]? = some ⟨.let_, a, b, z⟩) (ha : Ev nodes env a va na) (hb : Ev nodes (va :: env) b vb nb) : Ev nodes env p vb (na + nb + 2) := by
  refine Ev.cast (n := (nb + 1) + na + 1) ⟨fun K h1 h2 => ?_⟩ (by omega) rfl
  have hel := he.1
  exact .step (push hl he (.inr (.inl rfl)) hn (by omega)) .ev (v7 (ha.go _ (by simp; omega) (vA h2 he (x7 _))) (wH (by omega) h2 he (x7 _)) (.step (jM (r_let hn (by trivial) (by trivial) (by trivial))) .ev (hb.go K (by omega) h2)))
theorem es_let (hl : nodes.length ≤ 10000) (he : EOk env) (hn : nodes[p]? = some ⟨.let_, a, b, z⟩) (ha : Ev nodes env a va na) (hb : Es nodes (va :: env) b nb) : Es nodes env p (na + nb + 2) := by
  refine Es.cast (n := (nb + 1) + na + 1) ⟨fun K h1 h2 => ?_⟩ (by omega)
  have hel := he.1
  obtain ⟨K', h⟩ := hb.go K (by omega) h2
  exact ⟨K', .step (push hl he (.inr (.inl rfl)) hn (by omega)) .ev (v7 (ha.go _ (by simp; omega) (vA h2 he (x7 _))) (wH (by omega) h2 he (x7 _)) (.step (jM (r_let hn (by trivial) (by trivial) (by trivial))) .ev h))⟩
theorem kL (hl : nodes.length ≤ 10000) (he : EOk env) (hk : jTz k) (hn : nodes[p]? = some ⟨k, a, y, z⟩) (ha : Es nodes env a na) : Es nodes env p (na + 1) := by
  refine ⟨fun K h1 h2 => ?_⟩
  obtain ⟨K', h⟩ := ha.go (K ++ [fr p env .none]) (by simp; omega) (vA h2 he (x7 _))
  exact ⟨K', .step (push hl he hk hn (by omega)) .ev h⟩
theorem qR (hl : nodes.length ≤ 10000) (he : EOk env) (hk : jTz k) (hk2 : (k.str == "let") = false) (hn : nodes[p]? = some ⟨k, a, y, z⟩) (ha : Ev nodes env a va na) (ht : Tag va t) (hw : (t == zSz k t) = false) : Es nodes env p (na + 2) := by
  refine Es.cast (n := 1 + na + 1) ⟨fun K h1 h2 => ?_⟩ (by omega)
  exact ⟨K, .step (push hl he hk hn (by omega)) .ev (v7 (ha.go _ (by simp; omega) (vA h2 he (x7 _))) (wH (by omega) h2 he (x7 _)) (.one (jM (r_stuck1 (nd := ⟨k, a, y, z⟩) hn (by trivial) (by trivial) hk2 ht hw))))⟩
theorem z5q {i : Int} (hl : nodes.length ≤ 10000) (he : EOk env) (hn : nodes[p]? = some ⟨.if_, a, b, c⟩) (ha : Ev nodes env a (kT i) na) (hb : Ev nodes env (if i = 1 then b else c) v nb) : Ev nodes env p v (na + nb + 2) := by
  refine Ev.cast (n := (nb + 1) + na + 1) ⟨fun K h1 h2 => ?_⟩ (by omega) rfl
  have hel := he.1
  exact .step (push hl he (.inr (.inr (.inr (.inr (.inr (.inr (.inr rfl))))))) hn (by omega)) .ev (v7 (ha.go _ (by simp; omega) (vA h2 he (x7 _))) (wH (by omega) h2 he (x7 _)) (.step (jM (r_if hn (by trivial) (by trivial) (by trivial))) .ev (hb.go K (by omega) h2)))
theorem es_if {i : Int} (hl : nodes.length ≤ 10000) (he : EOk env) (hn : nodes[p]? = some ⟨.if_, a, b, c⟩) (ha : Ev nodes env a (kT i) na) (hb : Es nodes env (if i = 1 then b else c) nb) : Es nodes env p (na + nb + 2) := by
  refine Es.cast (n := (nb + 1) + na + 1) ⟨fun K h1 h2 => ?_⟩ (by omega)
  have hel := he.1
  obtain ⟨K', h⟩ := hb.go K (by omega) h2
  exact ⟨K', .step (push hl he (.inr (.inr (.inr (.inr (.inr (.inr (.inr rfl))))))) hn (by omega)) .ev (v7 (ha.go _ (by simp; omega) (vA h2 he (x7 _))) (wH (by omega) h2 he (x7 _)) (.step (jM (r_if hn (by trivial) (by trivial) (by trivial))) .ev h))⟩
theorem ev_fst (hl : nodes.length ≤ 10000) (he : EOk env) (hn : nodes[p]? = some ⟨.fst, a, y, z⟩) (ha : Ev nodes env a (wEz va vb) na) : Ev nodes env p va (na + 2) := by
  refine Ev.cast (n := 1 + na + 1) ⟨fun K h1 h2 => ?_⟩ (by omega) rfl
  exact .step (push hl he (.inr (.inr (.inr (.inr (.inr (.inl rfl)))))) hn (by omega)) .ev (v7 (ha.go _ (by simp; omega) (vA h2 he (x7 _))) (wH (by omega) h2 he (x7 _)) (.one (jM (r_fst hn (by trivial) (by trivial)))))
theorem ev_snd (hl : nodes.length ≤ 10000) (he : EOk env) (hn : nodes[p]? = some ⟨.snd, a, y, z⟩) (ha : Ev nodes env a (wEz va vb) na) : Ev nodes env p vb (na + 2) := by
  refine Ev.cast (n := 1 + na + 1) ⟨fun K h1 h2 => ?_⟩ (by omega) rfl
  exact .step (push hl he (.inr (.inr (.inr (.inr (.inr (.inr (.inl rfl))))))) hn (by omega)) .ev (v7 (ha.go _ (by simp; omega) (vA h2 he (x7 _))) (wH (by omega) h2 he (x7 _)) (.one (jM (r_snd hn (by trivial) (by trivial)))))
theorem half2 {K : List PyData} {m : Nat} {c' : Cf} (hl : nodes.length ≤ 10000) (he : EOk env) (hk : k = .app ∨ k = .add ∨ k = .less ∨ k = .pair) (hn : nodes[p]? = some ⟨k, a, b, z⟩) (ha : Ev nodes env a va na) (ht : Tag va t) (hw : (t == zSz k t) = true) (h1 : K.length + 2 * (na + 2) ≤ 900) (h2 : ∀ e ∈ K, Lay 50 e) (h : Hs nodes m (K ++ [fr p env va], stE b env) c') : Hs nodes (m + na + 2) (K, stE p env) c' := by
  have hk' : jTz k := by rcases hk with rfl | rfl | rfl | rfl; exact .inl rfl; exact .inr (.inr (.inl rfl)); exact .inr (.inr (.inr (.inl rfl))); exact .inr (.inr (.inr (.inr (.inl rfl))))
  have hel := he.1
  have := Hs.step (push hl he hk' hn (by omega)) .ev (v7 (ha.go _ (by simp; omega) (vA h2 he (x7 _))) (wH (by omega) h2 he (x7 _)) (.step (jM (r_push hn (by trivial) (by trivial) (by trivial) hk ht hw)) .ev h))
  have e : m + 1 + na + 1 = m + na + 2 := by omega
  rw [e] at this
  exact this
theorem y9z (hl : nodes.length ≤ 10000) (he : EOk env) (hk : k = .app ∨ k = .add ∨ k = .less ∨ k = .pair) (hn : nodes[p]? = some ⟨k, a, b, z⟩) (ha : Ev nodes env a va na) (hv : Lay 40 va) (ht : Tag va t) (hw : (t == zSz k t) = true) (hb : Es nodes env b nb) : Es nodes env p (na + nb + 2) := by
  refine Es.cast (n := nb + na + 2) ⟨fun K h1 h2 => ?_⟩ (by omega)
  obtain ⟨K', h⟩ := hb.go (K ++ [fr p env va]) (by simp; omega) (vA h2 he hv)
  exact ⟨K', half2 hl he hk hn ha ht hw (by omega) h2 h⟩
theorem ev_two {d : PyData} (hl : nodes.length ≤ 10000) (he : EOk env) (hk : k = .app ∨ k = .add ∨ k = .less ∨ k = .pair) (hn : nodes[p]? = some ⟨k, a, b, z⟩) (ha : Ev nodes env a va na) (hv : Lay 40 va) (ht : Tag va t) (hw : (t == zSz k t) = true) (hb : Ev nodes env b vb nb) (hr : ∀ K : List PyData, K.length ≤ 900 → Half nodes (K ++ [fr p env va], stB vb) (K, stB d)) : Ev nodes env p d (na + nb + 3) := by
  refine Ev.cast (n := (1 + nb) + na + 2) ⟨fun K h1 h2 => ?_⟩ (by omega) rfl
  exact half2 hl he hk hn ha ht hw (by omega) h2 (v7 (hb.go _ (by simp; omega) (vA h2 he hv)) (wH (by omega) h2 he hv) (.one (hr K (by omega))))
theorem u3z (hl : nodes.length ≤ 10000) (he : EOk env) (hk : k = .add ∨ k = .less) (hn : nodes[p]? = some ⟨k, a, b, z⟩) {i : Int} (ha : Ev nodes env a (zQz i) na) (hb : Ev nodes env b vb nb) (ht : Tag vb t) (hi : (t == "int") = false) : Es nodes env p (na + nb + 3) := by
  refine Es.cast (n := (1 + nb) + na + 2) ⟨fun K h1 h2 => ?_⟩ (by omega)
  have hv : Lay 40 (zQz i) := (vC (n := 0) (by
    intro e h
    simp only [List.mem_cons, List.not_mem_nil] at h
    rcases h with rfl | rfl | h
    · exact kJ _ _
    · exact uD _ _
    · cases h)).up (by omega)
  have hk' : k = .app ∨ k = .add ∨ k = .less ∨ k = .pair := by rcases hk with h | h; exact .inr (.inl h); exact .inr (.inr (.inl h))
  have hw : ("int" == zSz k "int") = true := by rcases hk with rfl | rfl <;> decide
  exact ⟨K, half2 (t := "int") hl he hk' hn ha rfl hw (by omega) h2 (v7 (hb.go _ (by simp; omega) (vA h2 he hv)) (wH (by omega) h2 he hv) (.one (jM (r_stuck2 hk hn (by trivial) (by trivial) (fun e => by cases e) ht hi))))⟩
theorem u9 (i : Int) : Lay 40 (zQz i) := (vC (n := 0) (by
    intro e h
    simp only [List.mem_cons, List.not_mem_nil] at h
    rcases h with rfl | rfl | h
    · exact kJ _ _
    · exact uD _ _
    · cases h)).up (by omega)
theorem tag_none (h : Tag v t) : v ≠ .none := fun e => by subst e; cases h
theorem q4z (hl : nodes.length ≤ 10000) (he : EOk env) (hn : nodes[p]? = some ⟨.pair, a, b, z⟩) (ha : Ev nodes env a va na) (hv : Lay 40 va) (ht : Tag va t) (hb : Ev nodes env b vb nb) : Ev nodes env p (wEz va vb) (na + nb + 3) :=
  ev_two hl he (.inr (.inr (.inr rfl))) hn ha hv ht (by simp [zSz, Kd.str]) hb fun K hK => jM (r_pair2 hn (by trivial) (by trivial) (tag_none ht))
theorem ev_add {i j : Int} (hl : nodes.length ≤ 10000) (he : EOk env) (hn : nodes[p]? = some ⟨.add, a, b, z⟩) (ha : Ev nodes env a (zQz i) na) (hb : Ev nodes env b (zQz j) nb) : Ev nodes env p (zQz (i + j)) (na + nb + 3) :=
  ev_two (t := "int") hl he (.inr (.inl rfl)) hn ha (u9 i) rfl rfl hb fun K hK => jM (r_add2 hn (by trivial) (by trivial))
theorem ev_less {i j : Int} (hl : nodes.length ≤ 10000) (he : EOk env) (hn : nodes[p]? = some ⟨.less, a, b, z⟩) (ha : Ev nodes env a (zQz i) na) (hb : Ev nodes env b (zQz j) nb) : Ev nodes env p (kT (if i < j then 1 else 0)) (na + nb + 3) :=
  ev_two (t := "int") hl he (.inr (.inr (.inl rfl))) hn ha (u9 i) rfl rfl hb fun K hK => jM (r_less2 hn (by trivial) (by trivial))
theorem u2z {q : Nat} {cenv : List PyData} (hl : nodes.length ≤ 10000) (he : EOk env) (hn : nodes[p]? = some ⟨.app, a, b, z⟩) (ha : Ev nodes env a (jCz q cenv) na) (hv : Lay 40 (jCz q cenv)) (hc : cenv.length ≤ 900) (hb : Ev nodes env b vb nb) (hq : Ev nodes (vb :: cenv) q v nc) : Ev nodes env p v (na + nb + nc + 3) := by
  refine Ev.cast (n := ((nc + 1) + nb) + na + 2) ⟨fun K h1 h2 => ?_⟩ (by omega) rfl
  exact half2 (t := "clo") hl he (.inl rfl) hn ha rfl rfl (by omega) h2 (v7 (hb.go _ (by simp; omega) (vA h2 he hv)) (wH (by omega) h2 he hv) (.step (jM (r_app2 hn (by trivial) (by trivial) (by trivial))) .ev (hq.go K (by omega) h2)))
theorem es_app {q : Nat} {cenv : List PyData} (hl : nodes.length ≤ 10000) (he : EOk env) (hn : nodes[p]? = some ⟨.app, a, b, z⟩) (ha : Ev nodes env a (jCz q cenv) na) (hv : Lay 40 (jCz q cenv)) (hc : cenv.length ≤ 900) (hb : Ev nodes env b vb nb) (hq : Es nodes (vb :: cenv) q nc) : Es nodes env p (na + nb + nc + 3) := by
  refine Es.cast (n := ((nc + 1) + nb) + na + 2) ⟨fun K h1 h2 => ?_⟩ (by omega)
  obtain ⟨K', h⟩ := hq.go K (by omega) h2
  exact ⟨K', half2 (t := "clo") hl he (.inl rfl) hn ha rfl rfl (by omega) h2 (v7 (hb.go _ (by simp; omega) (vA h2 he hv)) (wH (by omega) h2 he hv) (.step (jM (r_app2 hn (by trivial) (by trivial) (by trivial))) .ev h))⟩
end
inductive Va where
  | int (i : Int)
  | bool (b : Bool)
  | clo (p : Nat) (env : List PyData)
  | pair (a b : Va)
noncomputable def Va.enc : Va → PyData
  | .int i => zQz i
  | .bool b => kT (if b then 1 else 0)
  | .clo p env => jCz p env
  | .pair a b => wEz a.enc b.enc
noncomputable def Va.tag : Va → String
  | .int _ => "int"
  | .bool _ => "bool"
  | .clo _ _ => "clo"
  | .pair _ _ => "pair"
theorem tag_ok (v : Va) : Tag v.enc v.tag := by cases v <;> rfl
noncomputable def uI (op : Op) (o : Option Va) (s : Nat) (lit : Int) (q : Nat) (env : List PyData) : Option Va × Nat := match op with
  | .lam => (some (.clo q env), 1)
  | .if1 => if lit.fmod 2 = 1 then (o, 3 + s) else (some (.int (lit + 1)), 4)
  | .if2 => if lit.fmod 2 = 1 then (some (.int (lit + 1)), 4) else (o, 3 + s)
  | .pair0 => match o with
    | none => (none, s + 1)
    | some v => (some (.pair v (.int lit)), s + 4)
  | .pair1 => match o with
    | none => (none, s + 3)
    | some v => (some (.pair (.int lit) v), s + 4)
  | .fst => match o with
    | none => (none, s + 1)
    | some (.pair a _) => (some a, s + 2)
    | some _ => (none, s + 2)
  | .snd => match o with
    | none => (none, s + 1)
    | some (.pair _ b) => (some b, s + 2)
    | some _ => (none, s + 2)
  | .if0 => match o with
    | none => (none, s + 1)
    | some (.bool b) => (some (.int (lit + 1 - (if b then 1 else 0))), s + 3)
    | some _ => (none, s + 2)
  | .add0 => match o with
    | none => (none, s + 1)
    | some (.int i) => (some (.int (i + lit)), s + 4)
    | some _ => (none, s + 2)
  | .add1 => match o with
    | none => (none, s + 3)
    | some (.int i) => (some (.int (i + lit)), s + 4)
    | some _ => (none, s + 4)
  | .less0 => match o with
    | none => (none, s + 1)
    | some (.int i) => (some (.bool (decide (i < lit))), s + 4)
    | some _ => (none, s + 2)
  | .less1 => match o with
    | none => (none, s + 3)
    | some (.int i) => (some (.bool (decide (lit < i))), s + 4)
    | some _ => (none, s + 4)
noncomputable def Rs (nodes : List Node) (env : List PyData) (p : Nat) (r : Option Va × Nat) : Prop := match r.1 with
  | some v => Ev nodes env p v.enc r.2
  | none => Es nodes env p r.2
inductive AtL (nodes : List Node) (op : Op) (q p : Nat) (lit : Int) : Prop
  | mk (L : Nat) (h : nodes[p]? = some (op.node q L)) (k : ∀ i nd, (opEx op lit)[i]? = some nd → nodes[L + i]? = some nd) : AtL nodes op q p lit
noncomputable def VL (d : Nat) (o : Option Va) : Prop := ∀ v, o = some v → Lay d v.enc
section
variable {nodes : List Node} {env : List PyData} {q p s : Nat} {o : Option Va} {lit : Int} {op : Op}
theorem act_lam (hl : nodes.length ≤ 10000) (he : EOk env) (A : AtL nodes .lam q p lit) : Rs nodes env p (uI .lam o s lit q env) := by
  obtain ⟨L, hn, _⟩ := A
  exact kQ hl he hn
theorem mod2 (x : Int) : x.fmod 2 = 0 ∨ x.fmod 2 = 1 := by rw [Int.fmod_eq_emod_of_nonneg _ (by omega)]; omega
theorem wSz (b : Bool) (x : Int) (h : x = if b then 1 else 0) : kT x = (Va.bool b).enc := by subst h; rfl
theorem act_ok (hl : nodes.length ≤ 10000) (he : EOk env) (hop : op.kd ≠ .lam) (A : AtL nodes op q p lit) (h : Rs nodes env q (o, s)) (hv : VL 40 o) : Rs nodes env p (uI op o s lit q env) := by
  obtain ⟨L, hn, hx⟩ := A
  induction op with
  | lam => exact absurd rfl hop
  | pair0 =>
    have e0 := jN (env := env) hl (hx 0 _ rfl)
    induction o with
    | none => exact kL hl he (.inr (.inr (.inr (.inr (.inl rfl))))) hn h
    | some v => exact (q4z hl he hn h (hv v rfl) (tag_ok v) e0).cast rfl rfl
  | pair1 =>
    have e0 := jN (env := env) hl (hx 0 _ rfl)
    induction o with
    | none => exact (y9z (t := "int") hl he (.inr (.inr (.inr rfl))) hn e0 (u9 _) rfl rfl h).cast (by simp only [uI]; omega)
    | some v => exact (q4z (t := "int") hl he hn e0 (u9 _) rfl h).cast (by simp only [uI]; omega) rfl
  | fst =>
    induction o with
    | none => exact kL hl he (.inr (.inr (.inr (.inr (.inr (.inl rfl)))))) hn h
    | some v =>
      induction v with
      | pair a b => exact ev_fst hl he hn h
      | int i => exact qR (t := "int") hl he (.inr (.inr (.inr (.inr (.inr (.inl rfl)))))) rfl hn h rfl rfl
      | bool i => exact qR (t := "bool") hl he (.inr (.inr (.inr (.inr (.inr (.inl rfl)))))) rfl hn h rfl rfl
      | clo _ _ => exact qR (t := "clo") hl he (.inr (.inr (.inr (.inr (.inr (.inl rfl)))))) rfl hn h rfl rfl
  | snd =>
    induction o with
    | none => exact kL hl he (.inr (.inr (.inr (.inr (.inr (.inr (.inl rfl))))))) hn h
    | some v =>
      induction v with
      | pair a b => exact ev_snd hl he hn h
      | int i => exact qR (t := "int") hl he (.inr (.inr (.inr (.inr (.inr (.inr (.inl rfl))))))) rfl hn h rfl rfl
      | bool i => exact qR (t := "bool") hl he (.inr (.inr (.inr (.inr (.inr (.inr (.inl rfl))))))) rfl hn h rfl rfl
      | clo _ _ => exact qR (t := "clo") hl he (.inr (.inr (.inr (.inr (.inr (.inr (.inl rfl))))))) rfl hn h rfl rfl
  | if0 =>
    have e0 := jN (env := env) hl (hx 0 _ rfl)
    have e1 := jN (env := env) hl (hx 1 _ rfl)
    induction o with
    | none => exact kL hl he (.inr (.inr (.inr (.inr (.inr (.inr (.inr rfl))))))) hn h
    | some v =>
      induction v with
      | bool b =>
        induction b with
        | true => exact (z5q (i := 1) hl he hn h e0).cast (by simp only [uI]) (by simp only [Va.enc, ↓reduceIte]; congr 1; omega)
        | false => exact (z5q (i := 0) hl he hn h e1).cast (by simp only [uI]) (by simp only [Va.enc, Bool.false_eq_true, ↓reduceIte]; congr 1; omega)
      | int i => exact qR (t := "int") hl he (.inr (.inr (.inr (.inr (.inr (.inr (.inr rfl))))))) rfl hn h rfl rfl
      | clo _ _ => exact qR (t := "clo") hl he (.inr (.inr (.inr (.inr (.inr (.inr (.inr rfl))))))) rfl hn h rfl rfl
      | pair _ _ => exact qR (t := "pair") hl he (.inr (.inr (.inr (.inr (.inr (.inr (.inr rfl))))))) rfl hn h rfl rfl
  | if1 =>
    have e0 := vKz (env := env) hl (hx 0 _ rfl)
    have e1 := jN (env := env) hl (hx 1 _ rfl)
    by_cases hm : lit.fmod 2 = 1
    · rw [show uI .if1 o s lit q env = (o, 3 + s) from by simp [uI, hm]]
      rw [hm] at e0
      induction o with
      | none => exact (es_if (i := 1) hl he hn e0 h).cast (by omega)
      | some v => exact (z5q (i := 1) hl he hn e0 h).cast (by simp only; omega) rfl
    · rw [show uI .if1 o s lit q env = (some (.int (lit + 1)), 4) from by simp [uI, hm]]
      exact (z5q hl he hn e0 (by rw [if_neg hm]; exact e1)).cast rfl rfl
  | if2 =>
    have e0 := vKz (env := env) hl (hx 0 _ rfl)
    have e1 := jN (env := env) hl (hx 1 _ rfl)
    by_cases hm : lit.fmod 2 = 1
    · rw [show uI .if2 o s lit q env = (some (.int (lit + 1)), 4) from by simp [uI, hm]]
      exact (z5q hl he hn e0 (by rw [if_pos hm]; exact e1)).cast rfl rfl
    · rw [show uI .if2 o s lit q env = (o, 3 + s) from by simp [uI, hm]]
      induction o with
      | none => exact (es_if hl he hn e0 (by rw [if_neg hm]; exact h)).cast (by omega)
      | some v => exact (z5q hl he hn e0 (by rw [if_neg hm]; exact h)).cast (by simp only; omega) rfl
  | add0 =>
    have e0 := jN (env := env) hl (hx 0 _ rfl)
    induction o with
    | none => exact kL hl he (.inr (.inr (.inl rfl))) hn h
    | some v =>
      induction v with
      | int i => exact (ev_add hl he hn h e0).cast rfl rfl
      | bool i => exact qR (t := "bool") hl he (.inr (.inr (.inl rfl))) rfl hn h rfl rfl
      | clo _ _ => exact qR (t := "clo") hl he (.inr (.inr (.inl rfl))) rfl hn h rfl rfl
      | pair _ _ => exact qR (t := "pair") hl he (.inr (.inr (.inl rfl))) rfl hn h rfl rfl
  | less0 =>
    have e0 := jN (env := env) hl (hx 0 _ rfl)
    induction o with
    | none => exact kL hl he (.inr (.inr (.inr (.inl rfl)))) hn h
    | some v =>
      induction v with
      | int i => exact (ev_less hl he hn h e0).cast rfl (wSz _ _ (by by_cases h : i < lit <;> simp [h]))
      | bool i => exact qR (t := "bool") hl he (.inr (.inr (.inr (.inl rfl)))) rfl hn h rfl rfl
      | clo _ _ => exact qR (t := "clo") hl he (.inr (.inr (.inr (.inl rfl)))) rfl hn h rfl rfl
      | pair _ _ => exact qR (t := "pair") hl he (.inr (.inr (.inr (.inl rfl)))) rfl hn h rfl rfl
  | add1 =>
    have e0 := jN (env := env) hl (hx 0 _ rfl)
    induction o with
    | none => exact (y9z (t := "int") hl he (.inr (.inl rfl)) hn e0 (u9 _) rfl rfl h).cast (by simp only [uI]; omega)
    | some v =>
      induction v with
      | int i => exact (ev_add hl he hn e0 h).cast (by simp only [uI]; omega) (by simp only [Va.enc]; rw [Int.add_comm])
      | bool i => exact (u3z (t := "bool") hl he (.inl rfl) hn e0 h rfl rfl).cast (by simp only [uI]; omega)
      | clo _ _ => exact (u3z (t := "clo") hl he (.inl rfl) hn e0 h rfl rfl).cast (by simp only [uI]; omega)
      | pair _ _ => exact (u3z (t := "pair") hl he (.inl rfl) hn e0 h rfl rfl).cast (by simp only [uI]; omega)
  | less1 =>
    have e0 := jN (env := env) hl (hx 0 _ rfl)
    induction o with
    | none => exact (y9z (t := "int") hl he (.inr (.inr (.inl rfl))) hn e0 (u9 _) rfl rfl h).cast (by simp only [uI]; omega)
    | some v =>
      induction v with
      | int i => exact (ev_less hl he hn e0 h).cast (by simp only [uI]; omega) (wSz _ _ (by by_cases h : lit < i <;> simp [h]))
      | bool i => exact (u3z (t := "bool") hl he (.inr rfl) hn e0 h rfl rfl).cast (by simp only [uI]; omega)
      | clo _ _ => exact (u3z (t := "clo") hl he (.inr rfl) hn e0 h rfl rfl).cast (by simp only [uI]; omega)
      | pair _ _ => exact (u3z (t := "pair") hl he (.inr rfl) hn e0 h rfl rfl).cast (by simp only [uI]; omega)
end
theorem zKq {A C : List Node} {op : Op} {q p : Nat} {lit : Int} (hp : p = A.length + op.ex.length) : AtL (A ++ (opEx op lit ++ [op.node q A.length]) ++ C) op q p lit := by
  refine ⟨A.length, ?_, fun i nd h => ?_⟩
  · rw [List.append_assoc]
    refine uBz hp ?_
    rw [List.append_assoc]
    exact uBz (A := opEx op lit) (i := 0) (by rw [kE]; omega) rfl
  · rw [List.append_assoc]
    refine uBz rfl ?_
    rw [List.append_assoc, List.getElem?_append_left (by have := (List.getElem?_eq_some_iff.mp h).1; exact this)]
    exact h
theorem opL_at {nodes C : List Node} {op : Op} {lit : Int} : AtL (yF nodes op .r0 lit ++ C) op (nodes.length - 1) ((yF nodes op .r0 lit).length - 1) lit := zKq (by rw [hX]; simp only []; omega)
theorem zIq {nodes C : List Node} {op : Op} {lit : Int} : AtL (u0z (nodes ++ [⟨.ref, (u5 op : Nat), 0, 0⟩]) op nodes.length lit ++ C) op nodes.length (nodes.length + 1 + op.ex.length) lit := by
  unfold u0z
  exact zKq (by simp)
theorem bodyL_at1 {nodes C : List Node} {op : Op} {lit : Int} : AtL (yF nodes op .r1 lit ++ C) op nodes.length (nodes.length + 1 + op.ex.length) lit := by
  unfold yF; rw [List.append_assoc]; exact zIq
theorem bodyL_at2 {nodes C : List Node} {op : Op} {lit : Int} : AtL (yF nodes op .r2 lit ++ C) op nodes.length (nodes.length + 1 + op.ex.length) lit := by
  unfold yF; rw [List.append_assoc]; exact zIq
noncomputable def RP (nodes : List Node) (r : Option Va × Nat) : Prop := ∀ ext : List Node, (nodes ++ ext).length ≤ 10000 → Rs (nodes ++ ext) [] (nodes.length - 1) r
noncomputable def q5 (op : Op) (rd : Rd) (r : Option Va × Nat) (lit : Int) (L : Nat) : Option Va × Nat := match rd with
  | .r0 => uI op r.1 r.2 lit (L - 1) []
  | .r1 => match r.1 with
    | none => (none, r.2 + 1)
    | some v => ((uI op (some v) 1 lit L [v.enc]).1, r.2 + 2 + (uI op (some v) 1 lit L [v.enc]).2)
  | .r2 => match r.1 with
    | none => (none, r.2 + 3)
    | some v => ((uI op (some v) 1 lit L [v.enc]).1, r.2 + 4 + (uI op (some v) 1 lit L [v.enc]).2)
theorem wF : EOk [] := ⟨by simp, by simp⟩
theorem jS {v : PyData} (h : Lay 40 v) : EOk [v] := ⟨by simp, by simpa using h⟩
theorem xVz {p d : Nat} {env : List PyData} (h : ∀ e ∈ env, Lay d e) : Lay (d + 2) (jCz p env) := by
  refine vC fun e he => ?_
  simp only [List.mem_cons, List.not_mem_nil] at he
  rcases he with rfl | rfl | rfl | he
  · exact kJ _ _
  · exact uD _ _
  · exact vT h
  · cases he
theorem rs_act {nodes : List Node} {q2 body : Nat} {lit : Int} {op : Op} {v : Va} (hl : nodes.length ≤ 10000) (hv : Lay 40 v.enc) (B : Body nodes op q2 body) (A : AtL nodes op q2 body lit) : Rs nodes [v.enc] body (uI op (some v) 1 lit q2 [v.enc]) := by
  by_cases hop : op.kd = .lam
  · obtain rfl := j0z hop
    exact act_lam hl (jS hv) A
  · have hz : (op.kd.str == "lam") = false := by
      cases e : op.kd.str == "lam" with
      | false => rfl
      | true => exact absurd ((isLam op).mp e) hop
    obtain ⟨y, z, hr⟩ := B.ref
    rw [hz] at hr
    have h1 : Rs nodes [v.enc] q2 (some v, 1) := y8z hl (jS hv) hr rfl
    exact act_ok hl (jS hv) hop A h1 (fun w hw => by cases hw; exact hv)
theorem wrap_run {nodes : List Node} {r : Option Va × Nat} {op : Op} {lit : Int} (rd : Rd) (h : RP nodes r) (hv : VL 40 r.1) : RP (yF nodes op rd lit) (q5 op rd r lit nodes.length) := by
  intro ext hl
  obtain ⟨D, hD⟩ := pre_of (nodes := nodes) (ext := ext) (op := op) (lit := lit) rd
  have H : Rs (yF nodes op rd lit ++ ext) [] (nodes.length - 1) r := by
    rw [hD] at hl ⊢
    exact h D hl
  obtain ⟨o, n⟩ := r
  induction rd with
  | r0 =>
    by_cases hop : op.kd = .lam
    · obtain rfl := j0z hop
      exact act_lam (o := o) (s := n) hl wF opL_at
    · exact act_ok hl wF hop opL_at H hv
  | r1 =>
    induction o with
    | none => exact kL hl wF (.inr (.inl rfl)) uVz H
    | some v =>
      have hb := rs_act hl (hv v rfl) (q8z (nodes := nodes) (op := op) (lit := lit) (C := ext)) bodyL_at1
      show Rs _ [] _ ((uI op (some v) 1 lit nodes.length [v.enc]).1, n + 2 + (uI op (some v) 1 lit nodes.length [v.enc]).2)
      revert hb
      generalize uI op (some v) 1 lit nodes.length [v.enc] = w
      obtain ⟨o2, m⟩ := w
      intro hb
      induction o2 with
      | none => exact (es_let hl wF uVz H hb).cast (by simp only; omega)
      | some v2 => exact (ev_let hl wF uVz H hb).cast (by simp only; omega) rfl
  | r2 =>
    have hlam : Ev (yF nodes op .r2 lit ++ ext) [] (nodes.length + 2 + op.ex.length) (jCz (nodes.length + 1 + op.ex.length) []) 1 := kQ hl wF h2z
    have hcl : Lay 40 (jCz (nodes.length + 1 + op.ex.length) []) := (xVz (d := 0) (by simp)).up (by omega)
    induction o with
    | none => exact (y9z (t := "clo") hl wF (.inl rfl) u9z hlam hcl rfl rfl H).cast (by simp only [q5]; omega)
    | some v =>
      have hb := rs_act hl (hv v rfl) (wTz (nodes := nodes) (op := op) (lit := lit) (C := ext)) bodyL_at2
      show Rs _ [] _ ((uI op (some v) 1 lit nodes.length [v.enc]).1, n + 4 + (uI op (some v) 1 lit nodes.length [v.enc]).2)
      revert hb
      generalize uI op (some v) 1 lit nodes.length [v.enc] = w
      obtain ⟨o2, m⟩ := w
      intro hb
      induction o2 with
      | none => exact (es_app hl wF u9z hlam hcl (by simp) H hb).cast (by simp only; omega)
      | some v2 => exact (u2z hl wF u9z hlam hcl (by simp) H hb).cast (by simp only; omega) rfl
theorem lay_fst {d : Nat} {a b : PyData} (h : Lay d (wEz a b)) : Lay d a ∧ Lay d b := by
  obtain ⟨h1, h2⟩ := h
  simp only [wEz, PyData.canLay0, PyData.canLayAll0, Bool.and_eq_true, PyData.depth, PyData.depthAll] at h1 h2
  exact ⟨⟨h1.2.1, by omega⟩, ⟨h1.2.2.1, by omega⟩⟩
theorem j3 (d : Nat) (i : Int) : Lay (d + 1) (zQz i) := vC (by
    intro e h
    simp only [List.mem_cons, List.not_mem_nil] at h
    rcases h with rfl | rfl | h
    · exact kJ _ _
    · exact uD _ _
    · cases h)
theorem j4 (d : Nat) (i : Int) : Lay (d + 1) (kT i) := vC (by
    intro e h
    simp only [List.mem_cons, List.not_mem_nil] at h
    rcases h with rfl | rfl | h
    · exact kJ _ _
    · exact uD _ _
    · cases h)
theorem vFz {d : Nat} {a b : PyData} (ha : Lay d a) (hb : Lay d b) : Lay (d + 1) (wEz a b) := vC (by
    intro e h
    simp only [List.mem_cons, List.not_mem_nil] at h
    rcases h with rfl | rfl | rfl | h
    · exact kJ _ _
    · exact ha
    · exact hb
    · cases h)
theorem hJz {op : Op} {o : Option Va} {s q d : Nat} {lit : Int} {env : List PyData} (hd : 1 ≤ d) (hv : VL d o) (he : ∀ e ∈ env, Lay d e) : VL (d + 2) (uI op o s lit q env).1 := by
  obtain ⟨d, rfl⟩ : ∃ c, d = c + 1 := ⟨d - 1, by omega⟩
  have hI : ∀ i, Lay (d + 1 + 2) (zQz i) := fun i => j3 _ _
  have hO : VL (d + 1 + 2) o := fun v h => (hv v h).up (by omega)
  have hI1 : ∀ i, VL (d + 1 + 2) (some (.int i)) := fun i v h => by cases h; exact hI i
  have hB1 : ∀ b, VL (d + 1 + 2) (some (.bool b)) := fun i v h => by cases h; exact j4 _ _
  have hN : VL (d + 1 + 2) none := fun v h => by cases h
  induction op with
  | lam => exact fun v h => by cases h; exact xVz he
  | if1 =>
    show VL (d + 1 + 2) (if lit.fmod 2 = 1 then (o, 3 + s) else (some (.int (lit + 1)), 4)).1
    split
    · exact hO
    · exact hI1 _
  | if2 =>
    show VL (d + 1 + 2) (if lit.fmod 2 = 1 then (some (.int (lit + 1)), 4) else (o, 3 + s)).1
    split
    · exact hI1 _
    · exact hO
  | pair0 =>
    induction o with
    | none => exact hN
    | some v => exact fun w h => by cases h; exact vFz ((hv v rfl).up (by omega)) (j3 _ _)
  | pair1 =>
    induction o with
    | none => exact hN
    | some v => exact fun w h => by cases h; exact vFz (j3 _ _) ((hv v rfl).up (by omega))
  | fst =>
    induction o with
    | none => exact hN
    | some v =>
      induction v with
      | pair a b => exact fun w h => by cases h; exact (lay_fst (hv _ rfl)).1.up (by omega)
      | _ => exact hN
  | snd =>
    induction o with
    | none => exact hN
    | some v =>
      induction v with
      | pair a b => exact fun w h => by cases h; exact (lay_fst (hv _ rfl)).2.up (by omega)
      | _ => exact hN
  | if0 =>
    induction o with
    | none => exact hN
    | some v =>
      induction v with
      | bool b => exact hI1 _
      | _ => exact hN
  | add0 =>
    induction o with
    | none => exact hN
    | some v =>
      induction v with
      | int b => exact hI1 _
      | _ => exact hN
  | add1 =>
    induction o with
    | none => exact hN
    | some v =>
      induction v with
      | int b => exact hI1 _
      | _ => exact hN
  | less0 =>
    induction o with
    | none => exact hN
    | some v =>
      induction v with
      | int b => exact hB1 _
      | _ => exact hN
  | less1 =>
    induction o with
    | none => exact hN
    | some v =>
      induction v with
      | int b => exact hB1 _
      | _ => exact hN
theorem wrap_lay {op : Op} {rd : Rd} {r : Option Va × Nat} {lit : Int} {L d : Nat} (hd : 1 ≤ d) (hv : VL d r.1) : VL (d + 2) (q5 op rd r lit L).1 := by
  obtain ⟨o, n⟩ := r
  induction rd with
  | r0 => exact hJz hd hv (by simp)
  | r1 =>
    induction o with
    | none => exact fun v h => by cases h
    | some v => exact hJz hd hv (by simpa using hv v rfl)
  | r2 =>
    induction o with
    | none => exact fun v h => by cases h
    | some v => exact hJz hd hv (by simpa using hv v rfl)
theorem rp_num (n y z : Int) : RP [⟨.num, n, y, z⟩] (some (.int n), 1) := fun _ hl => jN hl rfl
theorem rp_bool (n y z : Int) : RP [⟨.bool, n.fmod 2, y, z⟩] (some (.bool (decide (n.fmod 2 = 1))), 1) := fun _ hl => by
  refine (vKz hl rfl).cast rfl (wSz _ _ ?_)
  rcases mod2 n with h | h <;> rw [h] <;> rfl
theorem rp_sd0 : RP sd0 (some (.clo 0 []), 1) := fun _ hl => kQ hl wF rfl
theorem rp_sd1 : RP sd1 (some (.clo 2 []), 1) := fun _ hl => kQ hl wF rfl
theorem rp_sd2 : RP sd2 (some (.clo 5 []), 1) := fun _ hl => kQ hl wF rfl
theorem rp_sd3 : RP sd3 (some (.clo 7 []), 1) := fun _ hl => kQ hl wF rfl
theorem rp_sd7 : RP sd7 (some (.clo 4 []), 1) := fun _ hl => kQ hl wF rfl
theorem jL (p : Nat) : Lay 40 (jCz p []) := (xVz (d := 0) (by simp)).up (by omega)
theorem rp_sd8 : RP sd8 (none, 3) := fun _ hl => qR (t := "int") hl wF (.inl rfl) rfl rfl (jN (p := 0) hl rfl) rfl rfl
theorem rp_sd6 : RP sd6 (some (.clo 5 [jCz 1 []]), 4) := fun _ hl => ev_let (a := 2) (b := 6) hl wF rfl (kQ (a := 1) hl wF rfl) (kQ (a := 5) hl (jS (jL 1)) rfl)
theorem rp_sd4 : RP sd4 (some (.pair (.int 1) (.bool true)), 18) := fun ext hl => by
  have e := jS (jL 0)
  have a1 : Ev (sd4 ++ ext) [jCz 0 []] 4 (zQz 1) 6 := u2z (a := 2) (b := 3) hl e rfl (y8z (i := 0) hl e rfl rfl) (jL 0) (by simp) (jN hl rfl) (y8z (p := 0) (i := 0) hl (jS (u9 1)) rfl rfl)
  have a2 : Ev (sd4 ++ ext) [jCz 0 []] 7 (kT 1) 6 := u2z (a := 5) (b := 6) hl e rfl (y8z (i := 0) hl e rfl rfl) (jL 0) (by simp) (vKz hl rfl) (y8z (p := 0) (i := 0) hl (jS ((j4 0 1).up (by omega))) rfl rfl)
  exact (ev_let (a := 1) (b := 8) hl wF rfl (kQ (a := 0) hl wF rfl) (q4z (t := "int") (a := 4) (b := 7) hl e rfl a1 (u9 1) rfl a2)).cast rfl rfl
theorem rp_sd5 : RP sd5 (some (.pair (.int 1) (.bool true)), 20) := fun ext hl => by
  have e := jS (jL 8)
  have a1 : Ev (sd5 ++ ext) [jCz 8 []] 2 (zQz 1) 6 := u2z (a := 0) (b := 1) hl e rfl (y8z (i := 0) hl e rfl rfl) (jL 8) (by simp) (jN hl rfl) (y8z (p := 8) (i := 0) hl (jS (u9 1)) rfl rfl)
  have a2 : Ev (sd5 ++ ext) [jCz 8 []] 5 (kT 1) 6 := u2z (a := 3) (b := 4) hl e rfl (y8z (i := 0) hl e rfl rfl) (jL 8) (by simp) (vKz hl rfl) (y8z (p := 8) (i := 0) hl (jS ((j4 0 1).up (by omega))) rfl rfl)
  exact (u2z (a := 7) (b := 9) hl wF rfl (kQ (a := 6) hl wF rfl) (jL 6) (by simp) (kQ (a := 8) hl wF rfl) (q4z (t := "int") (a := 2) (b := 5) hl e rfl a1 (u9 1) rfl a2)).cast rfl rfl
theorem top_run {nodes : List Node} {r : Option Va × Nat} (h : RP nodes r) (hl : 0 < nodes.length) (hl2 : nodes.length ≤ 1000) (hn : r.2 ≤ 400) (F : Int) :
    ((r.2 : Int) ≤ F → G2 (xrun [.fz (yJ nodes), .fz (.int F)]) (match r.1 with | some v => .tuple [.str (Str.ofString "done"), v.enc] | none => .tuple [.str (Str.ofString "stuck"), .none])) ∧ (F < r.2 → G2 (xrun [.fz (yJ nodes), .fz (.int F)]) (.tuple [.str (Str.ofString "fuel"), .none])) := by
  have h := h [] (by simp; omega)
  rw [List.append_nil] at h
  obtain ⟨o, n⟩ := r
  induction o with
  | some v => exact x_run hl (by trivial) (h.go [] (by simp at hn ⊢; omega) (by simp)) (.inl ⟨v.enc, rfl, rfl⟩) F
  | none =>
    obtain ⟨K, hk⟩ := h.go [] (by simp at hn ⊢; omega) (by simp)
    exact x_run hl (by trivial) hk (.inr ⟨K, rfl, rfl⟩) F
theorem h6z {seen : List Int} {k : Int} (hk : k ∈ seen) (hl : seen.length ≤ 1000) (hr : ∀ i ∈ seen, 0 ≤ i ∧ i < 1000) : uYz (.list (seen.map PyData.int)) (.int k) = some (.int (seen.idxOf k : Nat)) := by
  show (match wN (seen.map PyData.int) with | some ns => _ | none => _) = _
  rw [vU]
  show (if _ then _ else _) = _
  rw [if_pos]
  refine ⟨by simpa [List.contains_iff_mem] using hk, hl, ?_⟩
  simp only [List.all_eq_true, Bool.and_eq_true, decide_eq_true_eq]
  exact hr
theorem jE (d₀ : PyData) : ∀ (t : Ty) (seen : List Int) (out : List PyData) (o3 o4 : Option Slot), seen.length + t.length ≤ 1000 → out.length + t.length ≤ 1000 → (∀ i ∈ seen, 0 ≤ i ∧ i < 1000) → (∀ k, It.var k ∈ t → 0 ≤ k ∧ k < 1000) →
    F3 (vL (tgtT [3, 4]) zWz (t.map eI) [some (.fz d₀), some (.ol (seen.map PyData.int)), some (.ol out), o3, o4]) d₀ (out ++ (xW t seen).map eI)
  | [], seen, out, o3, o4, _, _, _, _ => ⟨_, _, _, by simp [xW]; rfl⟩
  | i :: r, seen, out, o3, o4, h1, h2, h3, h4 => by
    simp only [List.length_cons] at h1 h2
    have h4' : ∀ k, It.var k ∈ r → 0 ≤ k ∧ k < 1000 := fun k hk => h4 k (by simp [hk])
    induction i with
    | var k =>
      have hk4 := h4 k (by simp)
      by_cases hk : k ∈ seen
      · obtain ⟨o1, p3, p4, h⟩ := jE d₀ r seen (out ++ [eI (.var (seen.idxOf k))]) (some (.fz (.str (Str.ofString "var")))) (some (.fz (.int k))) (by omega) (by simp; omega) h3 h4'
        refine ⟨o1, p3, p4, yL rfl (zB (zW (zV rfl rfl (yG "var" "var")) (zB (zF (zV rfl rfl ((qY k seen).trans (by simp [hk]))) rfl) (zB (xQ rfl (vN rfl (zO rfl rfl (h6z hk (by omega) h3))) (by trivial)) rfl))) rfl) (h.trans ?_)⟩
        simp [xW, hk]
      · have h3' : ∀ i ∈ seen ++ [k], 0 ≤ i ∧ i < 1000 := fun i hi => by
          simp only [List.mem_append, List.mem_singleton] at hi
          rcases hi with hi | rfl
          · exact h3 i hi
          · exact hk4
        obtain ⟨o1, p3, p4, h⟩ := jE d₀ r (seen ++ [k]) (out ++ [eI (.var (seen.length))]) (some (.fz (.str (Str.ofString "var")))) (some (.fz (.int k))) (by simp; omega) (by simp; omega) h3' h4'
        have hidx : uYz (.list ((seen ++ [k]).map PyData.int)) (.int k) = some (.int (seen.length : Nat)) := by
          rw [h6z (by simp) (by simp; omega) h3']
          have : (seen ++ [k]).idxOf k = seen.length := by rw [List.idxOf_append]; simp [hk]
          rw [this]
        have hset : yAz 1 (zG 4) [some (.fz d₀), some (.ol (seen.map PyData.int)), some (.ol out), some (.fz (.str (Str.ofString "var"))), some (.fz (.int k))] = some (.ok (.next, [some (.fz d₀), some (.ol ((seen ++ [k]).map PyData.int)), some (.ol out), some (.fz (.str (Str.ofString "var"))), some (.fz (.int k))])) := by
          rw [xQ (l := seen.map PyData.int) (d := .int k) rfl rfl (by simp only [List.length_map, lim]; omega)]
          simp
        refine ⟨o1, p3, p4, yL rfl (zB (zW (zV rfl rfl (yG "var" "var")) (zB (zW (zV rfl rfl ((qY k seen).trans (by simp [hk]))) (zB hset rfl)) (zB (xQ rfl (vN rfl (zO rfl rfl hidx)) (by trivial)) rfl))) rfl) (h.trans ?_)⟩
        simp [xW, hk]
    | int =>
      obtain ⟨o1, p3, p4, h⟩ := jE d₀ r seen (out ++ [eI .int]) (some (.fz (.str (Str.ofString "int")))) (some (.fz (.int 0))) (by omega) (by simp; omega) h3 h4'
      exact ⟨o1, p3, p4, yL rfl (zB (zF (zV rfl rfl (yG "int" "var")) (zB (xQ rfl (vN rfl rfl) (by trivial)) rfl)) rfl) (h.trans (by simp [xW]))⟩
    | bool =>
      obtain ⟨o1, p3, p4, h⟩ := jE d₀ r seen (out ++ [eI .bool]) (some (.fz (.str (Str.ofString "bool")))) (some (.fz (.int 0))) (by omega) (by simp; omega) h3 h4'
      exact ⟨o1, p3, p4, yL rfl (zB (zF (zV rfl rfl (yG "bool" "var")) (zB (xQ rfl (vN rfl rfl) (by trivial)) rfl)) rfl) (h.trans (by simp [xW]))⟩
    | fn =>
      obtain ⟨o1, p3, p4, h⟩ := jE d₀ r seen (out ++ [eI .fn]) (some (.fz (.str (Str.ofString "fun")))) (some (.fz (.int 0))) (by omega) (by simp; omega) h3 h4'
      exact ⟨o1, p3, p4, yL rfl (zB (zF (zV rfl rfl (yG "fun" "var")) (zB (xQ rfl (vN rfl rfl) (by trivial)) rfl)) rfl) (h.trans (by simp [xW]))⟩
    | pr =>
      obtain ⟨o1, p3, p4, h⟩ := jE d₀ r seen (out ++ [eI .pr]) (some (.fz (.str (Str.ofString "pair")))) (some (.fz (.int 0))) (by omega) (by simp; omega) h3 h4'
      exact ⟨o1, p3, p4, yL rfl (zB (zF (zV rfl rfl (yG "pair" "var")) (zB (xQ rfl (vN rfl rfl) (by trivial)) rfl)) rfl) (h.trans (by simp [xW]))⟩
theorem x_lcanon {T : Tr} (hl : T.len < 64) (hv : T.low 1000) : Gv (jJ [.fz (eR T)]) (eT (xW T.enc [])) 1 := by
  obtain ⟨o1, o3, o4, h⟩ := jE (eR T) T.enc [] [] none none (by rw [yN]; simp; omega) (by rw [yN]; simp; omega) (by simp) (fun k hk => by
    obtain ⟨n, rfl, h⟩ := xYz T hk
    have := hv n h
    omega)
  exact ⟨_, yC rfl rfl (zB (xR rfl) (zB (xR rfl) (zB h (zR rfl)))), Nat.le_of_ble_eq_true rfl⟩
theorem hFz {l : List PyData} {d : PyData} {k : Nat} (hk : 0 < k) (hkl : k ≤ l.length) (hl : l.length ≤ lim) (h : l[l.length - k]? = some d) : zX (.list l) (.int (-(k : Int))) = some d := by
  show idx? l (-(k : Int)) = _
  unfold idx?
  rw [if_neg (by omega), if_pos ⟨by omega, by simp only [lim] at hl; omega⟩]
  rw [show (-(k : Int) + (l.length : Int)).toNat = l.length - k from by omega]
  exact h
theorem zEq {n k : Nat} (h0 : 0 < k) (h : k ≤ n) : clipAt n (-(k : Int)) = n - k := by
  unfold clipAt; rw [if_pos (by omega)]; omega
noncomputable abbrev spSt (d₀ : PyData) (dn : List PyData) (o : Option Slot) : Sta := [some (.fz d₀), some (.fz (.list dn)), o]
theorem xQz {d₀ : PyData} {dn : List PyData} {i : It} (hi : i.con = false) (hl : dn.length < 1000) : vI (spSt d₀ dn (some (.fz (eI i)))) = some (.ok (.next, spSt d₀ (dn ++ [.list [eI i]]) (some (.fz (eI i))))) := by
  have hh : rd (op2 zX (zG 2) (zD (.int (0)))) (spSt d₀ dn (some (.fz (eI i)))) = some (.ok (.str (Str.ofString i.nm))) := qN rfl
  have h1 : (i.nm == "fun") = false ∧ (i.nm == "pair") = false := by cases i <;> first | (exact ⟨rfl, rfl⟩) | cases hi
  exact zB (zF (zZ (zV hh rfl ((yG _ _).trans (by rw [h1.1]))) (zZ (zV hh rfl ((yG _ _).trans (by rw [h1.2]))) rfl)) (zB (z2 (zO rfl rfl (wD (by simp only [List.length_cons, List.length_nil, lim]; omega)))) rfl)) rfl
theorem uOz {d₀ : PyData} {dn : List PyData} {c : Bool} {a b : Tr} (hl : dn.length < 1000) (hab : a.len + b.len < 1000) : vI (spSt d₀ (dn ++ [eR a, eR b]) (some (.fz (eI (if c then .fn else .pr))))) = some (.ok (.next, spSt d₀ (dn ++ [eR (Tr.two c a b)]) (some (.fz (eI (if c then .fn else .pr)))))) := by
  have hlen : (dn ++ [eR a, eR b]).length = dn.length + 2 := by simp
  have hh : rd (op2 zX (zG 2) (zD (.int (0)))) (spSt d₀ (dn ++ [eR a, eR b]) (some (.fz (eI (if c then .fn else .pr))))) = some (.ok (.str (Str.ofString (if c then It.fn else .pr : It).nm))) := qN rfl
  have ht : (orB (yR eqI (op2 zX (zG 2) (zD (.int (0)))) (zD (.str (Str.ofString "fun")))) (orB (yR eqI (op2 zX (zG 2) (zD (.int (0)))) (zD (.str (Str.ofString "pair")))) (yDz false))) (spSt d₀ (dn ++ [eR a, eR b]) (some (.fz (eI (if c then .fn else .pr))))) = some (.ok true) := by
    induction c with
    | true => exact uM (zV hh rfl (yG "fun" "fun"))
    | false => exact zZ (zV hh rfl (yG "pair" "fun")) (uM (zV hh rfl (yG "pair" "pair")))
  have hcut : z7z (zG 1) none (some (op1 negI (zD (.int (2))))) (spSt d₀ (dn ++ [eR a, eR b]) (some (.fz (eI (if c then .fn else .pr))))) = some (.ok (.pv (.list dn))) := by
    refine (xAz (lo := none) (a := none) (b := some (-((2 : Nat) : Int))) rfl rfl (uRz rfl (by omega)) (by rw [hlen]; trivial)).trans ?_
    unfold cutL
    simp only [Option.elim]
    rw [zEq (by omega) (by rw [hlen]; omega), hlen]
    simp
  have hi2 : zX (.list (dn ++ [eR a, eR b])) (.int (-2)) = some (eR a) := hFz (k := 2) (by omega) (by rw [hlen]; omega) (by rw [hlen]; trivial) (by rw [hlen]; simp)
  have hi1 : zX (.list (dn ++ [eR a, eR b])) (.int (-1)) = some (eR b) := hFz (k := 1) (by omega) (by rw [hlen]; omega) (by rw [hlen]; trivial) (by rw [hlen]; simp)
  have h1 : xK (eR a) (eR b) = some (.list (a.enc.map eI ++ b.enc.map eI)) := wD (by simp only [List.length_map, yN, lim]; omega)
  have h2 : xK (.list (a.enc.map eI ++ b.enc.map eI)) (.list [eI (if c then .fn else .pr)]) = some (eR (Tr.two c a b)) := (wD (by simp only [List.length_append, List.length_map, yN, List.length_cons, List.length_nil, lim]; omega)).trans (by unfold eR eT; rw [xMz]; simp)
  exact zB (zW ht (zB (z2 (zO (yB hcut) (yB (zYz (zN (zO (yB (zO (yB (zO rfl rfl hi2)) (yB (zO rfl rfl hi1)) h1)) rfl h2) rfl))) (wD (by simp only [List.length_cons, List.length_nil, lim]; omega)))) rfl)) rfl
theorem zCz {d₀ : PyData} : ∀ (u : Tr) (dn : List PyData) (o : Option Slot), dn.length + u.len < 1000 → ∃ o', ∀ r, vL (zRz 2) vI (u.enc.map eI ++ r) (spSt d₀ dn o) = vL (zRz 2) vI r (spSt d₀ (dn ++ [eR u]) o')
  | .int, dn, o, h => ⟨_, fun r => yL rfl (xQz rfl (by omega)) rfl⟩
  | .bool, dn, o, h => ⟨_, fun r => yL rfl (xQz rfl (by omega)) rfl⟩
  | .var k, dn, o, h => ⟨_, fun r => yL rfl (xQz rfl (by omega)) rfl⟩
  | .fn a b, dn, o, h => by
    simp only [Tr.len] at h
    have hp := kI a
    have hp' := kI b
    obtain ⟨o1, h1⟩ := zCz (d₀ := d₀) a dn o (by omega)
    obtain ⟨o2, h2⟩ := zCz (d₀ := d₀) b (dn ++ [eR a]) o1 (by simp only [List.length_append, List.length_cons, List.length_nil]; omega)
    refine ⟨some (.fz (eI .fn)), fun r => ?_⟩
    simp only [Tr.enc, List.map_append, List.append_assoc]
    rw [h1, h2]
    have := uOz (d₀ := d₀) (c := true) (a := a) (b := b) (dn := dn) (by omega) (by omega)
    rw [List.append_assoc]
    exact yL rfl this rfl
  | .pr a b, dn, o, h => by
    simp only [Tr.len] at h
    have hp := kI a
    have hp' := kI b
    obtain ⟨o1, h1⟩ := zCz (d₀ := d₀) a dn o (by omega)
    obtain ⟨o2, h2⟩ := zCz (d₀ := d₀) b (dn ++ [eR a]) o1 (by simp only [List.length_append, List.length_cons, List.length_nil]; omega)
    refine ⟨some (.fz (eI .pr)), fun r => ?_⟩
    simp only [Tr.enc, List.map_append, List.append_assoc]
    rw [h1, h2]
    have := uOz (d₀ := d₀) (c := false) (a := a) (b := b) (dn := dn) (by omega) (by omega)
    rw [List.append_assoc]
    exact yL rfl this rfl
theorem x_split {c : Bool} {a b : Tr} (hl : (Tr.two c a b).len < 64) : Gv (jI [.fz (eR (Tr.two c a b))]) (.list [eR a, eR b]) 1 := by
  have hlen : (Tr.two c a b).len = a.len + b.len + 1 := by cases c <;> rfl
  obtain ⟨o1, h1⟩ := zCz (d₀ := eR (Tr.two c a b)) a [] none (by simp; omega)
  obtain ⟨o2, h2⟩ := zCz (d₀ := eR (Tr.two c a b)) b ([] ++ [eR a]) o1 (by simp; omega)
  have hcut : z7z (zG 0) none (some (op1 negI (zD (.int (1))))) [some (.fz (eR (Tr.two c a b))), some (.fz (.list [])), none] = some (.ok (.pv (.list (a.enc.map eI ++ b.enc.map eI)))) := by
    refine (xAz (l := (Tr.two c a b).enc.map eI) (lo := none) (a := none) (b := some (-((1 : Nat) : Int))) rfl rfl (uRz rfl (by omega)) (by rw [List.length_map, yN]; trivial)).trans ?_
    unfold cutL
    simp only [Option.elim]
    rw [zEq (by omega) (by rw [List.length_map, yN]; omega), List.length_map, yN, hlen]
    rw [xMz]
    simp only [Nat.add_sub_cancel, Nat.sub_zero, List.drop_zero, List.map_append, ← yN]
    rw [List.take_left' (by simp)]
  have hgo := (h1 (b.enc.map eI)).trans ((congrArg (fun l => vL (zRz 2) vI l _) (List.append_nil _).symm).trans (h2 []))
  exact ⟨_, yC rfl rfl (zB (z2 rfl) (zB ((xXz hcut rfl).trans hgo) (zR (yH rfl)))), Nat.le_of_ble_eq_true rfl⟩
noncomputable def Need.str : Need → String
  | .any => "" | .int => "int" | .pair => "pair" | .bool => "bool"
noncomputable def oTr : Option Tr → PyData
  | none => .none
  | some t => eR t
noncomputable def oVa : Option Va → PyData
  | none => .none
  | some v => v.enc
noncomputable def Rd.i : Rd → Int
  | .r0 => 0 | .r1 => 1 | .r2 => 2
noncomputable def pairsN (n : Need) (rd : Rd) (bad : Bool) : Nat := match rd with
  | .r2 => if bad then 2 else (match n with
    | .pair => 5
    | _ => 3)
  | _ => match n with
    | .any => 0
    | .pair => if bad then 1 else 3
    | _ => 1
theorem x_pairs (op : Op) (rd : Rd) (bad : Bool) : Gv (qC [.fz (.str (Str.ofString op.need.str)), .fz (.int rd.i), .fz (.bool bad)]) (.int (yTz op rd bad : Nat)) 3 := by
  have : ∀ (n : Need) (rd : Rd) (bad : Bool), Gv (qC [.fz (.str (Str.ofString n.str)), .fz (.int rd.i), .fz (.bool bad)]) (.int (pairsN n rd bad : Nat)) 3 := by
    intro n rd bad
    cases n <;> cases rd <;> cases bad <;> exact ⟨_, by with_unfolding_all rfl, Nat.le_of_ble_eq_true rfl⟩
  have h := this op.need rd bad
  have e : yTz op rd bad = pairsN op.need rd bad := by cases rd <;> rfl
  rw [e]; exact h
noncomputable abbrev tArgs (op : Op) (T : Tr) (base : Nat) : List Slot := [.fz (.str (Str.ofString op.kd.str)), .fz (.int op.pos), .fz (.str (Str.ofString op.need.str)), .fz (eR T), .fz (.int base)]
noncomputable abbrev tSt (k : String) (pos : Nat) (n : String) (T : Tr) (base : Nat) : Sta := [some (.fz (.str (Str.ofString k))), some (.fz (.int pos)), some (.fz (.str (Str.ofString n))), some (.fz (eR T)), some (.fz (.int base))]
theorem ty_last {k n : String} {pos base : Nat} {T : Tr} (hl : T.len < 64) : rd (op2 zX (op2 zX (zG 3) (op1 negI (zD (.int (1))))) (zD (.int (0)))) (tSt k pos n T base) = some (.ok (.str (Str.ofString T.root.nm))) := by
  have hp := kI T
  have h1 : zX (eR T) (.int (-1)) = some (eI T.root) := hFz (k := 1) (by omega) (by rw [List.length_map, yN]; omega) (by rw [List.length_map, yN]; trivial) (by rw [List.length_map, yN, List.getElem?_map, root_at]; rfl)
  exact yB (zO (yB (zO rfl rfl h1)) rfl (q0z _))
noncomputable abbrev tyTest : BX := j6 (yR neI (zG 2) (zD (.str (Str.ofString "")))) (j6 (yR neI (op2 zX (op2 zX (zG 3) (op1 negI (zD (.int (1))))) (zD (.int (0)))) (zG 2)) (yDz true))
theorem ty_bad {k n : String} {pos base : Nat} {T : Tr} (hl : T.len < 64) (h1 : (n == "") = false) (h2 : (T.root.nm == n) = false) : tyTest (tSt k pos n T base) = some (.ok true) :=
  yS (zV rfl rfl ((wY _ _).trans (by rw [h1]; rfl))) (yS (zV (ty_last hl) rfl ((wY _ _).trans (by rw [h2]; rfl))) rfl)
theorem ty_any {k : String} {pos base : Nat} {T : Tr} : tyTest (tSt k pos "" T base) = some (.ok false) :=
  y3 (zV rfl rfl (wY _ _))
theorem qHz {k n : String} {pos base : Nat} {T : Tr} (hl : T.len < 64) (h1 : (n == "") = false) (h2 : (T.root.nm == n) = true) : tyTest (tSt k pos n T base) = some (.ok false) :=
  yS (zV rfl rfl ((wY _ _).trans (by rw [h1]; rfl))) (y3 (zV (ty_last hl) rfl ((wY _ _).trans (by rw [h2]; rfl))))
theorem x_type (op : Op) {T : Tr} (base : Nat) (hl : T.len < 60) : Gv (v9 (tArgs op T base)) (oTr (opT op T base)) 5 := by
  have bad : ∀ (k n : String) (pos : Nat), (n == "") = false → (T.root.nm == n) = false → Gv (v9 [.fz (.str (Str.ofString k)), .fz (.int pos), .fz (.str (Str.ofString n)), .fz (eR T), .fz (.int base)]) (.none) 5 := fun k n pos h1 h2 =>
    ⟨_, yC rfl rfl <| zR <| zW (ty_bad (by omega) h1 h2) <| zR <| yH rfl, Nat.le_of_ble_eq_true rfl⟩
  have good : ∀ (k n : String) (pos : Nat), (k == "fst") = false → (k == "snd") = false → (k == "pair") = false → (k == "lam") = false → (k == "less") = false → (n == "") = false → (T.root.nm == n) = true → Gv (v9 [.fz (.str (Str.ofString k)), .fz (.int pos), .fz (.str (Str.ofString n)), .fz (eR T), .fz (.int base)]) (eR .int) 5 := fun k n pos h1 h2 h3 h4 h5 h6 h7 =>
    ⟨_, yC rfl rfl <| zB (zF (qHz (by omega) h6 h7) rfl) <| zB (zF (yU h1) rfl) <| zB (zF (yU h2) rfl) <| zB (zF (y3 (yU h3)) rfl) <| zB (zF (yU h3) rfl) <| zB (zF (yU h4) rfl) <| zB (zF (yU h5) rfl) <| zR <| yH rfl, Nat.le_of_ble_eq_true rfl⟩
  have goodL : ∀ (pos : Nat), (T.root.nm == "int") = true → Gv (v9 [.fz (.str (Str.ofString "less")), .fz (.int pos), .fz (.str (Str.ofString "int")), .fz (eR T), .fz (.int base)]) (eR .bool) 5 := fun pos h7 =>
    ⟨_, yC rfl rfl <| zB (zF (qHz (by omega) rfl h7) rfl) <| zB (zF (yU rfl) rfl) <| zB (zF (yU rfl) rfl) <| zB (zF (y3 (yU rfl)) rfl) <| zB (zF (yU rfl) rfl) <| zB (zF (yU rfl) rfl) <| zR <| zW (wL rfl) <| zR <| yH rfl, Nat.le_of_ble_eq_true rfl⟩
  induction op with
  | add0 => cases T <;> first | exact good "add" "int" 0 rfl rfl rfl rfl rfl rfl rfl | exact bad "add" "int" 0 rfl rfl
  | add1 => cases T <;> first | exact good "add" "int" 1 rfl rfl rfl rfl rfl rfl rfl | exact bad "add" "int" 1 rfl rfl
  | less0 => cases T <;> first | exact goodL 0 rfl | exact bad "less" "int" 0 rfl rfl
  | less1 => cases T <;> first | exact goodL 1 rfl | exact bad "less" "int" 1 rfl rfl
  | if0 => cases T <;> first | exact good "if" "bool" 0 rfl rfl rfl rfl rfl rfl rfl | exact bad "if" "bool" 0 rfl rfl
  | if1 => cases T <;> first | exact good "if" "int" 1 rfl rfl rfl rfl rfl rfl rfl | exact bad "if" "int" 1 rfl rfl
  | if2 => cases T <;> first | exact good "if" "int" 2 rfl rfl rfl rfl rfl rfl rfl | exact bad "if" "int" 2 rfl rfl
  | fst =>
    induction T with
    | pr a b =>
      have h := x_split (c := false) (a := a) (b := b) (by show (Tr.pr a b).len < 64; omega)
      exact ⟨_, yC rfl rfl <| zB (zF (qHz (by omega) rfl rfl) rfl) <| zR <| zW (wL rfl) <| zR <| yH <| zO (yB (v3 (z9 rfl rfl) h (Nat.le_refl _) rfl)) rfl rfl, Nat.le_of_ble_eq_true rfl⟩
    | _ => exact bad "fst" "pair" 0 rfl rfl
  | snd =>
    induction T with
    | pr a b =>
      have h := x_split (c := false) (a := a) (b := b) (by show (Tr.pr a b).len < 64; omega)
      exact ⟨_, yC rfl rfl <| zB (zF (qHz (by omega) rfl rfl) rfl) <| zB (zF (yU rfl) rfl) <| zR <| zW (wL rfl) <| zR <| yH <| zO (yB (v3 (z9 rfl rfl) h (Nat.le_refl _) rfl)) rfl rfl, Nat.le_of_ble_eq_true rfl⟩
    | _ => exact bad "snd" "pair" 0 rfl rfl
  | pair0 =>
    have h1 : xK (eR T) (.list [eI .int, eI .pr]) = some (eR (.pr T .int)) := (wD (by simp only [List.length_map, yN, List.length_cons, List.length_nil, lim]; omega)).trans (by simp [eR, eT, Tr.enc])
    exact ⟨_, yC rfl rfl <| zB (zF ty_any rfl) <| zB (zF (yU rfl) rfl) <| zB (zF (yU rfl) rfl) <| zR <| zW (yS (wL rfl) (yS (by with_unfolding_all rfl) rfl)) <| zR <| yH <| zO rfl rfl h1, Nat.le_of_ble_eq_true rfl⟩
  | pair1 =>
    have h1 : xK (.list [eI .int]) (eR T) = some (.list (eI .int :: T.enc.map eI)) := wD (by simp only [List.length_map, yN, List.length_cons, List.length_nil, lim]; omega)
    have h2 : xK (.list (eI .int :: T.enc.map eI)) (.list [eI .pr]) = some (eR (.pr .int T)) := (wD (by simp only [List.length_map, yN, List.length_cons, List.length_nil, lim]; omega)).trans (by simp [eR, eT, Tr.enc])
    exact ⟨_, yC rfl rfl <| zB (zF ty_any rfl) <| zB (zF (yU rfl) rfl) <| zB (zF (yU rfl) rfl) <| zB (zF (yS (wL rfl) (y3 (by with_unfolding_all rfl))) rfl) <| zR <| zW (wL rfl) <| zR <| yH <| zO (yB (zO rfl rfl h1)) rfl h2, Nat.le_of_ble_eq_true rfl⟩
  | lam =>
    have h1 : xK (.list [eI (.var base)]) (eR T) = some (.list (eI (.var base) :: T.enc.map eI)) := wD (by simp only [List.length_map, yN, List.length_cons, List.length_nil, lim]; omega)
    have h2 : xK (.list (eI (.var base) :: T.enc.map eI)) (.list [eI .fn]) = some (eR (.fn (.var base) T)) := (wD (by simp only [List.length_map, yN, List.length_cons, List.length_nil, lim]; omega)).trans (by simp [eR, eT, Tr.enc])
    exact ⟨_, yC rfl rfl <| zB (zF ty_any rfl) <| zB (zF (yU rfl) rfl) <| zB (zF (yU rfl) rfl) <| zB (zF (y3 (yU rfl)) rfl) <| zB (zF (yU rfl) rfl) <| zR <| zW (wL rfl) <| zR <| yH <| zO (yB (zO rfl rfl h1)) rfl h2, Nat.le_of_ble_eq_true rfl⟩
noncomputable abbrev aArgs (op : Op) (o : Option Va) (s : Nat) (lit : Int) (q : Nat) (env : List PyData) : List Slot := [.fz (.str (Str.ofString op.kd.str)), .fz (.int op.pos), .fz (oVa o), .fz (.int s), .fz (.int lit), .fz (.int q), .fz (.list env)]
noncomputable def jH (op : Op) (o : Option Va) (s : Nat) (lit : Int) (q : Nat) (env : List PyData) : Prop := Gv (wR (aArgs op o s lit q env)) (.tuple [oVa (uI op o s lit q env).1, .int (uI op o s lit q env).2]) 7
theorem jO (a b : Int) : eqI (.int a) (.int b) = some (decide (a = b)) := by
  unfold eqI
  rw [uL (uD 0 a) (by omega), uL (uD 0 b) (by omega)]
  simp only [Bool.and_self, ↓reduceIte, PyData.eqv, Option.some.injEq]
  first | rfl | (simp [Bool.eq_iff_iff])
theorem hYz (a b : Int) : neI (.int a) (.int b) = some (!decide (a = b)) := by unfold neI; rw [jO]; rfl
section
variable {o : Option Va} {s : Nat} {lit : Int} {q : Nat} {env : List PyData}
theorem ac_lam : jH .lam o s lit q env := ⟨_, yC rfl rfl <| zR <| zW (wL rfl) <| zR <| yH rfl, Nat.le_of_ble_eq_true rfl⟩
theorem hZz {σ : Sta} (h : σ[4]? = some (some (.fz (.int lit)))) : rd (op2 modI (zG 4) (zD (.int (2)))) σ = some (.ok (.int (lit.fmod 2))) := by
  have h1 : zG 4 σ = some (.ok (.pv (.int lit))) := by unfold zG; rw [h]
  exact yB (zO (yB h1) rfl rfl)
theorem ac_if1 : jH .if1 o s lit q env := by
  by_cases h : lit.fmod 2 = 1
  · have e : uI .if1 o s lit q env = (o, 3 + s) := by simp [uI, h]
    unfold jH; rw [e]
    exact ⟨_, yC rfl rfl <| zB (zF (yU rfl) rfl) <| zR <| zW (yS (wL rfl) (yS (zV rfl rfl (uZz (by decide))) rfl)) <| zB (zF (zV (yB (zO (hZz rfl) rfl (yM rfl))) rfl ((hYz _ _).trans (by rw [h]; rfl))) rfl) <| zR <| yH <| y2 <| zN rfl <| zN (zO rfl rfl (yM (by omega))) rfl, Nat.le_of_ble_eq_true rfl⟩
  · have e : uI .if1 o s lit q env = (some (.int (lit + 1)), 4) := by simp [uI, h]
    unfold jH; rw [e]
    exact ⟨_, yC rfl rfl <| zB (zF (yU rfl) rfl) <| zR <| zW (yS (wL rfl) (yS (zV rfl rfl (uZz (by decide))) rfl)) <| zR <| zW (zV (yB (zO (hZz rfl) rfl (yM rfl))) rfl ((hYz _ _).trans (by rw [decide_eq_false (by simp only [Op.pos]; omega)]; rfl))) <| zR <| yH rfl, Nat.le_of_ble_eq_true rfl⟩
theorem ac_if2 : jH .if2 o s lit q env := by
  by_cases h : lit.fmod 2 = 1
  · have e : uI .if2 o s lit q env = (some (.int (lit + 1)), 4) := by simp [uI, h]
    unfold jH; rw [e]
    exact ⟨_, yC rfl rfl <| zB (zF (yU rfl) rfl) <| zR <| zW (yS (wL rfl) (yS (zV rfl rfl (uZz (by decide))) rfl)) <| zR <| zW (zV (yB (zO (hZz rfl) rfl (yM rfl))) rfl ((hYz _ _).trans (by rw [decide_eq_false (by simp only [Op.pos]; omega)]; rfl))) <| zR <| yH rfl, Nat.le_of_ble_eq_true rfl⟩
  · have e : uI .if2 o s lit q env = (o, 3 + s) := by simp [uI, h]
    have h0 : lit.fmod 2 = 0 := by rcases mod2 lit with h1 | h1; exact h1; exact absurd h1 h
    unfold jH; rw [e]
    exact ⟨_, yC rfl rfl <| zB (zF (yU rfl) rfl) <| zR <| zW (yS (wL rfl) (yS (zV rfl rfl (uZz (by decide))) rfl)) <| zB (zF (zV (yB (zO (hZz rfl) rfl (yM rfl))) rfl ((hYz _ _).trans (by rw [h0]; rfl))) rfl) <| zR <| yH <| y2 <| zN rfl <| zN (zO rfl rfl (yM (by omega))) rfl, Nat.le_of_ble_eq_true rfl⟩
noncomputable abbrev acSt (k : String) (pos : Nat) (o : Option Va) (s : Nat) (lit : Int) (q : Nat) (env : List PyData) : Sta := [some (.fz (.str (Str.ofString k))), some (.fz (.int pos)), some (.fz (oVa o)), some (.fz (.int s)), some (.fz (.int lit)), some (.fz (.int q)), some (.fz (.list env)), none, none]
theorem y4z {k : String} {pos : Nat} (h : (k == "if") = false ∨ pos = 0) : j6 (yR eqI (zG 0) (zD (.str (Str.ofString "if")))) (j6 (yR gtI (zG 1) (zD (.int (0)))) (yDz true)) (acSt k pos o s lit q env) = some (.ok false) := by
  cases hk : k == "if" with
  | false => exact y3 (yU hk)
  | true =>
    rcases h with h | rfl
    · rw [h] at hk; cases hk
    · exact yS (wL hk) (y3 (zV rfl rfl (gt_int' (by decide))))
theorem two_pos {pos : Nat} (h : pos ≤ 2) : kOz (.int 2) (.int pos) = some (.int (2 * pos : Nat)) := by
  match pos, h with
  | 0, _ => rfl
  | 1, _ => rfl
  | 2, _ => rfl
theorem kO {op : Op} (h1 : (op.kd.str == "lam") = false) (h2 : (op.kd.str == "if") = false ∨ op.pos = 0) (hp : op.pos ≤ 2) (he : uI op none s lit q env = (none, s + 1 + 2 * op.pos)) : jH op none s lit q env := by
  unfold jH; rw [he]
  exact ⟨_, yC rfl rfl <| zB (zF (yU h1) rfl) <| zB (zF (y4z h2) rfl) <| zR <| zW rfl <| zR <| yH <| y2 <| zN rfl <| zN (zO (yB (zO rfl rfl (yM rfl))) (yB (zO rfl rfl (two_pos hp))) (yM (by omega))) rfl, Nat.le_of_ble_eq_true rfl⟩
theorem uY {σ : Sta} {v : Va} (h : σ[2]? = some (some (.fz (oVa (some v))))) : zAz vJ (zG 2) σ = some (.ok false) := by
  have h1 : zG 2 σ = some (.ok (.pv v.enc)) := by unfold zG; rw [h]; rfl
  unfold zAz; rw [yB h1]
  cases v <;> rfl
theorem vtag {σ : Sta} {v : Va} (h : σ[2]? = some (some (.fz (oVa (some v))))) : rd (op2 zX (zG 2) (zD (.int (0)))) σ = some (.ok (.str (Str.ofString v.tag))) := by
  have h1 : zG 2 σ = some (.ok (.pv v.enc)) := by unfold zG; rw [h]; rfl
  exact yB (zO (yB h1) rfl (tag_ok v))
theorem ac_pair0 {v : Va} : jH .pair0 (some v) s lit q env :=
  ⟨_, yC rfl rfl <| zB (zF (yU rfl) rfl) <| zB (zF (y4z (.inl rfl)) rfl) <| zB (zF (uY rfl) rfl) <| zR <| zW (yS (wL rfl) (yS (zV rfl rfl (jO 0 0)) rfl)) <| zR <| yH rfl, Nat.le_of_ble_eq_true rfl⟩
theorem ac_pair1 {v : Va} : jH .pair1 (some v) s lit q env :=
  ⟨_, yC rfl rfl <| zB (zF (yU rfl) rfl) <| zB (zF (y4z (.inl rfl)) rfl) <| zB (zF (uY rfl) rfl) <| zB (zF (yS (wL rfl) (y3 (zV rfl rfl (jO 1 0)))) rfl) <| zR <| zW (wL rfl) <| zR <| yH rfl, Nat.le_of_ble_eq_true rfl⟩
theorem w8z {k : String} {pos : Nat} {v : Va} (h : (k == "pair") = false) : j6 (yR eqI (zG 0) (zD (.str (Str.ofString "pair")))) (j6 (yR eqI (zG 1) (zD (.int (0)))) (yDz true)) (acSt k pos (some v) s lit q env) = some (.ok false) := y3 (yU h)
theorem ac_proj {op : Op} (hop : op = .fst ∨ op = .snd) {v : Va} : jH op (some v) s lit q env := by
  have key : ∀ k : String, (k == "lam") = false → (k == "if") = false → (k == "pair") = false → (orB (yR eqI (zG 0) (zD (.str (Str.ofString "fst")))) (orB (yR eqI (zG 0) (zD (.str (Str.ofString "snd")))) (yDz false))) (acSt k 0 (some v) s lit q env) = some (.ok true) → (v.tag == "pair") = false → Gv (wR [.fz (.str (Str.ofString k)), .fz (.int (0 : Nat)), .fz (oVa (some v)), .fz (.int s), .fz (.int lit), .fz (.int q), .fz (.list env)]) (.tuple [.none, .int ((s + 2 : Nat) : Int)]) 7 := fun k h1 h2 h3 h4 h5 =>
    ⟨_, yC rfl rfl <| zB (zF (yU h1) rfl) <| zB (zF (y4z (.inl h2)) rfl) <| zB (zF (uY rfl) rfl) <| zB (zF (w8z h3) rfl) <| zB (zF (yU h3) rfl) <| zR <| zW h4 <| zR <| zW (zV (vtag rfl) rfl ((wY _ _).trans (by rw [h5]; rfl))) <| zR <| yH <| y2 <| zN rfl <| zN (zO rfl rfl (yM (by omega))) rfl, Nat.le_of_ble_eq_true rfl⟩
  rcases hop with rfl | rfl
  · induction v with
    | pair a b => exact ⟨_, yC rfl rfl <| zB (zF (yU rfl) rfl) <| zB (zF (y4z (.inl rfl)) rfl) <| zB (zF (uY (v := .pair a b) rfl) rfl) <| zB (zF (w8z rfl) rfl) <| zB (zF (yU rfl) rfl) <| zR <| zW (uM (wL rfl)) <| zB (zF (zV (vtag (v := .pair a b) rfl) rfl (wY "pair" "pair")) rfl) <| zR <| zW (wL rfl) <| zR <| yH <| y2 <| zN (zO rfl rfl rfl) <| zN (zO rfl rfl (yM (by simp only [uI]; omega))) rfl, Nat.le_of_ble_eq_true rfl⟩
    | _ => exact key "fst" rfl rfl rfl (uM (wL rfl)) rfl
  · induction v with
    | pair a b => exact ⟨_, yC rfl rfl <| zB (zF (yU rfl) rfl) <| zB (zF (y4z (.inl rfl)) rfl) <| zB (zF (uY (v := .pair a b) rfl) rfl) <| zB (zF (w8z rfl) rfl) <| zB (zF (yU rfl) rfl) <| zR <| zW (zZ (yU rfl) (uM (wL rfl))) <| zB (zF (zV (vtag (v := .pair a b) rfl) rfl (wY "pair" "pair")) rfl) <| zB (zF (yU rfl) rfl) <| zR <| yH <| y2 <| zN (zO rfl rfl rfl) <| zN (zO rfl rfl (yM (by simp only [uI]; omega))) rfl, Nat.le_of_ble_eq_true rfl⟩
    | _ => exact key "snd" rfl rfl rfl (zZ (yU rfl) (uM (wL rfl))) rfl
theorem ac_if0 {v : Va} : jH .if0 (some v) s lit q env := by
  have key : (v.tag == "bool") = false → Gv (wR [.fz (.str (Str.ofString "if")), .fz (.int (0 : Nat)), .fz (oVa (some v)), .fz (.int s), .fz (.int lit), .fz (.int q), .fz (.list env)]) (.tuple [.none, .int ((s + 2 : Nat) : Int)]) 7 := fun h5 =>
    ⟨_, yC rfl rfl <| zB (zF (yU rfl) rfl) <| zB (zF (y4z (.inr rfl)) rfl) <| zB (zF (uY rfl) rfl) <| zB (zF (w8z rfl) rfl) <| zB (zF (yU rfl) rfl) <| zB (zF (zZ (yU rfl) (zZ (yU rfl) rfl)) rfl) <| zR <| zW (wL rfl) <| zR <| zW (zV (vtag rfl) rfl ((wY _ _).trans (by rw [h5]; rfl))) <| zR <| yH <| y2 <| zN rfl <| zN (zO rfl rfl (yM (by omega))) rfl, Nat.le_of_ble_eq_true rfl⟩
  induction v with
  | bool b => exact ⟨_, yC rfl rfl <| zB (zF (yU rfl) rfl) <| zB (zF (y4z (.inr rfl)) rfl) <| zB (zF (uY (v := .bool b) rfl) rfl) <| zB (zF (w8z rfl) rfl) <| zB (zF (yU rfl) rfl) <| zB (zF (zZ (yU rfl) (zZ (yU rfl) rfl)) rfl) <| zR <| zW (wL rfl) <| zB (zF (zV (vtag (v := .bool b) rfl) rfl (wY "bool" "bool")) rfl) <| zR <| yH rfl, Nat.le_of_ble_eq_true rfl⟩
  | _ => exact key rfl
theorem wVz {op : Op} (hop : op = .add0 ∨ op = .add1 ∨ op = .less0 ∨ op = .less1) {v : Va} : jH op (some v) s lit q env := by
  have key : ∀ (k : String) (pos : Nat), pos ≤ 2 → (k == "lam") = false → (k == "if") = false → (k == "pair") = false → (k == "fst") = false → (k == "snd") = false → (v.tag == "int") = false → Gv (wR [.fz (.str (Str.ofString k)), .fz (.int pos), .fz (oVa (some v)), .fz (.int s), .fz (.int lit), .fz (.int q), .fz (.list env)]) (.tuple [.none, .int ((s + 2 + 2 * pos : Nat) : Int)]) 7 := fun k pos hp h1 h2 h3 h4 h5 h6 =>
    ⟨_, yC rfl rfl <| zB (zF (yU h1) rfl) <| zB (zF (y4z (.inl h2)) rfl) <| zB (zF (uY rfl) rfl) <| zB (zF (w8z h3) rfl) <| zB (zF (yU h3) rfl) <| zB (zF (zZ (yU h4) (zZ (yU h5) rfl)) rfl) <| zB (zF (yU h2) rfl) <| zR <| zW (zV (vtag rfl) rfl ((wY _ _).trans (by rw [h6]; rfl))) <| zR <| yH <| y2 <| zN rfl <| zN (zO (yB (zO rfl rfl (yM rfl))) (yB (zO rfl rfl (two_pos hp))) (yM (by omega))) rfl, Nat.le_of_ble_eq_true rfl⟩
  have add : ∀ (pos : Nat) (i : Int), v = .int i → Gv (wR [.fz (.str (Str.ofString "add")), .fz (.int pos), .fz (oVa (some v)), .fz (.int s), .fz (.int lit), .fz (.int q), .fz (.list env)]) (.tuple [zQz (i + lit), .int ((s + 4 : Nat) : Int)]) 7 := fun pos i hv => by
    subst hv
    exact ⟨_, yC rfl rfl <| zB (zF (yU rfl) rfl) <| zB (zF (y4z (.inl rfl)) rfl) <| zB (zF (uY (v := .int i) rfl) rfl) <| zB (zF (w8z rfl) rfl) <| zB (zF (yU rfl) rfl) <| zB (zF (zZ (yU rfl) (zZ (yU rfl) rfl)) rfl) <| zB (zF (yU rfl) rfl) <| zB (zF (zV (vtag (v := .int i) rfl) rfl (wY "int" "int")) rfl) <| zR <| zW (wL rfl) <| zR <| yH <| y2 <| zN rfl <| zN (zO rfl rfl (yM (by omega))) rfl, Nat.le_of_ble_eq_true rfl⟩
  have less0 : ∀ (i : Int), v = .int i → Gv (wR [.fz (.str (Str.ofString "less")), .fz (.int (0 : Nat)), .fz (oVa (some v)), .fz (.int s), .fz (.int lit), .fz (.int q), .fz (.list env)]) (.tuple [(Va.bool (decide (i < lit))).enc, .int ((s + 4 : Nat) : Int)]) 7 := fun i hv => by
    subst hv
    by_cases hlt : i < lit
    · rw [decide_eq_true hlt]
      exact ⟨_, yC rfl rfl <| zB (zF (yU rfl) rfl) <| zB (zF (y4z (.inl rfl)) rfl) <| zB (zF (uY (v := .int i) rfl) rfl) <| zB (zF (w8z rfl) rfl) <| zB (zF (yU rfl) rfl) <| zB (zF (zZ (yU rfl) (zZ (yU rfl) rfl)) rfl) <| zB (zF (yU rfl) rfl) <| zB (zF (zV (vtag (v := .int i) rfl) rfl (wY "int" "int")) rfl) <| zB (zF (yU rfl) rfl) <| zB (σ' := [some (.fz (.str (Str.ofString "less"))), some (.fz (.int (0 : Nat))), some (.fz (zQz i)), some (.fz (.int s)), some (.fz (.int lit)), some (.fz (.int q)), some (.fz (.list env)), some (.fz (.int i)), some (.fz (.int lit))]) rfl <| zB (zF (zV rfl rfl (jO 0 1)) rfl) <| zR <| zW (zV rfl rfl (show ltI (.int i) (.int lit) = some true by show some (decide (i < lit)) = _; rw [decide_eq_true hlt])) <| zR <| yH <| y2 <| zN rfl <| zN (zO rfl rfl (yM (by omega))) rfl, Nat.le_of_ble_eq_true rfl⟩
    · rw [decide_eq_false hlt]
      exact ⟨_, yC rfl rfl <| zB (zF (yU rfl) rfl) <| zB (zF (y4z (.inl rfl)) rfl) <| zB (zF (uY (v := .int i) rfl) rfl) <| zB (zF (w8z rfl) rfl) <| zB (zF (yU rfl) rfl) <| zB (zF (zZ (yU rfl) (zZ (yU rfl) rfl)) rfl) <| zB (zF (yU rfl) rfl) <| zB (zF (zV (vtag (v := .int i) rfl) rfl (wY "int" "int")) rfl) <| zB (zF (yU rfl) rfl) <| zB (σ' := [some (.fz (.str (Str.ofString "less"))), some (.fz (.int (0 : Nat))), some (.fz (zQz i)), some (.fz (.int s)), some (.fz (.int lit)), some (.fz (.int q)), some (.fz (.list env)), some (.fz (.int i)), some (.fz (.int lit))]) rfl <| zB (zF (zV rfl rfl (jO 0 1)) rfl) <| zB (zF (zV rfl rfl (show ltI (.int i) (.int lit) = some false by show some (decide (i < lit)) = _; rw [decide_eq_false hlt])) rfl) <| zR <| yH <| y2 <| zN rfl <| zN (zO rfl rfl (yM (by omega))) rfl, Nat.le_of_ble_eq_true rfl⟩
  have less1 : ∀ (i : Int), v = .int i → Gv (wR [.fz (.str (Str.ofString "less")), .fz (.int (1 : Nat)), .fz (oVa (some v)), .fz (.int s), .fz (.int lit), .fz (.int q), .fz (.list env)]) (.tuple [(Va.bool (decide (lit < i))).enc, .int ((s + 4 : Nat) : Int)]) 7 := fun i hv => by
    subst hv
    by_cases hlt : lit < i
    · rw [decide_eq_true hlt]
      exact ⟨_, yC rfl rfl <| zB (zF (yU rfl) rfl) <| zB (zF (y4z (.inl rfl)) rfl) <| zB (zF (uY (v := .int i) rfl) rfl) <| zB (zF (w8z rfl) rfl) <| zB (zF (yU rfl) rfl) <| zB (zF (zZ (yU rfl) (zZ (yU rfl) rfl)) rfl) <| zB (zF (yU rfl) rfl) <| zB (zF (zV (vtag (v := .int i) rfl) rfl (wY "int" "int")) rfl) <| zB (zF (yU rfl) rfl) <| zB (σ' := [some (.fz (.str (Str.ofString "less"))), some (.fz (.int (1 : Nat))), some (.fz (zQz i)), some (.fz (.int s)), some (.fz (.int lit)), some (.fz (.int q)), some (.fz (.list env)), some (.fz (.int i)), some (.fz (.int lit))]) rfl <| zB (σ' := [some (.fz (.str (Str.ofString "less"))), some (.fz (.int (1 : Nat))), some (.fz (zQz i)), some (.fz (.int s)), some (.fz (.int lit)), some (.fz (.int q)), some (.fz (.list env)), some (.fz (.int lit)), some (.fz (.int i))]) (zW (zV rfl rfl (jO 1 1)) rfl) <| zR <| zW (zV rfl rfl (show ltI (.int lit) (.int i) = some true by show some (decide (lit < i)) = _; rw [decide_eq_true hlt])) <| zR <| yH <| y2 <| zN rfl <| zN (zO rfl rfl (yM (by omega))) rfl, Nat.le_of_ble_eq_true rfl⟩
    · rw [decide_eq_false hlt]
      exact ⟨_, yC rfl rfl <| zB (zF (yU rfl) rfl) <| zB (zF (y4z (.inl rfl)) rfl) <| zB (zF (uY (v := .int i) rfl) rfl) <| zB (zF (w8z rfl) rfl) <| zB (zF (yU rfl) rfl) <| zB (zF (zZ (yU rfl) (zZ (yU rfl) rfl)) rfl) <| zB (zF (yU rfl) rfl) <| zB (zF (zV (vtag (v := .int i) rfl) rfl (wY "int" "int")) rfl) <| zB (zF (yU rfl) rfl) <| zB (σ' := [some (.fz (.str (Str.ofString "less"))), some (.fz (.int (1 : Nat))), some (.fz (zQz i)), some (.fz (.int s)), some (.fz (.int lit)), some (.fz (.int q)), some (.fz (.list env)), some (.fz (.int i)), some (.fz (.int lit))]) rfl <| zB (σ' := [some (.fz (.str (Str.ofString "less"))), some (.fz (.int (1 : Nat))), some (.fz (zQz i)), some (.fz (.int s)), some (.fz (.int lit)), some (.fz (.int q)), some (.fz (.list env)), some (.fz (.int lit)), some (.fz (.int i))]) (zW (zV rfl rfl (jO 1 1)) rfl) <| zB (zF (zV rfl rfl (show ltI (.int lit) (.int i) = some false by show some (decide (lit < i)) = _; rw [decide_eq_false hlt])) rfl) <| zR <| yH <| y2 <| zN rfl <| zN (zO rfl rfl (yM (by omega))) rfl, Nat.le_of_ble_eq_true rfl⟩
  rcases hop with rfl | rfl | rfl | rfl
  · induction v with
    | int i => exact add 0 i rfl
    | _ => exact key "add" 0 (by omega) rfl rfl rfl rfl rfl rfl
  · induction v with
    | int i => exact add 1 i rfl
    | _ => exact key "add" 1 (by omega) rfl rfl rfl rfl rfl rfl
  · induction v with
    | int i => exact less0 i rfl
    | _ => exact key "less" 0 (by omega) rfl rfl rfl rfl rfl rfl
  · induction v with
    | int i => exact less1 i rfl
    | _ => exact key "less" 1 (by omega) rfl rfl rfl rfl rfl rfl
theorem x_act (op : Op) (o : Option Va) (s : Nat) (lit : Int) (q : Nat) (env : List PyData) : jH op o s lit q env := by
  induction op with
  | lam => exact ac_lam
  | if1 => exact ac_if1
  | if2 => exact ac_if2
  | add0 => induction o with
    | none => exact kO rfl (.inl rfl) (by decide) rfl
    | some v => exact wVz (.inl rfl)
  | add1 => induction o with
    | none => exact kO rfl (.inl rfl) (by decide) rfl
    | some v => exact wVz (.inr (.inl rfl))
  | less0 => induction o with
    | none => exact kO rfl (.inl rfl) (by decide) rfl
    | some v => exact wVz (.inr (.inr (.inl rfl)))
  | less1 => induction o with
    | none => exact kO rfl (.inl rfl) (by decide) rfl
    | some v => exact wVz (.inr (.inr (.inr rfl)))
  | pair0 => induction o with
    | none => exact kO rfl (.inl rfl) (by decide) rfl
    | some v => exact ac_pair0
  | pair1 => induction o with
    | none => exact kO rfl (.inl rfl) (by decide) rfl
    | some v => exact ac_pair1
  | fst => induction o with
    | none => exact kO rfl (.inl rfl) (by decide) rfl
    | some v => exact ac_proj (.inl rfl)
  | snd => induction o with
    | none => exact kO rfl (.inl rfl) (by decide) rfl
    | some v => exact ac_proj (.inr rfl)
  | if0 => induction o with
    | none => exact kO rfl (.inr rfl) (by decide) rfl
    | some v => exact ac_if0
end
noncomputable def eEx (op : Op) : PyData := .tuple (op.ex.map fun b => .str (Str.ofString (if b then "bool" else "num")))
noncomputable abbrev gSt (ns : List Node) (k : String) (ex : PyData) (pos q : Nat) (lit : Int) (kids : List PyData) (o : Option Slot) : Sta := [some (.fz (yJ ns)), some (.fz (.str (Str.ofString k))), some (.fz ex), some (.fz (.int pos)), some (.fz (.int q)), some (.fz (.int lit)), some (.ol kids), o]
section
variable {ns : List Node} {k : String} {ex : PyData} {pos q : Nat} {lit : Int} {kids : List PyData} {i : Nat}
theorem qH {nd : Node} (h : ns.length < 1000) : xK (yJ ns) (.list [eN nd]) = some (yJ (ns ++ [nd])) := (wD (by simp only [List.length_map, List.length_cons, List.length_nil, lim]; omega)).trans (by simp [yJ])
theorem jXz {σ : Sta} (h : σ[0]? = some (some (.fz (yJ ns)))) (hl : ns.length < 1000) : op1 vM (zG 0) σ = some (.ok (.pv (.int (ns.length : Nat)))) := by
  have h1 : zG 0 σ = some (.ok (.pv (yJ ns))) := by unfold zG; rw [h]
  exact vK (yB h1) ((wJ (by simp only [List.length_map, lim]; omega)).trans (by simp))
theorem wQz (hi : zX ex (.int i) = some (.str (Str.ofString "num"))) (hl : ns.length < 1000) (hk : kids.length ≤ lim) : kH (gSt ns k ex pos q lit kids (some (.fz (.int i)))) = some (.ok (.next, gSt (ns ++ [⟨.num, lit + i, 0, 0⟩]) k ex pos q lit (kids ++ [.int (ns.length : Nat)]) (some (.fz (.int i))))) :=
  zB (xQ rfl (jXz rfl hl) hk) <| zB (zF (zV (yB (zO rfl rfl hi)) rfl (yG "num" "bool")) (zB (z2 (zO rfl rfl (qH (nd := ⟨.num, lit + i, 0, 0⟩) hl))) rfl)) rfl
theorem grow_bool (hi : zX ex (.int i) = some (.str (Str.ofString "bool"))) (hl : ns.length < 1000) (hk : kids.length ≤ lim) : kH (gSt ns k ex pos q lit kids (some (.fz (.int i)))) = some (.ok (.next, gSt (ns ++ [⟨.bool, lit.fmod 2, 0, 0⟩]) k ex pos q lit (kids ++ [.int (ns.length : Nat)]) (some (.fz (.int i))))) :=
  zB (xQ rfl (jXz rfl hl) hk) <| zB (zW (zV (yB (zO rfl rfl hi)) rfl (yG "bool" "bool")) (zB (z2 (zO rfl rfl (qH (nd := ⟨.bool, lit.fmod 2, 0, 0⟩) hl))) rfl)) rfl
noncomputable abbrev uCz : FX := catF (op2 xK (op2 xK (z7z (zG 6) none (some (zG 3))) (x8 (xX [(zG 4)]))) (z7z (zG 6) (some (zG 3)) none)) (x8 (xX [(zD (.int (0))), (zD (.int (0)))]))
theorem gk0 {o : Option Slot} : uCz (gSt ns k ex 0 q lit [] o) = some (.ok [.int q, .int 0, .int 0]) := by with_unfolding_all rfl
theorem gk10 {o : Option Slot} {a : PyData} : uCz (gSt ns k ex 0 q lit [a] o) = some (.ok [.int q, a, .int 0, .int 0]) := by with_unfolding_all rfl
theorem gk11 {o : Option Slot} {a : PyData} : uCz (gSt ns k ex 1 q lit [a] o) = some (.ok [a, .int q, .int 0, .int 0]) := by with_unfolding_all rfl
theorem gk20 {o : Option Slot} {a b : PyData} : uCz (gSt ns k ex 0 q lit [a, b] o) = some (.ok [.int q, a, b, .int 0, .int 0]) := by with_unfolding_all rfl
theorem gk21 {o : Option Slot} {a b : PyData} : uCz (gSt ns k ex 1 q lit [a, b] o) = some (.ok [a, .int q, b, .int 0, .int 0]) := by with_unfolding_all rfl
theorem gk22 {o : Option Slot} {a b : PyData} : uCz (gSt ns k ex 2 q lit [a, b] o) = some (.ok [a, b, .int q, .int 0, .int 0]) := by with_unfolding_all rfl
end
noncomputable abbrev gArgs (nodes : List Node) (op : Op) (q : Nat) (lit : Int) : List Slot := [.fz (yJ nodes), .fz (.str (Str.ofString op.kd.str)), .fz (eEx op), .fz (.int op.pos), .fz (.int q), .fz (.int lit)]
theorem x_grow (nodes : List Node) (op : Op) (q : Nat) (lit : Int) (hl : nodes.length < 900) : Gv (w8 (gArgs nodes op q lit)) (yJ (u0z nodes op q lit)) 6 := by
  have L0 : lit + ((0 : Nat) : Int) = lit := by omega
  have n0 : ∀ (k : String) (pos : Nat) (nd : Node), uCz (gSt nodes k (.tuple []) pos q lit [] none) = some (.ok [.int nd.a, .int nd.b, .int nd.c]) → k = nd.kd.str → Gv (w8 [.fz (yJ nodes), .fz (.str (Str.ofString k)), .fz (.tuple []), .fz (.int pos), .fz (.int q), .fz (.int lit)]) (yJ (nodes ++ [nd])) 6 := fun k pos nd h hk => by
    subst hk
    exact ⟨_, yC rfl rfl <| zB (xR rfl) <| zB ((z6z (n := 0) rfl (by decide)).trans rfl) <| zB (xR h) <| zR <| yH <| zO rfl rfl (qH (nd := nd) (by omega)), Nat.le_of_ble_eq_true rfl⟩
  have n1 : ∀ (k : String) (pos : Nat) (nd : Node), uCz (gSt (nodes ++ [⟨.num, lit, 0, 0⟩]) k (.tuple [.str (Str.ofString "num")]) pos q lit [.int (nodes.length : Nat)] (some (.fz (.int (0 : Nat))))) = some (.ok [.int nd.a, .int nd.b, .int nd.c, .int 0]) → k = nd.kd.str → Gv (w8 [.fz (yJ nodes), .fz (.str (Str.ofString k)), .fz (.tuple [.str (Str.ofString "num")]), .fz (.int pos), .fz (.int q), .fz (.int lit)]) (yJ (nodes ++ [⟨.num, lit, 0, 0⟩] ++ [nd])) 6 := fun k pos nd h hk => by
    subst hk
    have g := wQz (ns := nodes) (k := nd.kd.str) (ex := .tuple [.str (Str.ofString "num")]) (pos := pos) (q := q) (lit := lit) (kids := []) (i := 0) rfl (by omega) (by simp)
    rw [L0] at g
    exact ⟨_, yC rfl rfl <| zB (xR rfl) <| zB ((z6z (n := 1) (by with_unfolding_all rfl) (by decide)).trans (yL rfl g rfl)) <| zB (xR h) <| zR <| yH <| zO rfl rfl (qH (nd := nd) (by simp; omega)), Nat.le_of_ble_eq_true rfl⟩
  have n2 : ∀ (pos : Nat) (nd : Node), uCz (gSt (nodes ++ [⟨.num, lit, 0, 0⟩] ++ [⟨.num, lit + 1, 0, 0⟩]) "if" (.tuple [.str (Str.ofString "num"), .str (Str.ofString "num")]) pos q lit [.int (nodes.length : Nat), .int ((nodes.length + 1 : Nat) : Int)] (some (.fz (.int (1 : Nat))))) = some (.ok [.int nd.a, .int nd.b, .int nd.c, .int 0, .int 0]) → nd.kd = .if_ → Gv (w8 [.fz (yJ nodes), .fz (.str (Str.ofString "if")), .fz (.tuple [.str (Str.ofString "num"), .str (Str.ofString "num")]), .fz (.int pos), .fz (.int q), .fz (.int lit)]) (yJ (nodes ++ [⟨.num, lit, 0, 0⟩] ++ [⟨.num, lit + 1, 0, 0⟩] ++ [nd])) 6 := fun pos nd h hk => by
    have g := wQz (ns := nodes) (k := "if") (ex := .tuple [.str (Str.ofString "num"), .str (Str.ofString "num")]) (pos := pos) (q := q) (lit := lit) (kids := []) (i := 0) rfl (by omega) (by simp)
    rw [L0] at g
    have g2 := wQz (ns := nodes ++ [⟨.num, lit, 0, 0⟩]) (k := "if") (ex := .tuple [.str (Str.ofString "num"), .str (Str.ofString "num")]) (pos := pos) (q := q) (lit := lit) (kids := [.int (nodes.length : Nat)]) (i := 1) rfl (by simp; omega) (by simp [lim])
    rw [show (nodes ++ [(⟨.num, lit, 0, 0⟩ : Node)]).length = nodes.length + 1 from by simp] at g2
    have hn : eN nd = .tuple [.str (Str.ofString "if"), .int nd.a, .int nd.b, .int nd.c] := by unfold eN; rw [hk]; rfl
    have ha := qH (ns := nodes ++ [⟨.num, lit, 0, 0⟩] ++ [⟨.num, lit + 1, 0, 0⟩]) (nd := nd) (by simp; omega)
    rw [hn] at ha
    exact ⟨_, yC rfl rfl <| zB (xR rfl) <| zB ((z6z (n := 2) (by with_unfolding_all rfl) (by decide)).trans (yL rfl g (yL rfl g2 rfl))) <| zB (xR h) <| zR <| yH <| zO rfl rfl ha, Nat.le_of_ble_eq_true rfl⟩
  have b2 : ∀ (pos : Nat) (nd : Node), uCz (gSt (nodes ++ [⟨.bool, lit.fmod 2, 0, 0⟩] ++ [⟨.num, lit + 1, 0, 0⟩]) "if" (.tuple [.str (Str.ofString "bool"), .str (Str.ofString "num")]) pos q lit [.int (nodes.length : Nat), .int ((nodes.length + 1 : Nat) : Int)] (some (.fz (.int (1 : Nat))))) = some (.ok [.int nd.a, .int nd.b, .int nd.c, .int 0, .int 0]) → nd.kd = .if_ → Gv (w8 [.fz (yJ nodes), .fz (.str (Str.ofString "if")), .fz (.tuple [.str (Str.ofString "bool"), .str (Str.ofString "num")]), .fz (.int pos), .fz (.int q), .fz (.int lit)]) (yJ (nodes ++ [⟨.bool, lit.fmod 2, 0, 0⟩] ++ [⟨.num, lit + 1, 0, 0⟩] ++ [nd])) 6 := fun pos nd h hk => by
    have g := grow_bool (ns := nodes) (k := "if") (ex := .tuple [.str (Str.ofString "bool"), .str (Str.ofString "num")]) (pos := pos) (q := q) (lit := lit) (kids := []) (i := 0) rfl (by omega) (by simp)
    have g2 := wQz (ns := nodes ++ [⟨.bool, lit.fmod 2, 0, 0⟩]) (k := "if") (ex := .tuple [.str (Str.ofString "bool"), .str (Str.ofString "num")]) (pos := pos) (q := q) (lit := lit) (kids := [.int (nodes.length : Nat)]) (i := 1) rfl (by simp; omega) (by simp [lim])
    rw [show (nodes ++ [(⟨.bool, lit.fmod 2, 0, 0⟩ : Node)]).length = nodes.length + 1 from by simp] at g2
    have hn : eN nd = .tuple [.str (Str.ofString "if"), .int nd.a, .int nd.b, .int nd.c] := by unfold eN; rw [hk]; rfl
    have ha := qH (ns := nodes ++ [⟨.bool, lit.fmod 2, 0, 0⟩] ++ [⟨.num, lit + 1, 0, 0⟩]) (nd := nd) (by simp; omega)
    rw [hn] at ha
    exact ⟨_, yC rfl rfl <| zB (xR rfl) <| zB ((z6z (n := 2) (by with_unfolding_all rfl) (by decide)).trans (yL rfl g (yL rfl g2 rfl))) <| zB (xR h) <| zR <| yH <| zO rfl rfl ha, Nat.le_of_ble_eq_true rfl⟩
  have e0 : ∀ (nd : Node), nodes ++ ([] ++ [nd]) = nodes ++ [nd] := fun nd => rfl
  have e1 : ∀ (a nd : Node), nodes ++ [a] ++ [nd] = nodes ++ ([a] ++ [nd]) := fun a nd => by simp
  have e2 : ∀ (a b nd : Node), nodes ++ [a] ++ [b] ++ [nd] = nodes ++ ([a, b] ++ [nd]) := fun a b nd => by simp
  induction op with
  | fst => exact n0 "fst" 0 ⟨.fst, q, 0, 0⟩ gk0 rfl
  | snd => exact n0 "snd" 0 ⟨.snd, q, 0, 0⟩ gk0 rfl
  | lam => exact n0 "lam" 0 ⟨.lam, q, 0, 0⟩ gk0 rfl
  | add0 => have := n1 "add" 0 ⟨.add, q, nodes.length, 0⟩ gk10 rfl; rw [e1] at this; exact this
  | add1 => have := n1 "add" 1 ⟨.add, nodes.length, q, 0⟩ gk11 rfl; rw [e1] at this; exact this
  | less0 => have := n1 "less" 0 ⟨.less, q, nodes.length, 0⟩ gk10 rfl; rw [e1] at this; exact this
  | less1 => have := n1 "less" 1 ⟨.less, nodes.length, q, 0⟩ gk11 rfl; rw [e1] at this; exact this
  | pair0 => have := n1 "pair" 0 ⟨.pair, q, nodes.length, 0⟩ gk10 rfl; rw [e1] at this; exact this
  | pair1 => have := n1 "pair" 1 ⟨.pair, nodes.length, q, 0⟩ gk11 rfl; rw [e1] at this; exact this
  | if0 => have := n2 0 ⟨.if_, q, nodes.length, (nodes.length + 1 : Nat)⟩ gk20 rfl; rw [e2] at this; exact this
  | if1 => have := b2 1 ⟨.if_, nodes.length, q, (nodes.length + 1 : Nat)⟩ gk21 rfl; rw [e2] at this; exact this
  | if2 => have := b2 2 ⟨.if_, nodes.length, (nodes.length + 1 : Nat), q⟩ gk22 rfl; rw [e2] at this; exact this
structure Made where
  nodes : List Node
  y : Except String Tr
  tr : List Nat
  r : Option Va × Nat
noncomputable def yT : Except String Tr → PyData
  | .ok T => eR T
  | .error _ => .none
noncomputable def yE : Except String Tr → String
  | .ok _ => ""
  | .error e => e
noncomputable def xZz (m : Made) : PyData := .tuple [yJ m.nodes, yT m.y, .str (Str.ofString (yE m.y)), y5 m.tr, oVa m.r.1, .int m.r.2]
noncomputable def j9 (op : Op) (rd : Rd) (base : Nat) (y : Except String Tr) (tr : List Nat) : Except String Tr × List Nat := match y with
  | .ok T => match opT op T base with
    | some T' => (.ok T', xV op rd ++ tr ++ wS op rd ++ [yTz op rd false])
    | none => (.error "clash", xV op rd ++ tr ++ wS op rd ++ [yTz op rd true])
  | .error e => (.error e, xV op rd ++ tr)
noncomputable def kUz (m : Made) (op : Op) (rd : Rd) (lit : Int) (base : Nat) : Made := ⟨yF m.nodes op rd lit, (j9 op rd base m.y m.tr).1, (j9 op rd base m.y m.tr).2, q5 op rd m.r lit m.nodes.length⟩
noncomputable def eOp (op : Op) : PyData := .tuple [.str (Str.ofString op.kd.str), eEx op, .int op.pos, .str (Str.ofString op.need.str)]
theorem zMq (op : Op) (rd : Rd) : (xV op rd).length ≤ 20 ∧ (wS op rd).length ≤ 20 := by
  have h1 : (uR op).length ≤ 3 := by cases op <;> exact Nat.le_of_ble_eq_true rfl
  have h2 : (uV op).length ≤ 2 := by cases op <;> exact Nat.le_of_ble_eq_true rfl
  cases rd
  · exact ⟨Nat.le_trans h1 (by decide), Nat.le_trans h2 (by decide)⟩
  · exact ⟨Nat.le_of_ble_eq_true rfl, by simp only [wS, List.length_append, List.length_cons, List.length_nil]; omega⟩
  · exact ⟨by simp only [xV, List.length_append, List.length_cons, List.length_nil]; omega, Nat.le_of_ble_eq_true rfl⟩
theorem kU {a b : List Nat} (h : a.length + b.length ≤ 1000) : xK (y5 a) (y5 b) = some (y5 (a ++ b)) := (wD (by simp only [wX, List.length_map, lim]; omega)).trans (by simp [y5, wX])
theorem ah_ok (op : Op) : kOz (.list [.int 0]) (.int (1 + (op.pos : Nat))) = some (y5 (uR op)) := by cases op <;> rfl
theorem be_ok (op : Op) : kOz (.list [.int 0]) (.int (((op.ex.length : Nat) : Int) - (op.pos : Nat))) = some (y5 (uV op)) := by cases op <;> rfl
theorem exlen (op : Op) : vM (eEx op) = some (.int (op.ex.length : Nat)) := by cases op <;> with_unfolding_all rfl
section
variable {m : Made} {op : Op} {rd : Rd} {lit : Int} {base : Nat} {w : Int}
noncomputable abbrev wSt (m : Made) (op : Op) (rd : Rd) (lit : Int) (base : Nat) (w : Int) (nd td ed trd vd sd ah be : PyData) (o18 o19 o20 o21 : Option Slot) : Sta :=
  [some (.fz (xZz m)), some (.fz (.int w)), some (.fz (.int rd.i)), some (.fz (.int lit)), some (.fz (.int base)), some (.fz nd), some (.fz td), some (.fz ed), some (.fz trd), some (.fz vd), some (.fz sd), some (.fz (.str (Str.ofString op.kd.str))), some (.fz (eEx op)), some (.fz (.int op.pos)), some (.fz (.str (Str.ofString op.need.str))), some (.fz (.int (m.nodes.length - 1 : Nat))), some (.fz ah), some (.fz be), o18, o19, o20, o21]
theorem w_pre {g : SX} {R : Out (Fl × Sta)} (hw : zX uO (.int w) = some (eOp op)) (hl : m.nodes.length < 900) (hl0 : 0 < m.nodes.length)
    (k : g (wSt m op rd lit base w (yJ m.nodes) (yT m.y) (.str (Str.ofString (yE m.y))) (y5 m.tr) (oVa m.r.1) (.int m.r.2) (y5 (uR op)) (y5 (uV op)) none none none none) = R) :
    (zU (qEz [5, 6, 7, 8, 9, 10] (zG 0))
    (zU (qEz [11, 12, 13, 14] (op2 zX (zD uO) (zG 1)))
    (zU (yX 15 (op2 uK (op1 vM (zG 5)) (zD (.int (1)))))
    (zU (yX 16 (op2 kOz (x8 (xX [(zD (.int (0)))])) (op2 xK (zD (.int (1))) (zG 13))))
    (zU (yX 17 (op2 kOz (x8 (xX [(zD (.int (0)))])) (op2 uK (op1 vM (zG 12)) (zG 13)))) g)))))
      [some (.fz (xZz m)), some (.fz (.int w)), some (.fz (.int rd.i)), some (.fz (.int lit)), some (.fz (.int base)), none, none, none, none, none, none, none, none, none, none, none, none, none, none, none, none, none] = R := by
  have hlen : vM (yJ m.nodes) = some (.int (m.nodes.length : Nat)) := (wJ (by simp only [List.length_map, lim]; omega)).trans (by simp)
  refine zB (yFz (ds := [yJ m.nodes, yT m.y, .str (Str.ofString (yE m.y)), y5 m.tr, oVa m.r.1, .int m.r.2]) rfl rfl) ?_
  refine zB (yFz (ds := [.str (Str.ofString op.kd.str), eEx op, .int op.pos, .str (Str.ofString op.need.str)]) (yB (zO rfl rfl hw)) rfl) ?_
  refine zB (z2 (zO (yB (vK rfl hlen)) rfl (xL (c := (m.nodes.length - 1 : Nat)) (by omega)))) ?_
  refine zB (z2 (zO rfl (yB (zO rfl rfl (yM rfl))) (ah_ok op))) ?_
  exact zB (z2 (zO rfl (yB (zO (yB (vK rfl (exlen op))) rfl (xL rfl))) (be_ok op))) k
theorem k3z {σ : Sta} {k : Int} (hs : σ[2]? = some (some (.fz (.int rd.i)))) (h : rd.i ≠ k) : yR eqI (zG 2) (zD (.int k)) σ = some (.ok false) := by
  have h1 : zG 2 σ = some (.ok (.pv (.int rd.i))) := by unfold zG; rw [hs]
  exact zV (yB h1) rfl ((jO _ _).trans (by rw [decide_eq_false h]))
theorem hTz {σ : Sta} {k : Int} (hs : σ[2]? = some (some (.fz (.int rd.i)))) (h : rd.i = k) : yR eqI (zG 2) (zD (.int k)) σ = some (.ok true) := by
  have h1 : zG 2 σ = some (.ok (.pv (.int rd.i))) := by unfold zG; rw [hs]
  exact zV (yB h1) rfl ((jO _ _).trans (by rw [decide_eq_true h]))
inductive GvS (r : Out (Fl × Sta)) (d : PyData) (k : Nat) : Prop
  | mk (τ : Sta) (h : r = some (.ok (.ret d, τ))) (hl : k ≤ τ.length) : GvS r d k
theorem w_post {nd : PyData} {tr1 : List Nat} {ah be : List Nat} {vd sd : PyData} {o18 o19 o20 o21 : Option Slot} (hT : ∀ T, m.y = .ok T → T.len < 60) (hE : ∀ e, m.y = .error e → (e == "") = false) (htr : m.tr = tr1) (hah : ah = xV op rd) (hbe : be = wS op rd) (hlen : m.tr.length ≤ 500) :
    GvS ((zU (yX 8 (op2 xK (zG 16) (zG 8)))
  (zU (ifC (yR eqI (zG 7) (zD (.str (Str.ofString ""))))
    (zU (yX 6 (yQ v9 [.loc 11, .loc 13, .loc 14, .loc 6, .loc 4]))
    (zU (yX 8 (op2 xK (op2 xK (zG 8) (zG 17)) (x8 (xX [(yQ qC [.loc 14, .loc 2, .ex (boolC (zAz vJ (zG 6)))])]))))
    (zU (ifC (zAz vJ (zG 6))
      (zU (yX 7 (zD (.str (Str.ofString "clash"))))
      yA)
      yA)
    yA)))
    yA)
  (zU (xY (y8 [(zG 5), (zG 6), (zG 7), (zG 8), (zG 9), (zG 10)]))
  yA))) (wSt m op rd lit base w nd (yT m.y) (.str (Str.ofString (yE m.y))) (y5 tr1) vd sd (y5 ah) (y5 be) o18 o19 o20 o21)) (.tuple [nd, yT (j9 op rd base m.y m.tr).1, .str (Str.ofString (yE (j9 op rd base m.y m.tr).1)), y5 (j9 op rd base m.y m.tr).2, vd, sd]) 5 := by
  subst htr; subst hah; subst hbe
  have hal := (zMq op rd).1
  have hbl := (zMq op rd).2
  have h1 := kU (a := xV op rd) (b := m.tr) (by omega)
  have h2 := kU (a := xV op rd ++ m.tr) (b := wS op rd) (by simp; omega)
  cases hy : m.y with
  | error e =>
    exact ⟨_, zB (z2 (zO rfl rfl h1)) <| zB (zF (zV rfl rfl ((yG _ _).trans (by rw [show (yE (.error e) == "") = false from hE e hy]))) rfl) <| zR <| yH rfl, Nat.le_of_ble_eq_true rfl⟩
  | ok T =>
    have hty := x_type op (T := T) base (hT T hy)
    cases ho : opT op T base with
    | some T' =>
      rw [ho] at hty
      have hp := x_pairs op rd false
      have h3 := kU (a := xV op rd ++ m.tr ++ wS op rd) (b := [yTz op rd false]) (by simp; omega)
      have hw : j9 op rd base (.ok T) m.tr = (.ok T', xV op rd ++ m.tr ++ wS op rd ++ [yTz op rd false]) := by simp only [j9, ho]
      rw [hw]
      exact ⟨_, zB (z2 (zO rfl rfl h1)) <| zB (zW (zV rfl rfl (yG "" "")) <| zB (z2 (v3 (z9 rfl (z9 rfl (z9 rfl (z9 rfl (z9 rfl rfl))))) hty (Nat.le_refl _) rfl)) <| zB (z2 (zO (yB (zO rfl rfl h2)) (yB (zYz (zN (v3 (z9 rfl (z9 rfl (y4 rfl rfl))) hp (Nat.le_refl _) rfl) rfl))) h3)) <| zB (zF rfl rfl) rfl) <| zR <| yH rfl, Nat.le_of_ble_eq_true rfl⟩
    | none =>
      rw [ho] at hty
      have hp := x_pairs op rd true
      have h3 := kU (a := xV op rd ++ m.tr ++ wS op rd) (b := [yTz op rd true]) (by simp; omega)
      have hw : j9 op rd base (.ok T) m.tr = (.error "clash", xV op rd ++ m.tr ++ wS op rd ++ [yTz op rd true]) := by simp only [j9, ho]
      rw [hw]
      exact ⟨_, zB (z2 (zO rfl rfl h1)) <| zB (zW (zV rfl rfl (yG "" "")) <| zB (z2 (v3 (z9 rfl (z9 rfl (z9 rfl (z9 rfl (z9 rfl rfl))))) hty (Nat.le_refl _) rfl)) <| zB (z2 (zO (yB (zO rfl rfl h2)) (yB (zYz (zN (v3 (z9 rfl (z9 rfl (y4 rfl rfl))) hp (Nat.le_refl _) rfl) rfl))) h3)) <| zB (zW rfl (zB (z2 rfl) rfl)) rfl) <| zR <| yH rfl, Nat.le_of_ble_eq_true rfl⟩
end
section
variable {m : Made} {op : Op} {rd : Rd} {lit : Int} {base : Nat} {w : Int}
structure MOk (m : Made) : Prop where
  pos : 0 < m.nodes.length
  len : m.nodes.length < 800
  tr : m.tr.length ≤ 500
  ty : ∀ T, m.y = .ok T → T.len < 60
  er : ∀ e, m.y = .error e → (e == "") = false
theorem kd7 {σ : Sta} {k q : String} (hs : σ[11]? = some (some (.fz (.str (Str.ofString k))))) {b : Bool} (h : (k == q) = b) : yR eqI (zG 11) (zD (.str (Str.ofString q))) σ = some (.ok b) := by
  have h1 : zG 11 σ = some (.ok (.pv (.str (Str.ofString k)))) := by unfold zG; rw [hs]
  exact zV (yB h1) rfl ((yG k q).trans (by rw [h]))
theorem need14 {σ : Sta} {k q : String} (hs : σ[14]? = some (some (.fz (.str (Str.ofString k))))) {b : Bool} (h : (k == q) = b) : yR eqI (zG 14) (zD (.str (Str.ofString q))) σ = some (.ok b) := by
  have h1 : zG 14 σ = some (.ok (.pv (.str (Str.ofString k)))) := by unfold zG; rw [hs]
  exact zV (yB h1) rfl ((yG k q).trans (by rw [h]))
theorem none9 {σ : Sta} {o : Option Va} (hs : σ[9]? = some (some (.fz (oVa o)))) : zAz vJ (zG 9) σ = some (.ok o.isNone) := by
  have h1 : zG 9 σ = some (.ok (.pv (oVa o))) := by unfold zG; rw [hs]
  unfold zAz; rw [yB h1]
  induction o with
  | none => rfl
  | some v => cases v <;> rfl
theorem jUz (op : Op) : wNz op = if op.need.str == "" then 0 else 1 := by cases op <;> rfl
theorem x_wrap0 (hw : zX uO (.int w) = some (eOp op)) (M : MOk m) : Gv (v8 [.fz (xZz m), .fz (.int w), .fz (.int 0), .fz (.int lit), .fz (.int base)]) (xZz (kUz m op .r0 lit base)) 5 := by
  have hp := M.pos
  have hl := M.len
  have hg := x_grow m.nodes op (m.nodes.length - 1) lit (by omega)
  have ha := x_act op m.r.1 m.r.2 lit (m.nodes.length - 1) []
  obtain ⟨τ, hpost, hτ⟩ := w_post (m := m) (op := op) (rd := .r0) (lit := lit) (base := base) (w := w) (nd := yJ (yF m.nodes op .r0 lit)) (tr1 := m.tr) (ah := uR op) (be := uV op) (vd := oVa (q5 op .r0 m.r lit m.nodes.length).1) (sd := .int (q5 op .r0 m.r lit m.nodes.length).2) (o18 := none) (o19 := none) (o20 := none) (o21 := none) M.ty M.er rfl rfl rfl M.tr
  exact ⟨τ, yC rfl rfl <| w_pre (rd := .r0) hw (by omega) hp <| zB (zW (hTz (rd := .r0) rfl rfl) <| zB (z2 (v3 (z9 rfl (z9 rfl (z9 rfl (z9 rfl (z9 rfl (z9 rfl rfl)))))) hg (Nat.le_refl _) rfl)) <| zB (yFz (yB (v3 (z9 rfl (z9 rfl (z9 rfl (z9 rfl (z9 rfl (z9 rfl (y4 rfl rfl))))))) ha (Nat.le_refl _) rfl)) rfl) rfl) hpost, hτ⟩
theorem ref_add (hl : m.nodes.length < 900) : xK (yJ m.nodes) (.list [eN ⟨.ref, (u5 op : Nat), 0, 0⟩]) = some (yJ (m.nodes ++ [⟨.ref, (u5 op : Nat), 0, 0⟩])) := qH (by omega)
theorem q1z (nodes : List Node) (op : Op) (q : Nat) (lit : Int) : (u0z nodes op q lit).length = nodes.length + op.ex.length + 1 := by simp [u0z, kE]; omega
theorem ex_le (op : Op) : op.ex.length ≤ 2 := by cases op <;> decide
noncomputable abbrev wB : SX → SX := fun g => (zU (yX 18 (zD (.int (0))))
    (zU (ifC (yR eqI (zG 11) (zD (.str (Str.ofString "lam"))))
      (zU (yX 18 (zD (.int (1))))
      yA)
      yA)
    (zU (yX 5 (yQ w8 [.ex (op2 xK (zG 5) (x8 (xX [(y8 [(zD (.str (Str.ofString "ref"))), (zG 18), (zD (.int (0))), (zD (.int (0)))])]))), .loc 11, .loc 12, .loc 13, .ex (op2 xK (zG 15) (zD (.int (1)))), .loc 3]))
    (zU (yX 19 (op2 uK (op1 vM (zG 5)) (zD (.int (1))))) g))))
theorem w_body {g : SX} {R : Out (Fl × Sta)} {td ed trd vd sd ah be : PyData} (M : MOk m)
    (k : g (wSt m op rd lit base w (yJ (u0z (m.nodes ++ [⟨.ref, (u5 op : Nat), 0, 0⟩]) op m.nodes.length lit)) td ed trd vd sd ah be (some (.fz (.int (u5 op : Nat)))) (some (.fz (.int (m.nodes.length + 1 + op.ex.length : Nat)))) none none) = R) :
    wB g (wSt m op rd lit base w (yJ m.nodes) td ed trd vd sd ah be none none none none) = R := by
  have hp := M.pos
  have hl := M.len
  have hex := ex_le op
  have hg := x_grow (m.nodes ++ [⟨.ref, (u5 op : Nat), 0, 0⟩]) op m.nodes.length lit (by simp; omega)
  have hgl := q1z (m.nodes ++ [⟨.ref, (u5 op : Nat), 0, 0⟩]) op m.nodes.length lit
  simp only [List.length_append, List.length_cons, List.length_nil] at hgl
  have hlen : vM (yJ (u0z (m.nodes ++ [⟨.ref, (u5 op : Nat), 0, 0⟩]) op m.nodes.length lit)) = some (.int ((u0z (m.nodes ++ [⟨.ref, (u5 op : Nat), 0, 0⟩]) op m.nodes.length lit).length : Nat)) := (wJ (by simp only [List.length_map, lim]; omega)).trans (by simp)
  have hlev : (ifC (yR eqI (zG 11) (zD (.str (Str.ofString "lam")))) (zU (yX 18 (zD (.int (1)))) yA) yA) (wSt m op rd lit base w (yJ m.nodes) td ed trd vd sd ah be (some (.fz (.int 0))) none none none) = some (.ok (.next, wSt m op rd lit base w (yJ m.nodes) td ed trd vd sd ah be (some (.fz (.int (u5 op : Nat)))) none none none)) := by
    cases h : op.kd.str == "lam" with
    | true =>
      rw [show u5 op = 1 from by simp [u5, h]]
      exact zW (kd7 rfl h) (zB (z2 rfl) rfl)
    | false =>
      rw [show u5 op = 0 from by simp [u5, h]]
      exact zF (kd7 rfl h) rfl
  refine zB (z2 rfl) (zB hlev ?_)
  refine zB (z2 (v3 (y4 (zO rfl (yB (zYz (zN (y2 (zN rfl (zN rfl (zN rfl (zN rfl rfl))))) rfl))) (ref_add (by omega))) (z9 rfl (z9 rfl (z9 rfl (y4 (zO rfl rfl (yM (c := (m.nodes.length : Nat)) (by omega))) (z9 rfl rfl)))))) hg (Nat.le_refl _) rfl)) ?_
  exact zB (z2 (zO (yB (vK rfl hlen)) rfl (xL (c := (m.nodes.length + 1 + op.ex.length : Nat)) (by rw [hgl]; omega)))) k
noncomputable abbrev wV : SX := (zU (ifC (zAz vJ (zG 9))
      (zU (yX 10 (op2 uK (op2 xK (zG 10) (op2 kOz (zD (.int (2))) (zG 2))) (zD (.int (1)))))
      yA)
      (zU (qEz [9, 21] (yQ wR [.loc 11, .loc 13, .loc 9, .ex (zD (.int (1))), .loc 3, .ex (op2 xK (zG 15) (zD (.int (1)))), .ex (x8 (xX [(zG 9)]))]))
      (zU (yX 10 (op2 xK (op2 xK (zG 10) (op2 kOz (zD (.int (2))) (zG 2))) (zG 21)))
      yA)))
    yA)
theorem w_val {nd td ed trd ah be : PyData} {o18 o19 o20 : Option Slot} (hrd : rd.i = 1 ∨ rd.i = 2) (M : MOk m) : ∃ o21, wV (wSt m op rd lit base w nd td ed trd (oVa m.r.1) (.int m.r.2) ah be o18 o19 o20 none) = some (.ok (.next, wSt m op rd lit base w nd td ed trd (oVa (q5 op rd m.r lit m.nodes.length).1) (.int (q5 op rd m.r lit m.nodes.length).2) ah be o18 o19 o20 o21)) := by
  have hp := M.pos
  rcases hr : m.r with ⟨o, n⟩
  have hmul : kOz (.int 2) (.int rd.i) = some (.int (2 * rd.i)) := by cases rd <;> with_unfolding_all rfl
  induction o with
  | none =>
    refine ⟨none, zB (zW (none9 (o := none) rfl) (zB (z2 (zO (yB (zO rfl (yB (zO rfl rfl hmul)) (yM rfl))) rfl (xL (c := ((q5 op rd (none, n) lit m.nodes.length).2 : Nat)) ?_))) ?_)) rfl⟩
    · induction rd with
      | r0 => rcases hrd with h | h <;> cases h
      | r1 => simp only [q5, Rd.i]; omega
      | r2 => simp only [q5, Rd.i]; omega
    · induction rd with
      | r0 => rcases hrd with h | h <;> cases h
      | r1 => rfl
      | r2 => rfl
  | some v =>
    have ha := x_act op (some v) 1 lit m.nodes.length [v.enc]
    have hV : q5 op rd (some v, n) lit m.nodes.length = ((uI op (some v) 1 lit m.nodes.length [v.enc]).1, n + 2 * rd.i.toNat + (uI op (some v) 1 lit m.nodes.length [v.enc]).2) := by
      induction rd with
      | r0 => rcases hrd with h | h <;> cases h
      | r1 => rfl
      | r2 => rfl
    have hi : ((rd.i.toNat : Nat) : Int) = rd.i := by cases rd <;> rfl
    rw [hV]
    refine ⟨some (.fz (.int (uI op (some v) 1 lit m.nodes.length [v.enc]).2)), zB (zF (none9 (o := some v) rfl) (zB (yFz (yB (v3 (z9 rfl (z9 rfl (z9 rfl (y4 rfl (z9 rfl (y4 (zO rfl rfl (yM (c := (m.nodes.length : Nat)) (by omega))) (y4 (zYz (zN rfl rfl)) rfl))))))) ha (Nat.le_refl _) rfl)) rfl) (zB (z2 (zO (yB (zO rfl (yB (zO rfl rfl hmul)) (yM rfl))) rfl (yM (c := ((n + 2 * rd.i.toNat + (uI op (some v) 1 lit m.nodes.length [v.enc]).2 : Nat) : Int)) (by omega)))) rfl))) rfl⟩
end
section
variable {m : Made} {op : Op} {lit : Int} {base : Nat} {w : Int}
theorem ah_len (op : Op) : (uR op).length ≤ 3 ∧ (uV op).length ≤ 2 := by cases op <;> decide
theorem x_wrap1 (hw : zX uO (.int w) = some (eOp op)) (M : MOk m) : Gv (v8 [.fz (xZz m), .fz (.int w), .fz (.int 1), .fz (.int lit), .fz (.int base)]) (xZz (kUz m op .r1 lit base)) 5 := by
  have hp := M.pos
  have hl := M.len
  have hex := ex_le op
  have hal := ah_len op
  have hgl := q1z (m.nodes ++ [⟨.ref, (u5 op : Nat), 0, 0⟩]) op m.nodes.length lit
  simp only [List.length_append, List.length_cons, List.length_nil] at hgl
  obtain ⟨o21, hv⟩ := w_val (m := m) (op := op) (rd := .r1) (lit := lit) (base := base) (w := w) (nd := yJ (yF m.nodes op .r1 lit)) (td := yT m.y) (ed := .str (Str.ofString (yE m.y))) (trd := y5 m.tr) (ah := y5 (xV op .r1)) (be := y5 (wS op .r1)) (o18 := some (.fz (.int (u5 op : Nat)))) (o19 := some (.fz (.int (m.nodes.length + 1 + op.ex.length : Nat)))) (o20 := none) (.inl rfl) M
  obtain ⟨τ, hpost, hτ⟩ := w_post (m := m) (op := op) (rd := .r1) (lit := lit) (base := base) (w := w) (nd := yJ (yF m.nodes op .r1 lit)) (tr1 := m.tr) (ah := xV op .r1) (be := wS op .r1) (vd := oVa (q5 op .r1 m.r lit m.nodes.length).1) (sd := .int (q5 op .r1 m.r lit m.nodes.length).2) (o18 := some (.fz (.int (u5 op : Nat)))) (o19 := some (.fz (.int (m.nodes.length + 1 + op.ex.length : Nat)))) (o20 := none) (o21 := o21) M.ty M.er rfl rfl rfl M.tr
  have hn : xK (yJ (u0z (m.nodes ++ [⟨.ref, (u5 op : Nat), 0, 0⟩]) op m.nodes.length lit)) (.list [eN ⟨.let_, (m.nodes.length - 1 : Nat), (m.nodes.length + 1 + op.ex.length : Nat), 0⟩]) = some (yJ (yF m.nodes op .r1 lit)) := qH (by omega)
  have t1 : xK (.list [.int 0]) (y5 (uR op)) = some (y5 ([0] ++ uR op)) := kU (a := [0]) (by simp; omega)
  have t2 : xK (y5 ([0] ++ uR op)) (.list [.int 0]) = some (y5 ([0] ++ uR op ++ [0])) := kU (b := [0]) (by simp; omega)
  have t3 : xK (y5 ([0] ++ uR op ++ [0])) (y5 (uV op)) = some (y5 (wS op .r1)) := kU (by simp; omega)
  exact ⟨τ, yC rfl rfl <| w_pre (rd := .r1) hw (by omega) hp <| zB (zF (k3z (rd := .r1) rfl (by decide)) <| w_body (rd := .r1) M <| zB (zW (hTz (rd := .r1) rfl rfl) <| zB (z2 (zO rfl (yB (zYz (zN (y2 (zN rfl (zN rfl (zN rfl (zN rfl rfl))))) rfl))) hn)) <| zB (z2 (zO (yB (zO (yB (zO rfl rfl t1)) rfl t2)) rfl t3)) <| zB (z2 (d := y5 (xV op .r1)) rfl) rfl) hv) hpost, hτ⟩
theorem x_wrap2 (hw : zX uO (.int w) = some (eOp op)) (M : MOk m) : Gv (v8 [.fz (xZz m), .fz (.int w), .fz (.int 2), .fz (.int lit), .fz (.int base)]) (xZz (kUz m op .r2 lit base)) 5 := by
  have hp := M.pos
  have hl := M.len
  have hex := ex_le op
  have hal := ah_len op
  have hgl := q1z (m.nodes ++ [⟨.ref, (u5 op : Nat), 0, 0⟩]) op m.nodes.length lit
  simp only [List.length_append, List.length_cons, List.length_nil] at hgl
  obtain ⟨o21, hv⟩ := w_val (m := m) (op := op) (rd := .r2) (lit := lit) (base := base) (w := w) (nd := yJ (yF m.nodes op .r2 lit)) (td := yT m.y) (ed := .str (Str.ofString (yE m.y))) (trd := y5 m.tr) (ah := y5 (xV op .r2)) (be := y5 (wS op .r2)) (o18 := some (.fz (.int (u5 op : Nat)))) (o19 := some (.fz (.int (m.nodes.length + 1 + op.ex.length : Nat)))) (o20 := some (.fz (.int (wNz op : Nat)))) (.inr rfl) M
  obtain ⟨τ, hpost, hτ⟩ := w_post (m := m) (op := op) (rd := .r2) (lit := lit) (base := base) (w := w) (nd := yJ (yF m.nodes op .r2 lit)) (tr1 := m.tr) (ah := xV op .r2) (be := wS op .r2) (vd := oVa (q5 op .r2 m.r lit m.nodes.length).1) (sd := .int (q5 op .r2 m.r lit m.nodes.length).2) (o18 := some (.fz (.int (u5 op : Nat)))) (o19 := some (.fz (.int (m.nodes.length + 1 + op.ex.length : Nat)))) (o20 := some (.fz (.int (wNz op : Nat)))) (o21 := o21) M.ty M.er rfl rfl rfl M.tr
  have hn : xK (yJ (u0z (m.nodes ++ [⟨.ref, (u5 op : Nat), 0, 0⟩]) op m.nodes.length lit)) (.list [eN ⟨.lam, (m.nodes.length + 1 + op.ex.length : Nat), 0, 0⟩, eN ⟨.app, (m.nodes.length + 2 + op.ex.length : Nat), (m.nodes.length - 1 : Nat), 0⟩]) = some (yJ (yF m.nodes op .r2 lit)) :=
    (wD (by simp only [List.length_map, List.length_cons, List.length_nil, lim]; omega)).trans (by simp [yJ, yF])
  have t1 : xK (.list [.int 0, .int 0]) (y5 (uR op)) = some (y5 ([0, 0] ++ uR op)) := kU (a := [0, 0]) (by simp; omega)
  have t2 : xK (y5 ([0, 0] ++ uR op)) (.list [.int 0]) = some (y5 ([0, 0] ++ uR op ++ [0])) := kU (b := [0]) (by simp; omega)
  have t3 : xK (y5 ([0, 0] ++ uR op ++ [0])) (y5 (uV op)) = some (y5 ([0, 0] ++ uR op ++ [0] ++ uV op)) := kU (by simp; omega)
  have t4 : xK (y5 ([0, 0] ++ uR op ++ [0] ++ uV op)) (.list [.int (wNz op : Nat), .int 0]) = some (y5 (xV op .r2)) := kU (b := [wNz op, 0]) (by simp; omega)
  have hin : ∀ nd : PyData, (ifC (yR eqI (zG 14) (zD (.str (Str.ofString "")))) (zU (yX 20 (zD (.int (0)))) yA) yA) (wSt m op .r2 lit base w nd (yT m.y) (.str (Str.ofString (yE m.y))) (y5 m.tr) (oVa m.r.1) (.int m.r.2) (y5 (uR op)) (y5 (uV op)) (some (.fz (.int (u5 op : Nat)))) (some (.fz (.int (m.nodes.length + 1 + op.ex.length : Nat)))) (some (.fz (.int 1))) none) = some (.ok (.next, wSt m op .r2 lit base w nd (yT m.y) (.str (Str.ofString (yE m.y))) (y5 m.tr) (oVa m.r.1) (.int m.r.2) (y5 (uR op)) (y5 (uV op)) (some (.fz (.int (u5 op : Nat)))) (some (.fz (.int (m.nodes.length + 1 + op.ex.length : Nat)))) (some (.fz (.int (wNz op : Nat)))) none)) := by
    intro nd
    cases h : op.need.str == "" with
    | true =>
      rw [show wNz op = 0 from by rw [jUz, h]; rfl]
      exact zW (need14 rfl h) (zB (z2 rfl) rfl)
    | false =>
      rw [show wNz op = 1 from by rw [jUz, h]; rfl]
      exact zF (need14 rfl h) rfl
  exact ⟨τ, yC rfl rfl <| w_pre (rd := .r2) hw (by omega) hp <| zB (zF (k3z (rd := .r2) rfl (by decide)) <| w_body (rd := .r2) M <| zB (zF (k3z (rd := .r2) rfl (by decide)) <| zB (z2 (zO rfl (yB (zYz (zN (y2 (zN rfl (zN rfl (zN rfl (zN rfl rfl))))) (zN (y2 (zN rfl (zN (zO rfl rfl (yM (c := ((m.nodes.length + 2 + op.ex.length : Nat) : Int)) (by omega))) (zN rfl (zN rfl rfl))))) rfl)))) hn)) <| zB (z2 rfl) <| zB (hin _) <| zB (z2 (zO (yB (zO (yB (zO (yB (zO rfl rfl t1)) rfl t2)) rfl t3)) rfl t4)) <| zB (z2 (d := y5 (wS op .r2)) rfl) rfl) hv) hpost, hτ⟩
theorem x_wrap (rd : Rd) (hw : zX uO (.int w) = some (eOp op)) (M : MOk m) : Gv (v8 [.fz (xZz m), .fz (.int w), .fz (.int rd.i), .fz (.int lit), .fz (.int base)]) (xZz (kUz m op rd lit base)) 5 := by
  cases rd
  · exact x_wrap0 hw M
  · exact x_wrap1 hw M
  · exact x_wrap2 hw M
end
noncomputable def xG (which : Nat) (n : Int) : Made := match which with
  | 0 | 1 => ⟨[⟨.num, n, 0, 0⟩], .ok .int, [0], (some (.int n), 1)⟩
  | 2 => ⟨[⟨.bool, n.fmod 2, 0, 0⟩], .ok .bool, [0], (some (.bool (decide (n.fmod 2 = 1))), 1)⟩
  | 3 => ⟨sd0, .ok (.fn (.var 0) (.var 0)), [0, 0, 0], (some (.clo 0 []), 1)⟩
  | 4 => ⟨sd1, .error "occurs", [0, 0, 0, 0, 1], (some (.clo 2 []), 1)⟩
  | 5 => ⟨sd2, .error "occurs", [0, 0, 0, 0, 0, 0, 0, 0, 1], (some (.clo 5 []), 1)⟩
  | 6 => ⟨sd3, .ok (.fn (.pr .int (.var 0)) (.pr .int (.pr .int (.var 0)))), [0, 0, 0, 0, 1, 0, 0, 0, 0, 0, 1, 0, 0, 0], (some (.clo 7 []), 1)⟩
  | 7 => ⟨sd4, .ok (.pr .int .bool), [0, 0, 0, 0, 0, 0, 0, 0, 0, 3, 0, 0, 0, 3, 0], (some (.pair (.int 1) (.bool true)), 18)⟩
  | 8 => ⟨sd5, .error "clash", [0, 0, 0, 0, 0, 0, 1, 0, 0, 0, 2], (some (.pair (.int 1) (.bool true)), 20)⟩
  | 9 => ⟨sd6, .ok (.fn (.var 0) (.pr (.var 0) (.fn (.var 1) (.fn (.var 2) (.var 1))))), [0, 0, 0, 0, 0, 0, 0, 0, 0, 0, 0, 0, 0], (some (.clo 5 [jCz 1 []]), 4)⟩
  | 10 => ⟨sd7, .ok (.fn (.fn .int .int) .int), [0, 0, 0, 0, 0, 1, 0, 1, 0], (some (.clo 4 []), 1)⟩
  | _ => ⟨sd8, .error "clash", [0, 0, 0, 1], (none, 3)⟩
theorem x_seed (which : Nat) (n : Int) (hw : which < 12) : Gv (z0z [.fz (.int which), .fz (.int n)]) (xZz (xG which n)) 2 := by
  match which, hw with
  | 0, _ => exact ⟨_, by with_unfolding_all rfl, Nat.le_of_ble_eq_true rfl⟩
  | 1, _ => exact ⟨_, by with_unfolding_all rfl, Nat.le_of_ble_eq_true rfl⟩
  | 2, _ =>
    have e : oVa (some (.bool (decide (n.fmod 2 = 1)))) = kT (n.fmod 2) := by
      symm; refine wSz _ _ ?_
      rcases mod2 n with h | h <;> rw [h] <;> rfl
    have : xZz (xG 2 n) = .tuple [yJ [⟨.bool, n.fmod 2, 0, 0⟩], eR .bool, .str (Str.ofString ""), y5 [0], kT (n.fmod 2), .int 1] := by
      show PyData.tuple [_, _, _, _, oVa (some (.bool (decide (n.fmod 2 = 1)))), _] = _
      rw [e]; rfl
    rw [this]
    exact ⟨_, yC rfl rfl <| zB (zF rfl rfl) <| zR <| zW (zV rfl rfl (jO 2 2)) <| zR <| yH rfl, Nat.le_of_ble_eq_true rfl⟩
  | 3, _ => exact ⟨_, by with_unfolding_all rfl, Nat.le_of_ble_eq_true rfl⟩
  | 4, _ => exact ⟨_, by with_unfolding_all rfl, Nat.le_of_ble_eq_true rfl⟩
  | 5, _ => exact ⟨_, by with_unfolding_all rfl, Nat.le_of_ble_eq_true rfl⟩
  | 6, _ => exact ⟨_, by with_unfolding_all rfl, Nat.le_of_ble_eq_true rfl⟩
  | 7, _ => exact ⟨_, by with_unfolding_all rfl, Nat.le_of_ble_eq_true rfl⟩
  | 8, _ => exact ⟨_, by with_unfolding_all rfl, Nat.le_of_ble_eq_true rfl⟩
  | 9, _ => exact ⟨_, by with_unfolding_all rfl, Nat.le_of_ble_eq_true rfl⟩
  | 10, _ => exact ⟨_, by with_unfolding_all rfl, Nat.le_of_ble_eq_true rfl⟩
  | 11, _ => exact ⟨_, by with_unfolding_all rfl, Nat.le_of_ble_eq_true rfl⟩
noncomputable def opOf (w : Nat) : Op := match w with
  | 0 => .add0 | 1 => .add1 | 2 => .less0 | 3 => .less1 | 4 => .pair0 | 5 => .pair1 | 6 => .fst | 7 => .snd | 8 => .if0 | 9 => .if1 | 10 => .if2 | _ => .lam
theorem op_of (w : Nat) (hw : w < 12) : zX uO (.int w) = some (eOp (opOf w)) := by
  match w, hw with
  | 0, _ => rfl
  | 1, _ => rfl
  | 2, _ => rfl
  | 3, _ => rfl
  | 4, _ => rfl
  | 5, _ => rfl
  | 6, _ => rfl
  | 7, _ => rfl
  | 8, _ => rfl
  | 9, _ => rfl
  | 10, _ => rfl
  | 11, _ => rfl
noncomputable def rdOf (r : Nat) : Rd := match r with
  | 0 => .r0 | 1 => .r1 | _ => .r2
theorem rd_of (r : Nat) (hr : r < 3) : ((r : Nat) : Int) = (rdOf r).i := by
  match r, hr with
  | 0, _ => rfl
  | 1, _ => rfl
  | 2, _ => rfl
mutual
theorem eqvR : ∀ d : PyData, d.canLay0 = true → PyData.eqv d d = true
  | .none, _ => rfl
  | .bool b, _ => by simp [PyData.eqv]
  | .int i, _ => by simp [PyData.eqv]
  | .str x, _ => by simp [PyData.eqv]
  | .list xs, h => by rw [PyData.eqv]; exact hGz xs h
  | .tuple xs, h => by rw [PyData.eqv]; exact hGz xs h
  | .dict _, h => nomatch h
theorem hGz : ∀ xs : List PyData, PyData.canLayAll0 xs = true → PyData.eqvAll xs xs = true
  | [], _ => rfl
  | x :: xs, h => by
    have h' : x.canLay0 = true ∧ PyData.canLayAll0 xs = true := by simpa [PyData.canLayAll0] using h
    rw [PyData.eqvAll, eqvR x h'.1, hGz xs h'.2]; rfl
end
theorem vEz {n : Nat} {d : PyData} (h : Lay n d) (hn : n ≤ 64) : neI d d = some false := by
  unfold neI eqI
  rw [uL h hn]
  simp only [Bool.and_self, ↓reduceIte, eqvR d h.1]; rfl
theorem lay_node (nd : Node) : Lay 1 (eN nd) := by
  refine vC fun e he => ?_
  simp only [List.mem_cons, List.not_mem_nil] at he
  rcases he with rfl | rfl | rfl | rfl | he
  · exact kJ _ _
  · exact uD _ _
  · exact uD _ _
  · exact uD _ _
  · cases he
theorem jYz (l : List Node) : Lay 2 (yJ l) := by
  refine vT fun d hd => ?_
  obtain ⟨n, _, rfl⟩ := List.mem_map.mp hd
  exact lay_node n
theorem opT_solid {op : Op} {T T' : Tr} {base : Nat} (h : opT op T base = some T') (hS : T.solid) : T'.solid := by
  have hO := w9z h
  clear h
  induction hO with
  | pair0 => exact ⟨hS, trivial⟩
  | pair1 => exact ⟨trivial, hS⟩
  | fst => exact hS.1
  | snd => exact hS.2
  | _ => exact trivial
theorem opT_len {op : Op} {T T' : Tr} {base : Nat} (h : opT op T base = some T') : T'.len ≤ T.len + 2 := by
  have hO := w9z h
  clear h
  induction hO with
  | pair0 => exact Nat.le_refl _
  | pair1 => exact Nat.le_of_eq (by simp only [Tr.len]; omega)
  | lam => exact Nat.le_of_eq (by simp only [Tr.len]; omega)
  | fst => simp only [Tr.len]; omega
  | snd => simp only [Tr.len]; omega
  | _ => decide
theorem opT_low {op : Op} {T T' : Tr} {base : Nat} (h : opT op T base = some T') (hl : T.low base) : T'.low (base + 1) := by
  have hl' := hl.up (Nat.le_succ base)
  have hO := w9z h
  clear h
  induction hO with
  | pair0 => exact qJ hl' (xJ _)
  | pair1 => exact qJ (xJ _) hl'
  | lam => exact uU (y7 (Nat.lt_succ_self _)) hl'
  | fst => exact fun v hv => hl' v (by simp [Tr.has, hv])
  | snd => exact fun v hv => hl' v (by simp [Tr.has, hv])
  | less0 => exact v5 _
  | less1 => exact v5 _
  | _ => exact xJ _
theorem v4z {op : Op} {o : Option Va} {s q : Nat} {lit : Int} {env : List PyData} : (uI op o s lit q env).2 ≤ s + 4 := by
  induction op with
  | if1 => simp only [uI]; split <;> simp only [] <;> omega
  | if2 => simp only [uI]; split <;> simp only [] <;> omega
  | lam => simp only [uI]; omega
  | pair0 => cases o <;> simp only [uI] <;> omega
  | pair1 => cases o <;> simp only [uI] <;> omega
  | _ =>
    induction o with
    | none => simp only [uI]; omega
    | some v => cases v <;> simp only [uI] <;> omega
theorem kTz {op : Op} {rd : Rd} {r : Option Va × Nat} {lit : Int} {L : Nat} : (q5 op rd r lit L).2 ≤ r.2 + 10 := by
  obtain ⟨o, n⟩ := r
  induction rd with
  | r0 => have := v4z (op := op) (o := o) (s := n) (q := L - 1) (lit := lit) (env := []); simp only [q5]; omega
  | r1 =>
    induction o with
    | none => simp only [q5]; omega
    | some v => have := v4z (op := op) (o := some v) (s := 1) (q := L) (lit := lit) (env := [v.enc]); simp only [q5]; omega
  | r2 =>
    induction o with
    | none => simp only [q5]; omega
    | some v => have := v4z (op := op) (o := some v) (s := 1) (q := L) (lit := lit) (env := [v.enc]); simp only [q5]; omega
noncomputable def exOf (e : String) : Addr := if e == "occurs" then wE else x9
noncomputable def Typed (nodes : List Node) (tr : List Nat) (base len : Nat) : Except String Tr → Prop
  | .ok T => CP nodes T tr ∧ T.solid ∧ T.len ≤ len ∧ T.low base
  | .error e => EP nodes (exOf e) tr ∧ (e = "occurs" ∨ e = "clash")
structure Fine (m : Made) (k : Nat) : Prop where
  ty : Typed m.nodes m.tr (10 * k + 3) (9 + 2 * k) m.y
  run : RP m.nodes m.r
  lay : VL (4 + 2 * k) m.r.1
  pos : 0 < m.nodes.length
  len : m.nodes.length ≤ 20 + 10 * k
  tr0 : m.tr ≠ []
  tr : m.tr.length ≤ 20 + 50 * k
  st : m.r.2 ≤ 20 + 10 * k
theorem Fine.mok {m : Made} {k : Nat} (h : Fine m k) (hk : k ≤ 2) : MOk m := by
  have h1 := h.len; have h2 := h.tr; have h3 := h.ty
  refine ⟨h.pos, by omega, by omega, fun T e => ?_, fun e he => ?_⟩
  · rw [e] at h3; have := h3.2.2.1; omega
  · rw [he] at h3
    rcases h3.2 with rfl | rfl <;> decide
theorem jEz {m : Made} {k : Nat} (h : Fine m k) (hk : k ≤ 1) (op : Op) (rd : Rd) (lit : Int) : Fine (kUz m op rd lit (10 * (k + 1))) (k + 1) := by
  have hl := h.len; have ht := h.tr; have hs := h.st; have hty := h.ty; have hp := h.pos
  have hex := ex_le op
  have hal := (zMq op rd).1
  have hbl := (zMq op rd).2
  have hwl : (yF m.nodes op rd lit).length ≤ m.nodes.length + 6 ∧ 0 < (yF m.nodes op rd lit).length := by
    rw [hX]; cases rd <;> simp only [] <;> omega
  have hV := kTz (op := op) (rd := rd) (r := m.r) (lit := lit) (L := m.nodes.length)
  have hvl : VL 40 m.r.1 := fun v hv => (h.lay v hv).up (by omega)
  have hlay := wrap_lay (op := op) (rd := rd) (r := m.r) (lit := lit) (L := m.nodes.length) (d := 4 + 2 * k) (by omega) h.lay
  have hrun := wrap_run (op := op) (lit := lit) rd h.run hvl
  have hA0 : ∀ l : List Nat, xV op rd ++ l ≠ [] := by intro l e; have := congrArg List.length e; cases rd <;> simp [xV, uR] at this
  have hY : Typed (yF m.nodes op rd lit) (j9 op rd (10 * (k + 1)) m.y m.tr).2 (10 * (k + 1) + 3) (9 + 2 * (k + 1)) (j9 op rd (10 * (k + 1)) m.y m.tr).1 ∧ (j9 op rd (10 * (k + 1)) m.y m.tr).2 ≠ [] ∧ (j9 op rd (10 * (k + 1)) m.y m.tr).2.length ≤ m.tr.length + 41 := by
    cases hy : m.y with
    | error e =>
      rw [hy] at hty
      exact ⟨⟨wrap_err rd hty.1, hty.2⟩, hA0 _, by simp only [j9, List.length_append]; omega⟩
    | ok T =>
      rw [hy] at hty
      obtain ⟨h1, h2, h3, h4⟩ := hty
      have hlow : T.low (10 * (k + 1)) := h4.up (by omega)
      cases ho : opT op T (10 * (k + 1)) with
      | some T' =>
        have hw : j9 op rd (10 * (k + 1)) (.ok T) m.tr = (.ok T', xV op rd ++ m.tr ++ wS op rd ++ [yTz op rd false]) := by simp only [j9, ho]
        rw [hw]
        have hl' := opT_len ho
        exact ⟨⟨wrap_ok rd h1 h2 (by omega) (q9 hlow (Nat.le_refl _)) ho, opT_solid ho h2, by omega, (opT_low ho hlow).up (by omega)⟩, by simp, by simp only [List.length_append, List.length_cons, List.length_nil]; omega⟩
      | none =>
        have hw : j9 op rd (10 * (k + 1)) (.ok T) m.tr = (.error "clash", xV op rd ++ m.tr ++ wS op rd ++ [yTz op rd true]) := by simp only [j9, ho]
        rw [hw]
        exact ⟨⟨wrap_bad rd h1 h2 (by omega) ho, .inr rfl⟩, by simp, by simp only [List.length_append, List.length_cons, List.length_nil]; omega⟩
  exact ⟨hY.1, hrun, fun v hv => (hlay v hv).up (by omega), hwl.2, by show (yF m.nodes op rd lit).length ≤ _; omega, hY.2.1, by show (j9 op rd (10 * (k + 1)) m.y m.tr).2.length ≤ _; have := hY.2.2; omega, by show (q5 op rd m.r lit m.nodes.length).2 ≤ _; omega⟩
theorem xLz {d : Nat} {v : Va} (h : Lay d v.enc) : VL d (some v) := fun w hw => by cases hw; exact h
theorem seed_fine (which : Nat) (n : Int) (hw : which < 12) : Fine (xG which n) 0 := by
  have lc : ∀ p, VL 4 (some (.clo p [])) := fun p => xLz ((xVz (d := 0) (by simp)).up (by omega))
  have lp : VL 4 (some (.pair (.int 1) (.bool true))) := xLz ((vFz (d := 3) (j3 2 1) (j4 2 1)).up (by omega))
  have lI : Tr.int.low 3 := xJ _
  have lB : Tr.bool.low 3 := v5 _
  have lv : ∀ k, k < 3 → (Tr.var k).low 3 := fun k hk => y7 hk
  match which, hw with
  | 0, _ => exact ⟨⟨cp_num n 0 0, trivial, by simp [Tr.len], lI⟩, rp_num n 0 0, xLz (j3 3 n), by simp [xG], by simp [xG], by simp [xG], by simp [xG], by simp [xG]⟩
  | 1, _ => exact ⟨⟨cp_num n 0 0, trivial, by simp [Tr.len], lI⟩, rp_num n 0 0, xLz (j3 3 n), by simp [xG], by simp [xG], by simp [xG], by simp [xG], by simp [xG]⟩
  | 2, _ => exact ⟨⟨cp_bool _ 0 0, trivial, by simp [Tr.len], lB⟩, rp_bool n 0 0, xLz (j4 3 _), by simp [xG], by simp [xG], by simp [xG], by simp [xG], by simp [xG]⟩
  | 3, _ => exact ⟨⟨cp_sd0, trivial, by simp [Tr.len], uU (lv 0 (by omega)) (lv 0 (by omega))⟩, rp_sd0, lc 0, by simp [xG, sd0], by simp [xG, sd0], by simp [xG], by simp [xG], by simp [xG]⟩
  | 4, _ => exact ⟨⟨ep_sd1, .inl rfl⟩, rp_sd1, lc 2, by simp [xG, sd1], by simp [xG, sd1], by simp [xG], by simp [xG], by simp [xG]⟩
  | 5, _ => exact ⟨⟨ep_sd2, .inl rfl⟩, rp_sd2, lc 5, by simp [xG, sd2], by simp [xG, sd2], by simp [xG], by simp [xG], by simp [xG]⟩
  | 6, _ => exact ⟨⟨cp_sd3, trivial, by simp [Tr.len], uU (qJ lI (lv 0 (by omega))) (qJ lI (qJ lI (lv 0 (by omega))))⟩, rp_sd3, lc 7, by simp [xG, sd3], by simp [xG, sd3], by simp [xG], by simp [xG], by simp [xG]⟩
  | 7, _ => exact ⟨⟨cp_sd4, ⟨trivial, trivial⟩, by simp [Tr.len], qJ lI lB⟩, rp_sd4, lp, by simp [xG, sd4], by simp [xG, sd4], by simp [xG], by simp [xG], by simp [xG]⟩
  | 8, _ => exact ⟨⟨ep_sd5, .inr rfl⟩, rp_sd5, lp, by simp [xG, sd5], by simp [xG, sd5], by simp [xG], by simp [xG], by simp [xG]⟩
  | 9, _ => exact ⟨⟨cp_sd6, trivial, by simp [Tr.len], uU (lv 0 (by omega)) (qJ (lv 0 (by omega)) (uU (lv 1 (by omega)) (uU (lv 2 (by omega)) (lv 1 (by omega)))))⟩, rp_sd6, xLz (xVz (d := 2) (fun e he => by simp only [List.mem_singleton] at he; subst he; exact xVz (d := 0) (by simp))), by simp [xG, sd6], by simp [xG, sd6], by simp [xG], by simp [xG], by simp [xG]⟩
  | 10, _ => exact ⟨⟨cp_sd7, trivial, by simp [Tr.len], uU (uU lI lI) lI⟩, rp_sd7, lc 4, by simp [xG, sd7], by simp [xG, sd7], by simp [xG], by simp [xG], by simp [xG]⟩
  | 11, _ => exact ⟨⟨ep_sd8, .inr rfl⟩, rp_sd8, fun v hv => (by cases hv), by simp [xG, sd8], by simp [xG, sd8], by simp [xG], by simp [xG], by simp [xG]⟩
theorem x_pick' (x n : Int) (hn : n ≠ 0) : Gv (xC [.fz (.int x), .fz (.int n)]) (.int (x.fmod n)) 2 :=
  ⟨_, yC rfl rfl <| zR <| yH <| zO rfl rfl (by show (if n = 0 then none else some (PyData.int (x.fmod n))) = _; rw [if_neg hn]), Nat.le_of_ble_eq_true rfl⟩
theorem fmod_nat (x : Int) (n : Nat) (hn : 0 < n) : ∃ w : Nat, w < n ∧ x.fmod n = w := by
  refine ⟨(x.fmod n).toNat, ?_, ?_⟩
  · rw [Int.fmod_eq_emod_of_nonneg _ (by omega)]
    have := Int.emod_lt_of_pos x (show (0 : Int) < n from by omega)
    have := Int.emod_nonneg x (show (n : Int) ≠ 0 from by omega)
    omega
  · rw [Int.fmod_eq_emod_of_nonneg _ (by omega)]
    have := Int.emod_nonneg x (show (n : Int) ≠ 0 from by omega)
    omega
theorem uP {S : PyData} {k n : Nat} {a : Int} (ha : zX S (.int k) = some (.int a)) (hn : 0 < n) : ∃ w : Nat, w < n ∧ ∀ σ : Sta, σ[0]? = some (some (.fz S)) → yQ xC [.ex (op2 zX (zG 0) (zD (.int k))), .ex (zD (.int n))] σ = some (.ok (.pv (.int w))) := by
  obtain ⟨w, h1, h2⟩ := fmod_nat a n hn
  have hp := x_pick' a n (by omega)
  rw [h2] at hp
  refine ⟨w, h1, fun σ hσ => ?_⟩
  have h0 : zG 0 σ = some (.ok (.pv S)) := by unfold zG; rw [hσ]
  exact v3 (y4 (zO (yB h0) rfl ha) (y4 rfl rfl)) hp (Nat.le_refl _) rfl
theorem off_of (j : Nat) (h : j < 8) : ∃ off : Int, zX wK (.int j) = some (.int off) := by
  match j, h with
  | 0, _ => exact ⟨_, rfl⟩
  | 1, _ => exact ⟨_, rfl⟩
  | 2, _ => exact ⟨_, rfl⟩
  | 3, _ => exact ⟨_, rfl⟩
  | 4, _ => exact ⟨_, rfl⟩
  | 5, _ => exact ⟨_, rfl⟩
  | 6, _ => exact ⟨_, rfl⟩
  | 7, _ => exact ⟨_, rfl⟩
theorem lt_int {a b : Int} (h : a < b) : ltI (.int a) (.int b) = some true := by show some (decide (a < b)) = _; rw [decide_eq_true h]
theorem qUz {a b : Int} (h : ¬ a < b) : ltI (.int a) (.int b) = some false := by show some (decide (a < b)) = _; rw [decide_eq_false h]
noncomputable abbrev lSt (S : PyData) (n : Int) (mk : PyData) (m : Made) (o9 o10 o11 o12 o13 o14 o15 o16 : Option Slot) : Sta :=
  [some (.fz S), some (.fz (.int n)), some (.fz mk), some (.fz (yJ m.nodes)), some (.fz (yT m.y)), some (.fz (.str (Str.ofString (yE m.y)))), some (.fz (y5 m.tr)), some (.fz (oVa m.r.1)), some (.fz (.int m.r.2)), o9, o10, o11, o12, o13, o14, o15, o16]
section
variable {S : PyData} {n : Int} {m : Made} {mk : PyData}
noncomputable abbrev lawRun : SX :=
  (zU (yX 11 (op2 xK (zG 8) (op2 zX (zD wK) (yQ xC [.ex (op2 zX (zG 0) (zD (.int (9)))), .ex (zD (.int (8)))]))))
  (zU (yX 15 (y8 [(zD (.str (Str.ofString "done"))), (zG 7)]))
  (zU (ifC (yR ltI (zG 11) (zG 8))
    (zU (yX 15 (y8 [(zD (.str (Str.ofString "fuel"))), (zD .none)]))
    yA)
    (zU (ifC (zAz vJ (zG 7))
      (zU (yX 15 (y8 [(zD (.str (Str.ofString "stuck"))), (zD .none)]))
      yA)
      yA)
    yA))
  (zU (yX 16 (yQ xrun [.loc 3, .loc 11]))
  (zU (ifC (yR neI (zG 16) (zG 15))
    (zU (xY (zD (.bool false)))
    yA)
    yA)
  (zU (ifC (j6 (yR eqI (op2 zX (zG 15) (zD (.int (0)))) (zD (.str (Str.ofString "done")))) (j6 (yR eqI (op1 vM (op2 zX (zG 15) (zD (.int (1))))) (zD (.int (2)))) (yDz true)))
    (zU (ifC (notB (zAz isIntI (op2 zX (op2 zX (zG 16) (zD (.int (1)))) (zD (.int (1))))))
      (zU (xY (zD (.bool false)))
      yA)
      yA)
    yA)
    yA)
  (zU (ifC (yR neI (zG 3) (zG 9))
    (zU (xY (zD (.bool false)))
    yA)
    yA)
  (zU (xY (zD (.bool true)))
  yA))))))))
theorem lay2 {n : Nat} {a : String} {d : PyData} (h : Lay n d) : Lay (n + 1) (.tuple [.str (Str.ofString a), d]) := vC (by
    intro e he
    simp only [List.mem_cons, List.not_mem_nil] at he
    rcases he with rfl | rfl | he
    · exact kJ _ _
    · exact h
    · cases he)
theorem none7 {σ : Sta} {o : Option Va} (hs : σ[7]? = some (some (.fz (oVa o)))) : zAz vJ (zG 7) σ = some (.ok o.isNone) := by
  have h1 : zG 7 σ = some (.ok (.pv (oVa o))) := by unfold zG; rw [hs]
  unfold zAz; rw [yB h1]
  induction o with
  | none => rfl
  | some v => cases v <;> rfl
theorem law_run {a9 : Int} {o10 o11 o12 o13 o14 o15 o16 : Option Slot} (hF : Fine m 2) (h9 : zX S (.int 9) = some (.int a9)) : ∃ τ, lawRun (lSt S n mk m (some (.fz (yJ m.nodes))) o10 o11 o12 o13 o14 o15 o16) = some (.ok (.ret (.bool true), τ)) := by
  obtain ⟨j, hj, hp⟩ := uP (S := S) (k := 9) (n := 8) h9 (by omega)
  obtain ⟨off, hoff⟩ := off_of j hj
  obtain ⟨nodes, y, tr, o, st⟩ := m
  have hst : st ≤ 40 := hF.st
  have hlen : nodes.length ≤ 40 := hF.len
  obtain ⟨r1, r2⟩ := top_run (r := (o, st)) (nodes := nodes) hF.run hF.pos (by omega) (by show st ≤ 400; omega) ((st : Int) + off)
  have hkept : neI (yJ nodes) (yJ nodes) = some false := vEz (jYz _) (by omega)
  by_cases hlt : (st : Int) + off < st
  · obtain ⟨q0, q1, τ, hr⟩ := r2 hlt
    exact ⟨_, zB (z2 (zO rfl (yB (zO rfl (yB (hp _ rfl)) hoff)) (yM rfl))) <| zB (z2 rfl) <| zB (zW (zV rfl rfl (lt_int hlt)) (zB (z2 rfl) rfl)) <| zB (z2 (k8 (z9 rfl (z9 rfl rfl)) hr rfl)) <| zB (zF (zV rfl rfl (vEz (lay2 (x7 0)) (by omega))) rfl) <| zB (zF (y3 (zV rfl rfl (yG "fuel" "done"))) rfl) <| zB (zF (zV rfl rfl hkept) rfl) <| zR <| yH rfl⟩
  · obtain ⟨q0, q1, τ, hr⟩ := r1 (by show (st : Int) ≤ st + off; omega)
    have hlay : VL 8 o := hF.lay
    induction o with
    | none =>
      exact ⟨_, zB (z2 (zO rfl (yB (zO rfl (yB (hp _ rfl)) hoff)) (yM rfl))) <| zB (z2 rfl) <| zB (zF (zV rfl rfl (qUz hlt)) (zB (zW (none7 (o := none) rfl) (zB (z2 rfl) rfl)) rfl)) <| zB (z2 (k8 (z9 rfl (z9 rfl rfl)) hr rfl)) <| zB (zF (zV rfl rfl (vEz (lay2 (x7 0)) (by omega))) rfl) <| zB (zF (y3 (zV rfl rfl (yG "stuck" "done"))) rfl) <| zB (zF (zV rfl rfl hkept) rfl) <| zR <| yH rfl⟩
    | some v =>
      have hv : Lay 8 v.enc := hlay v rfl
      have hne : neI (.tuple [.str (Str.ofString "done"), v.enc]) (.tuple [.str (Str.ofString "done"), v.enc]) = some false := vEz (lay2 hv) (by omega)
      have pre : ∀ {g : SX} {R : Out (Fl × Sta)}, g (lSt S n mk ⟨nodes, y, tr, (some v, st)⟩ (some (.fz (yJ nodes))) o10 (some (.fz (.int ((st : Int) + off)))) o12 o13 o14 (some (.fz (.tuple [.str (Str.ofString "done"), v.enc]))) (some (.fz (.tuple [.str (Str.ofString "done"), v.enc])))) = R →
        (zU (yX 11 (op2 xK (zG 8) (op2 zX (zD wK) (yQ xC [.ex (op2 zX (zG 0) (zD (.int (9)))), .ex (zD (.int (8)))]))))
        (zU (yX 15 (y8 [(zD (.str (Str.ofString "done"))), (zG 7)]))
        (zU (ifC (yR ltI (zG 11) (zG 8)) (zU (yX 15 (y8 [(zD (.str (Str.ofString "fuel"))), (zD .none)])) yA) (zU (ifC (zAz vJ (zG 7)) (zU (yX 15 (y8 [(zD (.str (Str.ofString "stuck"))), (zD .none)])) yA) yA) yA))
        (zU (yX 16 (yQ xrun [.loc 3, .loc 11]))
        (zU (ifC (yR neI (zG 16) (zG 15)) (zU (xY (zD (.bool false))) yA) yA) g))))) (lSt S n mk ⟨nodes, y, tr, (some v, st)⟩ (some (.fz (yJ nodes))) o10 o11 o12 o13 o14 o15 o16) = R := fun hk =>
          zB (z2 (zO rfl (yB (zO rfl (yB (hp _ rfl)) hoff)) (yM rfl))) <| zB (z2 rfl) <| zB (zF (zV rfl rfl (qUz hlt)) (zB (zF (none7 (o := some v) rfl) rfl) rfl)) <| zB (z2 (k8 (z9 rfl (z9 rfl rfl)) hr rfl)) <| zB (zF (zV rfl rfl hne) rfl) hk
      induction v with
      | int i => exact ⟨_, pre <| zB (zW (yS (zV rfl rfl (yG "done" "done")) (yS (zV rfl rfl (jO 2 2)) rfl)) (zB (zF rfl rfl) rfl)) <| zB (zF (zV rfl rfl hkept) rfl) <| zR <| yH rfl⟩
      | bool i => exact ⟨_, pre <| zB (zW (yS (zV rfl rfl (yG "done" "done")) (yS (zV rfl rfl (jO 2 2)) rfl)) (zB (zF rfl rfl) rfl)) <| zB (zF (zV rfl rfl hkept) rfl) <| zR <| yH rfl⟩
      | clo _ _ => exact ⟨_, pre <| zB (zF (yS (zV rfl rfl (yG "done" "done")) (y3 (zV rfl rfl (jO 3 2)))) rfl) <| zB (zF (zV rfl rfl hkept) rfl) <| zR <| yH rfl⟩
      | pair _ _ => exact ⟨_, pre <| zB (zF (yS (zV rfl rfl (yG "done" "done")) (y3 (zV rfl rfl (jO 3 2)))) rfl) <| zB (zF (zV rfl rfl hkept) rfl) <| zR <| yH rfl⟩
end
section
variable {S : PyData} {n : Int} {m : Made} {mk : PyData}
theorem try_ok {i : Nat} {e : EX} {hs : List (Addr × SX)} {σ : Sta} {d : PyData} (h0 : k6z σ = true) (h : e σ = some (.ok (.pv d))) : tryC i e hs σ = some (.ok (.next, σ.set i (some (.fz d)))) := by
  unfold tryC; rw [if_pos h0, yPz h]
theorem try_err {i : Nat} {e : EX} {hs : List (Addr × SX)} {σ : Sta} {x : Addr} {g : SX} {R : Out (Fl × Sta)} (h0 : k6z σ = true) (h : e σ = some (.error x)) (hx : hs.lookup x = some g) (k : g σ = R) : tryC i e hs σ = R := by
  have h1 : yCz e σ = some (.error x) := by unfold yCz; rw [h]; rfl
  unfold tryC; rw [if_pos h0, h1]; show (match hs.lookup x with | some h => h σ | none => none) = _; rw [hx]; exact k
theorem ne_eT (t : Ty) : neI (eT t) (eT t) = some false := by unfold neI; rw [eq_eT]; simp
theorem all_int (t : Ty) : uG (eT t) = some true := by
  show (if _ then _ else _) = _
  rw [if_pos]
  simp only [List.all_eq_true, List.mem_map]
  rintro d ⟨i, _, rfl⟩
  cases i <;> rfl
noncomputable abbrev lawInf : SX → SX := fun g =>
  (zU (yX 9 (z7z (zG 3) none none))
  (zU (yX 10 (op1 maxI (op1 k9 (zG 6))))
  (zU (yX 11 (op2 xK (zG 10) (op2 zX (zD wK) (yQ xC [.ex (op2 zX (zG 0) (zD (.int (8)))), .ex (zD (.int (8)))]))))
  (zU (yX 12 (zG 5))
  (zU (ifC (yR ltI (zG 11) (zG 10))
    (zU (yX 12 (zD (.str (Str.ofString "fuel"))))
    yA)
    yA)
  (zU (yX 13 (zD .none))
  (zU (yX 14 (zD (.str (Str.ofString ""))))
  (zU (tryC 13 (yQ kP [.ex (zG 3), .ex (zG 11)]) [(x9, (zU (yX 14 (zD (.str (Str.ofString "clash"))))
    yA)), (wE, (zU (yX 14 (zD (.str (Str.ofString "occurs"))))
    yA)), (vY, (zU (yX 14 (zD (.str (Str.ofString "fuel"))))
    yA))])
  (zU (ifC (yR neI (zG 14) (zG 12))
    (zU (xY (zD (.bool false)))
    yA)
    yA)
  (zU (ifC (yR neI (zG 3) (zG 9))
    (zU (xY (zD (.bool false)))
    yA)
    yA)
  (zU (ifC (yR eqI (zG 12) (zD (.str (Str.ofString ""))))
    (zU (ifC (yR neI (zG 13) (yQ jJ [.loc 4]))
      (zU (xY (zD (.bool false)))
      yA)
      yA)
    (zU (ifC (notB (zAz uG (zG 13)))
      (zU (xY (zD (.bool false)))
      yA)
      yA)
    yA))
    yA) g)))))))))))
theorem law_inf {a8 : Int} {g : SX} {d : PyData} (hF : Fine m 2) (h8 : zX S (.int 8) = some (.int a8)) (k : ∀ o10 o11 o12 o13 o14, ∃ τ, g (lSt S n mk m (some (.fz (yJ m.nodes))) o10 o11 o12 o13 o14 none none) = some (.ok (.ret d, τ))) : ∃ τ, lawInf g (lSt S n mk m none none none none none none none none) = some (.ok (.ret d, τ)) := by
  obtain ⟨j, hj, hp⟩ := uP (S := S) (k := 8) (n := 8) h8 (by omega)
  obtain ⟨off, hoff⟩ := off_of j hj
  have htr := hF.tr
  have hlen := hF.len
  obtain ⟨B, ⟨l, hb1, hb2⟩, hB⟩ := border_ok hF.tr0 (by omega)
  have hcut : z7z (zG 3) none none (lSt S n mk m none none none none none none none none) = some (.ok (.pv (yJ m.nodes))) := cut_l rfl (by simp only [List.length_map, lim]; omega)
  have hkept : neI (yJ m.nodes) (yJ m.nodes) = some false := vEz (jYz _) (by omega)
  have hty := hF.ty
  have pre : ∀ {due : String} {g' : SX} {R : Out (Fl × Sta)}, due = (if B + off < B then "fuel" else yE m.y) → g' (lSt S n mk m (some (.fz (yJ m.nodes))) (some (.fz (.int B))) (some (.fz (.int (B + off)))) (some (.fz (.str (Str.ofString due)))) (some (.fz .none)) (some (.fz (.str (Str.ofString "")))) none none) = R →
      (zU (yX 9 (z7z (zG 3) none none))
      (zU (yX 10 (op1 maxI (op1 k9 (zG 6))))
      (zU (yX 11 (op2 xK (zG 10) (op2 zX (zD wK) (yQ xC [.ex (op2 zX (zG 0) (zD (.int (8)))), .ex (zD (.int (8)))]))))
      (zU (yX 12 (zG 5))
      (zU (ifC (yR ltI (zG 11) (zG 10)) (zU (yX 12 (zD (.str (Str.ofString "fuel")))) yA) yA)
      (zU (yX 13 (zD .none))
      (zU (yX 14 (zD (.str (Str.ofString "")))) g'))))))) (lSt S n mk m none none none none none none none none) = R := by
    intro due g' R hdue hk
    refine zB (z2 hcut) <| zB (z2 (vK (yB (vK rfl hb1)) hb2)) <| zB (z2 (zO rfl (yB (zO rfl (yB (hp _ rfl)) hoff)) (yM rfl))) <| zB (z2 rfl) ?_
    by_cases hlt : B + off < B
    · rw [if_pos hlt] at hdue
      subst hdue
      exact zB (zW (zV rfl rfl (lt_int hlt)) (zB (z2 rfl) rfl)) <| zB (z2 rfl) <| zB (z2 rfl) hk
    · rw [if_neg hlt] at hdue
      subst hdue
      exact zB (zF (zV rfl rfl (qUz hlt)) rfl) <| zB (z2 rfl) <| zB (z2 rfl) hk
  have fin : ∀ {due : String} {x : Addr} {h : SX}, due = (if B + off < B then "fuel" else yE m.y) → (due == "") = false → kP [.fz (yJ m.nodes), .fz (.int (B + off))] = some (.error x) → List.lookup x [(x9, (zU (yX 14 (zD (.str (Str.ofString "clash")))) yA)), (wE, (zU (yX 14 (zD (.str (Str.ofString "occurs")))) yA)), (vY, (zU (yX 14 (zD (.str (Str.ofString "fuel")))) yA))] = some h → h = (zU (yX 14 (zD (.str (Str.ofString due)))) yA) → ∃ τ, lawInf g (lSt S n mk m none none none none none none none none) = some (.ok (.ret d, τ)) := by
    intro due x h hdue hne hx hlook hh
    subst hh
    obtain ⟨τ, hk⟩ := k (some (.fz (.int B))) (some (.fz (.int (B + off)))) (some (.fz (.str (Str.ofString due)))) (some (.fz .none)) (some (.fz (.str (Str.ofString due))))
    exact ⟨τ, pre hdue <| zB (try_err rfl (xBz (y4 rfl (y4 rfl rfl)) hx) hlook (zB (z2 rfl) rfl)) <| zB (zF (zV rfl rfl ((wY due due).trans (by simp))) rfl) <| zB (zF (zV rfl rfl hkept) rfl) <| zB (zF (zV rfl rfl ((yG due "").trans (by rw [hne]))) rfl) hk⟩
  cases hy : m.y with
  | ok T =>
    rw [hy] at hty
    obtain ⟨h1, h2, h3, h4⟩ := hty
    obtain ⟨t1, t2⟩ := top_ok h1 hF.pos (by omega) (by omega) (by omega) (B + off)
    by_cases hlt : B + off < B
    · exact fin (due := "fuel") (by rw [if_pos hlt]) rfl (t2 (fun he => by have := (hB _).mp he; omega)) rfl rfl
    · obtain ⟨q0, q1, τ', hx⟩ := t1 ((hB _).mpr (by omega))
      have hc := x_lcanon (T := T) (by omega) (h4.up (by omega))
      have hdue : "" = (if B + off < B then "fuel" else yE m.y) := by rw [if_neg hlt, hy]; rfl
      obtain ⟨τ, hk⟩ := k (some (.fz (.int B))) (some (.fz (.int (B + off)))) (some (.fz (.str (Str.ofString "")))) (some (.fz (eT (xW T.enc [])))) (some (.fz (.str (Str.ofString ""))))
      have h4s : (lSt S n mk m (some (.fz (yJ m.nodes))) (some (.fz (.int B))) (some (.fz (.int (B + off)))) (some (.fz (.str (Str.ofString "")))) (some (.fz (eT (xW T.enc [])))) (some (.fz (.str (Str.ofString "")))) none none)[4]? = some (some (.fz (eR T))) := by show some (some (Slot.fz (yT m.y))) = _; rw [hy]; rfl
      exact ⟨τ, pre hdue <| zB (try_ok rfl (k8 (y4 rfl (y4 rfl rfl)) hx rfl)) <| zB (zF (zV rfl rfl (wY "" "")) rfl) <| zB (zF (zV rfl rfl hkept) rfl) <| zB (zW (zV rfl rfl (yG "" "")) (zB (zF (zV rfl (yB (v3 (z9 h4s rfl) hc (Nat.le_refl _) rfl)) (ne_eT _)) rfl) (zB (zF (by unfold notB zAz; show bnd (bnd (some (.ok (eT (xW T.enc [])))) fun a => okP (uG a)) _ = _; show bnd (okP (uG (eT (xW T.enc [])))) _ = _; rw [all_int]; rfl) rfl) rfl))) hk⟩
  | error e =>
    rw [hy] at hty
    obtain ⟨h1, h2⟩ := hty
    obtain ⟨t1, t2⟩ := top_err h1 hF.pos (by omega) (by omega) (B + off)
    by_cases hlt : B + off < B
    · exact fin (due := "fuel") (by rw [if_pos hlt]) rfl (t2 (fun he => by have := (hB _).mp he; omega)) rfl rfl
    · have hx := t1 ((hB _).mpr (by omega))
      rcases h2 with rfl | rfl
      · exact fin (due := "occurs") (by rw [if_neg hlt, hy]; rfl) rfl hx rfl rfl
      · exact fin (due := "clash") (by rw [if_neg hlt, hy]; rfl) rfl hx rfl rfl
theorem plain (ns : List Int) (_ : ns.length ≤ 63) : ∃ τ, xlaw [.fz (.list (ns.map .int))] = some (.ok (.bool true, τ)) := by
  have hle : (ns.map PyData.int).length ≤ lim := by simp only [List.length_map, lim]; omega
  have hlen : ∀ σ : Sta, σ[0]? = some (some (.fz (.list (ns.map .int)))) → rd (op1 vM (zG 0)) σ = some (.ok (.int (ns.length : Nat))) := fun σ hσ => by
    have h0 : zG 0 σ = some (.ok (.pv (.list (ns.map .int)))) := by unfold zG; rw [hσ]
    exact yB (vK (yB h0) ((wJ hle).trans (by simp)))
  by_cases h10 : ns.length < 10
  · exact ⟨_, yC rfl rfl <| zR <| zW (zV (hlen _ rfl) rfl (lt_int (by omega))) <| zR <| yH rfl⟩
  · have it : ∀ k : Nat, k < 10 → ∃ a : Int, zX (.list (ns.map PyData.int)) (.int k) = some (.int a) := fun k hk => by
      refine ⟨ns[k], v0 ?_ hle⟩
      simp
    obtain ⟨n, i0⟩ := it 0 (by omega)
    obtain ⟨a1, i1⟩ := it 1 (by omega)
    obtain ⟨a2, i2⟩ := it 2 (by omega)
    obtain ⟨a3, i3⟩ := it 3 (by omega)
    obtain ⟨a4, i4⟩ := it 4 (by omega)
    obtain ⟨a5, i5⟩ := it 5 (by omega)
    obtain ⟨a6, i6⟩ := it 6 (by omega)
    obtain ⟨a7, i7⟩ := it 7 (by omega)
    obtain ⟨a8, i8⟩ := it 8 (by omega)
    obtain ⟨a9, i9⟩ := it 9 (by omega)
    obtain ⟨w1, b1, p1⟩ := uP (k := 1) (n := 12) i1 (by omega)
    obtain ⟨w2, b2, p2⟩ := uP (k := 2) (n := 12) i2 (by omega)
    obtain ⟨w3, b3, p3⟩ := uP (k := 3) (n := 3) i3 (by omega)
    obtain ⟨w4, b4, p4⟩ := uP (k := 4) (n := 3) i4 (by omega)
    obtain ⟨w5, b5, p5⟩ := uP (k := 5) (n := 12) i5 (by omega)
    obtain ⟨w6, b6, p6⟩ := uP (k := 6) (n := 3) i6 (by omega)
    obtain ⟨w7, b7, p7⟩ := uP (k := 7) (n := 3) i7 (by omega)
    rw [rd_of w3 b3] at p3
    rw [rd_of w6 b6] at p6
    have F0 := seed_fine w1 n b1
    have F1 := jEz F0 (by omega) (opOf w2) (rdOf w3) (n + w4 - 1)
    have F2 := jEz F1 (by omega) (opOf w5) (rdOf w6) (n + w7 - 1)
    have hs := x_seed w1 n b1
    have hw1 := x_wrap (lit := n + w4 - 1) (base := 10) (rdOf w3) (op_of w2 b2) (F0.mok (by omega))
    have hw2 := x_wrap (lit := n + w7 - 1) (base := 20) (rdOf w6) (op_of w5 b5) (F1.mok (by omega))
    obtain ⟨τ, hrun⟩ := law_inf (S := .list (ns.map .int)) (n := n) (mk := xZz (kUz (kUz (xG w1 n) (opOf w2) (rdOf w3) (n + w4 - 1) 10) (opOf w5) (rdOf w6) (n + w7 - 1) 20)) (g := lawRun) F2 i8 (fun o10 o11 o12 o13 o14 => law_run F2 i9)
    exact ⟨τ, yC rfl rfl <| zB (zF (zV (hlen _ rfl) rfl (qUz (by omega))) rfl) <| zB (z2 (zO rfl rfl i0)) <| zB (z2 (v3 (y4 (p1 _ rfl) (z9 rfl rfl)) hs (Nat.le_refl _) rfl)) <|
      zB (z2 (v3 (z9 rfl (y4 (p2 _ rfl) (y4 (p3 _ rfl) (y4 (zO (yB (zO rfl (yB (p4 _ rfl)) (yM rfl))) rfl (xL rfl)) (y4 rfl rfl))))) hw1 (Nat.le_refl _) rfl)) <|
      zB (z2 (v3 (z9 rfl (y4 (p5 _ rfl) (y4 (p6 _ rfl) (y4 (zO (yB (zO rfl (yB (p7 _ rfl)) (yM rfl))) rfl (xL rfl)) (y4 rfl rfl))))) hw2 (Nat.le_refl _) rfl)) <| zB (yFz rfl rfl) hrun⟩
end
end Mine.Pl
namespace Mine
section
open PySem PySem.W PySem.Calls PySem.Spec PyProof.Rows
structure Gl where
  prog : Program
  w : World
  K : Frag
  p : Program
  loose : List Str
  mg : Str → Option Value
  mb : Str → Option Value
noncomputable abbrev x4z (vs : List Value) (n : Nat) : Obj := { cls := .type "list", data := .seq vs.toArray n }
noncomputable abbrev tobj (vs : List Value) (n : Nat) : Obj := { cls := .type "tuple", data := .seq vs.toArray n }
mutual
inductive Rep (Γ : Gl) (D : Addr → Obj → Prop) : Value → PyData → Prop
  | none : Rep Γ D Value.none PyData.none
  | bool (b : Bool) : Rep Γ D (Value.bool b) (PyData.bool b)
  | int (i : Int) (t : Tok) : Rep Γ D (Value.int i t) (PyData.int i)
  | str (x : Str) (t : Tok) : Rep Γ D (Value.str x t) (PyData.str x)
  | list {a : Addr} {vs : List Value} {n : Nat} {ds : List PyData} : D a (x4z vs n) → RepAll Γ D vs ds → Rep Γ D (Value.ref a) (PyData.list ds)
  | tuple {a : Addr} {vs : List Value} {n : Nat} {ds : List PyData} : D a (tobj vs n) → RepAll Γ D vs ds → Rep Γ D (Value.ref a) (PyData.tuple ds)
  | dict {a : Addr} {o : Obj} {ks : List Int} {vs : List Value} {ds : List PyData} : D a o → (a == sysModules) = false → ks.length = vs.length → o.IsDictOf (intKind Γ.prog Γ.w) (ks.zip vs) → RepAll Γ D vs ds → Rep Γ D (Value.ref a) (dictD ks ds)
inductive RepAll (Γ : Gl) (D : Addr → Obj → Prop) : List Value → List PyData → Prop
  | nil : RepAll Γ D [] []
  | cons {v : Value} {vs : List Value} {d : PyData} {ds : List PyData} : Rep Γ D v d → RepAll Γ D vs ds → RepAll Γ D (v :: vs) (d :: ds)
end
theorem Rep.mono {Γ : Gl} {D D' : Addr → Obj → Prop} (hs : ∀ a o, D a o → D' a o) {v : Value} {d : PyData} (h : Rep Γ D v d) : Rep Γ D' v d :=
  Rep.rec (motive_1 := fun v d _ => Rep Γ D' v d) (motive_2 := fun vs ds _ => RepAll Γ D' vs ds) .none (fun b => .bool b) (fun i t => .int i t) (fun x t => .str x t) (fun h _ r => .list (hs _ _ h) r) (fun h _ r => .tuple (hs _ _ h) r) (fun h a b c _ r => .dict (hs _ _ h) a b c r) .nil (fun _ _ h r => .cons h r) h
theorem RepAll.mono {Γ : Gl} {D D' : Addr → Obj → Prop} (hs : ∀ a o, D a o → D' a o) {vs : List Value} {ds : List PyData} (h : RepAll Γ D vs ds) : RepAll Γ D' vs ds :=
  RepAll.rec (motive_1 := fun v d _ => Rep Γ D' v d) (motive_2 := fun vs ds _ => RepAll Γ D' vs ds) .none (fun b => .bool b) (fun i t => .int i t) (fun x t => .str x t) (fun h _ r => .list (hs _ _ h) r) (fun h _ r => .tuple (hs _ _ h) r) (fun h a b c _ r => .dict (hs _ _ h) a b c r) .nil (fun _ _ h r => .cons h r) h
section
variable {Γ : Gl} {D : Addr → Obj → Prop} {v : Value} {d : PyData} {vs ws : List Value} {ds es : List PyData}
theorem RepAll.length (h : RepAll Γ D vs ds) : vs.length = ds.length := by
  induction vs generalizing ds with
  | nil => cases h; rfl
  | cons v vs ih =>
    cases h with
    | cons _ r => rw [List.length_cons, List.length_cons, ih r]
theorem RepAll.append (h : RepAll Γ D vs ds) (k : RepAll Γ D ws es) : RepAll Γ D (vs ++ ws) (ds ++ es) := by
  induction vs generalizing ds with
  | nil => cases h; exact k
  | cons v vs ih =>
    cases h with
    | cons h r => exact .cons h (ih r)
theorem RepAll.one (h : Rep Γ D v d) : RepAll Γ D [v] [d] := .cons h .nil
theorem RepAll.get (h : RepAll Γ D vs ds) {k : Nat} (hd : ds[k]? = some d) : ∃ v, vs[k]? = some v ∧ Rep Γ D v d := by
  induction vs generalizing ds k with
  | nil => cases h; simp at hd
  | cons v vs ih =>
    cases h with
    | cons h r =>
      cases k with
      | zero => simp at hd; subst hd; exact ⟨v, rfl, h⟩
      | succ k => simp at hd; simpa using ih r hd
theorem RepAll.getV (h : RepAll Γ D vs ds) {k : Nat} (hv : vs[k]? = some v) : ∃ d, ds[k]? = some d ∧ Rep Γ D v d := by
  induction vs generalizing ds k with
  | nil => simp at hv
  | cons u vs ih =>
    cases h with
    | cons h r =>
      cases k with
      | zero => simp at hv; subst hv; exact ⟨_, rfl, h⟩
      | succ k => simp at hv; simpa using ih r hv
theorem RepAll.take (h : RepAll Γ D vs ds) (k : Nat) : RepAll Γ D (vs.take k) (ds.take k) := by
  induction vs generalizing ds k with
  | nil => cases h; simpa using RepAll.nil
  | cons v vs ih =>
    cases h with
    | cons h r =>
      cases k with
      | zero => exact .nil
      | succ k => exact .cons h (ih r k)
theorem RepAll.drop (h : RepAll Γ D vs ds) (k : Nat) : RepAll Γ D (vs.drop k) (ds.drop k) := by
  induction vs generalizing ds k with
  | nil => cases h; simpa using RepAll.nil
  | cons v vs ih =>
    cases h with
    | cons h r =>
      cases k with
      | zero => exact .cons h r
      | succ k => exact ih r k
theorem RepAll.mem (h : RepAll Γ D vs ds) (hv : v ∈ vs) : ∃ d ∈ ds, Rep Γ D v d := by
  obtain ⟨k, hk⟩ := List.mem_iff_getElem?.mp hv
  obtain ⟨d, hd, hr⟩ := h.getV hk
  exact ⟨d, List.mem_of_getElem? hd, hr⟩
end
noncomputable def Dk (Γ : Gl) (fz : List (Addr × Obj)) (a : Addr) (o : Obj) : Prop := Γ.K.lookup a = some o ∨ (a, o) ∈ fz
theorem Dk.sub {Γ : Gl} {fz fz' : List (Addr × Obj)} (h : ∀ p ∈ fz, p ∈ fz') : ∀ a o, Dk Γ fz a o → Dk Γ fz' a o := fun _ _ x => x.imp id (h _)
structure Fn where
  name : Str
  scope : Scope
  nm : List Str
  pin : Nat → Bool
structure Dy where
  A₀ : Around
  base : Heap
  h₀ : Heap
  outer : List Env
  L : Addr
  a : Addr
  cd : Value
noncomputable abbrev Fn.cells (fn : Fn) (c : Dy) : List (Str × Addr) := cellsFrom (c.L + 1) fn.scope.names []
noncomputable abbrev Fn.env (fn : Fn) (c : Dy) : Env := envX fn.name fn.scope c.L c.a c.cd (fn.cells c)
noncomputable abbrev Fn.A (fn : Fn) (c : Dy) : Around := c.A₀.deeper (fn.env c)
structure Fn.Good (fn : Fn) : Prop where
  hk : fn.scope.kind = .function
  nd : fn.nm.Nodup
  all : ∀ x, fn.scope.names.lookup x = some .cell → x ∈ fn.nm
  one : ∀ (i j : Nat) (x y : Str), fn.nm[i]? = some x → fn.nm[j]? = some y → fn.scope.names.lookup x = some .cell → fn.scope.names.lookup y = some .cell → i = j
structure Ok (Γ : Gl) (n : Nat) (fn : Fn) (c : Dy) : Prop where
  B : Below c.A₀ c.base c.outer c.h₀
  X : Γ.K.In c.h₀
  T : TopRead Γ.p Γ.loose Γ.mg Γ.mb c.h₀
  hh : c.A₀.handled = none
  room : c.A₀.depth + 2 + n < recursionLimit
  units : c.A₀.units + 8 * n + 300 < cLine
  G : fn.Good
inductive OLst (Γ : Gl) (D : Addr → Obj → Prop) (o : Obj) (l : List PyData) : Prop
  | mk (vs : List Value) (n : Nat) (e : o = x4z vs n) (r : RepAll Γ D vs l) : OLst Γ D o l
inductive ODct (Γ : Gl) (D : Addr → Obj → Prop) (a : Addr) (o : Obj) (ks : List Int) (ds : List PyData) : Prop
  | mk (vs : List Value) (n : (a == sysModules) = false) (l : ks.length = vs.length) (i : o.IsDictOf (intKind Γ.prog Γ.w) (ks.zip vs)) (r : RepAll Γ D vs ds) : ODct Γ D a o ks ds
noncomputable def j8 (Γ : Gl) (D : Addr → Obj → Prop) (a : Addr) (o : Obj) : Slot → Prop
  | .fz _ => False
  | .ol l => OLst Γ D o l
  | .od ks ds => ODct Γ D a o ks ds
theorem j8.mono {Γ : Gl} {D D' : Addr → Obj → Prop} (hs : ∀ a o, D a o → D' a o) {a : Addr} {o : Obj} : ∀ {sl : Slot}, j8 Γ D a o sl → j8 Γ D' a o sl
  | .fz _, h => h
  | .ol _, ⟨vs, n, e, r⟩ => ⟨vs, n, e, r.mono hs⟩
  | .od _ _, ⟨vs, lo, e, q, r⟩ => ⟨vs, lo, e, q, r.mono hs⟩
noncomputable def x6 (σ : Sta) (i : Nat) (sl : Slot) : Prop := σ[i]? = some (some sl) ∧ sl.isOwn = true
structure Mine1 (c : Dy) (fz : List (Addr × Obj)) (a : Addr) : Prop where
  ne : a ≠ c.L
  new : c.h₀.get? a = none
  off : ∀ p ∈ fz, p.1 ≠ a
inductive CelAt (fn : Fn) (c : Dy) (fz : List (Addr × Obj)) (α : Nat → Addr) (σ : Sta) (h : Heap) (μ : Nat → Option Value) (i : Nat) (x : Str) : Prop
  | mk (ca : Addr) (o : Obj) (h1 : (fn.cells c).lookup x = some ca) (h2 : h.get? ca = some o) (h3 : o.data = .cell (μ i)) (h4 : Mine1 c fz ca) (h5 : ∀ j sl, x6 σ j sl → α j ≠ ca) : CelAt fn c fz α σ h μ i x
structure StC (Γ : Gl) (fn : Fn) (c : Dy) (fz : List (Addr × Obj)) (α : Nat → Addr) (σ : Sta) (h : Heap) (m : Str → Option Value) (μ : Nat → Option Value) : Prop where
  F : Fr c.h₀ c.L h m
  N : News c.h₀ c.L h fz
  loc : ∀ (i : Nat) (x : Str), fn.nm[i]? = some x → fn.scope.names.lookup x = some .local → m x = μ i
  cel : ∀ (i : Nat) (x : Str), fn.nm[i]? = some x → fn.scope.names.lookup x = some .cell → CelAt fn c fz α σ h μ i x
  val : ∀ (i : Nat) (d : PyData), σ[i]? = some (some (.fz d)) → ∃ v, μ i = some v ∧ Rep Γ (Dk Γ fz) v d
  own : ∀ (i : Nat) (sl : Slot), x6 σ i sl → μ i = some (.ref (α i)) ∧ (∃ o, h.get? (α i) = some o ∧ j8 Γ (Dk Γ fz) (α i) o sl) ∧ Mine1 c fz (α i)
  inj : ∀ (i j : Nat) (sl sl' : Slot), x6 σ i sl → x6 σ j sl' → α i = α j → i = j
inductive St (Γ : Gl) (fn : Fn) (c : Dy) (fz : List (Addr × Obj)) (α : Nat → Addr) (σ : Sta) (h : Heap) : Prop
  | mk (m : Str → Option Value) (μ : Nat → Option Value) (C : StC Γ fn c fz α σ h m μ) : St Γ fn c fz α σ h
noncomputable def Den (Γ : Gl) (fz : List (Addr × Obj)) (α : Nat → Addr) (v : Value) : AV → Prop
  | .pv d => Rep Γ (Dk Γ fz) v d
  | .own i => v = .ref (α i)
structure Nx (s s' : Shared) : Prop where
  os : s'.os = s.os
  drawn : s'.drawn = s.drawn
  gens : AllBare s.gens → AllBare s'.gens
theorem Nx.refl (s : Shared) : Nx s s := ⟨rfl, rfl, id⟩
theorem Nx.trans {s s' s'' : Shared} (a : Nx s s') (b : Nx s' s'') : Nx s s'' := ⟨b.os.trans a.os, b.drawn.trans a.drawn, fun h => b.gens (a.gens h)⟩
theorem Nx.of (s : Shared) (h : Heap) (tk : Nat) : Nx s { s with heap := h, toks := tk } := ⟨rfl, rfl, id⟩
inductive RaisedA (c : Dy) (fz : List (Addr × Obj)) (x : Addr) (e : Addr) (h' : Heap) : Prop
  | mk (h : Heap) (m : Str → Option Value) (vs : List Value) (F : Fr c.h₀ c.L h m) (N : News c.h₀ c.L h fz) (M : Heap.MadeExcOf h h' e (.ref x) vs) : RaisedA c fz x e h'
inductive RaisedB (fn : Fn) (c : Dy) (fz : List (Addr × Obj)) (x : Addr) (e : Addr) (h' : Heap) : Prop
  | mk (h : Heap) (m : Str → Option Value) (t : Addr) (vs : List Value) (F : Fr c.h₀ c.L h m) (U : h.UpToSlots h') (R : RaisedK c.base (fn.env c :: c.outer) e (.ref x) t vs fz h') : RaisedB fn c fz x e h'
noncomputable def vG (fn : Fn) (c : Dy) (fz : List (Addr × Obj)) (x : Addr) (e : Addr) (h' : Heap) : Prop := RaisedA c fz x e h' ∨ RaisedB fn c fz x e h'
noncomputable def EvAt (Γ : Gl) (fn : Fn) (c : Dy) (t : Sem Value) (σ : Sta) (r : Except Addr AV) (s : Shared) (fz : List (Addr × Obj)) (α : Nat → Addr) : Prop :=
  ∀ (Q E : Value → Shared → Prop),
    (∀ v s' fz' av, r = .ok av → Nx s s' → (∀ p ∈ fz, p ∈ fz') → St Γ fn c fz' α σ s'.heap → Den Γ fz' α v av → Q v s') →
    (∀ e s' x, r = .error x → Nx s s' → vG fn c fz x e s'.heap → E (.ref e) s') →
    wpAny (model Γ.prog Γ.w) (fn.A c) t Q E s
structure SimE (Γ : Gl) (fn : Fn) (c : Dy) (t : Sem Value) (f : Sta → Out AV) : Prop where
  go : ∀ σ r s fz α, f σ = some r → St Γ fn c fz α σ s.heap → EvAt Γ fn c t σ r s fz α
noncomputable def EvsAt (Γ : Gl) (fn : Fn) (c : Dy) (t : Sem (List Value)) (σ : Sta) (r : Except Addr (List PyData)) (s : Shared) (fz : List (Addr × Obj)) (α : Nat → Addr) : Prop :=
  ∀ (Q : List Value → Shared → Prop) (E : Value → Shared → Prop),
    (∀ vs s' fz' ds, r = .ok ds → Nx s s' → (∀ p ∈ fz, p ∈ fz') → St Γ fn c fz' α σ s'.heap → RepAll Γ (Dk Γ fz') vs ds → Q vs s') →
    (∀ e s' x, r = .error x → Nx s s' → vG fn c fz x e s'.heap → E (.ref e) s') →
    wpAny (model Γ.prog Γ.w) (fn.A c) t Q E s
structure SimEs (Γ : Gl) (fn : Fn) (c : Dy) (t : Sem (List Value)) (f : Sta → Out (List PyData)) : Prop where
  go : ∀ σ r s fz α, f σ = some r → St Γ fn c fz α σ s.heap → EvsAt Γ fn c t σ r s fz α
noncomputable def BvAt (Γ : Gl) (fn : Fn) (c : Dy) (t : Sem Bool) (σ : Sta) (r : Except Addr Bool) (s : Shared) (fz : List (Addr × Obj)) (α : Nat → Addr) : Prop :=
  ∀ (Q : Bool → Shared → Prop) (E : Value → Shared → Prop),
    (∀ s' fz' b, r = .ok b → Nx s s' → (∀ p ∈ fz, p ∈ fz') → St Γ fn c fz' α σ s'.heap → Q b s') →
    (∀ e s' x, r = .error x → Nx s s' → vG fn c fz x e s'.heap → E (.ref e) s') →
    wpAny (model Γ.prog Γ.w) (fn.A c) t Q E s
structure SimB (Γ : Gl) (fn : Fn) (c : Dy) (t : Sem Bool) (f : Sta → Out Bool) : Prop where
  go : ∀ σ r s fz α, f σ = some r → St Γ fn c fz α σ s.heap → BvAt Γ fn c t σ r s fz α
noncomputable def jBz (Γ : Gl) (fz : List (Addr × Obj)) : Flow → Fl → Prop
  | .next, .next => True
  | .brk, .brk => True
  | .cont, .cont => True
  | .ret v, .ret d => Rep Γ (Dk Γ fz) v d
  | _, _ => False
noncomputable def ExAt (Γ : Gl) (fn : Fn) (c : Dy) (t : Sem Flow) (r : Except Addr (Fl × Sta)) (s : Shared) (fz : List (Addr × Obj)) (α : Nat → Addr) : Prop :=
  ∀ (Q : Flow → Shared → Prop) (E : Value → Shared → Prop), PassesOwn (model Γ.prog Γ.w) (fn.A c) (fn.env c) E →
    (∀ fl s' fz' α' fl' σ', r = .ok (fl', σ') → Nx s s' → (∀ p ∈ fz, p ∈ fz') → (∀ i, fn.pin i = true → α' i = α i) → St Γ fn c fz' α' σ' s'.heap → jBz Γ fz' fl fl' → Q fl s') →
    (∀ e s' x, r = .error x → Nx s s' → vG fn c fz x e s'.heap → E (.ref e) s') →
    wpAny (model Γ.prog Γ.w) (fn.A c) t Q E s
structure SimS (Γ : Gl) (fn : Fn) (c : Dy) (t : Sem Flow) (f : Sta → Out (Fl × Sta)) : Prop where
  go : ∀ σ r s fz α, f σ = some r → St Γ fn c fz α σ s.heap → ExAt Γ fn c t r s fz α
section
variable {Γ : Gl} {fn : Fn} {c : Dy} {fz : List (Addr × Obj)} {α : Nat → Addr} {σ : Sta} {h h' : Heap}
theorem St.fr (S : St Γ fn c fz α σ h) : ∃ m, Fr c.h₀ c.L h m := let ⟨m, _, C⟩ := S; ⟨m, C.F⟩
theorem St.news (S : St Γ fn c fz α σ h) : News c.h₀ c.L h fz := let ⟨_, _, C⟩ := S; C.N
theorem St.keep (S : St Γ fn c fz α σ h) : ∀ b o, c.h₀.get? b = some o → h.get? b = some o := let ⟨_, _, C⟩ := S; C.F.keep
theorem fr_grow {h₀ : Heap} {L : Addr} {m : Str → Option Value} (F : Fr h₀ L h m) (k : ∀ b o, h.get? b = some o → h'.get? b = some o) : Fr h₀ L h' m :=
  ⟨F.ns.keeps k, fun b o e => k b o (F.keep b o e), F.above⟩
theorem news_grow {h₀ : Heap} {L : Addr} {news : List (Addr × Obj)} (N : News h₀ L h news) (k : ∀ b o, h.get? b = some o → h'.get? b = some o) : News h₀ L h' news :=
  fun p hp => ⟨k _ _ (N p hp).1, (N p hp).2⟩
theorem St.grow (S : St Γ fn c fz α σ h) (k : ∀ b o, h.get? b = some o → h'.get? b = some o) : St Γ fn c fz α σ h' := by
  obtain ⟨m, μ, C⟩ := S
  refine ⟨m, μ, fr_grow C.F k, news_grow C.N k, C.loc, fun i x hi hx => ?_, C.val, fun i sl ho => ?_, C.inj⟩
  · obtain ⟨ca, o, h1, h2, r1, r2, r3⟩ := C.cel i x hi hx
    exact ⟨ca, o, h1, k _ _ h2, r1, r2, r3⟩
  · obtain ⟨h1, ⟨o, h2, h3⟩, r⟩ := C.own i sl ho
    exact ⟨h1, ⟨o, k _ _ h2, h3⟩, r⟩
theorem Dk.of_cons {p : Addr × Obj} : ∀ a o, Dk Γ fz a o → Dk Γ (p :: fz) a o := Dk.sub fun _ hq => List.mem_cons_of_mem _ hq
theorem StC.freeze1 {m : Str → Option Value} {μ : Nat → Option Value} (C : StC Γ fn c fz α σ h m μ) {a : Addr} {o : Obj} (ha : h.get? a = some o) (hL : a ≠ c.L) (hn : c.h₀.get? a = none)
    (hown : ∀ j sl, x6 σ j sl → α j ≠ a) (hcel : ∀ x ca, fn.scope.names.lookup x = some .cell → (fn.cells c).lookup x = some ca → ca ≠ a) : StC Γ fn c ((a, o) :: fz) α σ h m μ := by
  have off : ∀ b, b ≠ a → Mine1 c fz b → Mine1 c ((a, o) :: fz) b := fun b hb M => ⟨M.ne, M.new, fun p hp => by
    rcases List.mem_cons.mp hp with rfl | hp
    · exact fun e => hb e.symm
    · exact M.off p hp⟩
  refine ⟨C.F, fun p hp => ?_, C.loc, fun i x hi hx => ?_, fun i d hd => ?_, fun i sl ho => ?_, C.inj⟩
  · rcases List.mem_cons.mp hp with rfl | hp
    · exact ⟨ha, hL, hn⟩
    · exact C.N p hp
  · obtain ⟨ca, o', h1, h2, h3, h4, h5⟩ := C.cel i x hi hx
    exact ⟨ca, o', h1, h2, h3, off ca (hcel x ca hx h1) h4, h5⟩
  · obtain ⟨v, hv, r⟩ := C.val i d hd
    exact ⟨v, hv, r.mono Dk.of_cons⟩
  · obtain ⟨h1, ⟨o', h2, h3⟩, h4⟩ := C.own i sl ho
    exact ⟨h1, ⟨o', h2, h3.mono Dk.of_cons⟩, off _ (hown i sl ho) h4⟩
theorem St.freeze1 (S : St Γ fn c fz α σ h) {a : Addr} {o : Obj} (ha : h.get? a = some o) (hL : a ≠ c.L) (hn : c.h₀.get? a = none)
    (hown : ∀ j sl, x6 σ j sl → α j ≠ a) (hcel : ∀ x ca, fn.scope.names.lookup x = some .cell → (fn.cells c).lookup x = some ca → ca ≠ a) : St Γ fn c ((a, o) :: fz) α σ h :=
  let ⟨m, μ, C⟩ := S; ⟨m, μ, C.freeze1 ha hL hn hown hcel⟩
theorem zLz (F : ∃ m, Fr c.h₀ c.L h m) : c.h₀.get? h.objs.size = none := by
  obtain ⟨m, F⟩ := F
  cases hq : c.h₀.get? h.objs.size with
  | none => rfl
  | some o' => exact absurd (Heap.lt_size (F.keep _ _ hq)) (Nat.lt_irrefl _)
theorem zMz (F : ∃ m, Fr c.h₀ c.L h m) : h.objs.size ≠ c.L := by
  obtain ⟨m, F⟩ := F
  exact Nat.ne_of_gt F.ns.lt
theorem wA {x : Str} {ca : Addr} (C : St Γ fn c fz α σ h) (hall : ∀ x, fn.scope.names.lookup x = some .cell → x ∈ fn.nm) (hx : fn.scope.names.lookup x = some .cell) (hl : (fn.cells c).lookup x = some ca) : ∃ o, h.get? ca = some o := by
  obtain ⟨m, μ, C⟩ := C
  obtain ⟨i, hi⟩ := List.mem_iff_getElem?.mp (hall x hx)
  obtain ⟨ca', o, h1, h2, _⟩ := C.cel i x hi hx
  rw [hl] at h1; cases h1
  exact ⟨o, h2⟩
theorem St.push (S : St Γ fn c fz α σ h) (G : fn.Good) (o : Obj) (hf : o.isFreed = false := by rfl) : St Γ fn c ((h.objs.size, o) :: fz) α σ (h.push o) := by
  have hfr := S.fr
  have hcells := fun {x ca} => wA (x := x) (ca := ca) S G.all
  have S' := S.grow (h' := h.push o) fun b o' e => Heap.get?_push_of_some _ e
  refine S'.freeze1 (Heap.get?_push_size _ hf) (zMz hfr) (zLz hfr) (fun j sl ho => ?_) fun x ca hx hl => ?_
  · obtain ⟨m, μ, C⟩ := S
    obtain ⟨_, ⟨o', h2, _⟩, _⟩ := C.own j sl ho
    exact Nat.ne_of_lt (Heap.lt_size h2)
  · obtain ⟨o', h2⟩ := hcells hx hl
    exact Nat.ne_of_lt (Heap.lt_size h2)
theorem StC.led {m : Str → Option Value} {μ : Nat → Option Value} (C : StC Γ fn c fz α σ h m μ) : ∃ led : List (Addr × Obj), News c.h₀ c.L h (fz ++ led) ∧ (∀ p ∈ led, ∀ q ∈ fz, q.1 ≠ p.1) ∧
    (∀ i sl o, x6 σ i sl → h.get? (α i) = some o → (α i, o) ∈ led) ∧ (∀ (i : Nat) (x : Str) (ca : Addr) (o : Obj), fn.nm[i]? = some x → fn.scope.names.lookup x = some .cell → (fn.cells c).lookup x = some ca → h.get? ca = some o → (ca, o) ∈ led) := by
  classical
  let own : List (Addr × Obj) := (List.range σ.length).filterMap fun i => if ∃ sl, x6 σ i sl then (h.get? (α i)).map (α i, ·) else none
  let cel : List (Addr × Obj) := (fn.nm.filter fun x => decide (fn.scope.names.lookup x = some .cell)).filterMap fun x => ((fn.cells c).lookup x).bind fun ca => (h.get? ca).map (ca, ·)
  have hown : ∀ p ∈ own, h.get? p.1 = some p.2 ∧ Mine1 c fz p.1 := by
    intro p hp
    obtain ⟨i, _, hi⟩ := List.mem_filterMap.mp hp
    split at hi
    · rename_i hex
      obtain ⟨sl, ho⟩ := hex
      obtain ⟨o, e1, rfl⟩ := Option.map_eq_some_iff.mp hi
      exact ⟨e1, (C.own i sl ho).2.2⟩
    · cases hi
  have hcel : ∀ p ∈ cel, h.get? p.1 = some p.2 ∧ Mine1 c fz p.1 := by
    intro p hp
    obtain ⟨x, hx, hi⟩ := List.mem_filterMap.mp hp
    obtain ⟨hx1, hx2⟩ := List.mem_filter.mp hx
    obtain ⟨i, hi'⟩ := List.mem_iff_getElem?.mp hx1
    obtain ⟨ca, o, e1, e2, e3, e4, _⟩ := C.cel i x hi' (by simpa using hx2)
    obtain ⟨ca', e5, e6⟩ := Option.bind_eq_some_iff.mp hi
    rw [e1] at e5; cases e5
    obtain ⟨o', e7, rfl⟩ := Option.map_eq_some_iff.mp e6
    exact ⟨e7, e4⟩
  refine ⟨own ++ cel, fun p hp => ?_, fun p hp q hq => ?_, fun i sl o ho hg => ?_, fun i x ca o hi hx hl hg => ?_⟩
  · rcases List.mem_append.mp hp with hp | hp
    · exact C.N p hp
    · rcases List.mem_append.mp hp with hp | hp
      · exact ⟨(hown p hp).1, (hown p hp).2.ne, (hown p hp).2.new⟩
      · exact ⟨(hcel p hp).1, (hcel p hp).2.ne, (hcel p hp).2.new⟩
  · rcases List.mem_append.mp hp with hp | hp
    · exact (hown p hp).2.off q hq
    · exact (hcel p hp).2.off q hq
  · refine List.mem_append_left _ (List.mem_filterMap.mpr ⟨i, ?_, ?_⟩)
    · rw [List.mem_range]
      exact (List.getElem?_eq_some_iff.mp ho.1).1
    · rw [if_pos ⟨sl, ho⟩, hg]; rfl
  · refine List.mem_append_right _ (List.mem_filterMap.mpr ⟨x, List.mem_filter.mpr ⟨List.mem_of_getElem? hi, by simpa using hx⟩, ?_⟩)
    rw [hl]
    show (h.get? ca).map (ca, ·) = _
    rw [hg]; rfl
theorem StC.again {m : Str → Option Value} {μ : Nat → Option Value} (C : StC Γ fn c fz α σ h m μ) {led : List (Addr × Obj)} (ho : ∀ i sl o, x6 σ i sl → h.get? (α i) = some o → (α i, o) ∈ led)
    (hc : ∀ (i : Nat) (x : Str) (ca : Addr) (o : Obj), fn.nm[i]? = some x → fn.scope.names.lookup x = some .cell → (fn.cells c).lookup x = some ca → h.get? ca = some o → (ca, o) ∈ led) (F' : Fr c.h₀ c.L h' m) (N' : News c.h₀ c.L h' (fz ++ led)) : StC Γ fn c fz α σ h' m μ := by
  refine ⟨F', fun p hp => N' p (List.mem_append_left _ hp), C.loc, fun i x hi hx => ?_, C.val, fun i sl hs => ?_, C.inj⟩
  · obtain ⟨ca, o, h1, h2, r1, r2, r3⟩ := C.cel i x hi hx
    exact ⟨ca, o, h1, (N' _ (List.mem_append_right _ (hc i x ca o hi hx h1 h2))).1, r1, r2, r3⟩
  · obtain ⟨h1, ⟨o, h2, h3⟩, r⟩ := C.own i sl hs
    exact ⟨h1, ⟨o, (N' _ (List.mem_append_right _ (ho i sl o hs h2))).1, h3⟩, r⟩
theorem St.made (S : St Γ fn c fz α σ h) (G : fn.Good) {o : Obj} (k : ∀ b o', h.get? b = some o' → h'.get? b = some o') (hg : h'.get? h.objs.size = some o) : St Γ fn c ((h.objs.size, o) :: fz) α σ h' := by
  have hfr := S.fr
  have hcells := fun {x ca} => wA (x := x) (ca := ca) S G.all
  refine (S.grow k).freeze1 hg (zMz hfr) (zLz hfr) (fun j sl ho => ?_) fun x ca hx hl => ?_
  · obtain ⟨m, μ, C⟩ := S
    obtain ⟨_, ⟨o', h2, _⟩, _⟩ := C.own j sl ho
    exact Nat.ne_of_lt (Heap.lt_size h2)
  · obtain ⟨o', h2⟩ := hcells hx hl
    exact Nat.ne_of_lt (Heap.lt_size h2)
inductive LLst (Γ : Gl) (D : Addr → Obj → Prop) (h : Heap) (v : Value) (ds : List PyData) : Prop
  | mk (a : Addr) (vs : List Value) (n : Nat) (e : v = .ref a) (g : h.get? a = some (x4z vs n)) (r : RepAll Γ D vs ds) : LLst Γ D h v ds
inductive LTup (Γ : Gl) (D : Addr → Obj → Prop) (h : Heap) (v : Value) (ds : List PyData) : Prop
  | mk (a : Addr) (vs : List Value) (n : Nat) (e : v = .ref a) (g : h.get? a = some (tobj vs n)) (r : RepAll Γ D vs ds) : LTup Γ D h v ds
inductive LDct (Γ : Gl) (D : Addr → Obj → Prop) (h : Heap) (v : Value) (kvs : List (PyData × PyData)) : Prop
  | mk (a : Addr) (o : Obj) (ks : List Int) (vs : List Value) (ds : List PyData) (e : v = .ref a) (q : kvs = (ks.map PyData.int).zip ds) (g : h.get? a = some o) (n : (a == sysModules) = false) (l : ks.length = vs.length) (i : o.IsDictOf (intKind Γ.prog Γ.w) (ks.zip vs)) (r : RepAll Γ D vs ds) : LDct Γ D h v kvs
noncomputable def LRep (Γ : Gl) (D : Addr → Obj → Prop) (h : Heap) (v : Value) : PyData → Prop
  | .list ds => LLst Γ D h v ds
  | .tuple ds => LTup Γ D h v ds
  | .dict kvs => LDct Γ D h v kvs
  | .none => v = .none
  | .bool b => v = .bool b
  | .int i => ∃ t, v = .int i t
  | .str x => ∃ t, v = .str x t
theorem k8z {D : Addr → Obj → Prop} {v : Value} {d : PyData} (k : ∀ a o, D a o → h.get? a = some o) (r : Rep Γ D v d) : LRep Γ D h v d := by
  cases r with
  | none => exact rfl
  | bool b => exact rfl
  | int i t => exact ⟨t, rfl⟩
  | str x t => exact ⟨t, rfl⟩
  | list a b => exact ⟨_, _, _, rfl, k _ _ a, b⟩
  | tuple a b => exact ⟨_, _, _, rfl, k _ _ a, b⟩
  | dict a b c d e => exact ⟨_, _, _, _, _, rfl, rfl, k _ _ a, b, c, d, e⟩
theorem St.heapD (S : St Γ fn c fz α σ h) (X : Γ.K.In c.h₀) : ∀ a o, Dk Γ fz a o → h.get? a = some o := fun a o hd => by
  rcases hd with hd | hd
  · exact S.keep a o (X a o hd)
  · exact (S.news _ hd).1
theorem Den.mono {fz' : List (Addr × Obj)} {v : Value} {av : AV} (hs : ∀ p ∈ fz, p ∈ fz') (d : Den Γ fz α v av) : Den Γ fz' α v av := by
  induction av with
  | pv d' => exact Rep.mono (Dk.sub hs) d
  | own i => exact d
set_option tactic.hygienic true in
theorem St.lrep (S : St Γ fn c fz α σ h) (X : Γ.K.In c.h₀) {v : Value} {av : AV} {d : PyData} (hd : Den Γ fz α v av) (he : kEz σ av = some d) : LRep Γ (Dk Γ fz) h v d := by
  induction av with
  | pv d' =>
    simp only [kEz, Option.some.injEq] at he
    subst he
    exact k8z (S.heapD X) hd
  | own i =>
    simp only [kEz] at he
    split at he
    · rename_i sl hs
      split at he
      · rename_i ho
        simp only [Option.some.injEq] at he
        subst he
        obtain ⟨m, μ, C⟩ := S
        obtain ⟨_, ⟨o, h2, h3⟩, _⟩ := C.own i sl ⟨hs, ho⟩
        obtain rfl : v = .ref (α i) := hd
        induction sl with
        | fz d => cases ho
        | ol l =>
          obtain ⟨vs, n, rfl, r⟩ := h3
          exact ⟨_, _, _, rfl, h2, r⟩
        | od ks ds =>
          obtain ⟨vs, a1, a2, a3, r⟩ := h3
          exact ⟨_, _, _, _, _, rfl, rfl, h2, a1, a2, a3, r⟩
      · cases he
    · cases he
inductive BndC {A B : Type} (x : Out A) (f : A → Out B) (r : Except Addr B) : Prop
  | err (y : Addr) (h1 : x = some (.error y)) (h2 : r = .error y) : BndC x f r
  | ok (a : A) (h1 : x = some (.ok a)) (h2 : f a = some r) : BndC x f r
set_option tactic.hygienic true in
theorem z8 {A B : Type} {x : Out A} {f : A → Out B} {r : Except Addr B} (e : bnd x f = some r) : BndC x f r := by
  unfold bnd at e
  split at e
  · rename_i a; exact .ok a rfl e
  · rename_i y; exact .err y rfl (Option.some.inj e).symm
  · cases e
inductive OkPC {A : Type} (x : Option A) (r : Except Addr A) : Prop
  | mk (a : A) (h1 : x = some a) (h2 : r = .ok a) : OkPC x r
theorem vS {A : Type} {x : Option A} {r : Except Addr A} (e : okP x = some r) : OkPC x r := by
  induction x with
  | none => cases e
  | some a => exact ⟨a, rfl, (Option.some.inj e).symm⟩
inductive OkMC (x : Option PyData) (r : Except Addr AV) : Prop
  | mk (d : PyData) (h1 : x = some d) (h2 : r = .ok (.pv d)) : OkMC x r
theorem qQz {x : Option PyData} {r : Except Addr AV} (e : okP (x.map AV.pv) = some r) : OkMC x r := by
  cases x with
  | none => cases e
  | some a => exact ⟨a, rfl, (Option.some.inj e).symm⟩
inductive FlC (Γ : Gl) (fz : List (Addr × Obj)) : Flow → Fl → Prop
  | next : FlC Γ fz .next .next
  | brk : FlC Γ fz .brk .brk
  | cont : FlC Γ fz .cont .cont
  | ret (v : Value) (d : PyData) (r : Rep Γ (Dk Γ fz) v d) : FlC Γ fz (.ret v) (.ret d)
theorem flC {Γ : Gl} {fz : List (Addr × Obj)} : ∀ {fl : Flow} {fl' : Fl}, jBz Γ fz fl fl' → FlC Γ fz fl fl'
  | .next, .next, _ => .next
  | .brk, .brk, _ => .brk
  | .cont, .cont, _ => .cont
  | .ret v, .ret d, h => .ret v d h
theorem q3z {A B : Type} {x : A} {y : B} {G : Prop} (q : (Except.error x : Except A B) = .ok y) : G := by cases q
theorem vBz {A B : Type} {x : A} {y : B} {G : Prop} (q : (Except.ok y : Except A B) = .error x) : G := by cases q
theorem SimE.goK {t : Sem Value} {f : EX} (H : SimE Γ fn c t f) {a : AV} {s : Shared} (h1 : f σ = some (.ok a)) (S : St Γ fn c fz α σ s.heap) {Q E : Value → Shared → Prop}
    (k : ∀ v s' fz', Nx s s' → (∀ p ∈ fz, p ∈ fz') → St Γ fn c fz' α σ s'.heap → Den Γ fz' α v a → Q v s') : wpAny (model Γ.prog Γ.w) (fn.A c) t Q E s :=
  H.go σ _ s fz α h1 S Q E (fun v s' fz' av q nx sub S' D => by injection q with q; subst q; exact k v s' fz' nx sub S' D) fun _ _ _ q => vBz q
theorem SimE.goE {t : Sem Value} {f : EX} (H : SimE Γ fn c t f) {y : Addr} {s : Shared} (h1 : f σ = some (.error y)) (S : St Γ fn c fz α σ s.heap) {Q E : Value → Shared → Prop}
    (ke : ∀ e s', Nx s s' → vG fn c fz y e s'.heap → E (.ref e) s') : wpAny (model Γ.prog Γ.w) (fn.A c) t Q E s :=
  H.go σ _ s fz α h1 S Q E (fun _ _ _ _ q => q3z q) fun e s' x q nx R => by injection q with q; subst q; exact ke e s' nx R
theorem SimEs.goK {t : Sem (List Value)} {f : Sta → Out (List PyData)} (H : SimEs Γ fn c t f) {a : List PyData} {s : Shared} (h1 : f σ = some (.ok a)) (S : St Γ fn c fz α σ s.heap) {Q : List Value → Shared → Prop} {E : Value → Shared → Prop}
    (k : ∀ v s' fz', Nx s s' → (∀ p ∈ fz, p ∈ fz') → St Γ fn c fz' α σ s'.heap → RepAll Γ (Dk Γ fz') v a → Q v s') : wpAny (model Γ.prog Γ.w) (fn.A c) t Q E s :=
  H.go σ _ s fz α h1 S Q E (fun v s' fz' av q nx sub S' D => by injection q with q; subst q; exact k v s' fz' nx sub S' D) fun _ _ _ q => vBz q
theorem SimEs.goE {t : Sem (List Value)} {f : Sta → Out (List PyData)} (H : SimEs Γ fn c t f) {y : Addr} {s : Shared} (h1 : f σ = some (.error y)) (S : St Γ fn c fz α σ s.heap) {Q : List Value → Shared → Prop} {E : Value → Shared → Prop}
    (ke : ∀ e s', Nx s s' → vG fn c fz y e s'.heap → E (.ref e) s') : wpAny (model Γ.prog Γ.w) (fn.A c) t Q E s :=
  H.go σ _ s fz α h1 S Q E (fun _ _ _ _ q => q3z q) fun e s' x q nx R => by injection q with q; subst q; exact ke e s' nx R
theorem SimB.goK {t : Sem Bool} {f : Sta → Out Bool} (H : SimB Γ fn c t f) {a : Bool} {s : Shared} (h1 : f σ = some (.ok a)) (S : St Γ fn c fz α σ s.heap) {Q : Bool → Shared → Prop} {E : Value → Shared → Prop}
    (k : ∀ s' fz', Nx s s' → (∀ p ∈ fz, p ∈ fz') → St Γ fn c fz' α σ s'.heap → Q a s') : wpAny (model Γ.prog Γ.w) (fn.A c) t Q E s :=
  H.go σ _ s fz α h1 S Q E (fun s' fz' av q nx sub S' => by injection q with q; subst q; exact k s' fz' nx sub S') fun _ _ _ q => vBz q
theorem SimB.goE {t : Sem Bool} {f : Sta → Out Bool} (H : SimB Γ fn c t f) {y : Addr} {s : Shared} (h1 : f σ = some (.error y)) (S : St Γ fn c fz α σ s.heap) {Q : Bool → Shared → Prop} {E : Value → Shared → Prop}
    (ke : ∀ e s', Nx s s' → vG fn c fz y e s'.heap → E (.ref e) s') : wpAny (model Γ.prog Γ.w) (fn.A c) t Q E s :=
  H.go σ _ s fz α h1 S Q E (fun _ _ _ q => q3z q) fun e s' x q nx R => by injection q with q; subst q; exact ke e s' nx R
theorem SimS.goK {t : Sem Flow} {f : Sta → Out (Fl × Sta)} (H : SimS Γ fn c t f) {fl' : Fl} {σ' : Sta} {s : Shared} (h1 : f σ = some (.ok (fl', σ'))) (S : St Γ fn c fz α σ s.heap) {Q : Flow → Shared → Prop} {E : Value → Shared → Prop} (hE : PassesOwn (model Γ.prog Γ.w) (fn.A c) (fn.env c) E)
    (k : ∀ fl s' fz' α', Nx s s' → (∀ p ∈ fz, p ∈ fz') → (∀ i, fn.pin i = true → α' i = α i) → St Γ fn c fz' α' σ' s'.heap → jBz Γ fz' fl fl' → Q fl s') : wpAny (model Γ.prog Γ.w) (fn.A c) t Q E s :=
  H.go σ _ s fz α h1 S Q E hE (fun fl s' fz' α' _ _ q nx sub pin S' D => by injection q with q; injection q with q1 q2; subst q1; subst q2; exact k fl s' fz' α' nx sub pin S' D) fun _ _ _ q => vBz q
theorem SimS.goE {t : Sem Flow} {f : Sta → Out (Fl × Sta)} (H : SimS Γ fn c t f) {y : Addr} {s : Shared} (h1 : f σ = some (.error y)) (S : St Γ fn c fz α σ s.heap) {Q : Flow → Shared → Prop} {E : Value → Shared → Prop} (hE : PassesOwn (model Γ.prog Γ.w) (fn.A c) (fn.env c) E)
    (ke : ∀ e s', Nx s s' → vG fn c fz y e s'.heap → E (.ref e) s') : wpAny (model Γ.prog Γ.w) (fn.A c) t Q E s :=
  H.go σ _ s fz α h1 S Q E hE (fun _ _ _ _ _ _ q => q3z q) fun e s' x q nx R => by injection q with q; subst q; exact ke e s' nx R
theorem SimE.rd {t : Sem Value} {e : EX} (H : SimE Γ fn c t e) {r : Except Addr PyData} {s : Shared} (hr : rd e σ = some r) (S : St Γ fn c fz α σ s.heap) {Q E : Value → Shared → Prop}
    (k : ∀ v s' fz' av d, r = .ok d → Nx s s' → (∀ p ∈ fz, p ∈ fz') → St Γ fn c fz' α σ s'.heap → Den Γ fz' α v av → kEz σ av = some d → Q v s')
    (ke : ∀ e s' x, r = .error x → Nx s s' → vG fn c fz x e s'.heap → E (.ref e) s') : wpAny (model Γ.prog Γ.w) (fn.A c) t Q E s := by
  unfold Mine.rd at hr
  rcases z8 hr with ⟨y, h1, hy⟩ | ⟨a, h1, h2⟩
  · exact H.goE h1 S fun e s' => ke e s' y hy
  · obtain ⟨d, h3, rfl⟩ := vS h2
    refine H.goK h1 S fun v s' fz' n sub S' D => ?_
    exact k v s' fz' _ d rfl n sub S' D h3
theorem SimE.pv {t : Sem Value} {e : EX} (H : SimE Γ fn c t e) {r : Except Addr PyData} {s : Shared} (hr : yCz e σ = some r) (S : St Γ fn c fz α σ s.heap) {Q E : Value → Shared → Prop}
    (k : ∀ v s' fz' d, r = .ok d → Nx s s' → (∀ p ∈ fz, p ∈ fz') → St Γ fn c fz' α σ s'.heap → Rep Γ (Dk Γ fz') v d → Q v s')
    (ke : ∀ e s' x, r = .error x → Nx s s' → vG fn c fz x e s'.heap → E (.ref e) s') : wpAny (model Γ.prog Γ.w) (fn.A c) t Q E s := by
  unfold yCz at hr
  rcases z8 hr with ⟨y, h1, hy⟩ | ⟨a, h1, h2⟩
  · exact H.goE h1 S fun e s' => ke e s' y hy
  · induction a with
    | own i => cases h2
    | pv d =>
      obtain rfl : r = .ok d := (Option.some.inj h2).symm
      refine H.goK h1 S fun v s' fz' n sub S' D => ?_
      exact k v s' fz' d rfl n sub S' D
theorem SimE.rdK {t : Sem Value} {f : EX} (H : SimE Γ fn c t f) {d : PyData} {s : Shared} (h1 : Mine.rd f σ = some (.ok d)) (S : St Γ fn c fz α σ s.heap) {Q E : Value → Shared → Prop}
    (k : ∀ v s' fz' av, Nx s s' → (∀ p ∈ fz, p ∈ fz') → St Γ fn c fz' α σ s'.heap → Den Γ fz' α v av → kEz σ av = some d → Q v s') : wpAny (model Γ.prog Γ.w) (fn.A c) t Q E s :=
  H.rd h1 S (fun v s' fz' av _ q nx sub S' D hd => by injection q with q; subst q; exact k v s' fz' av nx sub S' D hd) fun _ _ _ q => vBz q
theorem SimE.rdE {t : Sem Value} {f : EX} (H : SimE Γ fn c t f) {y : Addr} {s : Shared} (h1 : Mine.rd f σ = some (.error y)) (S : St Γ fn c fz α σ s.heap) {Q E : Value → Shared → Prop}
    (ke : ∀ e s', Nx s s' → vG fn c fz y e s'.heap → E (.ref e) s') : wpAny (model Γ.prog Γ.w) (fn.A c) t Q E s :=
  H.rd h1 S (fun _ _ _ _ _ q => q3z q) fun e s' x q nx R => by injection q with q; subst q; exact ke e s' nx R
theorem SimE.pvK {t : Sem Value} {f : EX} (H : SimE Γ fn c t f) {d : PyData} {s : Shared} (h1 : yCz f σ = some (.ok d)) (S : St Γ fn c fz α σ s.heap) {Q E : Value → Shared → Prop}
    (k : ∀ v s' fz', Nx s s' → (∀ p ∈ fz, p ∈ fz') → St Γ fn c fz' α σ s'.heap → Rep Γ (Dk Γ fz') v d → Q v s') : wpAny (model Γ.prog Γ.w) (fn.A c) t Q E s :=
  H.pv h1 S (fun v s' fz' _ q nx sub S' D => by injection q with q; subst q; exact k v s' fz' nx sub S' D) fun _ _ _ q => vBz q
theorem SimE.pvE {t : Sem Value} {f : EX} (H : SimE Γ fn c t f) {y : Addr} {s : Shared} (h1 : yCz f σ = some (.error y)) (S : St Γ fn c fz α σ s.heap) {Q E : Value → Shared → Prop}
    (ke : ∀ e s', Nx s s' → vG fn c fz y e s'.heap → E (.ref e) s') : wpAny (model Γ.prog Γ.w) (fn.A c) t Q E s :=
  H.pv h1 S (fun _ _ _ _ q => q3z q) fun e s' x q nx R => by injection q with q; subst q; exact ke e s' nx R
theorem yP {fz' : List (Addr × Obj)} {x e : Addr} {h' : Heap} (hs : ∀ p ∈ fz, p ∈ fz') (R : vG fn c fz' x e h') : vG fn c fz x e h' := by
  rcases R with ⟨h, m, vs, F, N, X⟩ | ⟨h, m, t, vs, F, U, ⟨⟨B, b1, b2, b3⟩, b4⟩⟩
  · exact .inl ⟨h, m, vs, F, fun p hp => N p (hs p hp), X⟩
  · exact .inr ⟨h, m, t, vs, F, U, ⟨⟨B, b1, fun q hq => b2 q (hs q hq), b3⟩, b4⟩⟩
end
section
variable {Γ : Gl} {n : Nat} {fn : Fn} {c : Dy} {fz : List (Addr × Obj)} {α : Nat → Addr} {σ : Sta} {s : Shared}
theorem uE {t : Sem Value} {d : PyData} (H : ∀ (Q E : Value → Shared → Prop), (∀ v s' fz', Nx s s' → (∀ p ∈ fz, p ∈ fz') → St Γ fn c fz' α σ s'.heap → Rep Γ (Dk Γ fz') v d → Q v s') → wpAny (model Γ.prog Γ.w) (fn.A c) t Q E s) :
    EvAt Γ fn c t σ (.ok (.pv d)) s fz α := fun Q E k _ => H Q E fun v s' fz' a b S r => k v s' fz' _ rfl a b S r
set_option tactic.hygienic true in
theorem zA (O : Ok Γ n fn c) {x : Str} {pos : Pos} {i : Nat} (hi : fn.nm[i]? = some x) (hl : fn.scope.names.lookup x = some .local) (hd : (x == ("__debug__" : Str)) = false) :
    SimE Γ fn c (eval (.Name x pos) (fn.env c)) (zG i) := by
  refine ⟨?_⟩
  intro σ r s fz α e S Q E k _
  obtain ⟨m, μ, C⟩ := id S
  have hk := O.G.hk
  unfold zG at e
  split at e
  · rename_i d hs
    obtain rfl := Option.some.inj e
    obtain ⟨v, hv, r⟩ := C.val i d hs
    exact nameX_L C.F ((C.loc i x hi hl).trans hv) (k v s fz _ rfl (Nx.refl s) (fun _ hp => hp) S r) hk hl hd
  · rename_i sl hno hs
    obtain rfl := Option.some.inj e
    have ho : x6 σ i sl := ⟨hs, by induction sl with | fz d => exact (hno d rfl).elim | ol l => rfl | od a b => rfl⟩
    obtain ⟨hv, _⟩ := C.own i sl ho
    exact nameX_L C.F ((C.loc i x hi hl).trans hv) (k _ s fz _ rfl (Nx.refl s) (fun _ hp => hp) S rfl) hk hl hd
  · cases e
set_option tactic.hygienic true in
theorem qBz (O : Ok Γ n fn c) {x : Str} {pos : Pos} {i : Nat} (hi : fn.nm[i]? = some x) (hl : fn.scope.names.lookup x = some .cell) (hd : (x == ("__debug__" : Str)) = false) :
    SimE Γ fn c (eval (.Name x pos) (fn.env c)) (zG i) := by
  refine ⟨?_⟩
  intro σ r s fz α e S Q E k _
  obtain ⟨m, μ, C⟩ := id S
  have hk := O.G.hk
  obtain ⟨ca, o, h1, h2, h3, h4, _⟩ := C.cel i x hi hl
  have N : News c.h₀ c.L s.heap [(ca, o)] := fun p hp => by
    rw [List.mem_singleton.mp hp]; exact ⟨h2, h4.ne, h4.new⟩
  unfold zG at e
  split at e
  · rename_i d hs
    obtain rfl := Option.some.inj e
    obtain ⟨v, hv, r⟩ := C.val i d hs
    exact nameX_C N h1 (List.mem_singleton.mpr rfl) (by rw [h3, hv]) (k v s fz _ rfl (Nx.refl s) (fun _ hp => hp) S r) hk hl hd
  · rename_i sl hno hs
    obtain rfl := Option.some.inj e
    have ho : x6 σ i sl := ⟨hs, by induction sl with | fz d => exact (hno d rfl).elim | ol l => rfl | od a b => rfl⟩
    obtain ⟨hv, _⟩ := C.own i sl ho
    exact nameX_C N h1 (List.mem_singleton.mpr rfl) (by rw [h3, hv]) (k _ s fz _ rfl (Nx.refl s) (fun _ hp => hp) S rfl) hk hl hd
  · cases e
theorem zH {i : Int} {kd : Nat} {pos : Pos} : SimE Γ fn c (eval (.Constant (.int i) kd pos) (fn.env c)) (zD (.int i)) := by
  refine ⟨?_⟩
  intro σ r s fz α e S Q E k _
  obtain rfl := Option.some.inj e
  exact wpAny_Constant_int (k _ _ fz _ rfl ⟨rfl, rfl, id⟩ (fun _ hp => hp) S (Rep.int _ _))
theorem zL {x : Str} {kd : Nat} {pos : Pos} : SimE Γ fn c (eval (.Constant (.str x) kd pos) (fn.env c)) (zD (.str x)) := by
  refine ⟨?_⟩
  intro σ r s fz α e S Q E k _
  obtain rfl := Option.some.inj e
  exact Calls.Constant_str (k _ _ fz _ rfl ⟨rfl, rfl, id⟩ (fun _ hp => hp) S (Rep.str _ _))
theorem wW {kd : Nat} {pos : Pos} : SimE Γ fn c (eval (.Constant .none kd pos) (fn.env c)) (zD .none) := by
  refine ⟨?_⟩
  intro σ r s fz α e S Q E k _
  obtain rfl := Option.some.inj e
  exact Constant_none (k _ _ fz _ rfl ⟨rfl, rfl, id⟩ (fun _ hp => hp) S Rep.none)
theorem qL {b : Bool} {kd : Nat} {pos : Pos} : SimE Γ fn c (eval (.Constant (.bool b) kd pos) (fn.env c)) (zD (.bool b)) := by
  refine ⟨?_⟩
  intro σ r s fz α e S Q E k _
  obtain rfl := Option.some.inj e
  exact Constant_bool (k _ _ fz _ rfl ⟨rfl, rfl, id⟩ (fun _ hp => hp) S (Rep.bool _))
noncomputable def yIq (Γ : Gl) (fn : Fn) (c : Dy) (prim : Value → Sem Value) (f : PyData → Option PyData) : Prop :=
  ∀ σ s fz α a da d, St Γ fn c fz α σ s.heap → LRep Γ (Dk Γ fz) s.heap a da → f da = some d → EvAt Γ fn c (prim a) σ (.ok (.pv d)) s fz α
noncomputable def hMz (Γ : Gl) (fn : Fn) (c : Dy) (prim : Value → Value → Sem Value) (f : PyData → PyData → Option PyData) : Prop :=
  ∀ σ s fz α a b da db d, St Γ fn c fz α σ s.heap → LRep Γ (Dk Γ fz) s.heap a da → LRep Γ (Dk Γ fz) s.heap b db → f da db = some d → EvAt Γ fn c (prim a b) σ (.ok (.pv d)) s fz α
theorem zPq (O : Ok Γ n fn c) {t tl : Sem Value} {prim : Value → Sem Value} {f : PyData → Option PyData} {el : EX} (hl : SimE Γ fn c tl el)
    (comb : ∀ {Q E : Value → Shared → Prop} {s : Shared} {fz : List (Addr × Obj)} {α : Nat → Addr} {σ : Sta}, St Γ fn c fz α σ s.heap → wpAny (model Γ.prog Γ.w) (fn.A c) tl (fun a s₁ => wpAny (model Γ.prog Γ.w) (fn.A c) (prim a) Q E s₁) E s → wpAny (model Γ.prog Γ.w) (fn.A c) t Q E s)
    (hp : yIq Γ fn c prim f) : SimE Γ fn c t (op1 f el) := by
  refine ⟨?_⟩
  intro σ r s fz α e S Q E k ke
  refine comb S ?_
  rcases z8 e with ⟨y, h1, hy⟩ | ⟨da, h1, h2⟩
  · exact hl.rdE h1 S fun e s' => ke e s' y hy
  · obtain ⟨d, h4, hr'⟩ := qQz h2
    refine hl.rdK h1 S fun v s' fz' av' nx sub S' D hd => ?_
    exact hp σ s' fz' α v _ d S' (S'.lrep O.X D hd) h4 Q E (fun v₂ s₂ fz₂ av₂ q₂ n₂ sub₂ S₂ D₂ => k v₂ s₂ fz₂ av₂ (hr'.trans q₂) (nx.trans n₂) (fun p hp => sub₂ p (sub p hp)) S₂ D₂) fun _ _ _ q => vBz q
theorem zOq (O : Ok Γ n fn c) {t tl tr : Sem Value} {prim : Value → Value → Sem Value} {f : PyData → PyData → Option PyData} {el er : EX} (hl : SimE Γ fn c tl el) (hr : SimE Γ fn c tr er)
    (comb : ∀ {Q E : Value → Shared → Prop} {s : Shared} {fz : List (Addr × Obj)} {α : Nat → Addr} {σ : Sta}, St Γ fn c fz α σ s.heap → wpAny (model Γ.prog Γ.w) (fn.A c) tl (fun a s₁ => wpAny (model Γ.prog Γ.w) (fn.A c) tr (fun b s₂ => wpAny (model Γ.prog Γ.w) (fn.A c) (prim a b) Q E s₂) E s₁) E s → wpAny (model Γ.prog Γ.w) (fn.A c) t Q E s)
    (hp : hMz Γ fn c prim f) : SimE Γ fn c t (op2 f el er) := by
  refine ⟨?_⟩
  intro σ r s fz α e S Q E k ke
  refine comb S ?_
  rcases z8 e with ⟨y, h1, hy⟩ | ⟨da, h1, h2⟩
  · exact hl.rdE h1 S fun e s' => ke e s' y hy
  · refine hl.rdK h1 S fun v s' fz' av nx sub S' D hd => ?_
    rcases z8 h2 with ⟨y, h3, hy⟩ | ⟨db, h3, h4⟩
    · exact hr.rdE h3 S' fun e s₂ nx₂ R => ke e s₂ y hy (nx.trans nx₂) (yP sub R)
    · obtain ⟨d, h6, hr'⟩ := qQz h4
      refine hr.rdK h3 S' fun v₂ s₂ fz₂ av₂ nx₂ sub₂ S₂ D₂ hd₂ => ?_
      exact hp σ s₂ fz₂ α v v₂ _ _ d S₂ (S₂.lrep O.X (D.mono sub₂) hd) (S₂.lrep O.X D₂ hd₂) h6 Q E
        (fun v₃ s₃ fz₃ av₃ q₃ n₃ sub₃ S₃ D₃ => k v₃ s₃ fz₃ av₃ (hr'.trans q₃) ((nx.trans nx₂).trans n₃) (fun p hp => sub₃ p (sub₂ p (sub p hp))) S₃ D₃) fun _ _ _ q => vBz q
set_option tactic.hygienic true in
theorem z7 (O : Ok Γ n fn c) : hMz Γ fn c (binaryOp .Add) xK := by
  intro σ s fz α a b da db d S la lb e
  unfold xK at e
  split at e
  · obtain ⟨t, rfl⟩ := la
    obtain ⟨u, rfl⟩ := lb
    obtain rfl := Option.some.inj e
    exact uE fun Q E k => add_int (k _ _ fz ⟨rfl, rfl, id⟩ (fun _ hp => hp) S (Rep.int _ _))
  · split at e
    · rename_i x y hlen
      obtain rfl := Option.some.inj e
      obtain ⟨a', vs, m, rfl, ha, ra⟩ := la
      obtain ⟨b', ws, m', rfl, hb, rb⟩ := lb
      have hsz : vs.toArray.size + ws.toArray.size ≤ sizeLine := by
        have h1 := ra.length; have h2 := rb.length
        simp only [List.size_toArray, sizeLine, lim] at *
        omega
      refine uE fun Q E k => P.add_list ha hb (k _ _ ((s.heap.objs.size, x4z (vs ++ ws) 0) :: fz) ⟨rfl, rfl, id⟩ (fun _ hp => List.mem_cons_of_mem _ hp) ?_ ?_) hsz
      · have := S.push O.G (x4z (vs ++ ws) 0)
        simpa [x4z] using this
      · exact Rep.list (.inr (.head _)) ((ra.append rb).mono Dk.of_cons)
    · cases e
  · cases e
theorem y9 : hMz Γ fn c (binaryOp .Sub) uK := by
  intro σ s fz α a b da db d S la lb e
  unfold uK at e
  split at e
  · obtain ⟨t, rfl⟩ := la
    obtain ⟨u, rfl⟩ := lb
    obtain rfl := Option.some.inj e
    exact uE fun Q E k => sub_int (k _ _ fz ⟨rfl, rfl, id⟩ (fun _ hp => hp) S (Rep.int _ _))
  · cases e
theorem yQz : hMz Γ fn c (binaryOp .Mod) modI := by
  intro σ s fz α a b da db d S la lb e
  unfold modI at e
  split at e
  · split at e
    · cases e
    · rename_i hb
      obtain ⟨t, rfl⟩ := la
      obtain ⟨u, rfl⟩ := lb
      obtain rfl := Option.some.inj e
      exact uE fun Q E k => mod_int hb (k _ _ fz ⟨rfl, rfl, id⟩ (fun _ hp => hp) S (Rep.int _ _))
  · cases e
theorem zS (O : Ok Γ n fn c) {l r : Expr} {op : Operator} {pos : Pos} {f : PyData → PyData → Option PyData} {el er : EX} (hp : hMz Γ fn c (binaryOp op) f) (hl : SimE Γ fn c (eval l (fn.env c)) el) (hr : SimE Γ fn c (eval r (fn.env c)) er) :
    SimE Γ fn c (eval (.BinOp l op r pos) (fn.env c)) (op2 f el er) := zOq O hl hr (fun _ h => wpAny_BinOp h) hp
end
section
variable {Γ : Gl} {n : Nat} {fn : Fn} {c : Dy} {fz : List (Addr × Obj)} {α : Nat → Addr} {σ : Sta} {s : Shared}
set_option tactic.hygienic true in
theorem zHz (O : Ok Γ n fn c) : hMz Γ fn c (binaryOp .Mult) kOz := by
  intro σ s fz α a b da db d S la lb e
  unfold kOz at e
  split at e
  · split at e
    · rename_i a' b' hb
      obtain ⟨t, rfl⟩ := la
      obtain ⟨u, rfl⟩ := lb
      obtain rfl := Option.some.inj e
      exact uE fun Q E k => mul_int (k _ _ fz ⟨rfl, rfl, id⟩ (fun _ hp => hp) S (Rep.int _ _)) (IntMulOk.of_left (intBits_le_64 (by omega) (by omega)))
    · cases e
  · split at e
    · rename_i l k' hb
      obtain rfl := Option.some.inj e
      obtain ⟨a', vs, m, rfl, ha, ra⟩ := la
      obtain ⟨u, rfl⟩ := lb
      obtain ⟨mm, μ, C⟩ := id S
      have hl := ra.length
      have hsz : vs.toArray.size * k'.toNat ≤ 2 ^ 24 := by
        rw [List.size_toArray, hl]
        have h1 : l.length * k'.toNat ≤ 1000 * 1000 := Nat.mul_le_mul hb.2.2 (by omega)
        omega
      have fold : ∀ (xs : List Value) (acc : List Value) (j : Nat), List.foldl (fun x1 x2 => x1 ++ x2) acc.toArray (List.replicate j xs.toArray) = (acc ++ (List.replicate j xs).flatten).toArray := by
        intro xs acc j
        induction j generalizing acc with
        | zero => simp
        | succ j ih => rw [List.replicate_succ, List.foldl_cons, List.append_toArray, ih, List.replicate_succ, List.flatten_cons, List.append_assoc]
      have hitems : List.foldl (fun x1 x2 => x1 ++ x2) #[] (List.replicate (if vs.toArray.isEmpty = true then 0 else k'.toNat) vs.toArray) = (List.replicate k'.toNat vs).flatten.toArray := by
        by_cases hv : vs = []
        · subst hv; simp
        · have : vs.toArray.isEmpty = false := by induction vs with | nil => exact absurd rfl hv | cons => rfl
          rw [this]
          exact (fold vs [] k'.toNat).trans (by simp)
      have rr : ∀ j : Nat, RepAll Γ (Dk Γ fz) (List.replicate j vs).flatten (List.replicate j l).flatten := fun j => by
        induction j with
        | zero => exact .nil
        | succ j ih => rw [List.replicate_succ, List.replicate_succ, List.flatten_cons, List.flatten_cons]; exact ra.append ih
      obtain ⟨led, NL, off, ho, hc⟩ := C.led
      refine uE fun Q E k => mul_list C.F NL ha (by omega) (by omega) hsz fun h' F' N' => ?_
      rw [hitems] at N'
      have hget := (N' _ (.head _)).1
      have C' := C.again ho hc F' fun p hp => N' p (List.mem_cons_of_mem _ hp)
      refine k _ _ ((s.heap.objs.size, x4z (List.replicate k'.toNat vs).flatten 0) :: fz) ⟨rfl, rfl, id⟩ (fun _ hp => List.mem_cons_of_mem _ hp) ?_ (Rep.list (.inr (.head _)) ((rr _).mono Dk.of_cons))
      refine St.freeze1 ⟨_, _, C'⟩ hget (zMz S.fr) (zLz S.fr) (fun j sl ho => ?_) fun x ca hx hl => ?_
      · obtain ⟨_, ⟨o', h2, _⟩, _⟩ := C.own j sl ho
        exact Nat.ne_of_lt (Heap.lt_size h2)
      · obtain ⟨o', h2⟩ := wA S O.G.all hx hl
        exact Nat.ne_of_lt (Heap.lt_size h2)
    · cases e
  · cases e
theorem xM {h : Heap} {a : Addr} {vs : List Value} {m : Nat} (ha : h.get? a = some (x4z vs m)) : h.IsList a vs.toArray := ⟨_, ha, rfl, m, rfl⟩
theorem jY {h : Heap} {a : Addr} {vs : List Value} {m : Nat} (ha : h.get? a = some (tobj vs m)) : IsTup h a vs.toArray := ⟨_, ha, rfl, m, rfl⟩
theorem zKz {D : Addr → Obj → Prop} {k : Int} {d : PyData} : ∀ {ks : List Int} {vs : List Value} {ds : List PyData}, ks.length = vs.length → RepAll Γ D vs ds → vD k ((ks.map PyData.int).zip ds) = some d →
    ∃ v, valueAt (ks.zip vs) k = some v ∧ Rep Γ D v d
  | [], _, _, _, _, e => by simp [vD] at e
  | _ :: _, [], _, hl, _, _ => by simp at hl
  | j :: ks, v :: vs, _, hl, .cons (d := d') r1 r2, e => by
    simp only [List.map_cons, List.zip_cons_cons, vD] at e
    by_cases hj : j = k
    · rw [if_pos hj] at e
      obtain rfl := Option.some.inj e
      exact ⟨v, by simp [valueAt, hj], r1⟩
    · rw [if_neg hj] at e
      obtain ⟨v', h1, h2⟩ := zKz (by simpa using hl) r2 e
      exact ⟨v', by simpa [valueAt, hj] using h1, h2⟩
theorem jA {D : Addr → Obj → Prop} {k : Int} : ∀ {ks : List Int} {vs : List Value} {ds : List PyData}, ks.length = vs.length → RepAll Γ D vs ds → vD k ((ks.map PyData.int).zip ds) = none → valueAt (ks.zip vs) k = none
  | [], _, _, _, _, _ => by simp [valueAt]
  | _ :: _, [], _, hl, _, _ => by simp at hl
  | j :: ks, v :: vs, _, hl, .cons r1 r2, e => by
    simp only [List.map_cons, List.zip_cons_cons, vD] at e
    by_cases hj : j = k
    · rw [if_pos hj] at e; cases e
    · rw [if_neg hj] at e
      have := jA (by simpa using hl) r2 e
      simpa [valueAt, hj] using this
theorem vNz {h : Heap} {a : Addr} {o : Obj} {kvs : List (Int × Value)} (ha : h.get? a = some o) (q : o.IsDictOf (intKind Γ.prog Γ.w) kvs) : h.DictOf (intKind Γ.prog Γ.w) a kvs := Heap.dictOf_iff.mpr ⟨o, ha, q⟩
theorem idx_get {D : Addr → Obj → Prop} {vs : List Value} {ds : List PyData} {k : Int} {d : PyData} (r : RepAll Γ D vs ds) (e : idx? ds k = some d) :
    ∃ v j, Rep Γ D v d ∧ vs[j]? = some v ∧ seqIndex? k vs.length = some j ∧ -(2 ^ 63) ≤ k ∧ k < 2 ^ 63 ∧ (0 ≤ k → j = k.toNat) ∧ (k < 0 → -(vs.length : Int) ≤ k ∧ j = (k + vs.length).toNat) := by
  have hl := r.length
  unfold idx? at e
  split at e
  · rename_i h0
    split at e
    · rename_i h1
      obtain ⟨v, hv, hr⟩ := r.get e
      have := (List.getElem?_eq_some_iff.mp hv).1
      exact ⟨v, k.toNat, hr, hv, seqIndex_of h0 (by omega), by omega, by omega, fun _ => rfl, fun h => by omega⟩
    · cases e
  · rename_i h0
    split at e
    · rename_i h1
      rw [← hl] at e
      obtain ⟨v, hv, hr⟩ := r.get e
      exact ⟨v, _, hr, hv, PySem.seqIndex_neg (by omega) (by omega), by omega, by omega, fun h => by omega, fun _ => ⟨by omega, rfl⟩⟩
    · cases e
theorem prim_item {value slice : Expr} (hs : ∀ o i, subscripted slice false o i = operate [o, i] (getItem o i)) : hMz Γ fn c (subscriptTail value slice) zX := by
  intro σ s fz α a b da db d S la lb e
  unfold zX at e
  split at e
  · obtain ⟨a', vs, m, rfl, ha, ra⟩ := la
    obtain ⟨u, rfl⟩ := lb
    obtain ⟨v, j, hr, hv, hj, hlo, hhi, h0, h1⟩ := idx_get ra e
    have hL := xM ha
    refine uE fun Q E k => tail_any hL.typeIs slot_list_getitem.lookup ?_ (hs _ _)
    have fin := k v s fz (Nx.refl s) (fun _ hp => hp) S hr
    rename_i kk
    by_cases hk : 0 ≤ kk
    · exact wpAny_getItem_list hL hk hhi (by rw [← h0 hk]; simpa using hv) fin
    · obtain ⟨h2, h3⟩ := h1 (by omega)
      exact wpAny_getItem_list_neg hL (by omega) (by simpa using h2) hlo (by rw [List.size_toArray, ← h3]; simpa using hv) fin
  · obtain ⟨a', vs, m, rfl, ha, ra⟩ := la
    obtain ⟨u, rfl⟩ := lb
    obtain ⟨v, j, hr, hv, hj, hlo, hhi, h0, h1⟩ := idx_get ra e
    have hT := jY ha
    refine uE fun Q E k => tail_any hT.typeIs slot_tuple_getitem.lookup (getItem_tuple hT hlo hhi (by simpa using hj) (by simpa using hv) (k v s fz (Nx.refl s) (fun _ hp => hp) S hr)) (hs _ _)
  · obtain ⟨a', o, ks, vs, ds, rfl, rfl, ha, hm, hl, q, r⟩ := la
    obtain ⟨u, rfl⟩ := lb
    obtain ⟨v, hv, hr⟩ := zKz hl r e
    have hD := vNz ha q
    exact uE fun Q E k => tail_any hD.typeIs slot_dict_getitem.lookup (wpAny_getItem_of (intKind_is _ _ _ _) hD.mapOf hv (k v _ fz ⟨rfl, rfl, id⟩ (fun _ hp => hp) S hr)) (hs _ _)
  · cases e
theorem zK (O : Ok Γ n fn c) {value slice : Expr} {pos : Pos} {el er : EX} (hl : SimE Γ fn c (eval value (fn.env c)) el) (hr : SimE Γ fn c (eval slice (fn.env c)) er)
    (hs : ∀ o i, subscripted slice false o i = operate [o, i] (getItem o i)) : SimE Γ fn c (eval (.Subscript value slice pos) (fn.env c)) (op2 zX el er) :=
  zOq O hl hr (fun _ h => Subscript_ h) (prim_item hs)
theorem prim_neg : yIq Γ fn c (unaryOp .USub) negI := by
  intro σ s fz α a da d S la e
  unfold negI at e
  split at e
  · obtain ⟨t, rfl⟩ := la
    obtain rfl := Option.some.inj e
    exact uE fun Q E k => neg_int (k _ _ fz ⟨rfl, rfl, id⟩ (fun _ hp => hp) S (Rep.int _ _))
  · cases e
theorem xHz (O : Ok Γ n fn c) {x : Expr} {pos : Pos} {el : EX} (hl : SimE Γ fn c (eval x (fn.env c)) el) : SimE Γ fn c (eval (.UnaryOp .USub x pos) (fn.env c)) (op1 negI el) :=
  zPq O hl (fun _ h => UnaryOp_ h) prim_neg
theorem zXq {D : Addr → Obj → Prop} {vs : List Value} {ds : List PyData} (r : RepAll Γ D vs ds) (lo hi : Option Int) :
    RepAll Γ D ((vs.drop (lo.elim 0 (clipAt vs.length))).take (hi.elim vs.length (clipAt vs.length) - lo.elim 0 (clipAt vs.length))) (cutL ds lo hi) := by
  unfold cutL
  rw [r.length]
  exact (r.drop _).take _
structure SimO (Γ : Gl) (fn : Fn) (c : Dy) (t : Sem Value) (e : Option EX) : Prop where
  go : ∀ σ r s fz α, optI e σ = some r → St Γ fn c fz α σ s.heap → ∀ (Q E : Value → Shared → Prop),
    (∀ v s' fz' i, r = .ok i → Nx s s' → (∀ p ∈ fz, p ∈ fz') → St Γ fn c fz' α σ s'.heap → IsPart v i → Q v s') →
    (∀ e s' x, r = .error x → Nx s s' → vG fn c fz x e s'.heap → E (.ref e) s') →
    wpAny (model Γ.prog Γ.w) (fn.A c) t Q E s
theorem SimO.goK {t : Sem Value} {f : Option EX} (H : SimO Γ fn c t f) {a : Option Int} {s : Shared} (h1 : optI f σ = some (.ok a)) (S : St Γ fn c fz α σ s.heap) {Q E : Value → Shared → Prop}
    (k : ∀ v s' fz', Nx s s' → (∀ p ∈ fz, p ∈ fz') → St Γ fn c fz' α σ s'.heap → IsPart v a → Q v s') : wpAny (model Γ.prog Γ.w) (fn.A c) t Q E s :=
  H.go σ _ s fz α h1 S Q E (fun v s' fz' av q nx sub S' D => by injection q with q; subst q; exact k v s' fz' nx sub S' D) fun _ _ _ q => vBz q
theorem SimO.goE {t : Sem Value} {f : Option EX} (H : SimO Γ fn c t f) {y : Addr} {s : Shared} (h1 : optI f σ = some (.error y)) (S : St Γ fn c fz α σ s.heap) {Q E : Value → Shared → Prop}
    (ke : ∀ e s', Nx s s' → vG fn c fz y e s'.heap → E (.ref e) s') : wpAny (model Γ.prog Γ.w) (fn.A c) t Q E s :=
  H.go σ _ s fz α h1 S Q E (fun _ _ _ _ q => q3z q) fun e s' x q nx R => by injection q with q; subst q; exact ke e s' nx R
theorem y6 {env : Env} : SimO Γ fn c (evalPart none env) none := by
  refine ⟨?_⟩
  intro σ r s fz α e S Q E k _
  obtain rfl := Option.some.inj e
  exact wpAny_pure (k _ s fz _ rfl (Nx.refl s) (fun _ hp => hp) S .none)
theorem qK (O : Ok Γ n fn c) {x : Expr} {ex : EX} (h : SimE Γ fn c (eval x (fn.env c)) ex) : SimO Γ fn c (evalPart (some x) (fn.env c)) (some ex) := by
  refine ⟨?_⟩
  intro σ r s fz α e S Q E k ke
  rcases z8 e with ⟨y, h1, hy⟩ | ⟨d, h1, h2⟩
  · exact h.rdE h1 S fun e s' => ke e s' y hy
  · refine h.rdK h1 S fun v s' fz' av nx sub S' D hd => ?_
    have hL := S'.lrep O.X D hd
    split at h2
    · split at h2
      · obtain rfl := Option.some.inj h2
        obtain ⟨t, rfl⟩ := hL
        exact k _ s' fz' _ rfl nx sub S' (.int _ _)
      · cases h2
    · cases h2
theorem wQ (O : Ok Γ n fn c) {value : Expr} {lower upper : Option Expr} {p pos : Pos} {e : EX} {lo hi : Option EX} (h : SimE Γ fn c (eval value (fn.env c)) e) (hlo : SimO Γ fn c (evalPart lower (fn.env c)) lo) (hhi : SimO Γ fn c (evalPart upper (fn.env c)) hi) :
    SimE Γ fn c (eval (.Subscript value (.Slice lower upper none p) pos) (fn.env c)) (z7z e lo hi) := by
  refine ⟨?_⟩
  intro σ r s fz α e S Q E k ke
  refine Subscript_ ?_
  rcases z8 e with ⟨y, h1, hy⟩ | ⟨d, h1, h2⟩
  · exact h.rdE h1 S fun e s' => ke e s' y hy
  refine h.rdK h1 S fun v s₁ fz₁ av nx₁ sub₁ S₁ D₁ hd₁ => ?_
  refine wpAny_Slice ?_
  rcases z8 h2 with ⟨y, h3, hy⟩ | ⟨i, h3, h4⟩
  · exact hlo.goE h3 S₁ fun e s' nx R => ke e s' y hy (nx₁.trans nx) (yP sub₁ R)
  refine hlo.goK h3 S₁ fun vl s₂ fz₂ nx₂ sub₂ S₂ pl => ?_
  rcases z8 h4 with ⟨y, h5, hy⟩ | ⟨j, h5, h6⟩
  · exact hhi.goE h5 S₂ fun e s' nx R => ke e s' y hy ((nx₁.trans nx₂).trans nx) (yP (fun p hp => sub₂ p (sub₁ p hp)) R)
  refine hhi.goK h5 S₂ fun vu s₃ fz₃ nx₃ sub₃ S₃ pu => ?_
  rw [evalPart_none]
  refine wpAny_pure ?_
  have hL := S₃.lrep O.X (D₁.mono fun p hp => sub₃ p (sub₂ p hp)) hd₁
  split at h6
  · split at h6
    · rename_i l hlen
      obtain rfl := Option.some.inj h6
      obtain ⟨a', vs, m, rfl, ha, ra⟩ := hL
      have hl := ra.length
      have S₄ := S₃.push O.G { cls := .type "slice", data := .fields #[vl, vu, .none] }
      have ha' := Heap.get?_push_of_some ({ cls := .type "slice", data := .fields #[vl, vu, .none] } : Obj) ha
      have hI := xM ha'
      refine tail_any (s := { s₃ with heap := s₃.heap.push { cls := .type "slice", data := .fields #[vl, vu, .none] } }) hI.typeIs slot_list_getitem.lookup (wpAny_getItem_list_slice hI (Heap.IsSliceOf.new ..) pl pu .none (by simp) ?_ (by rw [List.size_toArray, hl]; simp only [sizeLine, lim] at *; omega)) rfl
      have rc := zXq ra i j
      rw [slicePick_plain]
      simp only [List.size_toArray]
      have S₅ := S₄.push O.G (x4z ((vs.drop (i.elim 0 (clipAt vs.length))).take (j.elim vs.length (clipAt vs.length) - i.elim 0 (clipAt vs.length))) 0)
      exact k _ _ _ _ rfl (((nx₁.trans nx₂).trans nx₃).trans ⟨rfl, rfl, id⟩) (fun p hp => List.mem_cons_of_mem _ (List.mem_cons_of_mem _ (sub₃ p (sub₂ p (sub₁ p hp))))) S₅ (Rep.list (.inr (.head _)) ((rc.mono Dk.of_cons).mono Dk.of_cons))
    · cases h6
  · cases h6
theorem uPz {D : Addr → Obj → Prop} {vs : List Value} {ds : List PyData} (r : RepAll Γ D vs ds) : RepAll Γ D vs.reverse ds.reverse := by
  induction vs generalizing ds with
  | nil => cases r; exact .nil
  | cons v vs ih =>
    cases r with
    | cons h r => rw [List.reverse_cons, List.reverse_cons]; exact (ih r).append (.one h)
theorem SimE_rev (O : Ok Γ n fn c) {value : Expr} {p p1 p2 pos : Pos} {kd : Nat} {e : EX} (h : SimE Γ fn c (eval value (fn.env c)) e) :
    SimE Γ fn c (eval (.Subscript value (.Slice none none (some (.UnaryOp .USub (.Constant (.int 1) kd p1) p2)) p) pos) (fn.env c)) (revC e) := by
  refine ⟨?_⟩
  intro σ r s fz α e S Q E k ke
  refine Subscript_ ?_
  rcases z8 e with ⟨y, h1, hy⟩ | ⟨d, h1, h2⟩
  · exact h.rdE h1 S fun e s' => ke e s' y hy
  refine h.rdK h1 S fun v s₁ fz₁ av nx₁ sub₁ S₁ D₁ hd₁ => ?_
  refine wpAny_Slice ?_
  rw [evalPart_none]
  refine wpAny_pure ?_
  refine wpAny_pure ?_
  rw [evalPart_some]
  refine UnaryOp_ (wpAny_Constant_int (neg_int ?_))
  obtain ⟨av', h3, rfl⟩ := vS h2
  obtain ⟨d₂, h4, rfl⟩ := Option.map_eq_some_iff.mp h3
  have hL := S₁.lrep O.X D₁ hd₁
  dsimp only at h4
  split at h4
  · split at h4
    · rename_i l hlen
      obtain rfl := Option.some.inj h4
      obtain ⟨a', vs, m, rfl, ha, ra⟩ := hL
      have hl := ra.length
      have S₄ := S₁.push O.G { cls := .type "slice", data := .fields #[.none, .none, .int (-1) (s₁.toks + 1)] }
      have ha' := Heap.get?_push_of_some ({ cls := .type "slice", data := .fields #[.none, .none, .int (-1) (s₁.toks + 1)] } : Obj) ha
      have hI := xM ha'
      refine tail_any (s := { s₁ with heap := s₁.heap.push { cls := .type "slice", data := .fields #[.none, .none, .int (-1) (s₁.toks + 1)] }, toks := s₁.toks + 1 + 1 }) hI.typeIs slot_list_getitem.lookup
        (wpAny_getItem_list_slice hI (Heap.IsSliceOf.new ..) .none .none (.int (-1) _) (by simp) ?_ (by rw [List.size_toArray, hl]; simp only [sizeLine, lim] at *; omega)) rfl
      rw [krv_pick]
      have S₅ := S₄.push O.G (x4z vs.reverse 0)
      exact k _ _ _ _ rfl (nx₁.trans ⟨rfl, rfl, id⟩) (fun p hp => List.mem_cons_of_mem _ (List.mem_cons_of_mem _ (sub₁ p hp))) S₅ (Rep.list (.inr (.head _)) (((uPz ra).mono Dk.of_cons).mono Dk.of_cons))
    · cases h4
  · cases h4
end
end
section
open PySem PySem.W PySem.Calls PySem.Spec PySem.SeqAt PyProof.Rows
section
variable {Γ : Gl} {n : Nat} {fn : Fn} {c : Dy} {fz : List (Addr × Obj)} {α : Nat → Addr} {σ : Sta} {s : Shared}
theorem w5z {D : Addr → Obj → Prop} {h : Heap} (k : ∀ a o, D a o → h.get? a = some o) {vs : List Value} {ds : List PyData} (r : RepAll Γ D vs ds) : PyData.canLayAll0 ds = true → ∃ as, ReadsAll h vs ds as :=
  RepAll.rec (motive_1 := fun v d _ => d.canLay0 = true → ∃ as, Reads h v d as) (motive_2 := fun vs ds _ => PyData.canLayAll0 ds = true → ∃ as, ReadsAll h vs ds as)
    (fun _ => ⟨_, .none⟩) (fun b _ => ⟨_, .bool b⟩) (fun i t _ => ⟨_, .int i t⟩) (fun x t _ => ⟨_, .str x t⟩)
    (fun ha _ ih e => let ⟨_, q⟩ := ih (by simpa [PyData.canLay0] using e); ⟨_, .list (k _ _ ha) rfl rfl q⟩) (fun ha _ ih e => let ⟨_, q⟩ := ih (by simpa [PyData.canLay0] using e); ⟨_, .tuple (k _ _ ha) rfl rfl q⟩)
    (fun _ _ _ _ _ _ e => by simp [PyData.canLay0] at e) (fun _ => ⟨_, .nil⟩)
    (fun _ _ h1 h2 e => by
      simp only [PyData.canLayAll0, Bool.and_eq_true] at e
      obtain ⟨as, q⟩ := h1 e.1
      obtain ⟨bs, q'⟩ := h2 e.2
      exact ⟨_, .cons q q'⟩) r
theorem zEz {D : Addr → Obj → Prop} {h : Heap} (k : ∀ a o, D a o → h.get? a = some o) {v : Value} {d : PyData} (l : LRep Γ D h v d) (e : d.canLay0 = true) : ∃ as, Reads h v d as := by
  cases d with
  | none => obtain rfl : v = .none := l; exact ⟨_, .none⟩
  | bool b => obtain rfl : v = .bool b := l; exact ⟨_, .bool b⟩
  | int i => obtain ⟨t, rfl⟩ := l; exact ⟨_, .int i t⟩
  | str x => obtain ⟨t, rfl⟩ := l; exact ⟨_, .str x t⟩
  | list ds =>
    obtain ⟨a, vs, m, rfl, ha, r⟩ := l
    obtain ⟨as, q⟩ := w5z k r (by simpa [PyData.canLay0] using e)
    exact ⟨_, .list ha rfl rfl q⟩
  | tuple ds =>
    obtain ⟨a, vs, m, rfl, ha, r⟩ := l
    obtain ⟨as, q⟩ := w5z k r (by simpa [PyData.canLay0] using e)
    exact ⟨_, .tuple ha rfl rfl q⟩
  | dict kvs => simp [PyData.canLay0] at e
noncomputable def jAz (Γ : Gl) (fn : Fn) (c : Dy) (prim : Value → Value → Sem Value) (f : PyData → PyData → Option Bool) : Prop :=
  ∀ σ s fz α a b da db r, St Γ fn c fz α σ s.heap → LRep Γ (Dk Γ fz) s.heap a da → LRep Γ (Dk Γ fz) s.heap b db → f da db = some r →
    ∀ (Q E : Value → Shared → Prop), (∀ tk, Q (.bool r) { s with toks := tk }) → wpAny (model Γ.prog Γ.w) (fn.A c) (prim a b) Q E s
theorem hNz (O : Ok Γ n fn c) : (fn.A c).units + 64 < cLine := by
  have := O.units
  simp only [Around.deeper_units]
  omega
theorem z1 (O : Ok Γ n fn c) : jAz Γ fn c (compareOp .Eq) eqI := by
  intro σ s fz α a b da db r S la lb e Q E k
  unfold eqI at e
  split at e
  · rename_i hs
    obtain rfl := Option.some.inj e
    obtain ⟨h1, h2⟩ := Bool.and_eq_true_iff.mp hs
    obtain ⟨as, ra⟩ := zEz (S.heapD O.X) la (canLay_of_shaped h1)
    obtain ⟨bs, rb⟩ := zEz (S.heapD O.X) lb (canLay_of_shaped h2)
    exact eq_dataH ra rb h1 h2 (hNz O) (k _)
  · cases e
theorem wI (O : Ok Γ n fn c) : jAz Γ fn c (compareOp .NotEq) neI := by
  intro σ s fz α a b da db r S la lb e Q E k
  obtain ⟨q, e', rfl⟩ := Option.map_eq_some_iff.mp e
  clear e
  unfold eqI at e'
  split at e'
  · rename_i hs
    obtain rfl := Option.some.inj e'
    obtain ⟨h1, h2⟩ := Bool.and_eq_true_iff.mp hs
    obtain ⟨as, ra⟩ := zEz (S.heapD O.X) la (canLay_of_shaped h1)
    obtain ⟨bs, rb⟩ := zEz (S.heapD O.X) lb (canLay_of_shaped h2)
    exact ne_dataH ra rb h1 h2 (hNz O) (k _)
  · cases e'
theorem zIz : jAz Γ fn c (compareOp .Lt) ltI := by
  intro σ s fz α a b da db r S la lb e Q E k
  unfold ltI at e
  split at e
  · obtain ⟨t, rfl⟩ := la
    obtain ⟨u, rfl⟩ := lb
    obtain rfl := Option.some.inj e
    exact lt_int (k _)
  · cases e
theorem wLz : jAz Γ fn c (compareOp .Gt) gtI := by
  intro σ s fz α a b da db r S la lb e Q E k
  unfold gtI ltI at e
  split at e
  · obtain ⟨t, rfl⟩ := la
    obtain ⟨u, rfl⟩ := lb
    obtain rfl := Option.some.inj e
    exact gt_int (k _)
  · cases e
theorem hVz : jAz Γ fn c (compareOp .LtE) leI := by
  intro σ s fz α a b da db r S la lb e Q E k
  unfold leI at e
  split at e
  · obtain ⟨t, rfl⟩ := la
    obtain ⟨u, rfl⟩ := lb
    obtain rfl := Option.some.inj e
    exact PyProof.Rows.le_int (k _)
  · cases e
theorem k4 {D : Addr → Obj → Prop} : ∀ {vs : List Value} {ds : List PyData} {ns : List Int}, RepAll Γ D vs ds → wN ds = some ns → IntsAre vs ns
  | _, _, _, .nil, e => by cases e; exact .nil
  | _, _, ns, .cons (v := v) (d := d) h1 h2, e => by
    cases d with
    | int i =>
      obtain ⟨r, e1, rfl⟩ := Option.map_eq_some_iff.mp (show (wN _).map (i :: ·) = some ns from e)
      cases h1
      exact .cons _ _ (k4 h2 e1)
    | _ => cases e
theorem q9z {k : Int} : ∀ {vs : List Value} {ns : List Int}, IntsAre vs ns → vs.any (fun y => match y with | .int i _ => i == k | _ => false) = ns.contains k
  | _, _, .nil => rfl
  | _, _, .cons i t r => by
    rw [List.any_cons, List.contains_cons, q9z r]
    have e : (i == k) = (k == i) := by
      by_cases h : i = k
      · subst h; rfl
      · rw [beq_eq_false_iff_ne.mpr h, beq_eq_false_iff_ne.mpr (Ne.symm h)]
    exact congrArg (· || _) e
theorem qTz {y : Value} : ∀ {vs : List Value} {ns : List Int}, IntsAre vs ns → y ∈ vs → ∃ i t, y = .int i t
  | _, _, .nil, h => by cases h
  | _, _, .cons _ _ r, h => by
    rcases List.mem_cons.mp h with rfl | h
    · exact ⟨_, _, rfl⟩
    · exact qTz r h
theorem k2z {D : Addr → Obj → Prop} {x : Str} : ∀ {vs : List Value} {ds : List PyData} {xs : List Str}, RepAll Γ D vs ds → uLz ds = some xs →
    vs.any (fun y => match y with | .str z _ => z.cps.toList == x.cps.toList | _ => false) = xs.contains x ∧ ∀ y ∈ vs, ∃ z t, y = .str z t
  | _, _, _, .nil, e => by cases e; exact ⟨rfl, fun _ h => by cases h⟩
  | _, _, xs, .cons (v := v) (d := d) h1 h2, e => by
    cases d with
    | str z =>
      obtain ⟨r, e1, rfl⟩ := Option.map_eq_some_iff.mp (show (uLz _).map (z :: ·) = some xs from e)
      cases h1
      obtain ⟨q1, q2⟩ := k2z (x := x) h2 e1
      refine ⟨?_, fun y hy => ?_⟩
      · rw [List.any_cons, List.contains_cons, q1]
        congr 1
        rw [Bool.eq_iff_iff]
        simp only [beq_iff_eq]
        constructor
        · intro h; cases z; cases x; simp only [Str.mk.injEq]; exact (Array.toList_inj.mp h).symm
        · rintro rfl; rfl
      · rcases List.mem_cons.mp hy with rfl | hy
        · exact ⟨_, _, rfl⟩
        · exact q2 y hy
    | _ => cases e
theorem yRz : jAz Γ fn c (compareOp .In) inI := by
  intro σ s fz α a b da db r S la lb e Q E k
  match da, db, e, la, lb with
  | .int kk, .list l, e, la, lb =>
    obtain ⟨ns, e1, rfl⟩ := Option.map_eq_some_iff.mp (show (wN l).map _ = some r from e)
    obtain ⟨t, rfl⟩ := la
    obtain ⟨b', vs, m, rfl, hb, rb⟩ := lb
    have hI := k4 rb e1
    refine SeqRoads2.in_list (fun y => match y with | .int i _ => i == kk | _ => false) (fun y hy => ?_) hb (by rw [List.any_toArray, q9z hI]; exact k _)
    obtain ⟨i, u, rfl⟩ := qTz hI (by simpa using hy)
    exact MeetsSeq.EqGives.int _ _ _ _
  | .int kk, .dict kvs, e, la, lb =>
    obtain rfl := Option.some.inj (show some _ = some r from e)
    obtain ⟨t, rfl⟩ := la
    obtain ⟨b', o, ks, vs, ds, rfl, rfl, ha, hm, hl, q, rr⟩ := lb
    have hD := vNz ha q
    have hv : (valueAt (ks.zip vs) kk).isSome = (vD kk ((ks.map PyData.int).zip ds)).isSome := by
      cases hg : vD kk ((ks.map PyData.int).zip ds) with
      | none => rw [jA hl rr hg]; rfl
      | some d => obtain ⟨v, h1, _⟩ := zKz hl rr hg; rw [h1]; rfl
    exact wpAny_in_of (intKind_is _ _ _ _) hm hD.mapOf (by rw [hv]; exact k _)
  | .str x, .tuple l, e, la, lb =>
    obtain ⟨xs, e1, rfl⟩ := Option.map_eq_some_iff.mp (show (uLz l).map _ = some r from e)
    obtain ⟨t, rfl⟩ := la
    obtain ⟨b', vs, m, rfl, hb, rb⟩ := lb
    obtain ⟨q1, q2⟩ := k2z (x := x) rb e1
    refine SeqRoads2.in_tuple (fun y => match y with | .str z _ => z.cps.toList == x.cps.toList | _ => false) (fun y hy => ?_) hb (by rw [List.any_toArray, q1]; exact k _)
    obtain ⟨z, u, rfl⟩ := q2 y (by simpa using hy)
    exact SeqRoads2.EqGives.str _ _ _ _
theorem q7 : jAz Γ fn c (compareOp .NotIn) uTz := by
  intro σ s fz α a b da db r S la lb e Q E k
  obtain ⟨r', e', rfl⟩ := Option.map_eq_some_iff.mp (show (inI da db).map not = some r from e)
  clear e
  match da, db, e', la, lb with
  | .int kk, .list l, e, la, lb =>
    obtain ⟨ns, e1, rfl⟩ := Option.map_eq_some_iff.mp (show (wN l).map _ = some r' from e)
    obtain ⟨t, rfl⟩ := la
    obtain ⟨b', vs, m, rfl, hb, rb⟩ := lb
    have hI := k4 rb e1
    refine SeqRoads2.notIn_list (fun y => match y with | .int i _ => i == kk | _ => false) (fun y hy => ?_) hb (by rw [List.any_toArray, q9z hI]; exact k _)
    obtain ⟨i, u, rfl⟩ := qTz hI (by simpa using hy)
    exact MeetsSeq.EqGives.int _ _ _ _
  | .int kk, .dict kvs, e, la, lb =>
    obtain rfl := Option.some.inj (show some _ = some r' from e)
    obtain ⟨t, rfl⟩ := la
    obtain ⟨b', o, ks, vs, ds, rfl, rfl, ha, hm, hl, q, rr⟩ := lb
    have hD := vNz ha q
    have hv : (valueAt (ks.zip vs) kk).isSome = (vD kk ((ks.map PyData.int).zip ds)).isSome := by
      cases hg : vD kk ((ks.map PyData.int).zip ds) with
      | none => rw [jA hl rr hg]; rfl
      | some d => obtain ⟨v, h1, _⟩ := zKz hl rr hg; rw [h1]; rfl
    exact wpAny_notIn_of (intKind_is _ _ _ _) hm hD.mapOf (by rw [hv]; exact k _)
  | .str x, .tuple l, e, la, lb =>
    obtain ⟨xs, e1, rfl⟩ := Option.map_eq_some_iff.mp (show (uLz l).map _ = some r' from e)
    obtain ⟨t, rfl⟩ := la
    obtain ⟨b', vs, m, rfl, hb, rb⟩ := lb
    obtain ⟨q1, q2⟩ := k2z (x := x) rb e1
    refine SeqRoads2.notIn_tuple (fun y => match y with | .str z _ => z.cps.toList == x.cps.toList | _ => false) (fun y hy => ?_) hb (by rw [List.any_toArray, q1]; exact k _)
    obtain ⟨z, u, rfl⟩ := q2 y (by simpa using hy)
    exact SeqRoads2.EqGives.str _ _ _ _
theorem cmp_rd (O : Ok Γ n fn c) {tl tr : Sem Value} {prim : Value → Value → Sem Value} {f : PyData → PyData → Option Bool} {el er : EX} (hl : SimE Γ fn c tl el) (hr : SimE Γ fn c tr er) (hp : jAz Γ fn c prim f) {r : Except Addr Bool}
    (e : yR f el er σ = some r) (S : St Γ fn c fz α σ s.heap) {Q E : Value → Shared → Prop} (k : ∀ s' fz' b, r = .ok b → Nx s s' → (∀ p ∈ fz, p ∈ fz') → St Γ fn c fz' α σ s'.heap → Q (.bool b) s')
    (ke : ∀ e s' x, r = .error x → Nx s s' → vG fn c fz x e s'.heap → E (.ref e) s') :
    wpAny (model Γ.prog Γ.w) (fn.A c) tl (fun a s₁ => wpAny (model Γ.prog Γ.w) (fn.A c) tr (fun b s₂ => wpAny (model Γ.prog Γ.w) (fn.A c) (prim a b) Q E s₂) E s₁) E s := by
  rcases z8 e with ⟨y, h1, hy⟩ | ⟨da, h1, h2⟩
  · exact hl.rdE h1 S fun e s' => ke e s' y hy
  · refine hl.rdK h1 S fun v s' fz' av nx sub S' D hd => ?_
    rcases z8 h2 with ⟨y, h3, hy⟩ | ⟨db, h3, h4⟩
    · exact hr.rdE h3 S' fun e s₂ nx₂ R => ke e s₂ y hy (nx.trans nx₂) (yP sub R)
    · obtain ⟨b, h5, rfl⟩ := vS h4
      refine hr.rdK h3 S' fun v₂ s₂ fz₂ av₂ nx₂ sub₂ S₂ D₂ hd₂ => ?_
      exact hp σ s₂ fz₂ α v v₂ _ _ b S₂ (S₂.lrep O.X (D.mono sub₂) hd) (S₂.lrep O.X D₂ hd₂) h5 Q E fun tk => k _ fz₂ b rfl ((nx.trans nx₂).trans ⟨rfl, rfl, id⟩) (fun p hp => sub₂ p (sub p hp)) S₂
theorem zQ (O : Ok Γ n fn c) {l r : Expr} {op : CmpOp} {pos : Pos} {whole : Sem Value} {f : PyData → PyData → Option Bool} {el er : EX} (hp : jAz Γ fn c (compareOp op) f) (hl : SimE Γ fn c (eval l (fn.env c)) el) (hr : SimE Γ fn c (eval r (fn.env c)) er)
    (hm : behindInMarks op r = false) : SimB Γ fn c (isTrue (.Compare l [op] [r] pos) (fn.env c) whole) (yR f el er) := by
  refine ⟨?_⟩
  intro σ r s fz α e S Q E k ke
  exact wpAny_isTrue_Compare1 (cmp_rd O hl hr hp e S (fun s' fz' b q nx sub S' => wpAny_truthy_bool (k s' fz' b q nx sub S')) ke) hm
theorem hJ (O : Ok Γ n fn c) {l : Expr} {kd : Nat} {p1 pos : Pos} {whole : Sem Value} {el : EX} (hl : SimE Γ fn c (eval l (fn.env c)) el) :
    SimB Γ fn c (isTrue (.Compare l [.Is] [.Constant .none kd p1] pos) (fn.env c) whole) (zAz vJ el) := by
  refine ⟨?_⟩
  intro σ r s fz α e S Q E k ke
  refine wpAny_isTrue_Compare1 ?_ rfl
  rcases z8 e with ⟨y, h1, hy⟩ | ⟨da, h1, h2⟩
  · exact hl.rdE h1 S fun e s' => ke e s' y hy
  · refine hl.rdK h1 S fun v s' fz' av nx sub S' D hd => ?_
    obtain ⟨b, h3, rfl⟩ := vS h2
    have hL := S'.lrep O.X D hd
    refine Constant_none (is_none_gen (wpAny_truthy_bool ?_))
    have hb : (v == .none) = b := by
      cases da with
      | none => obtain rfl : v = .none := hL; obtain rfl := Option.some.inj h3; rfl
      | bool b => obtain rfl : v = .bool b := hL; obtain rfl := Option.some.inj h3; rfl
      | int i => obtain ⟨t, rfl⟩ := hL; obtain rfl := Option.some.inj h3; rfl
      | str x => obtain ⟨t, rfl⟩ := hL; obtain rfl := Option.some.inj h3; rfl
      | list ds => obtain ⟨a, vs, m, rfl, _⟩ := hL; obtain rfl := Option.some.inj h3; rfl
      | tuple ds => obtain ⟨a, vs, m, rfl, _⟩ := hL; obtain rfl := Option.some.inj h3; rfl
      | dict kvs => obtain ⟨a, o, ks, vs, ds, rfl, _⟩ := hL; obtain rfl := Option.some.inj h3; rfl
    rw [hb]
    exact k s' fz' b rfl nx sub S'
theorem hKz (O : Ok Γ n fn c) {l : Expr} {kd : Nat} {p1 pos : Pos} {el : EX} (hl : SimE Γ fn c (eval l (fn.env c)) el) :
    SimE Γ fn c (eval (.Compare l [.Is] [.Constant .none kd p1] pos) (fn.env c)) (boolC (zAz vJ el)) := by
  refine ⟨?_⟩
  intro σ r s fz α e S Q E k ke
  refine wpAny_Compare1 ?_ rfl
  rcases z8 e with ⟨y, h0, rfl⟩ | ⟨b, h0, h9⟩
  · rcases z8 h0 with ⟨y', h1, q⟩ | ⟨da, h1, h2⟩
    · exact hl.rd h1 S (fun _ _ _ _ _ q => by cases q) fun e s' x q' => ke e s' x (by injection q' with q'; injection q with q; rw [q, q'])
    · obtain ⟨b, _, q⟩ := vS h2; cases q
  rcases z8 h0 with ⟨y', h1, q⟩ | ⟨da, h1, h2⟩
  · cases q
  · refine hl.rdK h1 S fun v s' fz' av nx sub S' D hd => ?_
    obtain ⟨b', h3, q⟩ := vS h2
    injection q with q; subst q
    obtain rfl := Option.some.inj h9
    have hL := S'.lrep O.X D hd
    refine Constant_none (is_none_gen ?_)
    have hb : (v == .none) = b := by
      cases da with
      | none => obtain rfl : v = .none := hL; obtain rfl := Option.some.inj h3; rfl
      | bool b => obtain rfl : v = .bool b := hL; obtain rfl := Option.some.inj h3; rfl
      | int i => obtain ⟨t, rfl⟩ := hL; obtain rfl := Option.some.inj h3; rfl
      | str x => obtain ⟨t, rfl⟩ := hL; obtain rfl := Option.some.inj h3; rfl
      | list ds => obtain ⟨a, vs, m, rfl, _⟩ := hL; obtain rfl := Option.some.inj h3; rfl
      | tuple ds => obtain ⟨a, vs, m, rfl, _⟩ := hL; obtain rfl := Option.some.inj h3; rfl
      | dict kvs => obtain ⟨a, o, ks, vs, ds, rfl, _⟩ := hL; obtain rfl := Option.some.inj h3; rfl
    rw [hb]
    exact k _ s' fz' _ rfl nx sub S' (Rep.bool _)
theorem qCz (O : Ok Γ n fn c) {e : Expr} {whole : Sem Value} {el : EX} (hl : SimE Γ fn c whole el) (he : isTrue e (fn.env c) whole = (do let v ← whole; standAt e.pos; holding [v] (truthy v))) :
    SimB Γ fn c (isTrue e (fn.env c) whole) (zAz hPz el) := by
  refine ⟨?_⟩
  intro σ r s fz α e S Q E k ke
  refine isTrue_plain ?_ he
  rcases z8 e with ⟨y, h1, hy⟩ | ⟨da, h1, h2⟩
  · exact hl.rdE h1 S fun e s' => ke e s' y hy
  · refine hl.rdK h1 S fun v s' fz' av nx sub S' D hd => ?_
    obtain ⟨b, h3, rfl⟩ := vS h2
    have hL := S'.lrep O.X D hd
    unfold hPz at h3
    split at h3
    · obtain rfl := Option.some.inj h3
      obtain rfl : v = .bool _ := hL
      exact wpAny_truthy_bool (k s' fz' _ rfl nx sub S')
    · cases h3
theorem zQq {x : Expr} {pos : Pos} {whole : Sem Value} {t : BX} (h : SimB Γ fn c (isTrue x (fn.env c) (eval x (fn.env c))) t) : SimB Γ fn c (isTrue (.UnaryOp .Not x pos) (fn.env c) whole) (notB t) := by
  refine ⟨?_⟩
  intro σ r s fz α e S Q E k ke
  refine isTrue_not ?_
  rcases z8 e with ⟨y, h1, hy⟩ | ⟨b, h1, h2⟩
  · exact h.goE h1 S fun e s' => ke e s' y hy
  · obtain rfl := Option.some.inj h2
    exact h.go σ _ s fz α h1 S _ _ (fun s' fz' b' q nx sub S' => by injection q with q; subst q; exact k s' fz' _ rfl nx sub S') fun _ _ _ q => by cases q
theorem xU {pos : Pos} {whole : Sem Value} : SimB Γ fn c (isTrue (.BoolOp .And [] pos) (fn.env c) whole) (yDz true) := by
  refine ⟨?_⟩
  intro σ r s fz α e S Q E k ke
  obtain rfl := Option.some.inj e
  exact isTrue_and_nil (k s fz _ rfl (Nx.refl s) (fun _ hp => hp) S)
theorem q4 {pos : Pos} {whole : Sem Value} : SimB Γ fn c (isTrue (.BoolOp .Or [] pos) (fn.env c) whole) (yDz false) := by
  refine ⟨?_⟩
  intro σ r s fz α e S Q E k ke
  obtain rfl := Option.some.inj e
  exact isTrue_or_nil (k s fz _ rfl (Nx.refl s) (fun _ hp => hp) S)
theorem xF {x : Expr} {rest : List Expr} {pos : Pos} {whole : Sem Value} {t u : BX} (h : SimB Γ fn c (isTrue x (fn.env c) (eval x (fn.env c))) t) (h' : SimB Γ fn c (isTrue (.BoolOp .And rest pos) (fn.env c) whole) u) :
    SimB Γ fn c (isTrue (.BoolOp .And (x :: rest) pos) (fn.env c) whole) (j6 t u) := by
  refine ⟨?_⟩
  intro σ r s fz α e S Q E k ke
  refine isTrue_and ?_
  rcases z8 e with ⟨y, h1, hy⟩ | ⟨b, h1, h2⟩
  · exact h.goE h1 S fun e s' => ke e s' y hy
  · refine h.goK h1 S fun s' fz' nx sub S' => ?_
    induction b with
    | true => exact h'.go σ _ s' fz' α h2 S' Q E (fun s₂ fz₂ b₂ q₂ n₂ sub₂ S₂ => k s₂ fz₂ b₂ q₂ (nx.trans n₂) (fun p hp => sub₂ p (sub p hp)) S₂) fun e s₂ x q nx₂ R => ke e s₂ x q (nx.trans nx₂) (yP sub R)
    | false => exact k s' fz' false (Option.some.inj h2).symm nx sub S'
theorem qO {x : Expr} {rest : List Expr} {pos : Pos} {whole : Sem Value} {t u : BX} (h : SimB Γ fn c (isTrue x (fn.env c) (eval x (fn.env c))) t) (h' : SimB Γ fn c (isTrue (.BoolOp .Or rest pos) (fn.env c) whole) u) :
    SimB Γ fn c (isTrue (.BoolOp .Or (x :: rest) pos) (fn.env c) whole) (orB t u) := by
  refine ⟨?_⟩
  intro σ r s fz α e S Q E k ke
  refine isTrue_or ?_
  rcases z8 e with ⟨y, h1, hy⟩ | ⟨b, h1, h2⟩
  · exact h.goE h1 S fun e s' => ke e s' y hy
  · refine h.goK h1 S fun s' fz' nx sub S' => ?_
    induction b with
    | false => exact h'.go σ _ s' fz' α h2 S' Q E (fun s₂ fz₂ b₂ q₂ n₂ sub₂ S₂ => k s₂ fz₂ b₂ q₂ (nx.trans n₂) (fun p hp => sub₂ p (sub p hp)) S₂) fun e s₂ x q nx₂ R => ke e s₂ x q (nx.trans nx₂) (yP sub R)
    | true => exact k s' fz' true (Option.some.inj h2).symm nx sub S'
theorem q3 {test body orelse : Expr} {pos : Pos} {t : BX} {a b : EX} (ht : SimB Γ fn c (isTrue test (fn.env c) (eval test (fn.env c))) t) (ha : SimE Γ fn c (eval body (fn.env c)) a) (hb : SimE Γ fn c (eval orelse (fn.env c)) b) :
    SimE Γ fn c (eval (.IfExp test body orelse pos) (fn.env c)) (qP t a b) := by
  refine ⟨?_⟩
  intro σ r s fz α e S Q E k ke
  refine IfExp_ ?_
  rcases z8 e with ⟨y, h1, hy⟩ | ⟨cc, h1, h2⟩
  · exact ht.goE h1 S fun e s' => ke e s' y hy
  · refine ht.goK h1 S fun s' fz' nx sub S' => ?_
    induction cc with
    | true => exact ha.go σ _ s' fz' α h2 S' Q E (fun v s₂ fz₂ av₂ q₂ n₂ sub₂ S₂ D => k v s₂ fz₂ av₂ q₂ (nx.trans n₂) (fun p hp => sub₂ p (sub p hp)) S₂ D) fun e s₂ x q nx₂ R => ke e s₂ x q (nx.trans nx₂) (yP sub R)
    | false => exact hb.go σ _ s' fz' α h2 S' Q E (fun v s₂ fz₂ av₂ q₂ n₂ sub₂ S₂ D => k v s₂ fz₂ av₂ q₂ (nx.trans n₂) (fun p hp => sub₂ p (sub p hp)) S₂ D) fun e s₂ x q nx₂ R => ke e s₂ x q (nx.trans nx₂) (yP sub R)
end
section
variable {Γ : Gl} {n : Nat} {fn : Fn} {c : Dy} {fz : List (Addr × Obj)} {α : Nat → Addr} {σ : Sta} {s : Shared}
theorem uQz {es : List EX} {ds : List PyData} (e : pvs es σ = some (.ok ds)) : ds.length = es.length := by
  induction es generalizing ds with
  | nil => cases e; rfl
  | cons x r ih =>
    rcases z8 e with ⟨y, _, q⟩ | ⟨d, _, h2⟩
    · cases q
    · rcases z8 h2 with ⟨y, _, q⟩ | ⟨ds', h3, h4⟩
      · cases q
      · injection (Option.some.inj h4) with q
        subst q
        rw [List.length_cons, List.length_cons, ih h3]
theorem zI {pos : Pos} : SimEs Γ fn c (spliced (backTo pos (starEach [] (fn.env c)))) (pvs []) := by
  refine ⟨?_⟩
  intro σ r s fz α e S Q E k _
  obtain rfl := Option.some.inj e
  exact spliced_none (k [] s fz [] rfl (Nx.refl s) (fun _ hp => hp) S .nil)
theorem zC {x : Expr} {rest : List Expr} {pos : Pos} {ex : EX} {exs : List EX} (h : SimE Γ fn c (eval x (fn.env c)) ex) (h' : SimEs Γ fn c (spliced (backTo pos (starEach rest (fn.env c)))) (pvs exs))
    (he : starEach (x :: rest) (fn.env c) = (false, eval x (fn.env c)) :: starEach rest (fn.env c)) : SimEs Γ fn c (spliced (backTo pos (starEach (x :: rest) (fn.env c)))) (pvs (ex :: exs)) := by
  refine ⟨?_⟩
  intro σ r s fz α e S Q E k ke
  refine spliced_more ?_ he
  rcases z8 e with ⟨y, h1, hy⟩ | ⟨d, h1, h2⟩
  · exact h.pvE h1 S fun e s' => ke e s' y hy
  · refine h.pvK h1 S fun v s' fz' nx sub S' R => ?_
    rcases z8 h2 with ⟨y, h3, hy⟩ | ⟨ds, h3, h4⟩
    · exact h'.goE h3 S' fun e s₂ nx₂ R => ke e s₂ y hy (nx.trans nx₂) (yP sub R)
    · obtain rfl := Option.some.inj h4
      refine h'.goK h3 S' fun vs s₂ fz₂ nx₂ sub₂ S₂ R₂ => ?_
      exact k _ s₂ fz₂ _ rfl (nx.trans nx₂) (fun p hp => sub₂ p (sub p hp)) S₂ (.cons (R.mono (Dk.sub sub₂)) R₂)
theorem zM (O : Ok Γ n fn c) {elts : List Expr} {k : Nat} {pos : Pos} {es : List EX} (h : SimEs Γ fn c (spliced (backTo pos (starEach elts (fn.env c)))) (pvs es)) (hn : es.length ≤ 1000) :
    SimE Γ fn c (eval (.Tuple elts k pos) (fn.env c)) (y8 es) := by
  refine ⟨?_⟩
  intro σ r s fz α e S Q E k ke
  refine wpAny_Tuple ?_
  rcases z8 e with ⟨y, h1, hy⟩ | ⟨ds, h1, h2⟩
  · exact h.goE h1 S fun e s' => ke e s' y hy
  · obtain rfl := Option.some.inj h2
    refine h.goK h1 S fun vs s' fz' nx sub S' R => ?_
    refine ⟨?_, k _ _ ((s'.heap.objs.size, tobj vs 0) :: fz') _ rfl (nx.trans ⟨rfl, rfl, id⟩) (fun p hp => List.mem_cons_of_mem _ (sub p hp)) (S'.push O.G _) (Rep.tuple (.inr (.head _)) (R.mono Dk.of_cons))⟩
    rw [R.length, uQz h1]
    simp only [sizeLine]; omega
structure Fresh (fn : Fn) (c : Dy) (fz : List (Addr × Obj)) (α : Nat → Addr) (σ : Sta) (a : Addr) : Prop where
  mine : Mine1 c fz a
  own : ∀ j sl, x6 σ j sl → α j ≠ a
  cel : ∀ x ca, fn.scope.names.lookup x = some .cell → (fn.cells c).lookup x = some ca → ca ≠ a
structure SimF (Γ : Gl) (fn : Fn) (c : Dy) (t : Sem Value) (f : FX) : Prop where
  go : ∀ σ r s fz α, f σ = some r → St Γ fn c fz α σ s.heap → ∀ (Q E : Value → Shared → Prop),
    (∀ a s' fz' l vs m, r = .ok l → Nx s s' → (∀ p ∈ fz, p ∈ fz') → St Γ fn c fz' α σ s'.heap → s'.heap.get? a = some (x4z vs m) → RepAll Γ (Dk Γ fz') vs l → Fresh fn c fz' α σ a → Q (.ref a) s') →
    (∀ e s' x, r = .error x → Nx s s' → vG fn c fz x e s'.heap → E (.ref e) s') →
    wpAny (model Γ.prog Γ.w) (fn.A c) t Q E s
theorem SimF.goK {t : Sem Value} {f : FX} (H : SimF Γ fn c t f) {l : List PyData} {s : Shared} (h1 : f σ = some (.ok l)) (S : St Γ fn c fz α σ s.heap) {Q E : Value → Shared → Prop}
    (k : ∀ a s' fz' vs m, Nx s s' → (∀ p ∈ fz, p ∈ fz') → St Γ fn c fz' α σ s'.heap → s'.heap.get? a = some (x4z vs m) → RepAll Γ (Dk Γ fz') vs l → Fresh fn c fz' α σ a → Q (.ref a) s') : wpAny (model Γ.prog Γ.w) (fn.A c) t Q E s :=
  H.go σ _ s fz α h1 S Q E (fun v s' fz' _ vs m q nx sub S' D R F => by injection q with q; subst q; exact k v s' fz' vs m nx sub S' D R F) fun _ _ _ q => vBz q
theorem SimF.goE {t : Sem Value} {f : FX} (H : SimF Γ fn c t f) {y : Addr} {s : Shared} (h1 : f σ = some (.error y)) (S : St Γ fn c fz α σ s.heap) {Q E : Value → Shared → Prop}
    (ke : ∀ e s', Nx s s' → vG fn c fz y e s'.heap → E (.ref e) s') : wpAny (model Γ.prog Γ.w) (fn.A c) t Q E s :=
  H.go σ _ s fz α h1 S Q E (fun _ _ _ _ _ _ q => q3z q) fun e s' x q nx R => by injection q with q; subst q; exact ke e s' nx R
theorem j5 (S : St Γ fn c fz α σ s.heap) (G : fn.Good) : Fresh fn c fz α σ s.heap.objs.size := by
  have hfr := S.fr
  have hcells := fun {x ca} => wA (x := x) (ca := ca) S G.all
  refine ⟨⟨zMz hfr, zLz hfr, fun p hp => Nat.ne_of_lt (Heap.lt_size (S.news p hp).1)⟩, fun j sl ho => ?_, fun x ca hx hl => ?_⟩
  · obtain ⟨m, μ, C⟩ := S
    obtain ⟨_, ⟨o', h2, _⟩, _⟩ := C.own j sl ho
    exact Nat.ne_of_lt (Heap.lt_size h2)
  · obtain ⟨o', h2⟩ := hcells hx hl
    exact Nat.ne_of_lt (Heap.lt_size h2)
theorem zT (O : Ok Γ n fn c) {elts : List Expr} {pos : Pos} {es : List EX} (h : SimEs Γ fn c (spliced (backTo pos (starEach elts (fn.env c)))) (pvs es)) (hn : es.length ≤ 1000) :
    SimF Γ fn c (eval (.List elts pos) (fn.env c)) (xX es) := by
  refine ⟨?_⟩
  intro σ r s fz α e S Q E k ke
  refine wpAny_List (h.go σ _ s fz α e S _ _ (fun vs s' fz' ds q nx sub S' R => ?_) ke)
  subst q
  refine ⟨?_, k _ _ fz' ds vs 0 rfl (nx.trans ⟨rfl, rfl, id⟩) sub (S'.grow fun b o' e => Heap.get?_push_of_some _ e) (Heap.get?_push_size _ rfl) R (j5 S' O.G)⟩
  rw [R.length, uQz e]
  simp only [sizeLine]; omega
set_option tactic.hygienic true in
theorem zNq (O : Ok Γ n fn c) {l r : Expr} {pos : Pos} {el er : EX} (hl : SimE Γ fn c (eval l (fn.env c)) el) (hr : SimE Γ fn c (eval r (fn.env c)) er) : SimF Γ fn c (eval (.BinOp l .Add r pos) (fn.env c)) (catF el er) := by
  refine ⟨?_⟩
  intro σ r s fz α e S Q E k ke
  refine wpAny_BinOp ?_
  rcases z8 e with ⟨y, h1, hy⟩ | ⟨da, h1, h2⟩
  · exact hl.rdE h1 S fun e s' => ke e s' y hy
  · refine hl.rdK h1 S fun v s' fz' av nx sub S' D hd => ?_
    rcases z8 h2 with ⟨y, h3, hy⟩ | ⟨db, h3, h4⟩
    · exact hr.rdE h3 S' fun e s₂ nx₂ R => ke e s₂ y hy (nx.trans nx₂) (yP sub R)
    · refine hr.rdK h3 S' fun v₂ s₂ fz₂ av₂ nx₂ sub₂ S₂ D₂ hd₂ => ?_
      have la := S₂.lrep O.X (D.mono sub₂) hd
      have lb := S₂.lrep O.X D₂ hd₂
      split at h4
      · rename_i x y
        split at h4
        · rename_i hlen
          obtain rfl := Option.some.inj h4
          obtain ⟨a', vs, m, rfl, ha, ra⟩ := la
          obtain ⟨b', ws, m', rfl, hb, rb⟩ := lb
          have hsz : vs.toArray.size + ws.toArray.size ≤ sizeLine := by
            have h1 := ra.length; have h2 := rb.length
            simp only [List.size_toArray, sizeLine, lim] at *
            omega
          refine P.add_list ha hb ?_ hsz
          rw [List.append_toArray]
          exact k _ _ fz₂ _ (vs ++ ws) 0 rfl ((nx.trans nx₂).trans ⟨rfl, rfl, id⟩) (fun p hp => sub₂ p (sub p hp)) (S₂.grow fun b o' e => Heap.get?_push_of_some _ e) (Heap.get?_push_size _ rfl) (ra.append rb) (j5 S₂ O.G)
        · cases h4
      · cases h4
theorem z6 {t : Sem Value} {f : FX} (h : SimF Γ fn c t f) : SimE Γ fn c t (x8 f) := by
  refine ⟨?_⟩
  intro σ r s fz α e S Q E k ke
  rcases z8 e with ⟨y, h1, hy⟩ | ⟨l, h1, h2⟩
  · exact h.goE h1 S fun e s' => ke e s' y hy
  · obtain rfl := Option.some.inj h2
    refine h.goK h1 S fun a s' fz' vs m nx sub S' ha R Fh => ?_
    exact k _ s' ((a, x4z vs m) :: fz') _ rfl nx (fun p hp => List.mem_cons_of_mem _ (sub p hp)) (S'.freeze1 ha Fh.mine.ne Fh.mine.new Fh.own Fh.cel) (Rep.list (.inr (.head _)) (R.mono Dk.of_cons))
theorem zBq (O : Ok Γ n fn c) {pos : Pos} {Q E : Value → Shared → Prop} (S : St Γ fn c fz α σ s.heap) (k : ∀ a s' o, Nx s s' → St Γ fn c fz α σ s'.heap → s'.heap.get? a = some o → o.IsDictOf (intKind Γ.prog Γ.w) [] → (a == sysModules) = false → Fresh fn c fz α σ a → Q (.ref a) s') :
    wpAny (model Γ.prog Γ.w) (fn.A c) (eval (.Dict [] [] pos) (fn.env c)) Q E s := by
  obtain ⟨m, μ, C⟩ := id S
  obtain ⟨led, NL, off, ho, hc⟩ := C.led
  refine newDict_K C.F NL O.T.nolimit fun d h' o F' N' lt lo _ _ hi _ => ?_
  have C' := C.again ho hc F' fun p hp => N' p (List.mem_cons_of_mem _ hp)
  have hd := N' _ (.head _)
  refine k d _ o ⟨rfl, rfl, id⟩ ⟨m, μ, C'⟩ hd.1 hi lo ⟨⟨hd.2.1, hd.2.2, fun p hp => ?_⟩, fun j sl hj => ?_, fun x ca hx hl => ?_⟩
  · exact Nat.ne_of_lt (lt p (List.mem_append_left _ hp))
  · obtain ⟨_, ⟨o', h2, _⟩, _⟩ := C.own j sl hj
    exact Nat.ne_of_lt (lt (α j, o') (List.mem_append_right _ (ho j sl o' hj h2)))
  · obtain ⟨i, hi'⟩ := List.mem_iff_getElem?.mp (O.G.all x hx)
    obtain ⟨ca', o', e1, e2, _⟩ := C.cel i x hi' hx
    rw [hl] at e1; cases e1
    exact Nat.ne_of_lt (lt (ca, o') (List.mem_append_right _ (hc i x ca o' hi' hx hl e2)))
theorem SimE_dict (O : Ok Γ n fn c) {pos : Pos} : SimE Γ fn c (eval (.Dict [] [] pos) (fn.env c)) dictC := by
  refine ⟨?_⟩
  intro σ r s fz α e S Q E k ke
  obtain rfl := Option.some.inj e
  refine zBq O S fun a s' o nx S' ha q lo Fh => ?_
  exact k _ s' ((a, o) :: fz) _ rfl nx (fun p hp => List.mem_cons_of_mem _ hp) (S'.freeze1 ha Fh.mine.ne Fh.mine.new Fh.own Fh.cel) (Rep.dict (ks := []) (vs := []) (ds := []) (.inr (.head _)) lo rfl q .nil)
theorem yI (O : Ok Γ n fn c) {x : Str} {p pos : Pos} {id : String} {arg : Expr} {e : EX} {f : PyData → Option PyData} (he : starEach [arg] (fn.env c) = [(false, eval arg (fn.env c))]) (hk : fn.scope.names.lookup x = some .globalImplicit)
    (hK : nsIn Γ.K mainGlobals x = some none) (hb : bootBuiltins x = some (.builtin id)) (hn : x ≠ "__name__") (hd : (x == ("__debug__" : Str)) = false)
    (h : SimE Γ fn c (eval arg (fn.env c)) e) (hp : yIq Γ fn c (fun v => call (.builtin id) [v]) f) : SimE Γ fn c (eval (.Call (.Name x p) [arg] [] pos) (fn.env c)) (op1 f e) := by
  refine zPq O h (prim := fun v => call (.builtin id) [v]) (fun {Q E s fz α σ} S hh => ?_) hp
  obtain ⟨m, μ, C⟩ := S
  refine Call_Name rfl (nameX_B C.F O.X O.T hK hb hn ?_ O.G.hk hk hd)
  refine callWith_builtin1 ?_ he rfl
  refine spliced_more (wpAny_mono hh (fun v s₁ h₁ => spliced_none h₁) fun _ _ x => x) he
set_option tactic.hygienic true in
theorem xB : yIq Γ fn c (fun v => call (.builtin "len") [v]) vM := by
  intro σ s fz α a da d S la e
  unfold vM at e
  split at e
  · split at e
    · obtain rfl := Option.some.inj e
      obtain ⟨a', vs, m, rfl, ha, ra⟩ := la
      have hl := ra.length
      refine uE fun Q E k => PyProof.Rows.len_list (xM ha) (by simp only [List.size_toArray, lim] at *; omega) ?_
      rw [List.size_toArray, hl]
      exact k _ _ fz ⟨rfl, rfl, id⟩ (fun _ hp => hp) S (Rep.int _ _)
    · cases e
  · split at e
    · obtain rfl := Option.some.inj e
      obtain ⟨a', vs, m, rfl, ha, ra⟩ := la
      have hl := ra.length
      refine uE fun Q E k => PyProof.Rows.len_tuple (jY ha) (by simp only [List.size_toArray, lim] at *; omega) ?_
      rw [List.size_toArray, hl]
      exact k _ _ fz ⟨rfl, rfl, id⟩ (fun _ hp => hp) S (Rep.int _ _)
    · cases e
  · split at e
    · rename_i kvs hlen
      obtain rfl := Option.some.inj e
      obtain ⟨a', o, ks, vs, ds, rfl, rfl, ha, hm, hl, q, r⟩ := la
      have hr := r.length
      have e1 : (ks.zip vs).length = ((ks.map PyData.int).zip ds).length := by
        simp only [List.length_zip, List.length_map]; omega
      refine uE fun Q E k => call_len_dict hm (vNz ha q) (by simp only [lim] at *; omega) ?_
      rw [e1]
      exact k _ _ fz ⟨rfl, rfl, id⟩ (fun _ hp => hp) S (Rep.int _ _)
    · cases e
  · cases e
theorem qWz (k : Int) : ∀ l : List Int, (insI k l).Perm (k :: l)
  | [] => .refl _
  | x :: r => by
    unfold insI
    split
    · exact .refl _
    · exact ((qWz k r).cons x).trans (.swap k x r)
theorem hRz : ∀ l : List Int, (srtI l).Perm l
  | [] => .refl _
  | x :: r => (qWz x (srtI r)).trans ((hRz r).cons x)
theorem uXz (k : Int) : ∀ l : List Int, l.Pairwise (· ≤ ·) → (insI k l).Pairwise (· ≤ ·)
  | [], _ => List.pairwise_singleton _ _
  | x :: r, h => by
    unfold insI
    split
    · rename_i hk
      exact List.pairwise_cons.mpr ⟨fun y hy => by
        rcases List.mem_cons.mp hy with rfl | hy
        · exact hk
        · exact Int.le_trans hk ((List.pairwise_cons.mp h).1 y hy), h⟩
    · rename_i hk
      refine List.pairwise_cons.mpr ⟨fun y hy => ?_, uXz k r (List.pairwise_cons.mp h).2⟩
      rcases List.mem_cons.mp ((qWz k r).mem_iff.mp hy) with rfl | hy
      · omega
      · exact (List.pairwise_cons.mp h).1 y hy
theorem uNz : ∀ l : List Int, (srtI l).Pairwise (· ≤ ·)
  | [] => .nil
  | x :: r => uXz x _ (uNz r)
theorem qMz {a b : List Int} (h : a.Perm b) (ha : a.Pairwise (· ≤ ·)) (hb : b.Pairwise (· ≤ ·)) : a = b := h.eq_of_pairwise (fun x y _ _ h1 h2 => Int.le_antisymm h1 h2) ha hb
theorem z4z {D : Addr → Obj → Prop} : ∀ {vs : List Value} {ns : List Int}, IntsAre vs ns → RepAll Γ D vs (ns.map PyData.int)
  | _, _, .nil => .nil
  | _, _, .cons i t r => .cons (.int i t) (z4z r)
set_option tactic.hygienic true in
theorem k5z (O : Ok Γ n fn c) : yIq Γ fn c (fun v => call (.builtin "sorted") [v]) qNz := by
  intro σ s fz α a da d S la e
  unfold qNz at e
  split at e
  · split at e
    · rename_i l hlen
      obtain ⟨ns, e1, rfl⟩ := Option.map_eq_some_iff.mp e
      obtain ⟨a', vs, m, rfl, ha, ra⟩ := la
      have hI := k4 ra e1
      have hl := ra.length
      obtain ⟨mm, μ, C⟩ := id S
      obtain ⟨led, NL, off, ho, hc⟩ := C.led
      refine uE fun Q E k => sorted_N C.F NL (xM ha) hI (by omega) fun h' vs' ns' ee F' N' hI' hp hs => ?_
      have C' := C.again ho hc F' fun p hp => N' p (List.mem_cons_of_mem _ hp)
      have hd := N' _ (.head _)
      have hns : ns' = srtI ns := qMz (hp.trans (hRz ns).symm) hs (uNz ns)
      subst hns
      refine k _ _ ((s.heap.objs.size + 1, x4z vs' ee) :: fz) ⟨rfl, rfl, id⟩ (fun _ hp => List.mem_cons_of_mem _ hp) ?_ (Rep.list (.inr (.head _)) (z4z hI'))
      refine St.freeze1 ⟨_, _, C'⟩ hd.1 hd.2.1 hd.2.2 (fun j sl hj => ?_) fun x ca hx hl => ?_
      · obtain ⟨_, ⟨o', h2, _⟩, _⟩ := C.own j sl hj
        exact Nat.ne_of_lt (Nat.lt_succ_of_lt (Heap.lt_size h2))
      · obtain ⟨o', h2⟩ := wA S O.G.all hx hl
        exact Nat.ne_of_lt (Nat.lt_succ_of_lt (Heap.lt_size h2))
    · cases e
  · cases e
end
section
variable {Γ : Gl} {n : Nat} {fn : Fn} {c : Dy} {fz : List (Addr × Obj)} {α : Nat → Addr} {σ : Sta} {s : Shared} {h h' : Heap}
theorem yY {i j : Nat} {sl : Slot} (ho : x6 (σ.set i none) j sl) : x6 σ j sl ∧ j ≠ i := by
  obtain ⟨h1, h2⟩ := ho
  by_cases hj : i = j
  · subst hj
    by_cases hl : i < σ.length
    · rw [List.getElem?_set_self hl] at h1; cases h1
    · rw [List.getElem?_eq_none (by rw [List.length_set]; omega)] at h1; cases h1
  · rw [List.getElem?_set_ne hj] at h1
    exact ⟨⟨h1, h2⟩, fun e => hj e.symm⟩
theorem k5 {i j : Nat} {sl : Slot} (h1 : (σ.set i none)[j]? = some (some sl)) : σ[j]? = some (some sl) ∧ j ≠ i := by
  by_cases hj : i = j
  · subst hj
    by_cases hl : i < σ.length
    · rw [List.getElem?_set_self hl] at h1; cases h1
    · rw [List.getElem?_eq_none (by rw [List.length_set]; omega)] at h1; cases h1
  · rw [List.getElem?_set_ne hj] at h1
    exact ⟨h1, fun e => hj e.symm⟩
theorem StC.forget {m : Str → Option Value} {μ : Nat → Option Value} (C : StC Γ fn c fz α σ h m μ) (i : Nat) : StC Γ fn c fz α (σ.set i none) h m μ :=
  ⟨C.F, C.N, C.loc, fun j x hj hx => let ⟨ca, o, a1, a2, a3, a4, a5⟩ := C.cel j x hj hx; ⟨ca, o, a1, a2, a3, a4, fun j' sl ho => a5 j' sl (yY ho).1⟩, fun j d hd => C.val j d (k5 hd).1, fun j sl ho => C.own j sl (yY ho).1,
    fun i' j' sl sl' h1 h2 => C.inj i' j' sl sl' (yY h1).1 (yY h2).1⟩
theorem storeL (O : Ok Γ n fn c) {x : Str} {i : Nat} {v : Value} (hi : fn.nm[i]? = some x) (hx : fn.scope.names.lookup x = some .local) (S : St Γ fn c fz α σ s.heap) (ext : List (Addr × Obj)) (NE : News c.h₀ c.L s.heap ext)
    {A : Around} {Q : Unit → Shared → Prop} {E : Value → Shared → Prop} (k : ∀ s' m' μ', Nx s s' → StC Γ fn c fz α (σ.set i none) s'.heap m' μ' → μ' i = some v → News c.h₀ c.L s'.heap ext → Q () s') :
    wpAny (model Γ.prog Γ.w) A (storeName (fn.env c) x v) Q E s := by
  obtain ⟨m, μ, C⟩ := S
  obtain ⟨led, NL, off, ho, hc⟩ := C.led
  have NA : News c.h₀ c.L s.heap (ext ++ (fz ++ led)) := fun p hp => (List.mem_append.mp hp).elim (NE p) (NL p)
  refine storeX_L C.F NA (fun h' F' N' => ?_) O.G.hk hx
  have N₁ : News c.h₀ c.L h' (fz ++ led) := fun p hp => N' p (List.mem_append_right _ hp)
  refine k _ _ (fun j => if j = i then some v else μ j) ⟨rfl, rfl, id⟩ ⟨F', fun p hp => N₁ p (List.mem_append_left _ hp), fun j y hj hy => ?_, fun j y hj hy => ?_, fun j d hd => ?_, fun j sl hs => ?_, fun a b sl sl' h1 h2 => C.inj a b sl sl' (yY h1).1 (yY h2).1⟩ (if_pos rfl) (fun p hp => N' p (List.mem_append_left _ hp))
  · by_cases hji : j = i
    · subst hji
      rw [hi] at hj; cases hj
      rw [if_pos rfl, if_pos rfl]
    · have hyx : y ≠ x := fun e => hji (by
        subst e
        exact (List.getElem?_inj (List.getElem?_eq_some_iff.mp hj).1 O.G.nd).mp (hj.trans hi.symm))
      rw [if_neg hyx, if_neg hji]
      exact C.loc j y hj hy
  · have hji : j ≠ i := fun e => by subst e; rw [hi] at hj; cases hj; rw [hx] at hy; cases hy
    obtain ⟨ca, o, h1, h2, h3, h4, h5⟩ := C.cel j y hj hy
    exact ⟨ca, o, h1, (N₁ _ (List.mem_append_right _ (hc j y ca o hj hy h1 h2))).1, by rw [if_neg hji]; exact h3, h4, fun j' sl hs => h5 j' sl (yY hs).1⟩
  · obtain ⟨h1, hji⟩ := k5 hd
    obtain ⟨v', hv', r⟩ := C.val j d h1
    exact ⟨v', by rw [if_neg hji]; exact hv', r⟩
  · obtain ⟨h1, hji⟩ := yY hs
    obtain ⟨a1, ⟨o, a2, a3⟩, a4⟩ := C.own j sl h1
    exact ⟨by rw [if_neg hji]; exact a1, ⟨o, (N₁ _ (List.mem_append_right _ (ho j sl o h1 a2))).1, a3⟩, a4⟩
theorem storeC (O : Ok Γ n fn c) {x : Str} {i : Nat} {v : Value} (hi : fn.nm[i]? = some x) (hx : fn.scope.names.lookup x = some .cell) (S : St Γ fn c fz α σ s.heap) (ext : List (Addr × Obj)) (NE : News c.h₀ c.L s.heap ext)
    (hext : ∀ ca, (fn.cells c).lookup x = some ca → ∀ p ∈ ext, p.1 ≠ ca)
    {Q : Unit → Shared → Prop} {E : Value → Shared → Prop} (k : ∀ s' m' μ', Nx s s' → StC Γ fn c fz α (σ.set i none) s'.heap m' μ' → μ' i = some v → News c.h₀ c.L s'.heap ext → Q () s') :
    wpAny (model Γ.prog Γ.w) (fn.A c) (storeName (fn.env c) x v) Q E s := by
  obtain ⟨m, μ, C⟩ := S
  obtain ⟨ca, oc, c1, c2, c3, c4, c5⟩ := C.cel i x hi hx
  have keep : ∀ h', Heap.SameBut ca s.heap h' → (∀ b, b ≠ ca → ∀ o, s.heap.get? b = some o → h'.get? b = some o) := fun h' hs b hb o e => (hs.2 b hb).trans e
  refine wpAny_storeName_cell O.G.hk hx c1 ⟨oc, c2, c3⟩ fun h' hv hs => ?_
  obtain ⟨o', ho', hd'⟩ := hv
  have kk := keep h' hs
  have F' : Fr c.h₀ c.L h' m := ⟨C.F.ns.sameBut hs (Ne.symm c4.ne), fun b ob e => kk b (fun q => by rw [q, c4.new] at e; cases e) ob (C.F.keep b ob e), C.F.above⟩
  refine k _ m (fun j => if j = i then some v else μ j) ⟨rfl, rfl, id⟩ ⟨F', fun p hp => ⟨kk _ (c4.off p hp) _ (C.N p hp).1, (C.N p hp).2⟩, fun j y hj hy => ?_, fun j y hj hy => ?_, fun j d hd => ?_, fun j sl hs' => ?_, fun a b sl sl' h1 h2 => C.inj a b sl sl' (yY h1).1 (yY h2).1⟩ (if_pos rfl) (fun p hp => ⟨kk _ (hext ca c1 p hp) _ (NE p hp).1, (NE p hp).2⟩)
  · have hji : j ≠ i := fun e => by subst e; rw [hi] at hj; cases hj; rw [hx] at hy; cases hy
    rw [if_neg hji]
    exact C.loc j y hj hy
  · obtain rfl := O.G.one j i y x hj hi hy hx
    rw [hi] at hj; cases hj
    exact ⟨ca, o', c1, ho', by rw [if_pos rfl]; exact hd', c4, fun j' sl hs => c5 j' sl (yY hs).1⟩
  · obtain ⟨h1, hji⟩ := k5 hd
    obtain ⟨v', hv', r⟩ := C.val j d h1
    exact ⟨v', by rw [if_neg hji]; exact hv', r⟩
  · obtain ⟨h1, hji⟩ := yY hs'
    obtain ⟨a1, ⟨o, a2, a3⟩, a4⟩ := C.own j sl h1
    exact ⟨by rw [if_neg hji]; exact a1, ⟨o, kk _ (c5 j sl h1) _ a2, a3⟩, a4⟩
theorem StC.sayFz {m : Str → Option Value} {μ : Nat → Option Value} {i : Nat} {v : Value} {d : PyData} (C : StC Γ fn c fz α (σ.set i none) h m μ) (hv : μ i = some v) (r : Rep Γ (Dk Γ fz) v d) : StC Γ fn c fz α (σ.set i (some (.fz d))) h m μ := by
  have own : ∀ j sl, x6 (σ.set i (some (.fz d))) j sl → x6 (σ.set i none) j sl := fun j sl ho => by
    obtain ⟨h1, h2⟩ := ho
    by_cases hj : i = j
    · subst hj
      by_cases hl : i < σ.length
      · rw [List.getElem?_set_self hl] at h1; cases h1; cases h2
      · rw [List.getElem?_eq_none (by rw [List.length_set]; omega)] at h1; cases h1
    · rw [List.getElem?_set_ne hj] at h1
      exact ⟨by rw [List.getElem?_set_ne hj]; exact h1, h2⟩
  refine ⟨C.F, C.N, C.loc, fun j y hj hy => ?_, fun j d' hd => ?_, fun j sl ho => C.own j sl (own j sl ho), fun a b sl sl' h1 h2 => C.inj a b sl sl' (own _ _ h1) (own _ _ h2)⟩
  · obtain ⟨ca, o, h1, h2, h3, h4, h5⟩ := C.cel j y hj hy
    exact ⟨ca, o, h1, h2, h3, h4, fun j' sl hs => h5 j' sl (own _ _ hs)⟩
  · by_cases hj : i = j
    · subst hj
      by_cases hl : i < σ.length
      · rw [List.getElem?_set_self hl] at hd; cases hd; exact ⟨v, hv, r⟩
      · rw [List.getElem?_eq_none (by rw [List.length_set]; omega)] at hd; cases hd
    · rw [List.getElem?_set_ne hj] at hd
      exact C.val j d' (by rw [List.getElem?_set_ne hj]; exact hd)
theorem StC.sayOwn {m : Str → Option Value} {μ : Nat → Option Value} {i : Nat} {a : Addr} {o : Obj} {sl : Slot} (C : StC Γ fn c fz α (σ.set i none) h m μ) (hv : μ i = some (.ref a)) (ha : h.get? a = some o) (r : j8 Γ (Dk Γ fz) a o sl) (hs : sl.isOwn = true)
    (Fh : Fresh fn c fz α (σ.set i none) a) : StC Γ fn c fz (fun j => if j = i then a else α j) (σ.set i (some sl)) h m μ := by
  have own : ∀ j sl', x6 (σ.set i (some sl)) j sl' → (j = i ∧ sl' = sl) ∨ (j ≠ i ∧ x6 (σ.set i none) j sl') := fun j sl' ho => by
    obtain ⟨h1, h2⟩ := ho
    by_cases hj : i = j
    · subst hj
      by_cases hl : i < σ.length
      · rw [List.getElem?_set_self hl] at h1; cases h1; exact .inl ⟨rfl, rfl⟩
      · rw [List.getElem?_eq_none (by rw [List.length_set]; omega)] at h1; cases h1
    · rw [List.getElem?_set_ne hj] at h1
      exact .inr ⟨fun e => hj e.symm, by rw [List.getElem?_set_ne hj]; exact h1, h2⟩
  refine ⟨C.F, C.N, C.loc, fun j y hj hy => ?_, fun j d' hd => ?_, fun j sl' ho => ?_, fun p q sl₁ sl₂ h1 h2 e => ?_⟩
  · obtain ⟨ca, o', h1, h2, h3, h4, h5⟩ := C.cel j y hj hy
    refine ⟨ca, o', h1, h2, h3, h4, fun j' sl' hs' => ?_⟩
    rcases own j' sl' hs' with ⟨e, _⟩ | ⟨e, ho⟩
    · rw [if_pos e]; exact fun q => Fh.cel y ca hy h1 q.symm
    · rw [if_neg e]; exact h5 j' sl' ho
  · by_cases hj : i = j
    · subst hj
      by_cases hl : i < σ.length
      · rw [List.getElem?_set_self hl] at hd; cases hd; cases hs
      · rw [List.getElem?_eq_none (by rw [List.length_set]; omega)] at hd; cases hd
    · rw [List.getElem?_set_ne hj] at hd
      exact C.val j d' (by rw [List.getElem?_set_ne hj]; exact hd)
  · rcases own j sl' ho with ⟨e, rfl⟩ | ⟨e, ho⟩
    · rw [if_pos e, e]; exact ⟨hv, ⟨o, ha, r⟩, Fh.mine⟩
    · rw [if_neg e]; exact C.own j sl' ho
  · rcases own p sl₁ h1 with ⟨e1, _⟩ | ⟨e1, o1⟩ <;> rcases own q sl₂ h2 with ⟨e2, _⟩ | ⟨e2, o2⟩
    · rw [e1, e2]
    · rw [if_pos e1, if_neg e2] at e
      exact absurd e.symm (Fh.own q sl₂ o2)
    · rw [if_neg e1, if_pos e2] at e
      exact absurd e (Fh.own p sl₁ o1)
    · rw [if_neg e1, if_neg e2] at e
      exact C.inj p q sl₁ sl₂ o1 o2 e
inductive IsLoc (fn : Fn) (i : Nat) (x : Str) : Prop
  | loc : fn.nm[i]? = some x → fn.scope.names.lookup x = some .local → IsLoc fn i x
  | cel : fn.nm[i]? = some x → fn.scope.names.lookup x = some .cell → IsLoc fn i x
theorem zBz (O : Ok Γ n fn c) {x : Str} {i : Nat} {v : Value} {d : PyData} (hi : IsLoc fn i x) (S : St Γ fn c fz α σ s.heap) (r : Rep Γ (Dk Γ fz) v d) {Q : Unit → Shared → Prop} {E : Value → Shared → Prop}
    (k : ∀ s', Nx s s' → St Γ fn c fz α (σ.set i (some (.fz d))) s'.heap → Q () s') : wpAny (model Γ.prog Γ.w) (fn.A c) (storeName (fn.env c) x v) Q E s := by
  induction hi with
  | loc hi hx => exact storeL O hi hx S [] News.nil fun s' m' μ' nx C hv _ => k s' nx ⟨m', μ', C.sayFz hv r⟩
  | cel hi hx => exact storeC O hi hx S [] News.nil (fun _ _ _ hp => nomatch hp) fun s' m' μ' nx C hv _ => k s' nx ⟨m', μ', C.sayFz hv r⟩
theorem jNz (O : Ok Γ n fn c) {x : Str} {i : Nat} {a : Addr} {o : Obj} {sl : Slot} (hi : IsLoc fn i x) (S : St Γ fn c fz α σ s.heap) (ha : s.heap.get? a = some o) (r : j8 Γ (Dk Γ fz) a o sl) (hs : sl.isOwn = true) (Fh : Fresh fn c fz α σ a) {Q : Unit → Shared → Prop} {E : Value → Shared → Prop}
    (k : ∀ s', Nx s s' → St Γ fn c fz (fun j => if j = i then a else α j) (σ.set i (some sl)) s'.heap → Q () s') : wpAny (model Γ.prog Γ.w) (fn.A c) (storeName (fn.env c) x (.ref a)) Q E s := by
  have NE : News c.h₀ c.L s.heap [(a, o)] := fun p hp => by rw [List.mem_singleton.mp hp]; exact ⟨ha, Fh.mine.ne, Fh.mine.new⟩
  have Fh' : Fresh fn c fz α (σ.set i none) a := ⟨Fh.mine, fun j sl ho => Fh.own j sl (yY ho).1, Fh.cel⟩
  induction hi with
  | loc hi hx => exact storeL O hi hx S [(a, o)] NE fun s' m' μ' nx C hv N => k s' nx ⟨m', μ', C.sayOwn hv (N _ (.head _)).1 r hs Fh'⟩
  | cel hi hx => exact storeC O hi hx S [(a, o)] NE (fun ca h1 p hp => by rw [List.mem_singleton.mp hp]; exact fun e => Fh.cel x ca hx h1 e.symm) fun s' m' μ' nx C hv N => k s' nx ⟨m', μ', C.sayOwn hv (N _ (.head _)).1 r hs Fh'⟩
end
section
variable {Γ : Gl} {n : Nat} {fn : Fn} {c : Dy} {fz : List (Addr × Obj)} {α : Nat → Addr} {σ : Sta} {s : Shared} {h h' : Heap}
theorem zJ : SimS Γ fn c (execs [] (fn.env c)) yA := by
  refine ⟨?_⟩
  intro σ r s fz α e S Q E _ k _
  obtain rfl := Option.some.inj e
  exact wpAny_execs_nil (k .next s fz α .next σ rfl (Nx.refl s) (fun _ hp => hp) (fun _ _ => rfl) S trivial)
theorem zE {st : Stmt} {rest : List Stmt} {f g : SX} (hf : SimS Γ fn c (exec st (fn.env c)) f) (hg : SimS Γ fn c (execs rest (fn.env c)) g) : SimS Γ fn c (execs (st :: rest) (fn.env c)) (zU f g) := by
  refine ⟨?_⟩
  intro σ r s fz α e S Q E hE k ke
  refine wpAny_execs_cons ?_
  rcases z8 e with ⟨y, h1, hy⟩ | ⟨⟨fl, σ'⟩, h1, h2⟩
  · exact hf.goE h1 S hE fun e s' => ke e s' y hy
  · refine hf.goK h1 S hE fun fl₁ s' fz' α' nx sub pin S' fr => ?_
    have fr := flC fr
    induction fr with
    | next =>
      exact hg.go σ' _ s' fz' α' h2 S' Q E hE (fun fl₂ s₂ fz₂ α₂ fl₃ σ₂ q₂ nx₂ sub₂ pin₂ S₂ fr₂ => k fl₂ s₂ fz₂ α₂ fl₃ σ₂ q₂ (nx.trans nx₂) (fun p hp => sub₂ p (sub p hp)) (fun i hi => (pin₂ i hi).trans (pin i hi)) S₂ fr₂)
        fun e s₂ x q₂ nx₂ R => ke e s₂ x q₂ (nx.trans nx₂) (yP sub R)
    | brk => exact k .brk s' fz' α' _ σ' (Option.some.inj h2).symm nx sub pin S' trivial
    | cont => exact k .cont s' fz' α' _ σ' (Option.some.inj h2).symm nx sub pin S' trivial
    | ret v d R => exact k (.ret v) s' fz' α' _ σ' (Option.some.inj h2).symm nx sub pin S' R
theorem z5 {test : Expr} {body orelse : List Stmt} {pos : Pos} {t : BX} {a b : SX} (ht : SimB Γ fn c (isTrue test (fn.env c) (eval test (fn.env c))) t) (ha : SimS Γ fn c (execs body (fn.env c)) a) (hb : SimS Γ fn c (execs orelse (fn.env c)) b) :
    SimS Γ fn c (exec (.If test body orelse pos) (fn.env c)) (ifC t a b) := by
  refine ⟨?_⟩
  intro σ r s fz α e S Q E hE k ke
  refine wpAny_If ?_
  rcases z8 e with ⟨y, h1, hy⟩ | ⟨cc, h1, h2⟩
  · exact ht.goE h1 S fun e s' => ke e s' y hy
  · refine ht.goK h1 S fun s' fz' nx sub S' => ?_
    induction cc with
    | true => exact ha.go σ _ s' fz' α h2 S' Q E hE (fun fl s₂ fz₂ α₂ fl' σ₂ q₂ n₂ sub₂ pin₂ S₂ fr => k fl s₂ fz₂ α₂ fl' σ₂ q₂ (nx.trans n₂) (fun p hp => sub₂ p (sub p hp)) pin₂ S₂ fr) fun e s₂ x q nx₂ R => ke e s₂ x q (nx.trans nx₂) (yP sub R)
    | false => exact hb.go σ _ s' fz' α h2 S' Q E hE (fun fl s₂ fz₂ α₂ fl' σ₂ q₂ n₂ sub₂ pin₂ S₂ fr => k fl s₂ fz₂ α₂ fl' σ₂ q₂ (nx.trans n₂) (fun p hp => sub₂ p (sub p hp)) pin₂ S₂ fr) fun e s₂ x q nx₂ R => ke e s₂ x q (nx.trans nx₂) (yP sub R)
theorem zY {x : Expr} {pos : Pos} {e : EX} (h : SimE Γ fn c (eval x (fn.env c)) e) : SimS Γ fn c (exec (.Return (some x) pos) (fn.env c)) (xY e) := by
  refine ⟨?_⟩
  intro σ r s fz α e S Q E hE k ke
  refine wpAny_Return_some ?_
  rcases z8 e with ⟨y, h1, hy⟩ | ⟨d, h1, h2⟩
  · exact h.pvE h1 S fun e s' => ke e s' y hy
  · obtain rfl := Option.some.inj h2
    refine h.pvK h1 S fun v s' fz' nx sub S' R => ?_
    exact k (.ret v) s' fz' α _ σ rfl nx sub (fun _ _ => rfl) S' R
theorem SimS_cont {pos : Pos} : SimS Γ fn c (exec (.Continue pos) (fn.env c)) contC := by
  refine ⟨?_⟩
  intro σ r s fz α e S Q E _ k _
  obtain rfl := Option.some.inj e
  exact wpAny_Continue (k .cont s fz α _ σ rfl (Nx.refl s) (fun _ hp => hp) (fun _ _ => rfl) S trivial)
theorem z0 (O : Ok Γ n fn c) {x : Str} {p pos : Pos} {value : Expr} {i : Nat} {e : EX} (hi : IsLoc fn i x) (h : SimE Γ fn c (eval value (fn.env c)) e) (hs : swapsWith value (some (.Name x p)) pos.line (fn.env c) = pure false) :
    SimS Γ fn c (exec (.Assign [.Name x p] value pos) (fn.env c)) (yX i e) := by
  refine ⟨?_⟩
  intro σ r s fz α e S Q E hE k ke
  refine wpAny_Assign_Name ?_ hs
  rcases z8 e with ⟨y, h1, hy⟩ | ⟨d, h1, h2⟩
  · exact h.pvE h1 S fun e s' => ke e s' y hy
  · obtain rfl := Option.some.inj h2
    refine h.pvK h1 S fun v s' fz' nx sub S' R => ?_
    exact zBz O hi S' R fun s₂ nx₂ S₂ => k .next s₂ fz' α _ _ rfl (nx.trans nx₂) sub (fun _ _ => rfl) S₂ trivial
theorem wU (O : Ok Γ n fn c) {x : Str} {p pos : Pos} {value : Expr} {i : Nat} {f : FX} (hi : IsLoc fn i x) (hp : fn.pin i = false) (h : SimF Γ fn c (eval value (fn.env c)) f) (hs : swapsWith value (some (.Name x p)) pos.line (fn.env c) = pure false) :
    SimS Γ fn c (exec (.Assign [.Name x p] value pos) (fn.env c)) (kPz i f) := by
  refine ⟨?_⟩
  intro σ r s fz α e S Q E hE k ke
  refine wpAny_Assign_Name ?_ hs
  rcases z8 e with ⟨y, h1, hy⟩ | ⟨l, h1, h2⟩
  · exact h.goE h1 S fun e s' => ke e s' y hy
  · obtain rfl := Option.some.inj h2
    refine h.goK h1 S fun a s' fz' vs m nx sub S' ha R Fh => ?_
    exact jNz O hi S' ha (sl := .ol l) ⟨vs, m, rfl, R⟩ rfl Fh fun s₂ nx₂ S₂ => k .next s₂ fz' _ _ _ rfl (nx.trans nx₂) sub (fun j hj => if_neg fun e => by subst e; rw [hp] at hj; cases hj) S₂ trivial
theorem xGz (O : Ok Γ n fn c) {x : Str} {p pos dpos : Pos} {i : Nat} (hi : IsLoc fn i x) (hp : fn.pin i = false) :
    SimS Γ fn c (exec (.Assign [.Name x p] (.Dict [] [] dpos) pos) (fn.env c)) (asgD i) := by
  refine ⟨?_⟩
  intro σ r s fz α e S Q E hE k ke
  obtain rfl := Option.some.inj e
  refine wpAny_Assign_Name (zBq O S fun a s' o nx S' ha q lo Fh => ?_) rfl
  exact jNz O hi S' ha (sl := .od [] []) ⟨[], lo, rfl, q, .nil⟩ rfl Fh fun s₂ nx₂ S₂ => k .next s₂ fz _ _ _ rfl (nx.trans nx₂) (fun _ hp => hp) (fun j hj => if_neg fun e => by subst e; rw [hp] at hj; cases hj) S₂ trivial
theorem St.ghost (G : fn.Good) (S : St Γ fn c fz α σ h) {i : Nat} {sl : Slot} (hs : σ[i]? = some (some sl)) : ∃ fz', (∀ p ∈ fz, p ∈ fz') ∧ St Γ fn c fz' α (σ.set i (some (.fz sl.view))) h := by
  obtain ⟨m, μ, C⟩ := id S
  induction sl with
  | fz d =>
    refine ⟨fz, fun _ hp => hp, ?_⟩
    have e : σ.set i (some (.fz d)) = σ := by
      refine List.ext_getElem? fun j => ?_
      by_cases hj : i = j
      · subst hj; rw [List.getElem?_set_self (List.getElem?_eq_some_iff.mp hs).1, hs]
      · rw [List.getElem?_set_ne hj]
    show St Γ fn c fz α (σ.set i (some (.fz d))) h
    rw [e]; exact S
  | ol l =>
    obtain ⟨hv, ⟨o, ha, vs, k, rfl, r⟩, M1⟩ := C.own i _ ⟨hs, rfl⟩
    refine ⟨(α i, x4z vs k) :: fz, fun _ hp => List.mem_cons_of_mem _ hp, m, μ, ?_⟩
    exact ((C.forget i).freeze1 ha M1.ne M1.new (fun j sl' hj e => (yY hj).2 (C.inj j i sl' _ (yY hj).1 ⟨hs, rfl⟩ e)) fun x ca hx hl e => by
      obtain ⟨j, hj⟩ := List.mem_iff_getElem?.mp (G.all x hx)
      obtain ⟨ca', _, c1, _, _, _, c5⟩ := C.cel j x hj hx
      rw [hl] at c1; cases c1
      exact c5 i _ ⟨hs, rfl⟩ e.symm).sayFz hv (Rep.list (.inr (.head _)) (r.mono Dk.of_cons))
  | od ks ds =>
    obtain ⟨hv, ⟨o, ha, vs, lo, hl, q, r⟩, M1⟩ := C.own i _ ⟨hs, rfl⟩
    refine ⟨(α i, o) :: fz, fun _ hp => List.mem_cons_of_mem _ hp, m, μ, ?_⟩
    exact ((C.forget i).freeze1 ha M1.ne M1.new (fun j sl' hj e => (yY hj).2 (C.inj j i sl' _ (yY hj).1 ⟨hs, rfl⟩ e)) fun x ca hx hl e => by
      obtain ⟨j, hj⟩ := List.mem_iff_getElem?.mp (G.all x hx)
      obtain ⟨ca', _, c1, _, _, _, c5⟩ := C.cel j x hj hx
      rw [hl] at c1; cases c1
      exact c5 i _ ⟨hs, rfl⟩ e.symm).sayFz hv (Rep.dict (.inr (.head _)) lo hl q (r.mono Dk.of_cons))
set_option tactic.hygienic true in
theorem v7z (G : fn.Good) {t : Sem Flow} {f : SX} {i : Nat} (h : SimS Γ fn c t f) : SimS Γ fn c t (ghC i f) := by
  refine ⟨?_⟩
  intro σ r s fz α e S Q E hE k ke
  unfold ghC at e
  split at e
  · rename_i sl hs
    obtain ⟨fz', sub, S'⟩ := S.ghost G hs
    exact h.go _ r s fz' α e S' Q E hE (fun fl s₂ fz₂ α₂ fl' σ₂ q nx sub₂ pin S₂ fr => k fl s₂ fz₂ α₂ fl' σ₂ q nx (fun p hp => sub₂ p (sub p hp)) pin S₂ fr) fun e s' x q nx R => ke e s' x q nx (yP sub R)
  · cases e
inductive WhI (Γ : Gl) (fn : Fn) (c : Dy) (fz : List (Addr × Obj)) (α : Nat → Addr) (t : BX) (b : SX) (r : Except Addr (Fl × Sta)) (s : Shared) (k : Nat) (s' : Shared) : Prop
  | mk (fz' : List (Addr × Obj)) (α' : Nat → Addr) (σ' : Sta) (nx : Nx s s') (sub : ∀ p ∈ fz, p ∈ fz') (pin : ∀ i, fn.pin i = true → α' i = α i) (S : St Γ fn c fz' α' σ' s'.heap) (e : wM t b k σ' = some r) : WhI Γ fn c fz α t b r s k s'
theorem zOz {test : Expr} {body : List Stmt} {pos : Pos} {μ : Sta → Nat} {t : BX} {b : SX} (ht : SimB Γ fn c (isTrue test (fn.env c) (eval test (fn.env c))) t) (hb : SimS Γ fn c (execs body (fn.env c)) b) :
    SimS Γ fn c (exec (.While test body [] pos) (fn.env c)) (uGz μ t b) := by
  refine ⟨?_⟩
  intro σ r s fz α e S Q E hE k ke
  refine wpAny_While ?_
  refine codeAny_whileLoop (WhI Γ fn c fz α t b r s) ?_ (μ σ) ⟨fz, α, σ, Nx.refl s, fun _ hp => hp, fun _ _ => rfl, S, e⟩
  rintro m s₁ ⟨fz₁, α₁, σ₁, nx₁, sub₁, pin₁, S₁, e₁⟩
  induction m with
  | zero => cases e₁
  | succ m =>
    refine wpAny_passesOwn hE ?_
    rcases z8 e₁ with ⟨y, h1, hy⟩ | ⟨cc, h1, h2⟩
    · exact ht.goE h1 S₁ fun e s' nx R => ke e s' y hy (nx₁.trans nx) (yP sub₁ R)
    · refine ht.goK h1 S₁ fun s₂ fz₂ nx₂ sub₂ S₂ => ?_
      induction cc with
      | false =>
        rw [if_neg Bool.false_ne_true]
        exact wpAny_execs_nil (k .next s₂ fz₂ α₁ _ _ (Option.some.inj h2).symm (nx₁.trans nx₂) (fun p hp => sub₂ p (sub₁ p hp)) pin₁ S₂ trivial)
      | true =>
        rw [if_pos rfl]
        refine wpAny_passesOwn hE ?_
        rcases z8 h2 with ⟨y, h3, hy⟩ | ⟨⟨fl, σ'⟩, h3, h4⟩
        · exact hb.goE h3 S₂ hE fun e s' nx R => ke e s' y hy ((nx₁.trans nx₂).trans nx) (yP (fun p hp => sub₂ p (sub₁ p hp)) R)
        · refine hb.goK h3 S₂ hE fun fl₁ s₃ fz₃ α₃ nx₃ sub₃ pin₃ S₃ fr => ?_
          have nx := (nx₁.trans nx₂).trans nx₃
          have sub : ∀ p ∈ fz, p ∈ fz₃ := fun p hp => sub₃ p (sub₂ p (sub₁ p hp))
          have pin : ∀ i, fn.pin i = true → α₃ i = α i := fun i hi => (pin₃ i hi).trans (pin₁ i hi)
          have fr := flC fr
          induction fr with
          | next => exact ⟨m, Nat.lt_succ_self m, fz₃, α₃, σ', nx, sub, pin, S₃, h4⟩
          | cont => exact ⟨m, Nat.lt_succ_self m, fz₃, α₃, σ', nx, sub, pin, S₃, h4⟩
          | brk => exact k .next s₃ fz₃ α₃ _ _ (Option.some.inj h4).symm nx sub pin S₃ trivial
          | ret v d R => exact k (.ret v) s₃ fz₃ α₃ _ _ (Option.some.inj h4).symm nx sub pin S₃ R
end
section
variable {Γ : Gl} {n : Nat} {fn : Fn} {c : Dy} {fz : List (Addr × Obj)} {α : Nat → Addr} {σ : Sta} {s : Shared} {h h' : Heap}
theorem StC.turn {m : Str → Option Value} {μ : Nat → Option Value} (C : StC Γ fn c fz α σ h m μ) {i : Nat} {sl sl' : Slot} {o' : Obj} (ho : x6 σ i sl) (hs : Heap.SameBut (α i) h h') (hg : h'.get? (α i) = some o') (r : j8 Γ (Dk Γ fz) (α i) o' sl') (hw : sl'.isOwn = true) :
    StC Γ fn c fz α (σ.set i (some sl')) h' m μ := by
  obtain ⟨hv, _, M1⟩ := C.own i sl ho
  have hl : i < σ.length := (List.getElem?_eq_some_iff.mp ho.1).1
  have own : ∀ j s', x6 (σ.set i (some sl')) j s' → (j = i ∧ s' = sl') ∨ (j ≠ i ∧ x6 σ j s') := fun j s' hj => by
    obtain ⟨h1, h2⟩ := hj
    by_cases hj : i = j
    · subst hj; rw [List.getElem?_set_self hl] at h1; cases h1; exact .inl ⟨rfl, rfl⟩
    · rw [List.getElem?_set_ne hj] at h1; exact .inr ⟨fun e => hj e.symm, h1, h2⟩
  have ownσ : ∀ j s', x6 (σ.set i (some sl')) j s' → ∃ s'', x6 σ j s'' := fun j s' hj => by
    rcases own j s' hj with ⟨rfl, _⟩ | ⟨_, h⟩
    · exact ⟨sl, ho⟩
    · exact ⟨s', h⟩
  have kk : ∀ b, b ≠ α i → ∀ o, h.get? b = some o → h'.get? b = some o := fun b hb o e => (hs.2 b hb).trans e
  refine ⟨⟨C.F.ns.sameBut hs (Ne.symm M1.ne), fun b o e => kk b (fun q => by rw [q, M1.new] at e; cases e) o (C.F.keep b o e), C.F.above⟩, fun p hp => ⟨kk _ (M1.off p hp) _ (C.N p hp).1, (C.N p hp).2⟩, C.loc, fun j x hj hx => ?_, fun j d hd => ?_, fun j s' hj => ?_, fun a b s1 s2 h1 h2 e => ?_⟩
  · obtain ⟨ca, o, h1, h2, h3, h4, h5⟩ := C.cel j x hj hx
    exact ⟨ca, o, h1, kk _ (fun q => h5 i sl ho q.symm) _ h2, h3, h4, fun j' s' hj' => let ⟨s'', q⟩ := ownσ j' s' hj'; h5 j' s'' q⟩
  · by_cases hj : i = j
    · subst hj; rw [List.getElem?_set_self hl] at hd; cases hd; cases hw
    · rw [List.getElem?_set_ne hj] at hd; exact C.val j d hd
  · rcases own j s' hj with ⟨rfl, rfl⟩ | ⟨hne, ho'⟩
    · exact ⟨hv, ⟨o', hg, r⟩, M1⟩
    · obtain ⟨a1, ⟨o, a2, a3⟩, a4⟩ := C.own j s' ho'
      exact ⟨a1, ⟨o, kk _ (fun q => hne (C.inj j i s' sl ho' ho q)) _ a2, a3⟩, a4⟩
  · obtain ⟨t1, q1⟩ := ownσ a s1 h1
    obtain ⟨t2, q2⟩ := ownσ b s2 h2
    exact C.inj a b t1 t2 q1 q2 e
theorem wMz (S : St Γ fn c fz α σ h) {i : Nat} {l : List PyData} (hs : σ[i]? = some (some (.ol l))) : ∃ vs m, h.get? (α i) = some (x4z vs m) ∧ RepAll Γ (Dk Γ fz) vs l := by
  obtain ⟨m, μ, C⟩ := S
  obtain ⟨_, ⟨o, h2, vs, k, rfl, r⟩, _⟩ := C.own i _ ⟨hs, rfl⟩
  exact ⟨vs, k, h2, r⟩
theorem SimE.own {t : Sem Value} {i : Nat} {sl : Slot} (H : SimE Γ fn c t (zG i)) (ho : x6 σ i sl) (S : St Γ fn c fz α σ s.heap) {Q E : Value → Shared → Prop}
    (k : ∀ s' fz', Nx s s' → (∀ p ∈ fz, p ∈ fz') → St Γ fn c fz' α σ s'.heap → Q (.ref (α i)) s') : wpAny (model Γ.prog Γ.w) (fn.A c) t Q E s := by
  have e : zG i σ = some (.ok (.own i)) := by
    unfold zG
    rw [ho.1]
    induction sl with
    | fz d => cases ho.2
    | ol l => rfl
    | od a b => rfl
  refine H.goK e S fun v s' fz' nx sub S' D => ?_
  obtain rfl : v = .ref (α i) := D
  exact k s' fz' nx sub S'
theorem yO {x : Str} {p ap cp pos : Pos} {arg : Expr} {i : Nat} {e : EX} (hx : SimE Γ fn c (eval (.Name x p) (fn.env c)) (zG i)) (h : SimE Γ fn c (eval arg (fn.env c)) e) (he : starEach [arg] (fn.env c) = [(false, eval arg (fn.env c))]) (hi : interactive (fn.env c) = false)
    {pl : Sem Bool} (hm : eval (.Call (.Attribute (.Name x p) (Str.ofString "append") ap) [arg] [] cp) (fn.env c) = (do
      let ov ← eval (.Name x p) (fn.env c)
      standAt ap.atName
      let (f, first) ← holding [ov] (getMethod ov (Str.ofString "append") pl)
      callWith cp f first (backTo cp (starEach [arg] (fn.env c))) [])) :
    SimS Γ fn c (exec (.Expr (.Call (.Attribute (.Name x p) (Str.ofString "append") ap) [arg] [] cp) pos) (fn.env c)) (yAz i e) := by
  refine ⟨?_⟩
  intro σ r s fz α e S Q E hE k ke
  refine wpAny_Expr ?_ hi rfl
  refine MethodCall_ ?_ hm
  unfold yAz at e
  split at e
  · rename_i l hs
    refine hx.own ⟨hs, rfl⟩ S fun s₁ fz₁ nx₁ sub₁ S₁ => ?_
    obtain ⟨vs₀, m₀, hg₀, _⟩ := wMz S₁ hs
    refine Calls.getMethod_list_append hg₀ rfl rfl ?_
    refine callWith_method1 ?_ he rfl
    refine spliced_more ?_ he
    rcases z8 e with ⟨y, h1, hy⟩ | ⟨d, h1, h2⟩
    · exact h.pvE h1 S₁ fun e s' nx R => ke e s' y hy (nx₁.trans nx) (yP sub₁ R)
    · split at h2
      · rename_i hlen
        obtain rfl := Option.some.inj h2
        refine h.pvK h1 S₁ fun v s₂ fz₂ nx₂ sub₂ S₂ R => ?_
        refine spliced_none ?_
        obtain ⟨vs, m, hg, rr⟩ := wMz S₂ hs
        have hl := rr.length
        refine wpAny_list_append_plain ⟨m, hg⟩ (fun h' hpl hsb => ?_) (by rw [List.size_toArray, hl]; simp only [sizeLine, lim] at *; omega)
        obtain ⟨m', hg'⟩ := hpl
        rw [List.push_toArray] at hg'
        obtain ⟨mm, μ, C⟩ := S₂
        exact k .next _ fz₂ α _ _ rfl ((nx₁.trans nx₂).trans ⟨rfl, rfl, id⟩) (fun p hp => sub₂ p (sub₁ p hp)) (fun _ _ => rfl) ⟨mm, μ, C.turn ⟨hs, rfl⟩ hsb hg' (sl' := .ol (l ++ [d])) ⟨_, _, rfl, rr.append (.one R)⟩ rfl⟩ trivial
      · cases h2
  · cases e
theorem wHz (vs : List Value) (k : Nat) : vs.toArray.eraseIdxIfInBounds k = (vs.eraseIdx k).toArray := by
  unfold Array.eraseIdxIfInBounds
  split
  · rw [List.eraseIdx_toArray]
  · rename_i hk
    rw [List.eraseIdx_of_length_le (by simpa using hk)]
theorem RepAll.erase {D : Addr → Obj → Prop} {vs : List Value} {ds : List PyData} (r : RepAll Γ D vs ds) (k : Nat) : RepAll Γ D (vs.eraseIdx k) (ds.eraseIdx k) := by
  induction vs generalizing ds k with
  | nil => cases r; exact .nil
  | cons v vs ih =>
    cases r with
    | cons h r =>
      cases k with
      | zero => exact r
      | succ k => exact .cons h (ih r k)
set_option tactic.hygienic true in
theorem wWz {x : Str} {p tp pos : Pos} {idx : Expr} {i : Nat} {e : EX} (O : Ok Γ n fn c) (hx : SimE Γ fn c (eval (.Name x p) (fn.env c)) (zG i)) (h : SimE Γ fn c (eval idx (fn.env c)) e) :
    SimS Γ fn c (exec (.Delete [.Subscript (.Name x p) idx tp] pos) (fn.env c)) (z7q i e) := by
  refine ⟨?_⟩
  intro σ r s fz α e S Q E hE k ke
  refine wpAny_Delete (wpAny_deleteEach_cons (wpAny_delete_Subscript ?_))
  unfold z7q at e
  split at e
  · rename_i l hs
    refine hx.own ⟨hs, rfl⟩ S fun s₁ fz₁ nx₁ sub₁ S₁ => ?_
    rcases z8 e with ⟨y, h1, hy⟩ | ⟨d, h1, h2⟩
    · exact h.rdE h1 S₁ fun e s' nx R => ke e s' y hy (nx₁.trans nx) (yP sub₁ R)
    · refine h.rdK h1 S₁ fun v s₂ fz₂ av nx₂ sub₂ S₂ D hd => ?_
      have hL := S₂.lrep O.X D hd
      split at h2
      · rename_i kk
        split at h2
        · rename_i hb
          obtain rfl := Option.some.inj h2
          obtain ⟨t, rfl⟩ := hL
          obtain ⟨vs, m, hg, rr⟩ := wMz S₂ hs
          have hl := rr.length
          refine wpAny_delItem_plain ⟨m, hg⟩ (fitsIndex_of hb.1 (by simp only [lim] at *; omega)) (seqIndex_of hb.1 (by rw [List.size_toArray, hl]; omega)) (fun h' hpl hsb => ?_) (by rw [List.size_toArray, hl]; simp only [sizeLine, lim] at *; omega)
          obtain ⟨m', hg'⟩ := hpl
          rw [wHz] at hg'
          obtain ⟨mm, μ, C⟩ := S₂
          exact wpAny_deleteEach_nil (k .next _ fz₂ α _ _ rfl ((nx₁.trans nx₂).trans ⟨rfl, rfl, id⟩) (fun p hp => sub₂ p (sub₁ p hp)) (fun _ _ => rfl) ⟨mm, μ, C.turn ⟨hs, rfl⟩ hsb hg' (sl' := .ol (l.eraseIdx kk.toNat)) ⟨_, _, rfl, rr.erase _⟩ rfl⟩ trivial)
        · cases h2
      · cases h2
  · cases e
theorem uMz {D : Addr → Obj → Prop} {j : Int} {v : Value} {d : PyData} (hv : Rep Γ D v d) : ∀ {ks : List Int} {vs : List Value} {ds : List PyData}, ks.length = vs.length → RepAll Γ D vs ds → ks.Nodup →
    ∃ vs', stored (ks.zip vs) j v = ((vX j d ks ds).1.zip vs') ∧ (vX j d ks ds).1.length = vs'.length ∧ RepAll Γ D vs' (vX j d ks ds).2
  | [], [], _, _, .nil, _ => ⟨[v], rfl, rfl, .one hv⟩
  | [], _ :: _, _, hl, _, _ => by simp at hl
  | _ :: _, [], _, hl, _, _ => by simp at hl
  | k :: ks, u :: vs, _, hl, .cons (d := e) (ds := ds) r1 r2, nd => by
    obtain ⟨nk, nd'⟩ := List.nodup_cons.mp nd
    by_cases hk : k = j
    · subst hk
      refine ⟨v :: vs, ?_, by simp [vX] at hl ⊢; exact hl, by simp only [vX, if_pos]; exact .cons hv r2⟩
      have hne : ∀ p ∈ ks.zip vs, p.1 ≠ k := fun p hp e => nk (e ▸ (List.of_mem_zip hp).1)
      simp only [stored, vX, List.zip_cons_cons, List.any_cons, decide_true, Bool.true_or, if_true, List.map_cons]
      congr 1
      conv => rhs; rw [← List.map_id (ks.zip vs)]
      exact List.map_congr_left fun p hp => by rw [if_neg (hne p hp)]; rfl
    · obtain ⟨vs', h1, h2, h3⟩ := uMz (j := j) hv (by simpa using hl) r2 nd'
      refine ⟨u :: vs', ?_, by simp only [vX, if_neg hk, List.length_cons, h2], by simp only [vX, if_neg hk]; exact .cons r1 h3⟩
      simp only [vX, if_neg hk, List.zip_cons_cons, ← h1]
      simp only [stored, List.any_cons, decide_eq_false hk, Bool.false_or, List.map_cons, if_neg hk]
      split <;> simp
set_option tactic.hygienic true in
theorem zPz {x : Str} {p tp pos : Pos} {key value : Expr} {i : Nat} {ek ev : EX} (O : Ok Γ n fn c) (hx : SimE Γ fn c (eval (.Name x p) (fn.env c)) (zG i)) (hk : SimE Γ fn c (eval key (fn.env c)) ek) (hv : SimE Γ fn c (eval value (fn.env c)) ev)
    (hsw : swapsWith value (some (.Subscript (.Name x p) key tp)) pos.line (fn.env c) = pure false) :
    SimS Γ fn c (exec (.Assign [.Subscript (.Name x p) key tp] value pos) (fn.env c)) (setC i ek ev) := by
  refine ⟨?_⟩
  intro σ r s fz α e S Q E hE k ke
  refine wpAny_Assign_Subscript ?_ hsw
  rcases z8 e with ⟨y, h1, hy⟩ | ⟨d, h1, h2⟩
  · exact hv.pvE h1 S fun e s' nx R => ke e s' y hy nx R
  · refine hv.pvK h1 S fun v s₁ fz₁ nx₁ sub₁ S₁ R₁ => ?_
    split at h2
    · rename_i ks ds hs
      refine hx.own ⟨hs, rfl⟩ S₁ fun s₂ fz₂ nx₂ sub₂ S₂ => ?_
      rcases z8 h2 with ⟨y, h3, hy⟩ | ⟨kd, h3, h4⟩
      · exact hk.rdE h3 S₂ fun e s' nx R => ke e s' y hy ((nx₁.trans nx₂).trans nx) (yP (fun p hp => sub₂ p (sub₁ p hp)) R)
      · refine hk.rdK h3 S₂ fun kv s₃ fz₃ av nx₃ sub₃ S₃ D hd => ?_
        have hL := S₃.lrep O.X D hd
        split at h4
        · rename_i j
          split at h4
          · rename_i hlen
            obtain rfl := Option.some.inj h4
            obtain ⟨t, rfl⟩ := hL
            obtain ⟨mm, μ, C⟩ := id S₃
            obtain ⟨_, ⟨o, hg, vs, lo, hl, q, rr⟩, M1⟩ := C.own i _ ⟨hs, rfl⟩
            have hD := vNz hg q
            have nd : ks.Nodup := by
              obtain ⟨es, ep, _, _, _, _, hn⟩ := q
              have : (ks.zip vs).map (·.1) = ks := by rw [List.map_fst_zip (by omega)]
              rw [this] at hn; exact hn
            obtain ⟨vs', e1, e2, e3⟩ := uMz (j := j) (R₁.mono (Dk.sub fun p hp => sub₃ p (sub₂ p hp))) hl rr nd
            refine wpAny_setItem_pairs (intKind_is _ _ _ _) hD (fun h' hD' hsb => ?_) (by rw [List.length_zip]; simp only [sizeLine, lim] at *; omega)
            rw [e1] at hD'
            obtain ⟨o', hg', q'⟩ := Heap.dictOf_iff.mp hD'
            exact k .next _ fz₃ α _ _ rfl (((nx₁.trans nx₂).trans nx₃).trans ⟨rfl, rfl, id⟩) (fun p hp => sub₃ p (sub₂ p (sub₁ p hp))) (fun _ _ => rfl)
              ⟨mm, μ, C.turn ⟨hs, rfl⟩ hsb hg' (sl' := .od (vX j d ks ds).1 (vX j d ks ds).2) ⟨vs', lo, e2, q', e3⟩ rfl⟩ trivial
          · cases h4
        · cases h4
    · cases h2
end
section
variable {Γ : Gl} {n : Nat} {fn : Fn} {c : Dy} {fz : List (Addr × Obj)} {α : Nat → Addr} {σ : Sta} {s : Shared} {h h' : Heap}
theorem xI (O : Ok Γ n fn c) : (fn.A c).handled = none := O.hh
theorem St.extBut (S : St Γ fn c fz α σ h) (e : Heap.ExtBut h.objs.size h h') : St Γ fn c fz α σ h' :=
  S.grow fun b o hb => e b o (Nat.ne_of_lt (Heap.lt_size hb)) hb
inductive Names (fn : Fn) : List Expr → List Nat → Prop
  | nil : Names fn [] []
  | cons {x : Str} {p : Pos} {i : Nat} {es : List Expr} {is : List Nat} : IsLoc fn i x → Names fn es is → Names fn (.Name x p :: es) (i :: is)
theorem Names.len {es : List Expr} {is : List Nat} (N : Names fn es is) (env : Env) : (assignEach es env).length = is.length ∧ (assignEach es env).findIdx? (·.1) = none := by
  induction N with
  | nil => exact ⟨rfl, rfl⟩
  | cons _ _ ih =>
    refine ⟨by show _ + 1 = _ + 1; rw [ih.1], ?_⟩
    show ((false, _) :: assignEach _ env).findIdx? (·.1) = none
    rw [List.findIdx?_cons, ih.2]; rfl
theorem jFz (O : Ok Γ n fn c) {es : List Expr} {is : List Nat} (N : Names fn es is) : ∀ {vs : List Value} {ds : List PyData} {σ : Sta} {s : Shared}, RepAll Γ (Dk Γ fz) vs ds → ds.length = is.length → St Γ fn c fz α σ s.heap →
    ∀ {Q : Unit → Shared → Prop} {E : Value → Shared → Prop}, (∀ s', Nx s s' → St Γ fn c fz α (w0z is ds σ) s'.heap → Q () s') →
    wpAny (model Γ.prog Γ.w) (fn.A c) (assignInOrder ((assignEach es (fn.env c)).map (·.2)) vs) Q E s := by
  induction N with
  | nil =>
    intro vs ds σ s r hl S Q E k
    cases ds with
    | nil => exact assignInOrder_nil (k s (Nx.refl s) S)
    | cons _ _ => cases hl
  | cons hi _ ih =>
    intro vs ds σ s r hl S Q E k
    cases r with
    | nil => cases hl
    | cons h1 h2 =>
      refine assignInOrder_cons ?_
      refine PyProof.Rows.assign_Name (zBz O hi S h1 fun s₁ nx₁ S₁ => ?_)
      exact ih h2 (by simpa using hl) S₁ fun s₂ nx₂ S₂ => k s₂ (nx₁.trans nx₂) S₂
theorem qW (O : Ok Γ n fn c) {elts : List Expr} {kd : Nat} {tp pos : Pos} {value : Expr} {is : List Nat} {e : EX} (N : Names fn elts is) (h : SimE Γ fn c (eval value (fn.env c)) e)
    (hs : swapsWithSole [.Tuple elts kd tp] value pos.line (fn.env c) = pure false) (hw : swappedStores [.Tuple elts kd tp] value (fn.env c) = pure none) :
    SimS Γ fn c (exec (.Assign [.Tuple elts kd tp] value pos) (fn.env c)) (qEz is e) := by
  refine ⟨?_⟩
  intro σ r s fz α e S Q E hE k ke
  refine Assign_Tuple ?_ hs hw
  rcases z8 e with ⟨y, h1, hy⟩ | ⟨d, h1, h2⟩
  · exact h.rdE h1 S fun e s' => ke e s' y hy
  · refine h.rdK h1 S fun v s' fz' av nx sub S' D hd => ?_
    have hL := S'.lrep O.X D hd
    split at h2
    · split at h2
      · rename_i ds hlen
        obtain rfl := Option.some.inj h2
        obtain ⟨a', vs, m, rfl, ha, ra⟩ := hL
        obtain ⟨l1, l2⟩ := N.len (fn.env c)
        refine wpAny_assign_Tuple (xI O) (jY ha) (by rw [l1, List.size_toArray, ra.length, hlen]) l2 fun h' ext => ?_
        exact jFz O N ra hlen (S'.extBut ext) fun s₂ nx₂ S₂ => k .next s₂ fz' α _ _ rfl ((nx.trans (Nx.of s' h' s'.toks)).trans nx₂) sub (fun _ _ => rfl) S₂ trivial
      · cases h2
    · cases h2
inductive NamesS (fn : Fn) : List Str → List Nat → Prop
  | nil : NamesS fn [] []
  | cons {x : Str} {i : Nat} {es : List Str} {is : List Nat} : IsLoc fn i x → NamesS fn es is → NamesS fn (x :: es) (i :: is)
theorem NamesS.append {a b : List Str} {is js : List Nat} (h : NamesS fn a is) (k : NamesS fn b js) : NamesS fn (a ++ b) (is ++ js) := by
  induction h with
  | nil => exact k
  | cons h1 _ ih => exact .cons h1 ih
theorem NamesS.reverse {a : List Str} {is : List Nat} (h : NamesS fn a is) : NamesS fn a.reverse is.reverse := by
  induction h with
  | nil => exact .nil
  | cons h1 _ ih => rw [List.reverse_cons, List.reverse_cons]; exact ih.append (.cons h1 .nil)
theorem NamesS.len {a : List Str} {is : List Nat} (h : NamesS fn a is) : a.length = is.length := by
  induction h with
  | nil => rfl
  | cons _ _ ih => rw [List.length_cons, List.length_cons, ih]
theorem zUq (O : Ok Γ n fn c) {es : List Str} {is : List Nat} (N : NamesS fn es is) : ∀ {vs : List Value} {ds : List PyData} {σ : Sta} {s : Shared}, RepAll Γ (Dk Γ fz) vs ds → ds.length = is.length → St Γ fn c fz α σ s.heap →
    ∀ {Q : Unit → Shared → Prop} {E : Value → Shared → Prop}, (∀ s', Nx s s' → St Γ fn c fz α (w0z is ds σ) s'.heap → Q () s') →
    wpAny (model Γ.prog Γ.w) (fn.A c) (assignInOrder (es.map fun n => bindName (fn.env c) n) vs) Q E s := by
  induction N with
  | nil =>
    intro vs ds σ s r hl S Q E k
    cases ds with
    | nil => exact assignInOrder_nil (k s (Nx.refl s) S)
    | cons _ _ => cases hl
  | cons hi _ ih =>
    intro vs ds σ s r hl S Q E k
    cases r with
    | nil => cases hl
    | cons h1 h2 =>
      refine assignInOrder_cons ?_
      refine bindName_ (zBz O hi S h1 fun s₁ nx₁ S₁ => ?_)
      exact ih h2 (by simpa using hl) S₁ fun s₂ nx₂ S₂ => k s₂ (nx₁.trans nx₂) S₂
theorem qAz (O : Ok Γ n fn c) {elts : List Expr} {kd : Nat} {tp pos : Pos} {value : Expr} {names : List Str} {is : List Nat} {e : EX} (N : NamesS fn names is) (h : SimE Γ fn c (eval value (fn.env c)) e)
    (hs : swapsWithSole [.Tuple elts kd tp] value pos.line (fn.env c) = pure false) (hw : swappedStores [.Tuple elts kd tp] value (fn.env c) = pure (some names)) :
    SimS Γ fn c (exec (.Assign [.Tuple elts kd tp] value pos) (fn.env c)) (unpSw is e) := by
  refine ⟨?_⟩
  intro σ r s fz α e S Q E hE k ke
  refine Assign_Tuple_swapped ?_ hs hw
  rcases z8 e with ⟨y, h1, hy⟩ | ⟨d, h1, h2⟩
  · exact h.rdE h1 S fun e s' => ke e s' y hy
  · refine h.rdK h1 S fun v s' fz' av nx sub S' D hd => ?_
    have hL := S'.lrep O.X D hd
    split at h2
    · split at h2
      · rename_i ds hlen
        obtain rfl := Option.some.inj h2
        obtain ⟨a', vs, m, rfl, ha, ra⟩ := hL
        rw [show names.length = vs.toArray.size by rw [N.len, List.size_toArray, ra.length, hlen]]
        refine wpAny_unpackItems_tuple (xI O) (jY ha) fun h' ext => ?_
        exact zUq O N.reverse (uPz ra) (by rw [List.length_reverse, List.length_reverse, hlen]) (S'.extBut ext) fun s₂ nx₂ S₂ => k .next s₂ fz' α _ _ rfl ((nx.trans (Nx.of s' h' s'.toks)).trans nx₂) sub (fun _ _ => rfl) S₂ trivial
      · cases h2
    · cases h2
theorem StC.but {m : Str → Option Value} {μ : Nat → Option Value} (C : StC Γ fn c fz α σ h m μ) {I : Addr} (kk : ∀ b o, b ∉ [I] → h.get? b = some o → h'.get? b = some o) (Fh : Fresh fn c fz α σ I) : StC Γ fn c fz α σ h' m μ := by
  have kk' : ∀ b, b ≠ I → ∀ o, h.get? b = some o → h'.get? b = some o := fun b hb o e => kk b o (by simpa using hb) e
  refine ⟨⟨C.F.ns.at' fun o e => kk' c.L (Ne.symm Fh.mine.ne) o e, fun b o e => kk' b (fun q => by rw [q, Fh.mine.new] at e; cases e) o (C.F.keep b o e), C.F.above⟩, fun p hp => ⟨kk' _ (Fh.mine.off p hp) _ (C.N p hp).1, (C.N p hp).2⟩, C.loc, fun j x hj hx => ?_, C.val, fun j sl ho => ?_, C.inj⟩
  · obtain ⟨ca, o, h1, h2, r1, r2, r3⟩ := C.cel j x hj hx
    exact ⟨ca, o, h1, kk' _ (Fh.cel x ca hx h1) _ h2, r1, r2, r3⟩
  · obtain ⟨h1, ⟨o, h2, h3⟩, r⟩ := C.own j sl ho
    exact ⟨h1, ⟨o, kk' _ (Fh.own j sl ho) _ h2, h3⟩, r⟩
theorem St.but (S : St Γ fn c fz α σ h) {I : Addr} (kk : ∀ b o, b ∉ [I] → h.get? b = some o → h'.get? b = some o) (Fh : Fresh fn c fz α σ I) : St Γ fn c fz α σ h' :=
  let ⟨m, μ, C⟩ := S; ⟨m, μ, C.but kk Fh⟩
noncomputable def v9z (o : Obj) : Prop := o.cls ≠ .type "list" ∧ o.cls ≠ .type "tuple" ∧ o.cls ≠ .type "dict"
mutual
theorem Rep.less {D D' : Addr → Obj → Prop} (hs : ∀ a o, D a o → ¬ v9z o → D' a o) : ∀ {v : Value} {d : PyData}, Rep Γ D v d → Rep Γ D' v d
  | _, _, .none => .none
  | _, _, .bool b => .bool b
  | _, _, .int i t => .int i t
  | _, _, .str x t => .str x t
  | _, _, .list h r => .list (hs _ _ h fun q => q.1 rfl) (RepAll.less hs r)
  | _, _, .tuple h r => .tuple (hs _ _ h fun q => q.2.1 rfl) (RepAll.less hs r)
  | _, _, .dict h a b q r => .dict (hs _ _ h fun z => let ⟨_, _, e, _⟩ := q; z.2.2 e.1) a b q (RepAll.less hs r)
theorem RepAll.less {D D' : Addr → Obj → Prop} (hs : ∀ a o, D a o → ¬ v9z o → D' a o) : ∀ {vs : List Value} {ds : List PyData}, RepAll Γ D vs ds → RepAll Γ D' vs ds
  | _, _, .nil => .nil
  | _, _, .cons h r => .cons (Rep.less hs h) (RepAll.less hs r)
end
theorem j8.less {D D' : Addr → Obj → Prop} (hs : ∀ a o, D a o → ¬ v9z o → D' a o) {a : Addr} {o : Obj} : ∀ {sl : Slot}, j8 Γ D a o sl → j8 Γ D' a o sl
  | .fz _, h => h
  | .ol _, ⟨vs, n, e, r⟩ => ⟨vs, n, e, r.less hs⟩
  | .od _ _, ⟨vs, lo, e, q, r⟩ => ⟨vs, lo, e, q, r.less hs⟩
theorem Dk.less {I : Addr} (hI : ∀ o, (I, o) ∈ fz → v9z o) : ∀ a o, Dk Γ fz a o → ¬ v9z o → Dk Γ (fz.filter fun p => p.1 ≠ I) a o := fun a o hd hn => by
  rcases hd with hd | hd
  · exact .inl hd
  · refine .inr (List.mem_filter.mpr ⟨hd, ?_⟩)
    by_cases e : a = I
    · subst e; exact absurd (hI o hd) hn
    · simpa using e
theorem StC.drop {m : Str → Option Value} {μ : Nat → Option Value} (C : StC Γ fn c fz α σ h m μ) {I : Addr} (hI : ∀ o, (I, o) ∈ fz → v9z o) : StC Γ fn c (fz.filter fun p => p.1 ≠ I) α σ h m μ := by
  have M : ∀ a, Mine1 c fz a → Mine1 c (fz.filter fun p => p.1 ≠ I) a := fun a q => ⟨q.ne, q.new, fun p hp => q.off p (List.mem_filter.mp hp).1⟩
  refine ⟨C.F, fun p hp => C.N p (List.mem_filter.mp hp).1, C.loc, fun j x hj hx => ?_, fun j d hd => ?_, fun j sl ho => ?_, C.inj⟩
  · obtain ⟨ca, o, h1, h2, h3, h4, h5⟩ := C.cel j x hj hx
    exact ⟨ca, o, h1, h2, h3, M ca h4, h5⟩
  · obtain ⟨v, hv, r⟩ := C.val j d hd
    exact ⟨v, hv, r.less (Dk.less hI)⟩
  · obtain ⟨h1, ⟨o, h2, h3⟩, h4⟩ := C.own j sl ho
    exact ⟨h1, ⟨o, h2, h3.less (Dk.less hI)⟩, M _ h4⟩
structure SimT (Γ : Gl) (fn : Fn) (c : Dy) (target : Expr) (st : PyData → Sta → Option Sta) : Prop where
  go : ∀ (I : Addr) (v : Value) (d : PyData) (σ σ' : Sta) (s : Shared) fz α, st d σ = some σ' → St Γ fn c fz α σ s.heap → Rep Γ (Dk Γ fz) v d →
  (∃ o, s.heap.get? I = some o ∧ (o.cls = .type "list_iterator" ∨ o.cls = .type "range_iterator" ∨ o.cls = .type "dict_keyiterator")) →
  ∀ (Q : Unit → Shared → Prop) (E : Value → Shared → Prop), (∀ s', Nx s s' → St Γ fn c fz α σ' s'.heap → Q () s') →
  wpAny (model Γ.prog Γ.w) (fn.A c) (letOwnedTupleGo target (.ref I) v) (fun _ s₁ => wpAny (model Γ.prog Γ.w) (fn.A c) (assign target (fn.env c) v) Q E s₁) E s
theorem vF (O : Ok Γ n fn c) {x : Str} {p : Pos} {i : Nat} (hi : IsLoc fn i x) : SimT Γ fn c (.Name x p) (zRz i) := by
  refine ⟨?_⟩
  intro I v d σ σ' s fz α e S r _ Q E k
  obtain rfl := Option.some.inj e
  exact wpAny_pure (PyProof.Rows.assign_Name (zBz O hi S r k))
set_option tactic.hygienic true in
theorem yEq (O : Ok Γ n fn c) {elts : List Expr} {kd : Nat} {p : Pos} {is : List Nat} (N : Names fn elts is) : SimT Γ fn c (.Tuple elts kd p) (tgtT is) := by
  refine ⟨?_⟩
  intro I v d σ σ' s fz α e S r ⟨o, ho, hc⟩ Q E k
  unfold tgtT at e
  split at e
  · split at e
    · rename_i ds hlen
      obtain rfl := Option.some.inj e
      cases r with
      | @tuple aa _ _ _ ha ra =>
        have fin : wpAny (model Γ.prog Γ.w) (fn.A c) (assign (.Tuple elts kd p) (fn.env c) (.ref aa)) Q E s := by
          obtain ⟨l1, l2⟩ := N.len (fn.env c)
          refine wpAny_assign_Tuple (xI O) (jY (S.heapD O.X _ _ ha)) (by rw [l1, List.size_toArray, ra.length, hlen]) l2 fun h' ext => ?_
          exact jFz O N ra hlen (S.extBut ext) fun s₂ nx₂ S₂ => k s₂ ((Nx.of s h' s.toks).trans nx₂) S₂
        unfold letOwnedTupleGo
        refine wpAny_bind (wpAny_load ho ?_)
        obtain ⟨oc, od, odt, osl⟩ := o
        dsimp only at hc ⊢
        rcases hc with rfl | rfl | rfl <;> cases odt <;> first | exact wpAny_pure fin | exact wpAny_of_eq rfl (wpAny_pure fin)
    · cases e
  · cases e
theorem kGz {prog : Program} {w : World} {A : Around} {R : Result → Shared → Prop} {target : Expr} {it : Value} {body orelse : List Stmt} {env : Env} (I : Nat → Shared → Prop)
    (turn : ∀ n s, I n s → wpAny (model prog w) A (pyNext it) (fun r s₁ => match r with
      | none => wpAny (model prog w) A (execs orelse env) (fun f s₃ => R (.ok f) s₃) (notedBy (model prog w) A env fun e s' => R (.error e) s') s₁
      | some v => wpAny (model prog w) A (letOwnedTupleGo target it v) (fun _ s₁ => wpAny (model prog w) A (assign target env v) (fun _ s₂ => wpAny (model prog w) A (execs body env) (fun f s₃ => match f with
          | .next | .cont => ∃ m, m < n ∧ I m s₃
          | .brk => R (.ok .next) s₃
          | .ret v => R (.ok (.ret v)) s₃) (notedBy (model prog w) A env fun e s' => R (.error e) s') s₂) (notedBy (model prog w) A env fun e s' => R (.error e) s') s₁) (notedBy (model prog w) A env fun e s' => R (.error e) s') s₁) (notedBy (model prog w) A env fun e s' => R (.error e) s') s)
    (n : Nat) (s : Shared) (h : I n s) : codeAny (model prog w) A (.forLoop target it body orelse env) R s := by
  refine codeAny_loop' rfl I (fun n s hI => ?_) n h
  show wpAny _ _ ((forTurn target it body orelse env).onRaise (fun x => do noteFrame x env; theTreesLotGoes x)) _ _ s
  refine wpAny_noted ?_
  simp only [forTurn]
  refine wpAny_bind (wpAny_standAt (wpAny_bind (wpAny_onRaise (wpAny_mono (turn n s hI) (fun r s₁ h₁ => ?_) fun _ _ h' => wpAny_standAt h'))))
  induction r with
  | none => exact wpAny_pure (.inr ⟨rfl, codeAny_block h₁⟩)
  | some v =>
    refine wpAny_bind (wpAny_mono h₁ (fun _ s₁' h₁' => ?_) fun _ _ h' => h')
    refine wpAny_bind (wpAny_mono h₁' (fun _ s₂ h₂ => wpAny_bind (wpAny_mono h₂ (fun f s₃ h₃ => ?_) fun _ _ h' => h')) fun _ _ h' => h')
    induction f with
    | next => exact wpAny_pure (.inl ⟨rfl, h₃⟩)
    | cont => exact wpAny_pure (.inl ⟨rfl, h₃⟩)
    | brk => exact wpAny_pure h₃
    | ret v => exact wpAny_pure h₃
structure Src (Γ : Gl) (fn : Fn) (c : Dy) (fz : List (Addr × Obj)) (I : Addr) (items : List PyData) (Stt : Nat → Heap → Prop) : Prop where
  item : ∀ i (s : Shared) (Q : Option Value → Shared → Prop) (E : Value → Shared → Prop), i < items.length → Stt i s.heap →
    (∀ v h' tk d, items[i]? = some d → Rep Γ (Dk Γ fz) v d → Stt (i + 1) h' → (∀ b o, b ∉ [I] → s.heap.get? b = some o → h'.get? b = some o) → Q (some v) { s with heap := h', toks := tk }) → wpAny (model Γ.prog Γ.w) (fn.A c) (pyNext (.ref I)) Q E s
  done : ∀ (s : Shared) (Q : Option Value → Shared → Prop) (E : Value → Shared → Prop), Stt items.length s.heap →
    (∀ h' tk, (∀ b o, b ∉ [I] → s.heap.get? b = some o → h'.get? b = some o) → Q none { s with heap := h', toks := tk }) → wpAny (model Γ.prog Γ.w) (fn.A c) (pyNext (.ref I)) Q E s
  cls : ∀ i h, Stt i h → ∃ o, h.get? I = some o ∧ (o.cls = .type "list_iterator" ∨ o.cls = .type "range_iterator" ∨ o.cls = .type "dict_keyiterator")
  frame : ∀ i h h', Stt i h → (∀ a o, Dk Γ fz a o → h.get? a = some o) → (∀ a o, Dk Γ fz a o → h'.get? a = some o) → h'.get? I = h.get? I → Stt i h'
theorem noData_of {o : Obj} (h : o.cls = .type "list_iterator" ∨ o.cls = .type "range_iterator" ∨ o.cls = .type "dict_keyiterator") : v9z o := by
  refine ⟨?_, ?_, ?_⟩ <;> (intro e; rw [e] at h; revert h; decide)
inductive ForI (Γ : Gl) (fn : Fn) (c : Dy) (fz : List (Addr × Obj)) (α : Nat → Addr) (items : List PyData) (I : Addr) (Stt : Nat → Heap → Prop) (g : Nat → SX) (r : Except Addr (Fl × Sta)) (s : Shared) (k : Nat) (s' : Shared) : Prop
  | mk (i : Nat) (fz' : List (Addr × Obj)) (α' : Nat → Addr) (σ' : Sta) (hk : k = items.length + 1 - i) (hi : i ≤ items.length) (nx : Nx s s') (sub : ∀ p ∈ fz, p ∈ fz') (pin : ∀ i, fn.pin i = true → α' i = α i) (S : St Γ fn c fz' α' σ' s'.heap) (F : Fresh fn c fz' α' σ' I) (st : Stt i s'.heap) (e : g i σ' = some r) : ForI Γ fn c fz α items I Stt g r s k s'
inductive ForC (st : PyData → Sta → Option Sta) (b : SX) (d : PyData) (g : SX) (σ : Sta) (r : Except Addr (Fl × Sta)) : Prop
  | mk (σ₂ : Sta) (h1 : st d σ = some σ₂) (h2 : BndC (b σ₂) (fun p => match p.1 with | .next => g p.2 | .cont => g p.2 | .brk => some (.ok (.next, p.2)) | .ret d => some (.ok (.ret d, p.2))) r) : ForC st b d g σ r
theorem for_inv {st : PyData → Sta → Option Sta} {b : SX} {items : List PyData} {i : Nat} {d : PyData} {σ : Sta} {r : Except Addr (Fl × Sta)} (e : vL st b (items.drop i) σ = some r) (hd : items[i]? = some d) : ForC st b d (vL st b (items.drop (i + 1))) σ r := by
  have hlt := (List.getElem?_eq_some_iff.mp hd).1
  rw [List.drop_eq_getElem_cons hlt, (List.getElem?_eq_some_iff.mp hd).2] at e
  unfold vL at e
  split at e
  · cases e
  · exact ⟨_, ‹_›, z8 e⟩
theorem for_go (O : Ok Γ n fn c) {target : Expr} {body : List Stmt} {I : Addr} {items : List PyData} {Stt : Nat → Heap → Prop} {st : PyData → Sta → Option Sta} {b : SX} {r : Except Addr (Fl × Sta)} (W : Src Γ fn c fz I items Stt)
    (hT : SimT Γ fn c target st) (hb : SimS Γ fn c (execs body (fn.env c)) b) (e : vL st b items σ = some r) (S : St Γ fn c fz α σ s.heap) (Fh : Fresh fn c fz α σ I) (hst : Stt 0 s.heap)
    {Q : Flow → Shared → Prop} {E : Value → Shared → Prop} (hE : PassesOwn (model Γ.prog Γ.w) (fn.A c) (fn.env c) E)
    (k : ∀ fl s' fz' α' fl' σ', r = .ok (fl', σ') → Nx s s' → (∀ p ∈ fz, p ∈ fz') → (∀ i, fn.pin i = true → α' i = α i) → St Γ fn c fz' α' σ' s'.heap → jBz Γ fz' fl fl' → Q fl s')
    (ke : ∀ e s' x, r = .error x → Nx s s' → vG fn c fz x e s'.heap → E (.ref e) s') :
    codeAny (model Γ.prog Γ.w) (fn.A c) (.forLoop target (.ref I) body [] (fn.env c)) (fun r s' => match r with | .ok f => Q f s' | .error e => cameBackBy (model Γ.prog Γ.w) (fn.A c) (fn.env c) E e s') s := by
  refine kGz (ForI Γ fn c fz α items I Stt (fun i => vL st b (items.drop i)) r s) ?_ (items.length + 1) s
    ⟨0, fz, α, σ, rfl, Nat.zero_le _, Nx.refl s, fun _ hp => hp, fun _ _ => rfl, S, Fh, hst, e⟩
  rintro m s₁ ⟨i, fz₁, α₁, σ₁, hm, hi, nx₁, sub₁, pin₁, S₁, F₁, st₁, e₁⟩
  refine wpAny_passesOwn hE ?_
  by_cases hlt : i < items.length
  · refine W.item i s₁ _ _ hlt st₁ fun v h₂ tk d hd R st₂ kk => ?_
    obtain ⟨σ₂, hσ, hB⟩ := for_inv e₁ hd
    have S₂ : St Γ fn c fz₁ α₁ σ₁ h₂ := S₁.but kk F₁
    obtain ⟨oI, hoI, hcI⟩ := W.cls _ _ st₂
    have S₃ := S₂.freeze1 hoI F₁.mine.ne F₁.mine.new F₁.own F₁.cel
    refine hT.go I v _ σ₁ σ₂ { s₁ with heap := h₂, toks := tk } ((I, oI) :: fz₁) α₁ hσ S₃ (R.mono (Dk.sub fun p hp => List.mem_cons_of_mem _ (sub₁ p hp))) ⟨oI, hoI, hcI⟩ _ _ fun s₄ nx₄ S₄ => ?_
    refine wpAny_passesOwn hE ?_
    have nx₅ : Nx s s₄ := (nx₁.trans (Nx.of s₁ h₂ tk)).trans nx₄
    rcases hB with ⟨y, h3, hy⟩ | ⟨⟨fl, σ'⟩, h3, h4⟩
    · exact hb.goE h3 S₄ hE fun e s' nx R => ke e s' y hy (nx₅.trans nx) (yP (fun p hp => List.mem_cons_of_mem _ (sub₁ p hp)) R)
    · refine hb.goK h3 S₄ hE fun fl₁ s₆ fz₆ α₆ nx₆ sub₆ pin₆ S₆ fr => ?_
      have nx := nx₅.trans nx₆
      have sub : ∀ p ∈ fz, p ∈ fz₆ := fun p hp => sub₆ p (List.mem_cons_of_mem _ (sub₁ p hp))
      have pin : ∀ i, fn.pin i = true → α₆ i = α i := fun i hi => (pin₆ i hi).trans (pin₁ i hi)
      have hI6 : s₆.heap.get? I = some oI := (S₆.news _ (sub₆ _ (.head _))).1
      have next : vL st b (items.drop (i + 1)) σ' = some r → ∃ k, k < m ∧ ForI Γ fn c fz α items I Stt (fun i => vL st b (items.drop i)) r s k s₆ := fun hgo => by
        refine ⟨items.length + 1 - (i + 1), by omega, i + 1, fz₆.filter fun p => p.1 ≠ I, α₆, σ', rfl, hlt, nx, fun p hp => List.mem_filter.mpr ⟨sub p hp, by simpa using Fh.mine.off p hp⟩, pin, ?_, ?_, ?_, hgo⟩
        · obtain ⟨mm, μ, C⟩ := id S₆
          exact ⟨mm, μ, C.drop fun o ho => by
            have := (S₆.news _ ho).1
            rw [hI6] at this; cases this
            exact noData_of hcI⟩
        · obtain ⟨mm, μ, C⟩ := id S₆
          refine ⟨⟨F₁.mine.ne, F₁.mine.new, fun p hp => by simpa using (List.mem_filter.mp hp).2⟩, fun j sl ho => fun e => (C.own j sl ho).2.2.off _ (sub₆ _ (.head _)) e.symm, fun x ca hx hl => F₁.cel x ca hx hl⟩
        · exact W.frame _ _ _ st₂ (fun a o q => S₂.heapD O.X a o (q.imp (fun z => z) fun z => sub₁ _ z)) (fun a o q => S₆.heapD O.X a o (q.imp (fun z => z) fun z => sub _ z)) (hI6.trans hoI.symm)
      have fr := flC fr
      induction fr with
      | next => exact next h4
      | cont => exact next h4
      | brk => exact k .next s₆ fz₆ α₆ _ _ (Option.some.inj h4).symm nx sub pin S₆ trivial
      | ret v d R => exact k (.ret v) s₆ fz₆ α₆ _ _ (Option.some.inj h4).symm nx sub pin S₆ R
  · obtain rfl : i = items.length := by omega
    rw [List.drop_length] at e₁
    refine W.done s₁ _ _ st₁ fun h₂ tk kk => ?_
    refine wpAny_execs_nil (k .next _ fz₁ α₁ _ _ (Option.some.inj e₁).symm (nx₁.trans (Nx.of s₁ h₂ tk)) sub₁ pin₁ (S₁.but kk F₁) trivial)
end
section
variable {Γ : Gl} {n : Nat} {fn : Fn} {c : Dy} {fz : List (Addr × Obj)} {α : Nat → Addr} {σ : Sta} {s : Shared} {h h' : Heap}
theorem src_list (O : Ok Γ n fn c) {I a : Addr} {vs : List Value} {m : Nat} {ds : List PyData} (hne : a ≠ I) (ha : Dk Γ fz a (x4z vs m)) (r : RepAll Γ (Dk Γ fz) vs ds) :
    Src Γ fn c fz I ds (fun i h => h.IsListIter I a i ∧ h.IsList a vs.toArray) := by
  have W := Walks.list (prog := Γ.prog) (w := Γ.w) (xI O) I a hne vs.toArray
  have hl := r.length
  refine ⟨fun i s Q E hi hst k => ?_, fun s Q E hst k => ?_, fun i h hst => ?_, fun i h h' hst _ kk hI => ?_⟩
  · refine W.item i s Q E (by rw [List.size_toArray]; omega) hst fun v h' tk hP hst' hk => ?_
    obtain ⟨d, hd, hr⟩ := r.getV (v := v) (k := i) (by simpa using hP)
    exact k v h' tk d hd hr hst' hk
  · exact W.done s Q E (by rw [List.size_toArray, hl]; exact hst) k
  · obtain ⟨o, ho, hc, _⟩ := hst.1
    exact ⟨o, ho, .inl hc⟩
  · exact ⟨hst.1.at fun o e => hI.trans e, xM (kk _ _ ha)⟩
theorem src_dict (O : Ok Γ n fn c) {I a : Addr} {o : Obj} {ks : List Int} {vs : List Value} {ep : Nat} {es : Array DictEntry} (hne : a ≠ I) (ha : Dk Γ fz a o) (hl : ks.length = vs.length)
    (q : o.ExactDict ∧ o.data = .dict es ep ∧ KeysOf (intKind Γ.prog Γ.w) es ∧ Pairs (intKind Γ.prog Γ.w) es.toList (ks.zip vs) ∧ ((ks.zip vs).map (·.1)).Nodup) :
    Src Γ fn c fz I (ks.map PyData.int) (fun i h => h.IsKeyIter I a i (ks.zip vs).length ep ∧ h.DictAt (intKind Γ.prog Γ.w) a (ks.zip vs) ep) := by
  have W := Walks.dictKeys (prog := Γ.prog) (w := Γ.w) (knd := intKind Γ.prog Γ.w) (xI O) I a hne (ks.zip vs) ep
  have e1 : (ks.zip vs).length = ks.length := by rw [List.length_zip]; omega
  refine ⟨fun i s Q E hi hst k => ?_, fun s Q E hst k => ?_, fun i h hst => ?_, fun i h h' hst _ kk hI => ?_⟩
  · refine W.item i s Q E (by rw [e1]; simpa using hi) hst fun v h' tk hP hst' hk => ?_
    obtain ⟨k', x, hx, hv⟩ := hP
    obtain ⟨t, rfl⟩ := Value.isInt_shape hv
    refine k _ h' tk (.int k') ?_ (Rep.int _ _) hst' hk
    rw [List.getElem?_zip_eq_some] at hx
    simp [hx.1]
  · have h' : (ks.map PyData.int).length = (ks.zip vs).length := by rw [List.length_map, e1]
    rw [h'] at hst
    exact W.done s Q E hst k
  · obtain ⟨o, ho, hc, _⟩ := hst.1
    exact ⟨o, ho, .inr (.inr hc)⟩
  · exact ⟨hst.1.at fun o e => hI.trans e, o, es, kk _ _ ha, q⟩
theorem qB (O : Ok Γ n fn c) {target iter : Expr} {body : List Stmt} {pos : Pos} {st : PyData → Sta → Option Sta} {e : EX} {b : SX} (hT : SimT Γ fn c target st) (h : SimE Γ fn c (eval iter (fn.env c)) e) (hb : SimS Γ fn c (execs body (fn.env c)) b)
    (hf : ∀ x, foldedSetIterable iter (fn.env c) x = pure x) : SimS Γ fn c (exec (.For target iter body [] pos) (fn.env c)) (z4q st e b) := by
  refine ⟨?_⟩
  intro σ r s fz α e S Q E hE k ke
  refine wpAny_For ?_ hf
  rcases z8 e with ⟨y, h1, hy⟩ | ⟨d, h1, h2⟩
  · exact h.pvE h1 S fun e s' => ke e s' y hy
  · refine h.pvK h1 S fun v s' fz' nx sub S' R => ?_
    have k' : ∀ (I : Addr) (h₂ : Heap), ∀ fl s₂ fz₂ α₂ fl' σ₂, r = .ok (fl', σ₂) → Nx { s' with heap := h₂ } s₂ → (∀ p ∈ fz', p ∈ fz₂) → (∀ i, fn.pin i = true → α₂ i = α i) → St Γ fn c fz₂ α₂ σ₂ s₂.heap → jBz Γ fz₂ fl fl' → Q fl s₂ := fun I h₂ fl s₂ fz₂ α₂ fl' σ₂ q nx₂ sub₂ pin S₂ fr =>
      k fl s₂ fz₂ α₂ fl' σ₂ q ((nx.trans (Nx.of s' h₂ s'.toks)).trans nx₂) (fun p hp => sub₂ p (sub p hp)) pin S₂ fr
    have ke' : ∀ (h₂ : Heap), ∀ e s₂ x, r = .error x → Nx { s' with heap := h₂ } s₂ → vG fn c fz' x e s₂.heap → E (.ref e) s₂ := fun h₂ e s₂ x q nx₂ R => ke e s₂ x q ((nx.trans (Nx.of s' h₂ s'.toks)).trans nx₂) (yP sub R)
    cases R with
    | @list a vs m ds ha ra =>
      have hg := S'.heapD O.X _ _ ha
      have hne : a ≠ s'.heap.objs.size := Nat.ne_of_lt (Heap.lt_size hg)
      refine wpAny_pyIter_list (xM hg) ?_
      exact for_go O (s := { s' with heap := s'.heap.push { cls := .type "list_iterator", data := .fields #[.ref a, .int 0 0] } }) (src_list O hne ha ra) hT hb h2 (S'.grow fun b o' e => Heap.get?_push_of_some _ e) (j5 S' O.G) ⟨⟨_, Heap.get?_push_size _ rfl, rfl, rfl⟩, xM (Heap.get?_push_of_some _ hg)⟩ hE (k' 0 _) (ke' _)
    | @dict a o ks vs ds ha lo hl q ra =>
      have hg := S'.heapD O.X _ _ ha
      have hne : a ≠ s'.heap.objs.size := Nat.ne_of_lt (Heap.lt_size hg)
      obtain ⟨es, ep, q'⟩ := q
      have hit : j1z (dictD ks ds) = some (ks.map PyData.int) := by
        show some (((ks.map PyData.int).zip ds).map (·.1)) = _
        rw [List.map_fst_zip (by rw [List.length_map]; have := ra.length; omega)]
      rw [hit] at h2
      refine wpAny_pyIter_dict lo ⟨o, es, hg, q'⟩ ?_
      exact for_go O (s := { s' with heap := s'.heap.push { cls := .type "dict_keyiterator", data := .fields #[.ref a, .int 0 0, .int (ks.zip vs).length 0, .int ep 0] } }) (src_dict O hne ha hl q') hT hb h2 (S'.grow fun b o' e => Heap.get?_push_of_some _ e) (j5 S' O.G) ⟨⟨_, Heap.get?_push_size _ rfl, rfl, rfl⟩, o, es, Heap.get?_push_of_some _ hg, q'⟩ hE (k' 0 _) (ke' _)
    | none => cases h2
    | bool b => cases h2
    | int i t => cases h2
    | str x t => cases h2
    | tuple _ _ => cases h2
theorem src_range (O : Ok Γ n fn c) {I : Addr} {N : Nat} : Src Γ fn c fz I ((List.range N).map fun i => PyData.int ((i : Nat) : Int)) (fun i h => IsRangeIter h I (0 + (i : Nat) * 1) ((N : Int) - (i : Nat)) 1) := by
  have W := Walks.range (prog := Γ.prog) (w := Γ.w) (xI O) I 0 1 N
  refine ⟨fun i s Q E hi hst k => ?_, fun s Q E hst k => ?_, fun i h hst => ?_, fun i h h' hst _ kk hI => ?_⟩
  · have hi' : i < N := by simpa using hi
    refine W.item i s Q E hi' hst fun v h' tk hP hst' hk => ?_
    obtain ⟨t, rfl⟩ := hP
    refine k _ h' tk (.int (0 + i * 1)) ?_ (Rep.int _ _) hst' hk
    simp [hi']
  · exact W.done s Q E (by simpa using hst) k
  · exact ⟨_, hst, .inr (.inl rfl)⟩
  · exact hI.trans hst
set_option tactic.hygienic true in
theorem v8z (O : Ok Γ n fn c) {target arg : Expr} {p cp pos : Pos} {body : List Stmt} {st : PyData → Sta → Option Sta} {e : EX} {b : SX} (he : starEach [arg] (fn.env c) = [(false, eval arg (fn.env c))]) (hk : fn.scope.names.lookup (Str.ofString "range") = some .globalImplicit)
    (hK : nsIn Γ.K mainGlobals (Str.ofString "range") = some none) (hT : SimT Γ fn c target st) (h : SimE Γ fn c (eval arg (fn.env c)) e) (hb : SimS Γ fn c (execs body (fn.env c)) b) :
    SimS Γ fn c (exec (.For target (.Call (.Name (Str.ofString "range") p) [arg] [] cp) body [] pos) (fn.env c)) (forR st e b) := by
  refine ⟨?_⟩
  intro σ r s fz α e S Q E hE k ke
  refine wpAny_For ?_ (fun _ => rfl)
  obtain ⟨mm, μ, C⟩ := id S
  refine Call_Name rfl (nameX_B C.F O.X O.T hK boot_range (by decide) ?_ O.G.hk hk (by decide))
  refine PyProof.Rows.callWith_type1 ?_ he rfl
  refine spliced_more ?_ he
  rcases z8 e with ⟨y, h1, hy⟩ | ⟨d, h1, h2⟩
  · exact h.rdE h1 S fun e s' => ke e s' y hy
  · refine h.rdK h1 S fun v s' fz' av nx sub S' D hd => ?_
    refine spliced_none ?_
    have hL := S'.lrep O.X D hd
    split at h2
    · rename_i N
      split at h2
      · rename_i hlim
        obtain ⟨t, rfl⟩ := hL
        refine call_range_1 ?_
        have hr : IsRange (s'.heap.push { cls := .type "range", data := .fields #[.int 0 s'.toks, .int N t, .int 1 (s'.toks + 1)] }) s'.heap.objs.size 0 N 1 s'.toks t (s'.toks + 1) := IsRange.new _ _ _ _ _ _ _
        refine wpAny_pyIter_range hr (small_one (by omega) (by omega) (by omega) (by simp only [lim] at *; omega)) ?_
        rw [rangeSize_nat, Int.sub_zero]
        have S₂ : St Γ fn c fz' α σ (s'.heap.push { cls := .type "range", data := .fields #[.int 0 s'.toks, .int N t, .int 1 (s'.toks + 1)] }) := S'.grow fun b o' e => Heap.get?_push_of_some _ e
        refine for_go O (s := { s' with heap := (s'.heap.push { cls := .type "range", data := .fields #[.int 0 s'.toks, .int N t, .int 1 (s'.toks + 1)] }).push { cls := .type "range_iterator", data := .fields #[rawInt 0, rawInt N.toNat, rawInt 1] }, toks := s'.toks + 1 + 1 })
          (src_range O (N := N.toNat)) hT hb h2 (S₂.grow fun b o' e => Heap.get?_push_of_some _ e) (j5 (s := { s' with heap := s'.heap.push { cls := .type "range", data := .fields #[.int 0 s'.toks, .int N t, .int 1 (s'.toks + 1)] } }) S₂ O.G) ?_ hE ?_ ?_
        · show IsRangeIter _ _ _ _ _
          have hit : ((s'.heap.push { cls := .type "range", data := .fields #[.int 0 s'.toks, .int N t, .int 1 (s'.toks + 1)] }).push { cls := .type "range_iterator", data := .fields #[rawInt 0, rawInt N.toNat, rawInt 1] }).get? (s'.heap.push { cls := .type "range", data := .fields #[.int 0 s'.toks, .int N t, .int 1 (s'.toks + 1)] }).objs.size = some { cls := .type "range_iterator", data := .fields #[rawInt 0, rawInt N.toNat, rawInt 1] } := Heap.get?_push_size _ rfl
          simpa using hit
        · exact fun fl s₂ fz₂ α₂ fl' σ₂ q nx₂ sub₂ pin S₂ fr => k fl s₂ fz₂ α₂ fl' σ₂ q (nx.trans (Nx.trans (s' := { s' with heap := (s'.heap.push { cls := .type "range", data := .fields #[.int 0 s'.toks, .int N t, .int 1 (s'.toks + 1)] }).push { cls := .type "range_iterator", data := .fields #[rawInt 0, rawInt N.toNat, rawInt 1] }, toks := s'.toks + 1 + 1 }) ⟨rfl, rfl, id⟩ nx₂)) (fun p hp => sub₂ p (sub p hp)) pin S₂ fr
        · exact fun e s₂ x q nx₂ R => ke e s₂ x q (nx.trans (Nx.trans (s' := { s' with heap := (s'.heap.push { cls := .type "range", data := .fields #[.int 0 s'.toks, .int N t, .int 1 (s'.toks + 1)] }).push { cls := .type "range_iterator", data := .fields #[rawInt 0, rawInt N.toNat, rawInt 1] }, toks := s'.toks + 1 + 1 }) ⟨rfl, rfl, id⟩ nx₂)) (yP sub R)
      · cases h2
    · cases h2
end
inductive RaisedC (fn : Fn) (c : Dy) (h : Heap) (m : Str → Option Value) (fz : List (Addr × Obj)) (own : Addr → Prop) (x e : Addr) (h' : Heap) : Prop
  | mk (g : Heap) (t : Addr) (vs : List Value) (F : Fr c.h₀ c.L g m) (k : ∀ b o, h.get? b = some o → (∀ p ∈ fz, p.1 ≠ b) → ¬ own b → g.get? b = some o) (U : g.UpToSlots h') (R : RaisedK c.base (fn.env c :: c.outer) e (.ref x) t vs fz h') : RaisedC fn c h m fz own x e h'
theorem RaisedC.to {fn : Fn} {c : Dy} {h h' : Heap} {m : Str → Option Value} {fz : List (Addr × Obj)} {own : Addr → Prop} {x e : Addr} (R : RaisedC fn c h m fz own x e h') : vG fn c fz x e h' :=
  let ⟨g, t, vs, F, _, U, R⟩ := R; .inr ⟨g, m, t, vs, F, U, R⟩
noncomputable def CsAt (Γ : Gl) (lv : Nat) (f : Addr) (args : List Slot) (r : Except Addr (PyData × Sta)) : Prop :=
  ∀ (n : Nat) (fn : Fn) (c : Dy), Ok Γ n fn c → lv ≤ n → ∀ (s : Shared) (m : Str → Option Value) (fz : List (Addr × Obj)) (as : Nat → Addr) (vals : List Value),
    Fr c.h₀ c.L s.heap m → News c.h₀ c.L s.heap fz → vals.length = args.length →
    (∀ (i : Nat) d, args[i]? = some (.fz d) → ∃ v, vals[i]? = some v ∧ Rep Γ (Dk Γ fz) v d) →
    (∀ (i : Nat) sl, args[i]? = some sl → sl.isOwn = true → vals[i]? = some (.ref (as i)) ∧ (∃ o, s.heap.get? (as i) = some o ∧ j8 Γ (Dk Γ fz) (as i) o sl) ∧ Mine1 c fz (as i)) →
    (∀ (i j : Nat) sl sl', args[i]? = some sl → sl.isOwn = true → args[j]? = some sl' → sl'.isOwn = true → as i = as j → i = j) →
    ∀ (Q E : Value → Shared → Prop),
    (∀ v s' fz' d τ, r = .ok (d, τ) → Nx s s' → (∀ p ∈ fz, p ∈ fz') → News c.h₀ c.L s'.heap fz' → Rep Γ (Dk Γ fz') v d →
      (∀ b o, s.heap.get? b = some o → (∀ p ∈ fz, p.1 ≠ b) → (∀ (i : Nat) sl, args[i]? = some sl → sl.isOwn = true → as i ≠ b) → s'.heap.get? b = some o ∧ ∀ p ∈ fz', p.1 ≠ b) →
      (∀ (i : Nat) sl sl', args[i]? = some sl → sl.isOwn = true → τ[i]? = some (some sl') → sl'.isOwn = true → (∃ o, s'.heap.get? (as i) = some o ∧ j8 Γ (Dk Γ fz') (as i) o sl') ∧ Mine1 c fz' (as i)) → Q v s') →
    (∀ e s' x, r = .error x → Nx s s' → RaisedC fn c s.heap m fz (fun b => ∃ (i : Nat) (sl : Slot), args[i]? = some sl ∧ sl.isOwn = true ∧ as i = b) x e s'.heap → E (.ref e) s') →
    wpAny (model Γ.prog Γ.w) (fn.A c) (call (.ref f) vals) Q E s
noncomputable def Cs (Γ : Gl) (lv : Nat) (f : Addr) (x : XF) : Prop := ∀ args r, x args = some r → CsAt Γ lv f args r
inductive FnEx (Γ : Gl) (f : Addr) (fn : Fn) (ps : List Str) (body : List Stmt) : Prop
  | mk (oc : Value) (od : Option Addr) (osl : Array (Option Value)) (name : Str) (params : Arguments) (dV kV doc pm : Value) (an : Option Addr) (cdv ct : Value)
    (h1 : Γ.K.lookup f = some ⟨oc, od, .func (fnOf name fn.name params body fn.scope dV kV doc pm an cdv ct), osl⟩) (h2 : codeIn Γ.K cdv fn.name = true)
    (h3 : ∀ s vals, vals.length = ps.length → BindsTo s (fnOf name fn.name params body fn.scope dV kV doc pm an cdv ct) ⟨vals, []⟩ (ps.zip vals)) : FnEx Γ f fn ps body
structure FnAt (Γ : Gl) (f : Addr) (fn : Fn) (ps : List Str) (body : List Stmt) : Prop where
  ex : FnEx Γ f fn ps body
  co : fn.scope.isCoroutine = false
  gen : fn.scope.isGenerator = false
  nd : ps.Nodup
  pre : ∀ (i : Nat) x, ps[i]? = some x → fn.nm[i]? = some x ∧ fn.scope.names.lookup x = some .local
section
variable {Γ : Gl} {n : Nat} {fn : Fn} {c : Dy} {fz : List (Addr × Obj)} {α : Nat → Addr} {σ : Sta} {s : Shared} {h h' : Heap}
theorem xSz {pin : Nat → Bool} : ∀ {args : List Slot} {k : Nat}, ySz pin k args = true → ∀ (i : Nat) sl, args[i]? = some sl → sl.isOwn = true → pin (k + i) = true
  | [], _, _, i, sl, h, _ => by simp at h
  | a :: r, k, h, i, sl, hi, ho => by
    simp only [ySz, Bool.and_eq_true, Bool.or_eq_true, Bool.not_eq_true'] at h
    induction i with
    | zero => simp at hi; subst hi; exact h.1.resolve_left (by rw [ho]; exact Bool.noConfusion)
    | succ i =>
      have := xSz h.2 i sl (by simpa using hi) ho
      rwa [Nat.add_assoc, Nat.add_comm 1 i] at this
theorem jWz {l : List (Str × Value)} {x : Str} {v : Value} (nd : (l.map (·.1)).Nodup) (hm : (x, v) ∈ l) : l.lookup x = some v := by
  induction l with
  | nil => cases hm
  | cons p r ih =>
    obtain ⟨h1, h2⟩ := List.nodup_cons.mp nd
    rcases List.mem_cons.mp hm with e | hm
    · subst e; simp
    · have hne : x ≠ p.1 := fun e => h1 (by show p.1 ∈ _; rw [← e]; exact List.mem_map_of_mem (f := (·.1)) hm)
      rw [List.lookup_cons, show (x == p.1) = false from by simpa using hne]
      exact ih h2 hm
theorem zVz {ps : List Str} {vals : List Value} (nd : ps.Nodup) (hl : vals.length = ps.length) {i : Nat} {x : Str} {v : Value} (hx : ps[i]? = some x) (hv : vals[i]? = some v) : (ps.zip vals).reverse.lookup x = some v := by
  have hm : (x, v) ∈ (ps.zip vals).reverse := by
    rw [List.mem_reverse, List.mem_iff_getElem?]
    exact ⟨i, by rw [List.getElem?_zip_eq_some]; exact ⟨hx, hv⟩⟩
  refine jWz ?_ hm
  rw [List.map_reverse, List.map_fst_zip (by omega)]
  exact (List.reverse_perm ps).nodup_iff.mpr nd
theorem v4 {args : List Slot} {N : Nat} {i : Nat} {sl : Slot} (e : (args.map some ++ List.replicate N (none : Option Slot))[i]? = some (some sl)) : args[i]? = some sl := by
  by_cases hi : i < args.length
  · rw [List.getElem?_append_left (by simpa using hi), List.getElem?_map] at e
    cases h : args[i]? with
    | none => rw [h] at e; cases e
    | some a => rw [h] at e; simpa using e
  · rw [List.getElem?_append_right (by simpa using hi), List.getElem?_replicate] at e
    split at e <;> cases e
inductive RunC (b : SX) (σ : Sta) (r : Except Addr (PyData × Sta)) : Prop
  | err (y : Addr) (e : b σ = some (.error y)) (hr : r = .error y) : RunC b σ r
  | ret (d : PyData) (τ : Sta) (e : b σ = some (.ok (.ret d, τ))) (hr : r = .ok (d, τ)) : RunC b σ r
inductive RunF (np nloc : Nat) (pin : Nat → Bool) (b : SX) (args : List Slot) (r : Except Addr (PyData × Sta)) : Prop
  | mk (hl : args.length = np) (hp : ySz pin 0 args = true) (h : RunC b (args.map some ++ List.replicate (nloc - args.length) none) r) : RunF np nloc pin b args r
theorem hSz {np nloc : Nat} {pin : Nat → Bool} {b : SX} {args : List Slot} {r : Except Addr (PyData × Sta)} (h : zDz np nloc pin b args = some r) : RunF np nloc pin b args r := by
  unfold zDz at h
  split at h
  · rename_i hp
    refine ⟨hp.1, hp.2, ?_⟩
    rcases z8 h with ⟨y, e1, e2⟩ | ⟨⟨fl, σ'⟩, e1, e2⟩
    · exact .err y e1 e2
    · induction fl with
      | ret d => exact .ret d σ' e1 (Option.some.inj e2).symm
      | next => cases e2
      | brk => cases e2
      | cont => cases e2
  · cases h
inductive FlV (Γ : Gl) (fz : List (Addr × Obj)) (d : PyData) (fl : Flow) : Prop
  | mk (v : Value) (e : fl = .ret v) (R : Rep Γ (Dk Γ fz) v d) : FlV Γ fz d fl
theorem flV {Γ : Gl} {fz : List (Addr × Obj)} {d : PyData} {fl : Flow} (fr : jBz Γ fz fl (.ret d)) : FlV Γ fz d fl := by
  induction fl with
  | ret v => exact ⟨v, rfl, fr⟩
  | next => exact fr.elim
  | brk => exact fr.elim
  | cont => exact fr.elim
theorem xN {lv : Nat} {f : Addr} {fn' : Fn} {ps : List Str} {body : List Stmt} {b : SX} (H : FnAt Γ f fn' ps body) (G : fn'.Good) (hcell : ∀ x ∈ fn'.scope.names, x.2 ≠ .cell) (hcl : ∀ k, cellsFrom k fn'.scope.names [] = [])
    (hb : ∀ n c, lv ≤ n + 1 → Ok Γ n fn' c → SimS Γ fn' c (execs body (fn'.env c)) b) (hlv : 1 ≤ lv) :
    Cs Γ lv f (zDz ps.length fn'.nm.length fn'.pin b) := by
  intro args r hx n fn c O hn s m fz as vals F N hlen hfz hown hinj Q E k ke
  classical
  obtain ⟨hargs, hpins, hx⟩ := hSz hx
  obtain ⟨oc, od, osl, name, params, dV, kV, doc, pm, an, cdv, ct, hK, hcd, hbind⟩ := H.ex
  have hvl : vals.length = ps.length := hlen.trans hargs
  let lent : List (Addr × Obj) := (List.range args.length).filterMap fun i => if ∃ sl, args[i]? = some sl ∧ sl.isOwn = true then (s.heap.get? (as i)).map (as i, ·) else none
  have hlent : ∀ p ∈ lent, s.heap.get? p.1 = some p.2 ∧ ∃ (i : Nat) (sl : Slot), args[i]? = some sl ∧ sl.isOwn = true ∧ p.1 = as i := by
    intro p hp
    obtain ⟨i, _, hi⟩ := List.mem_filterMap.mp hp
    split at hi
    · rename_i hex
      obtain ⟨sl, h1, h2⟩ := hex
      obtain ⟨o, e1, rfl⟩ := Option.map_eq_some_iff.mp hi
      exact ⟨e1, i, sl, h1, h2, rfl⟩
    · cases hi
  have lent_mem : ∀ (i : Nat) sl o, args[i]? = some sl → sl.isOwn = true → s.heap.get? (as i) = some o → (as i, o) ∈ lent := fun i sl o h1 h2 h3 => by
    refine List.mem_filterMap.mpr ⟨i, ?_, ?_⟩
    · rw [List.mem_range]; exact (List.getElem?_eq_some_iff.mp h1).1
    · rw [if_pos ⟨sl, h1, h2⟩, h3]; rfl
  have NN : News c.h₀ c.L s.heap (fz ++ lent) := fun p hp => by
    rcases List.mem_append.mp hp with hp | hp
    · exact N p hp
    · obtain ⟨h1, i, sl, h2, h3, h4⟩ := hlent p hp
      obtain ⟨_, _, M⟩ := hown i sl h2 h3
      exact ⟨h1, by rw [h4]; exact M.ne, by rw [h4]; exact M.new⟩
  obtain ⟨FG, BG, st, _⟩ := groundX (A := fn.A c) (R := fun _ _ => True) O.B F NN (Around.frames_deeper O.B.stack) rfl O.G.hk
  have hKs : s.heap.get? f = some ⟨oc, od, .func (fnOf name fn'.name params body fn'.scope dV kV doc pm an cdv ct), osl⟩ := F.keep _ _ (O.X _ _ hK)
  have hroom : (fn.A c).depth < recursionLimit := by
    have := O.room
    show c.A₀.depth + 1 < _
    omega
  refine wpAny_call ?_
  refine codeAny_call_def (fd := fnOf name fn'.name params body fn'.scope dV kV doc pm an cdv ct) (body := body) (binds := ps.zip vals) hroom hKs rfl (O.T.nolimit.keeps F.keep) (codeRec_of (O.X.keeps F.keep) hcd) rfl (hbind s vals hvl) hcell
    (fun y hy => (by
      obtain ⟨i, hi⟩ := List.mem_iff_getElem?.mp hy
      rw [List.getElem?_zip_eq_some] at hi
      exact (H.pre i y.1 hi.1).2)) (fun h₁ hns hk₁ => ?_) H.co H.gen G.hk
  let g := hideAll s.heap ((fz ++ lent).map (·.1))
  let c' : Dy := ⟨fn.A c, c.base, g, fn.env c :: c.outer, s.heap.objs.size, f, cdv⟩
  have henv : (envX fn'.name fn'.scope s.heap.objs.size f cdv [] : Env) = fn'.env c' := by
    show envX fn'.name fn'.scope s.heap.objs.size f cdv [] = envX fn'.name fn'.scope s.heap.objs.size f cdv (cellsFrom (s.heap.objs.size + 1) fn'.scope.names [])
    rw [hcl]
  have O' : Ok Γ (n - 1) fn' c' := ⟨BG, O.X.keeps st, O.T.keeps st, xI O, by
      have := O.room
      show c.A₀.depth + 1 + 2 + (n - 1) < _
      omega, by
      have := O.units
      show c.A₀.units + 3 + 8 * (n - 1) + 300 < _
      omega, G⟩
  have F' : Fr g s.heap.objs.size h₁ (fun x => (ps.zip vals).reverse.lookup x) := ⟨hns, fun b o e => hk₁ b o (of_hideAll _ e), Nat.le_of_eq (hideAll_size _ _)⟩
  have hid : ∀ p ∈ fz ++ lent, g.get? p.1 = none := fun p hp => hideAll_none _ (List.mem_map_of_mem hp)
  have N' : News g s.heap.objs.size h₁ (fz ++ lent) := fun p hp => ⟨hk₁ _ _ (NN p hp).1, Nat.ne_of_lt (Heap.lt_size (NN p hp).1), hid p hp⟩
  have C' : StC Γ fn' c' fz as (args.map some ++ List.replicate (fn'.nm.length - args.length) none) h₁ (fun x => (ps.zip vals).reverse.lookup x) (fun i => (fn'.nm[i]?).bind fun x => (ps.zip vals).reverse.lookup x) := by
    have bound : ∀ (i : Nat) v, i < args.length → vals[i]? = some v → ((fn'.nm[i]?).bind fun x => (ps.zip vals).reverse.lookup x) = some v := fun i v hi hv => by
      obtain ⟨x, hx⟩ : ∃ x, ps[i]? = some x := ⟨_, List.getElem?_eq_getElem (by omega)⟩
      rw [(H.pre i x hx).1]
      exact zVz H.nd hvl hx hv
    refine ⟨F', fun p hp => N' p (List.mem_append_left _ hp), fun i x hi _ => by rw [hi]; rfl, fun i x hi hx => ?_, fun i d hd => ?_, fun i sl ho => ?_, fun i j sl sl' h1 h2 e => hinj i j sl sl' (v4 h1.1) h1.2 (v4 h2.1) h2.2 e⟩
    · exact absurd rfl (hcell (x, .cell) (mem_of_lookup hx))
    · have ha := v4 hd
      obtain ⟨v, hv, r⟩ := hfz i d ha
      exact ⟨v, bound i v (List.getElem?_eq_some_iff.mp ha).1 hv, r⟩
    · have ha := v4 ho.1
      obtain ⟨hv, ⟨o, h2, h3⟩, M⟩ := hown i sl ha ho.2
      have hm := lent_mem i sl o ha ho.2 h2
      exact ⟨bound i _ (List.getElem?_eq_some_iff.mp ha).1 hv, ⟨o, hk₁ _ _ h2, h3⟩, ⟨(N' _ (List.mem_append_right _ hm)).2.1, (N' _ (List.mem_append_right _ hm)).2.2, M.off⟩⟩
  have sim := hb (n - 1) c' (by omega) O'
  show wpAny (model Γ.prog Γ.w) ((fn.A c).deeper (envX fn'.name fn'.scope s.heap.objs.size f cdv [])) (execs body (envX fn'.name fn'.scope s.heap.objs.size f cdv [])) (fun f s' => Q (match f with | .ret v => v | _ => .none) s')
    (fun e s' => wpAny (model Γ.prog Γ.w) ((fn.A c).deeper (envX fn'.name fn'.scope s.heap.objs.size f cdv [])) (leaving (envX fn'.name fn'.scope s.heap.objs.size f cdv []) e) (fun _ s'' => E e s'') (fun e' s'' => E e' s'') s') _
  rw [henv]
  rcases hx with ⟨y, e1, hy⟩ | ⟨d, σ', e1, hy⟩
  · refine sim.goE (s := { s with heap := h₁, toks := s.toks + (ps.zip vals).length }) e1 ⟨_, _, C'⟩ PassesOwn.leaving fun e s' nx R => ?_
    have keepG : ∀ b o, s.heap.get? b = some o → (∀ p ∈ fz, p.1 ≠ b) → (¬ ∃ (i : Nat) (sl : Slot), args[i]? = some sl ∧ sl.isOwn = true ∧ as i = b) → g.get? b = some o := fun b o h1 h2 h3 => hideAll_get _ h1 fun q => by
      obtain ⟨p, hp, rfl⟩ := List.mem_map.mp q
      rcases List.mem_append.mp hp with hp | hp
      · exact h2 p hp rfl
      · obtain ⟨_, i, sl, h4, h5, h6⟩ := hlent p hp
        exact h3 ⟨i, sl, h4, h5, h6.symm⟩
    have fin : ∀ h'' t vs, RaisedK c.base (fn.env c :: c.outer) e (.ref y) t vs fz h'' → g.UpToSlots h'' → E (.ref e) { s' with heap := h'' } := fun h'' t vs R₂ U => ke e _ y hy ((Nx.of s h₁ _).trans (nx.trans ⟨rfl, rfl, id⟩)) ⟨g, t, vs, FG, keepG, U, R₂⟩
    have henv' : fn'.env c' = envOf fn'.name fn'.scope c'.L c'.a c'.cd := henv.symm
    rcases R with ⟨hh, mm, vs, Fh, Nh, X⟩ | ⟨hh, mm, t, vs, Fh, U, R⟩
    · show wpAny _ ((fn.A c).deeper (fn'.env c')) (leaving (fn'.env c') (.ref e)) _ _ _
      rw [henv']
      exact leave_raiseK BG X Fh Nh (fun h'' t R₂ U => fin h'' t vs R₂ U) G.hk
    · show wpAny _ ((fn.A c).deeper (fn'.env c')) (leaving (fn'.env c') (.ref e)) _ _ _
      rw [henv'] at R ⊢
      exact leave_onK BG Fh R U fun h'' R₂ U₂ => fin h'' t vs R₂ U₂
  · refine sim.goK (s := { s with heap := h₁, toks := s.toks + (ps.zip vals).length }) e1 ⟨_, _, C'⟩ PassesOwn.leaving fun fl₁ s' fz' α' nx sub pin S' fr => ?_
    obtain ⟨v, hfl, fr⟩ := flV fr
    rw [hfl]
    obtain ⟨mm, μ, C₂⟩ := id S'
    obtain ⟨oL, _, _, hL, _⟩ := F.ns
    have hLg : g.get? c.L = some oL := hideAll_get _ hL fun q => by
      obtain ⟨p, hp, e⟩ := List.mem_map.mp q
      exact (NN p hp).2.1 e
    refine k v s' fz' d σ' hy ((Nx.of s h₁ _).trans nx) sub (fun p hp => ⟨(C₂.N p hp).1, fun e => ?_, ?_⟩) fr (fun b o h1 h2 h3 => ?_) fun i sl sl' h1 h2 h3 h4 => ?_
    · have := (C₂.N p hp).2.2
      rw [e] at this
      exact absurd (this.symm.trans hLg) (by intro z; cases z)
    · cases q : c.h₀.get? p.1 with
      | none => rfl
      | some o => exact absurd ((C₂.N p hp).2.2.symm.trans (st _ _ q)) (by intro z; cases z)
    · have hg : g.get? b = some o := hideAll_get _ h1 fun q => by
        obtain ⟨p, hp, rfl⟩ := List.mem_map.mp q
        rcases List.mem_append.mp hp with hp | hp
        · exact h2 p hp rfl
        · obtain ⟨_, i, sl, h4, h5, h6⟩ := hlent p hp
          exact h3 i sl h4 h5 h6.symm
      exact ⟨C₂.F.keep b o hg, fun p hp e => absurd ((C₂.N p hp).2.2.symm.trans (e ▸ hg)) (by intro z; cases z)⟩
    · have hp := pin i (by have := xSz hpins i sl h1 h2; simpa using this)
      obtain ⟨_, ho, M⟩ := C₂.own i sl' ⟨h3, h4⟩
      rw [hp] at ho M
      obtain ⟨_, _, M₀⟩ := hown i sl h1 h2
      exact ⟨ho, ⟨M₀.ne, M₀.new, M.off⟩⟩
end
section
variable {Γ : Gl} {n : Nat} {fn : Fn} {c : Dy} {fz : List (Addr × Obj)} {α : Nat → Addr} {σ : Sta} {s : Shared} {h h' : Heap}
inductive ArgRel (Γ : Gl) (fz : List (Addr × Obj)) (α : Nat → Addr) (σ : Sta) : List Arg → List Value → List Slot → Prop
  | nil : ArgRel Γ fz α σ [] [] []
  | fz {a : Arg} {v : Value} {d : PyData} {as : List Arg} {vs : List Value} {sls : List Slot} : (∀ i sl, a = .loc i → ¬ x6 σ i sl) → Rep Γ (Dk Γ fz) v d → ArgRel Γ fz α σ as vs sls → ArgRel Γ fz α σ (a :: as) (v :: vs) (.fz d :: sls)
  | own {i : Nat} {sl : Slot} {as : List Arg} {vs : List Value} {sls : List Slot} : x6 σ i sl → ArgRel Γ fz α σ as vs sls → ArgRel Γ fz α σ (.loc i :: as) (.ref (α i) :: vs) (sl :: sls)
theorem ArgRel.mono {fz' : List (Addr × Obj)} (hs : ∀ p ∈ fz, p ∈ fz') {as : List Arg} {vs : List Value} {sls : List Slot} (h : ArgRel Γ fz α σ as vs sls) : ArgRel Γ fz' α σ as vs sls := by
  induction h with
  | nil => exact .nil
  | fz h1 h2 _ ih => exact .fz h1 (h2.mono (Dk.sub hs)) ih
  | own h1 _ ih => exact .own h1 ih
theorem ArgRel.len {as : List Arg} {vs : List Value} {sls : List Slot} (h : ArgRel Γ fz α σ as vs sls) : vs.length = sls.length ∧ as.length = sls.length := by
  induction h with
  | nil => exact ⟨rfl, rfl⟩
  | fz _ _ _ ih => exact ⟨congrArg (· + 1) ih.1, congrArg (· + 1) ih.2⟩
  | own _ _ ih => exact ⟨congrArg (· + 1) ih.1, congrArg (· + 1) ih.2⟩
theorem ArgRel.getFz {as : List Arg} {vs : List Value} {sls : List Slot} (h : ArgRel Γ fz α σ as vs sls) : ∀ (k : Nat) d, sls[k]? = some (.fz d) → ∃ v, vs[k]? = some v ∧ Rep Γ (Dk Γ fz) v d := by
  induction h with
  | nil => intro k d e; simp at e
  | fz _ h2 _ ih =>
    intro k d e
    induction k with
    | zero => simp at e; subst e; exact ⟨_, rfl, h2⟩
    | succ k => exact ih k d (by simpa using e)
  | own h1 _ ih =>
    intro k d e
    induction k with
    | zero => simp at e; subst e; cases h1.2
    | succ k => exact ih k d (by simpa using e)
theorem ArgRel.getOwn {as : List Arg} {vs : List Value} {sls : List Slot} (h : ArgRel Γ fz α σ as vs sls) : ∀ (k : Nat) sl, sls[k]? = some sl → sl.isOwn = true → ∃ i, as[k]? = some (.loc i) ∧ vs[k]? = some (.ref (α i)) ∧ x6 σ i sl := by
  induction h with
  | nil => intro k d e; simp at e
  | fz _ h2 _ ih =>
    intro k sl e ho
    induction k with
    | zero => simp at e; subst e; cases ho
    | succ k => simpa using ih k sl (by simpa using e) ho
  | own h1 _ ih =>
    intro k sl e ho
    induction k with
    | zero => simp at e; subst e; exact ⟨_, rfl, rfl, h1⟩
    | succ k => simpa using ih k sl (by simpa using e) ho
theorem ArgRel.ofLoc {as : List Arg} {vs : List Value} {sls : List Slot} (h : ArgRel Γ fz α σ as vs sls) : ∀ (k i : Nat) sl, as[k]? = some (.loc i) → x6 σ i sl → sls[k]? = some sl := by
  induction h with
  | nil => intro k i sl e; simp at e
  | fz h1 h2 _ ih =>
    intro k i sl e ho
    induction k with
    | zero => simp at e; exact absurd ho (h1 i sl e)
    | succ k => simpa using ih k i sl (by simpa using e) ho
  | own h1 _ ih =>
    intro k i sl e ho
    induction k with
    | zero => simp at e; subst e; have := h1.1.symm.trans ho.1; simp at this; subst this; rfl
    | succ k => simpa using ih k i sl (by simpa using e) ho
structure SimArgs (Γ : Gl) (fn : Fn) (c : Dy) (t : Sem (List Value)) (as : List Arg) : Prop where
  go : ∀ σ r s fz α, vE as σ = some r → St Γ fn c fz α σ s.heap → ∀ (Q : List Value → Shared → Prop) (E : Value → Shared → Prop),
    (∀ vs s' fz' sls, r = .ok sls → Nx s s' → (∀ p ∈ fz, p ∈ fz') → St Γ fn c fz' α σ s'.heap → ArgRel Γ fz' α σ as vs sls → Q vs s') →
    (∀ e s' x, r = .error x → Nx s s' → vG fn c fz x e s'.heap → E (.ref e) s') →
    wpAny (model Γ.prog Γ.w) (fn.A c) t Q E s
theorem SimArgs.goK {t : Sem (List Value)} {as : List Arg} (H : SimArgs Γ fn c t as) {a : List Slot} {s : Shared} (h1 : vE as σ = some (.ok a)) (S : St Γ fn c fz α σ s.heap) {Q : List Value → Shared → Prop} {E : Value → Shared → Prop}
    (k : ∀ v s' fz', Nx s s' → (∀ p ∈ fz, p ∈ fz') → St Γ fn c fz' α σ s'.heap → ArgRel Γ fz' α σ as v a → Q v s') : wpAny (model Γ.prog Γ.w) (fn.A c) t Q E s :=
  H.go σ _ s fz α h1 S Q E (fun v s' fz' av q nx sub S' D => by injection q with q; subst q; exact k v s' fz' nx sub S' D) fun _ _ _ q => vBz q
theorem SimArgs.goE {t : Sem (List Value)} {as : List Arg} (H : SimArgs Γ fn c t as) {y : Addr} {s : Shared} (h1 : vE as σ = some (.error y)) (S : St Γ fn c fz α σ s.heap) {Q : List Value → Shared → Prop} {E : Value → Shared → Prop}
    (ke : ∀ e s', Nx s s' → vG fn c fz y e s'.heap → E (.ref e) s') : wpAny (model Γ.prog Γ.w) (fn.A c) t Q E s :=
  H.go σ _ s fz α h1 S Q E (fun _ _ _ _ q => q3z q) fun e s' x q nx R => by injection q with q; subst q; exact ke e s' nx R
theorem z4 {pos : Pos} : SimArgs Γ fn c (spliced (backTo pos (starEach [] (fn.env c)))) [] := by
  refine ⟨?_⟩
  intro σ r s fz α e S Q E k _
  obtain rfl := Option.some.inj e
  exact spliced_none (k [] s fz [] rfl (Nx.refl s) (fun _ hp => hp) S .nil)
theorem z3 {x : Expr} {rest : List Expr} {pos : Pos} {ex : EX} {as : List Arg} (h : SimE Γ fn c (eval x (fn.env c)) ex) (h' : SimArgs Γ fn c (spliced (backTo pos (starEach rest (fn.env c)))) as)
    (he : starEach (x :: rest) (fn.env c) = (false, eval x (fn.env c)) :: starEach rest (fn.env c)) : SimArgs Γ fn c (spliced (backTo pos (starEach (x :: rest) (fn.env c)))) (.ex ex :: as) := by
  refine ⟨?_⟩
  intro σ r s fz α e S Q E k ke
  refine spliced_more ?_ he
  rcases z8 e with ⟨y, h1, hy⟩ | ⟨d, h1, h2⟩
  · exact h.pvE h1 S fun e s' => ke e s' y hy
  · refine h.pvK h1 S fun v s' fz' nx sub S' R => ?_
    rcases z8 h2 with ⟨y, h3, hy⟩ | ⟨sls, h3, h4⟩
    · exact h'.goE h3 S' fun e s₂ nx₂ R => ke e s₂ y hy (nx.trans nx₂) (yP sub R)
    · obtain rfl := Option.some.inj h4
      refine h'.goK h3 S' fun vs s₂ fz₂ nx₂ sub₂ S₂ R₂ => ?_
      exact k _ s₂ fz₂ _ rfl (nx.trans nx₂) (fun p hp => sub₂ p (sub p hp)) S₂ (.fz (fun _ _ e => by cases e) (R.mono (Dk.sub sub₂)) R₂)
set_option tactic.hygienic true in
theorem zP {x : Expr} {rest : List Expr} {pos : Pos} {i : Nat} {as : List Arg} (h : SimE Γ fn c (eval x (fn.env c)) (zG i)) (h' : SimArgs Γ fn c (spliced (backTo pos (starEach rest (fn.env c)))) as)
    (he : starEach (x :: rest) (fn.env c) = (false, eval x (fn.env c)) :: starEach rest (fn.env c)) : SimArgs Γ fn c (spliced (backTo pos (starEach (x :: rest) (fn.env c)))) (.loc i :: as) := by
  refine ⟨?_⟩
  intro σ r s fz α e S Q E k ke
  refine spliced_more ?_ he
  unfold vE at e
  split at e
  · rename_i sl hs
    have go : ∀ v s' fz', Nx s s' → (∀ p ∈ fz, p ∈ fz') → St Γ fn c fz' α σ s'.heap → (∀ fz'' as' vs' sls', (∀ p ∈ fz', p ∈ fz'') → ArgRel Γ fz'' α σ as' vs' sls' → ArgRel Γ fz'' α σ (.loc i :: as') (v :: vs') (sl :: sls')) →
        wpAny (model Γ.prog Γ.w) (fn.A c) (spliced (backTo pos (starEach rest (fn.env c)))) (fun vs s₂ => Q (v :: vs) s₂) E s' := fun v s' fz' nx sub S' hrel => by
      rcases z8 e with ⟨y, h3, hy⟩ | ⟨sls, h3, h4⟩
      · exact h'.goE h3 S' fun e s₂ nx₂ R => ke e s₂ y hy (nx.trans nx₂) (yP sub R)
      · obtain rfl := Option.some.inj h4
        refine h'.goK h3 S' fun vs s₂ fz₂ nx₂ sub₂ S₂ R₂ => ?_
        exact k _ s₂ fz₂ _ rfl (nx.trans nx₂) (fun p hp => sub₂ p (sub p hp)) S₂ (hrel fz₂ _ _ _ sub₂ R₂)
    induction sl with
    | fz d =>
      refine h.pvK (d := d) (by unfold yCz zG; rw [hs]; rfl) S fun v s' fz' nx sub S' R => ?_
      exact go v s' fz' nx sub S' fun fz'' as' vs' sls' sub' r => .fz (fun j sl' e ho => by cases e; have := ho.1.symm.trans hs; simp at this; subst this; cases ho.2) (R.mono (Dk.sub sub')) r
    | ol l => exact h.own (sl := .ol l) ⟨hs, rfl⟩ S fun s' fz' nx sub S' => go _ s' fz' nx sub S' fun _ _ _ _ _ r => .own ⟨hs, rfl⟩ r
    | od ks ds => exact h.own (sl := .od ks ds) ⟨hs, rfl⟩ S fun s' fz' nx sub S' => go _ s' fz' nx sub S' fun _ _ _ _ _ r => .own ⟨hs, rfl⟩ r
  · cases e
noncomputable def k3 : List Arg → List Nat
  | [] => []
  | .ex _ :: r => k3 r
  | .loc i :: r => i :: k3 r
theorem h1z : ∀ {as : List Arg}, (k3 as).Nodup → ∀ (k k' i : Nat), as[k]? = some (.loc i) → as[k']? = some (.loc i) → k = k'
  | [], _, k, k', i, h, _ => by simp at h
  | a :: r, nd, k, k', i, h, h' => by
    have hmem : ∀ (r : List Arg) (k : Nat), r[k]? = some (.loc i) → i ∈ k3 r := by
      intro r
      induction r with
      | nil => intro k h; simp at h
      | cons a r ih =>
        intro k h
        induction k with
        | zero => simp at h; subst h; exact .head _
        | succ k =>
          have := ih k (by simpa using h)
          induction a with
          | ex e => exact this
          | loc j => exact List.mem_cons_of_mem _ this
    induction k with
    | zero =>
      induction k' with
      | zero => rfl
      | succ k' =>
        simp at h; subst h
        exact absurd (hmem r k' (by simpa using h')) (List.nodup_cons.mp nd).1
    | succ k =>
      induction k' with
      | zero =>
        simp at h'; subst h'
        exact absurd (hmem r k (by simpa using h)) (List.nodup_cons.mp nd).1
      | succ k' =>
        have nd' : (k3 r).Nodup := by
          induction a with
          | ex e => exact nd
          | loc j => exact (List.nodup_cons.mp nd).2
        rw [h1z nd' k k' i (by simpa using h) (by simpa using h')]
theorem StC.after {m : Str → Option Value} {μ : Nat → Option Value} (C : StC Γ fn c fz α σ s.heap m μ) {as : List Arg} {fz' : List (Addr × Obj)} {τ σ' : Sta} (sub : ∀ p ∈ fz, p ∈ fz') (N' : News c.h₀ c.L h' fz')
    (keep : ∀ b o, s.heap.get? b = some o → (∀ p ∈ fz, p.1 ≠ b) → (∀ (k i : Nat) sl, as[k]? = some (.loc i) → x6 σ i sl → α i ≠ b) → h'.get? b = some o ∧ ∀ p ∈ fz', p.1 ≠ b)
    (lent : ∀ (k i : Nat) sl sl', as[k]? = some (.loc i) → x6 σ i sl → τ[k]? = some (some sl') → sl'.isOwn = true → (∃ o, h'.get? (α i) = some o ∧ j8 Γ (Dk Γ fz') (α i) o sl') ∧ Mine1 c fz' (α i))
    (spec : ∀ (j : Nat), (∃ (k : Nat) (sl sl' : Slot), as[k]? = some (Arg.loc j) ∧ x6 σ j sl ∧ τ[k]? = some (some sl') ∧ sl'.isOwn = true ∧ σ'[j]? = some (some sl')) ∨ (σ'[j]? = σ[j]? ∧ ∀ sl, x6 σ j sl → ∀ (k : Nat), as[k]? ≠ some (Arg.loc j))) :
    StC Γ fn c fz' α σ' h' m μ := by
  have unl : ∀ b o, s.heap.get? b = some o → (∀ p ∈ fz, p.1 ≠ b) → (∀ (i : Nat) sl, x6 σ i sl → α i ≠ b) → h'.get? b = some o ∧ ∀ p ∈ fz', p.1 ≠ b := fun b o h1 h2 h3 => keep b o h1 h2 fun _ i sl _ ho => h3 i sl ho
  have ownσ : ∀ j sl', x6 σ' j sl' → ∃ sl, x6 σ j sl := fun j sl' ho => by
    rcases spec j with ⟨k, sl, _, _, h2, _⟩ | ⟨h1, _⟩
    · exact ⟨sl, h2⟩
    · exact ⟨sl', by rw [← h1]; exact ho.1, ho.2⟩
  obtain ⟨oL, es, ep, hL, hLr⟩ := C.F.ns
  have hL' := unl c.L oL hL (fun p hp => (C.N p hp).2.1) fun i sl ho => (C.own i sl ho).2.2.ne
  refine ⟨⟨⟨oL, es, ep, hL'.1, hLr⟩, fun b o e => ?_, C.F.above⟩, N', C.loc, fun j x hj hx => ?_, fun j d hd => ?_, fun j sl' ho => ?_, fun i j s1 s2 h1 h2 e => ?_⟩
  · refine (unl b o (C.F.keep b o e) (fun p hp q => ?_) fun i sl ho q => ?_).1
    · have := (C.N p hp).2.2; rw [q, e] at this; cases this
    · have := (C.own i sl ho).2.2.new; rw [q, e] at this; cases this
  · obtain ⟨ca, o, h1, h2, h3, h4, h5⟩ := C.cel j x hj hx
    obtain ⟨k1, k2⟩ := unl ca o h2 h4.off h5
    exact ⟨ca, o, h1, k1, h3, ⟨h4.ne, h4.new, k2⟩, fun j' sl ho => let ⟨sl₀, q⟩ := ownσ j' sl ho; h5 j' sl₀ q⟩
  · have hd' : σ[j]? = some (some (.fz d)) := by
      rcases spec j with ⟨k, sl, sl', _, _, _, h4, h5⟩ | ⟨h1, _⟩
      · rw [hd] at h5; cases h5; cases h4
      · rw [← h1]; exact hd
    obtain ⟨v, hv, r⟩ := C.val j d hd'
    exact ⟨v, hv, r.mono (Dk.sub sub)⟩
  · rcases spec j with ⟨k, sl, sl₂, h1, h2, h3, h4, h5⟩ | ⟨h1, h2⟩
    · have := ho.1.symm.trans h5
      simp at this; subst this
      obtain ⟨a1, a2⟩ := lent k j sl sl' h1 h2 h3 h4
      exact ⟨(C.own j sl h2).1, a1, a2⟩
    · have ho' : x6 σ j sl' := ⟨by rw [← h1]; exact ho.1, ho.2⟩
      obtain ⟨a1, ⟨o, a2, a3⟩, a4⟩ := C.own j sl' ho'
      obtain ⟨k1, k2⟩ := keep (α j) o a2 a4.off fun k i sl hk hi e => by
        have := C.inj i j sl sl' hi ho' e
        subst this
        exact h2 sl' ho' k hk
      exact ⟨a1, ⟨o, k1, a3.mono (Dk.sub sub)⟩, ⟨a4.ne, a4.new, k2⟩⟩
  · obtain ⟨t1, q1⟩ := ownσ i s1 h1
    obtain ⟨t2, q2⟩ := ownσ j s2 h2
    exact C.inj i j t1 t2 q1 q2 e
theorem wZz {a b : Slot} (h : yKz a b = true) : a = b := by
  induction a with
  | fz x =>
    induction b with
    | fz y => rw [PyProof.Rows.eq_of_same _ _ h]
    | _ => cases h
  | ol x =>
    induction b with
    | ol y => rw [PyProof.Rows.eqAll_of_same _ _ h]
    | _ => cases h
  | od ks x =>
    induction b with
    | od js y =>
      simp only [yKz, Bool.and_eq_true, beq_iff_eq] at h
      rw [h.1, PyProof.Rows.eqAll_of_same _ _ h.2]
    | _ => cases h
theorem kB : ∀ {as : List Arg} {τ : Sta}, xZ as τ σ = true → ∀ (k j : Nat) sl, as[k]? = some (Arg.loc j) → x6 σ j sl → τ[k]? = some (some sl)
  | [], _, _, k, _, _, h, _ => by simp at h
  | .ex _ :: r, [], h, _, _, _, _, _ => by simp [xZ] at h
  | .loc _ :: r, [], h, _, _, _, _, _ => by simp [xZ] at h
  | .ex _ :: r, t :: τ, h, k, j, sl, hk, ho => by
    induction k with
    | zero => simp at hk
    | succ k => simpa using kB (as := r) (τ := τ) (by simpa [xZ] using h) k j sl (by simpa using hk) ho
  | .loc i :: r, t :: τ, h, k, j, sl, hk, ho => by
    simp only [xZ, Bool.and_eq_true] at h
    induction k with
    | zero =>
      simp at hk; subst hk
      have h1 := h.1
      rw [ho.1] at h1
      induction sl with
      | fz d => cases ho.2
      | ol l =>
        induction t with
        | none => cases h1
        | some sl' => rw [← wZz h1]; rfl
      | od ks ds =>
        induction t with
        | none => cases h1
        | some sl' => rw [← wZz h1]; rfl
    | succ k => simpa using kB (as := r) (τ := τ) h.2 k j sl (by simpa using hk) ho
set_option tactic.hygienic true in
theorem qT : ∀ {as : List Arg} {τ σ σ' : Sta}, (k3 as).Nodup → vQ as τ σ = some σ' → ∀ (j : Nat),
    (∃ (k : Nat) (sl sl' : Slot), as[k]? = some (Arg.loc j) ∧ x6 σ j sl ∧ τ[k]? = some (some sl') ∧ sl'.isOwn = true ∧ σ'[j]? = some (some sl')) ∨ (σ'[j]? = σ[j]? ∧ ∀ sl, x6 σ j sl → ∀ (k : Nat), as[k]? ≠ some (Arg.loc j))
  | [], τ, σ, σ', _, e, j => by
    obtain rfl := Option.some.inj (show some σ = some σ' by cases τ <;> exact e)
    exact .inr ⟨rfl, fun _ _ k => by simp⟩
  | .ex _ :: r, [], _, _, _, e, _ => by simp [vQ] at e
  | .loc _ :: r, [], _, _, _, e, _ => by simp [vQ] at e
  | .ex _ :: r, t :: τ, σ, σ', nd, e, j => by
    rcases qT (as := r) nd (show vQ r τ σ = some σ' from e) j with ⟨k, sl, sl', h1, h2⟩ | ⟨h1, h2⟩
    · exact .inl ⟨k + 1, sl, sl', by simpa using h1, by simpa using h2⟩
    · refine .inr ⟨h1, fun sl ho k => ?_⟩
      induction k with
      | zero => simp
      | succ k => simpa using h2 sl ho k
  | .loc i :: r, t :: τ, σ, σ', nd, e, j => by
    obtain ⟨ni, nd'⟩ := List.nodup_cons.mp nd
    have notin : ∀ (k : Nat), r[k]? ≠ some (Arg.loc i) := fun k hk => ni (by
      clear e nd nd' ni
      induction r generalizing k with
      | nil => simp at hk
      | cons a r ih =>
        induction k with
        | zero => simp at hk; subst hk; exact .head _
        | succ k =>
          have := ih k (by simpa using hk)
          induction a with
          | ex e => exact this
          | loc j => exact List.mem_cons_of_mem _ this)
    have own : ∀ (sl sl' : Slot), x6 σ i sl → t = some sl' → sl'.isOwn = true → vQ r τ (σ.set i (some sl')) = some σ' →
        (∃ (k : Nat) (sl sl' : Slot), (Arg.loc i :: r)[k]? = some (Arg.loc j) ∧ x6 σ j sl ∧ (t :: τ)[k]? = some (some sl') ∧ sl'.isOwn = true ∧ σ'[j]? = some (some sl')) ∨ (σ'[j]? = σ[j]? ∧ ∀ sl, x6 σ j sl → ∀ (k : Nat), (Arg.loc i :: r)[k]? ≠ some (Arg.loc j)) := fun sl sl' ho ht hw e' => by
      have hl : i < σ.length := (List.getElem?_eq_some_iff.mp ho.1).1
      rcases qT (as := r) nd' e' j with ⟨k, s1, s2, h1, h2, h3, h4, h5⟩ | ⟨h1, h2⟩
      · have hij : i ≠ j := fun e => notin k (e ▸ h1)
        refine .inl ⟨k + 1, s1, s2, by simpa using h1, ⟨?_, h2.2⟩, by simpa using h3, h4, h5⟩
        have := h2.1; rwa [List.getElem?_set_ne hij] at this
      · by_cases hij : i = j
        · subst hij
          rw [List.getElem?_set_self hl] at h1
          exact .inl ⟨0, sl, sl', rfl, ho, by rw [ht]; rfl, hw, h1⟩
        · rw [List.getElem?_set_ne hij] at h1
          refine .inr ⟨h1, fun s1 h3 k => ?_⟩
          induction k with
          | zero => simp; exact hij
          | succ k => simpa using h2 s1 ⟨by rw [List.getElem?_set_ne hij]; exact h3.1, h3.2⟩ k
    simp only [vQ] at e
    split at e
    · rename_i d hs
      rcases qT (as := r) nd' e j with ⟨k, sl, sl', h1, h2⟩ | ⟨h1, h2⟩
      · exact .inl ⟨k + 1, sl, sl', by simpa using h1, by simpa using h2⟩
      · refine .inr ⟨h1, fun sl ho k => ?_⟩
        induction k with
        | zero =>
          simp
          rintro rfl
          have := ho.1.symm.trans hs
          simp at this; subst this; cases ho.2
        | succ k => simpa using h2 sl ho k
    · rename_i l hs
      split at e
      · rename_i l' ; exact own _ _ ⟨hs, rfl⟩ rfl rfl e
      · cases e
    · rename_i ks ds hs
      split at e
      · exact own _ _ ⟨hs, rfl⟩ rfl rfl e
      · cases e
    · cases e
theorem zGq {m : Str → Option Value} {μ : Nat → Option Value} (O : Ok Γ n fn c) {lv : Nat} {f : Addr} {x : XF} {as : List Arg} {sls : List Slot} {vs : List Value} {r : Except Addr (PyData × Sta)} (hc : Cs Γ lv f x) (hlv : lv ≤ n) (nd : (k3 as).Nodup) (e : x sls = some r) (C : StC Γ fn c fz α σ s.heap m μ) (R : ArgRel Γ fz α σ as vs sls)
    {Q E : Value → Shared → Prop}
    (k : ∀ v s' fz' d τ m μ, r = .ok (d, τ) → Nx s s' → (∀ p ∈ fz, p ∈ fz') → Rep Γ (Dk Γ fz') v d → (∀ σ' : Sta, (∀ (j : Nat), (∃ (k : Nat) (sl sl' : Slot), as[k]? = some (Arg.loc j) ∧ x6 σ j sl ∧ τ[k]? = some (some sl') ∧ sl'.isOwn = true ∧ σ'[j]? = some (some sl')) ∨ (σ'[j]? = σ[j]? ∧ ∀ sl, x6 σ j sl → ∀ (k : Nat), as[k]? ≠ some (Arg.loc j))) → StC Γ fn c fz' α σ' s'.heap m μ) → Q v s')
    (ke : ∀ e s' x, r = .error x → Nx s s' → RaisedC fn c s.heap m fz (fun b => ∃ j sl, x6 σ j sl ∧ α j = b) x e s'.heap → E (.ref e) s') : wpAny (model Γ.prog Γ.w) (fn.A c) (call (.ref f) vs) Q E s := by
  let ad : Nat → Addr := fun k => match as[k]? with | some (.loc i) => α i | _ => 0
  have had : ∀ (k i : Nat), as[k]? = some (Arg.loc i) → ad k = α i := fun k i h => by show (match as[k]? with | some (.loc i) => α i | _ => 0) = _; rw [h]
  refine hc sls r e n fn c O hlv s m fz ad vs C.F C.N R.len.1 R.getFz (fun k sl h1 h2 => ?_) (fun k k' sl sl' h1 h2 h3 h4 h5 => ?_) Q E (fun v s' fz' d τ q nx sub N' Rv keep lent => ?_) (fun e s' x q nx R₀ => ke e s' x q nx ?_)
  · obtain ⟨i, a1, a2, a3⟩ := R.getOwn k sl h1 h2
    obtain ⟨_, b2, b3⟩ := C.own i sl a3
    rw [had k i a1]
    exact ⟨a2, b2, b3⟩
  · obtain ⟨i, a1, a2, a3⟩ := R.getOwn k sl h1 h2
    obtain ⟨i', b1, b2, b3⟩ := R.getOwn k' sl' h3 h4
    rw [had k i a1, had k' i' b1] at h5
    have := C.inj i i' sl sl' a3 b3 h5
    subst this
    exact h1z nd k k' i a1 b1
  · refine k v s' fz' d τ m μ q nx sub Rv fun σ' spec => C.after sub N' (fun b o h1 h2 h3 => keep b o h1 h2 fun k sl h4 h5 => ?_) (fun k i sl sl' h1 h2 h3 h4 => ?_) spec
    · obtain ⟨i, a1, a2, a3⟩ := R.getOwn k sl h4 h5
      rw [had k i a1]
      exact h3 k i sl a1 a3
    · have := lent k sl sl' (R.ofLoc k i sl h1 h2) h2.2 h3 h4
      rwa [had k i h1] at this
  · obtain ⟨g, t, ws, F, kp, U, RK⟩ := R₀
    refine ⟨g, t, ws, F, fun b o h1 h2 h3 => kp b o h1 h2 fun ⟨k, sl, h4, h5, h6⟩ => ?_, U, RK⟩
    obtain ⟨i, a1, a2, a3⟩ := R.getOwn k sl h4 h5
    exact h3 ⟨i, sl, a3, by rw [← had k i a1]; exact h6⟩
theorem vPz (O : Ok Γ n fn c) {lv : Nat} {f : Addr} {x : XF} {as : List Arg} {sls : List Slot} {vs : List Value} {r : Except Addr (PyData × Sta)} (hc : Cs Γ lv f x) (hlv : lv ≤ n) (nd : (k3 as).Nodup) (e : x sls = some r) (S : St Γ fn c fz α σ s.heap) (R : ArgRel Γ fz α σ as vs sls)
    {Q E : Value → Shared → Prop}
    (k : ∀ v s' fz' d τ m μ, r = .ok (d, τ) → Nx s s' → (∀ p ∈ fz, p ∈ fz') → Rep Γ (Dk Γ fz') v d → (∀ σ' : Sta, (∀ (j : Nat), (∃ (k : Nat) (sl sl' : Slot), as[k]? = some (Arg.loc j) ∧ x6 σ j sl ∧ τ[k]? = some (some sl') ∧ sl'.isOwn = true ∧ σ'[j]? = some (some sl')) ∨ (σ'[j]? = σ[j]? ∧ ∀ sl, x6 σ j sl → ∀ (k : Nat), as[k]? ≠ some (Arg.loc j))) → StC Γ fn c fz' α σ' s'.heap m μ) → Q v s')
    (ke : ∀ e s' x, r = .error x → Nx s s' → vG fn c fz x e s'.heap → E (.ref e) s') : wpAny (model Γ.prog Γ.w) (fn.A c) (call (.ref f) vs) Q E s :=
  let ⟨_, _, C⟩ := S; zGq O hc hlv nd e C R k fun e s' x q nx R₀ => ke e s' x q nx R₀.to
theorem yD (O : Ok Γ n fn c) {lv : Nat} {f : Addr} {x : XF} {nm : Str} {p pos : Pos} {a : Expr} {rest : List Expr} {as : List Arg} (hc : Cs Γ lv f x) (hlv : lv ≤ n) (hk : fn.scope.names.lookup nm = some .globalImplicit) (hK : nsIn Γ.K mainGlobals nm = some (some (.ref f))) (hd : (nm == ("__debug__" : Str)) = false)
    (hkeep : keepIn Γ.K (.ref f) = true) (he : starEach (a :: rest) (fn.env c) = (false, eval a (fn.env c)) :: starEach rest (fn.env c)) (hpl : (backTo pos (starEach rest (fn.env c))).any (·.1) = false) (nd : (k3 as).Nodup)
    (h : SimArgs Γ fn c (spliced (backTo pos (starEach (a :: rest) (fn.env c)))) as) : SimE Γ fn c (eval (.Call (.Name nm p) (a :: rest) [] pos) (fn.env c)) (yQ x as) := by
  refine ⟨?_⟩
  intro σ r s fz α e S Q E k ke
  obtain ⟨m, μ, C⟩ := id S
  refine Call_Name rfl (nameX_K C.F O.X O.T hK ?_ O.G.hk hk hd)
  refine callWith_K O.X hkeep ?_ he hpl
  rcases z8 e with ⟨y, h1, hy⟩ | ⟨sls, h1, h2⟩
  · exact h.goE h1 S fun e s' => ke e s' y hy
  · refine h.goK h1 S fun vs s' fz' nx sub S' R => ?_
    refine ⟨fun a o e => S'.keep a o (O.X a o e), ?_⟩
    rcases z8 h2 with ⟨y, h3, rfl⟩ | ⟨⟨d, τ⟩, h3, h4⟩
    · exact vPz O hc hlv nd h3 S' R (fun _ _ _ _ _ _ _ q => by cases q) fun e s₂ x q nx₂ R => ke e s₂ x (by injection q with q; rw [q]) (nx.trans nx₂) (yP sub R)
    · split at h4
      · rename_i hun
        obtain rfl := Option.some.inj h4
        refine vPz O hc hlv nd h3 S' R (fun v s₂ fz₂ d' τ' m' μ' q nx₂ sub₂ Rv aft => ?_) fun _ _ _ q => by cases q
        injection q with q; injection q with q1 q2; subst q1; subst q2
        refine k v s₂ fz₂ _ rfl (nx.trans nx₂) (fun p hp => sub₂ p (sub p hp)) ⟨m', μ', aft σ fun j => ?_⟩ Rv
        by_cases hj : ∃ (k : Nat) (sl : Slot), as[k]? = some (Arg.loc j) ∧ x6 σ j sl
        · obtain ⟨k', sl, a1, a2⟩ := hj
          exact .inl ⟨k', sl, sl, a1, a2, kB hun k' j sl a1 a2, a2.2, a2.1⟩
        · exact .inr ⟨rfl, fun sl ho k' hk' => hj ⟨k', sl, hk', ho⟩⟩
      · cases h4
set_option tactic.hygienic true in
theorem v6z (O : Ok Γ n fn c) {lv : Nat} {f : Addr} {x : XF} {nm tx : Str} {p pos tp sp : Pos} {a : Expr} {rest : List Expr} {as : List Arg} {i : Nat} (hi : IsLoc fn i tx) (hc : Cs Γ lv f x) (hlv : lv ≤ n) (hk : fn.scope.names.lookup nm = some .globalImplicit) (hK : nsIn Γ.K mainGlobals nm = some (some (.ref f))) (hd : (nm == ("__debug__" : Str)) = false)
    (hkeep : keepIn Γ.K (.ref f) = true) (he : starEach (a :: rest) (fn.env c) = (false, eval a (fn.env c)) :: starEach rest (fn.env c)) (hpl : (backTo pos (starEach rest (fn.env c))).any (·.1) = false) (nd : (k3 as).Nodup)
    (h : SimArgs Γ fn c (spliced (backTo pos (starEach (a :: rest) (fn.env c)))) as) : SimS Γ fn c (exec (.Assign [.Name tx tp] (.Call (.Name nm p) (a :: rest) [] pos) sp) (fn.env c)) (hG i x as) := by
  refine ⟨?_⟩
  intro σ r s fz α e S Q E hE k ke
  refine wpAny_Assign_Name ?_ rfl
  obtain ⟨m, μ, C⟩ := id S
  refine Call_Name rfl (nameX_K C.F O.X O.T hK ?_ O.G.hk hk hd)
  refine callWith_K O.X hkeep ?_ he hpl
  rcases z8 e with ⟨y, h1, hy⟩ | ⟨sls, h1, h2⟩
  · exact h.goE h1 S fun e s' => ke e s' y hy
  · refine h.goK h1 S fun vs s' fz' nx sub S' R => ?_
    refine ⟨fun a o e => S'.keep a o (O.X a o e), ?_⟩
    rcases z8 h2 with ⟨y, h3, rfl⟩ | ⟨⟨d, τ⟩, h3, h4⟩
    · exact vPz O hc hlv nd h3 S' R (fun _ _ _ _ _ _ _ q => by cases q) fun e s₂ x q nx₂ R => ke e s₂ x (by injection q with q; rw [q]) (nx.trans nx₂) (yP sub R)
    · split at h4
      · rename_i σ' htb
        obtain rfl := Option.some.inj h4
        refine vPz O hc hlv nd h3 S' R (fun v s₂ fz₂ d' τ' m' μ' q nx₂ sub₂ Rv aft => ?_) fun _ _ _ q => by cases q
        injection q with q; injection q with q1 q2; subst q1; subst q2
        exact zBz O hi ⟨m', μ', aft σ' (qT nd htb)⟩ Rv fun s₃ nx₃ S₃ => k .next s₃ fz₂ α _ _ rfl ((nx.trans nx₂).trans nx₃) (fun p hp => sub₂ p (sub p hp)) (fun _ _ => rfl) S₃ trivial
      · cases h4
end
section
variable {Γ : Gl} {n : Nat} {fn : Fn} {c : Dy} {fz : List (Addr × Obj)} {α : Nat → Addr} {σ : Sta} {s : Shared} {h h' : Heap}
theorem env_plain (hcl : ∀ k, cellsFrom k fn.scope.names [] = []) : fn.env c = envOf fn.name fn.scope c.L c.a c.cd := by
  show envX fn.name fn.scope c.L c.a c.cd (cellsFrom (c.L + 1) fn.scope.names []) = _
  rw [hcl]; rfl
theorem j7 (O : Ok Γ n fn c) (hcl : ∀ k, cellsFrom k fn.scope.names [] = []) {x msg : Str} {C : Addr} {np cpos pos p : Pos} {kd : Nat}
    (hn : nsIn Γ.K mainGlobals x = some (some (.ref C))) (hex : excIn Γ.K C [.type "Exception", .type "BaseException", .type "object"] "Exception.__new__" = true)
    (hx : (envOf fn.name fn.scope c.L c.a c.cd).kindOf x = some .globalImplicit) (hd : (x == ("__debug__" : Str)) = false) :
    SimS Γ fn c (exec (.Raise (some (.Call (.Name x np) [.Constant (.str msg) kd p] [] cpos)) none pos) (fn.env c)) (yOz C) := by
  refine ⟨?_⟩
  intro σ r s fz α e S Q E _ k ke
  obtain rfl := Option.some.inj e
  obtain ⟨m, μ, Cc⟩ := S
  have key : wpAny (model Γ.prog Γ.w) (fn.A c) (exec (.Raise (some (.Call (.Name x np) [.Constant (.str msg) kd p] [] cpos)) none pos) (envOf fn.name fn.scope c.L c.a c.cd)) Q E s := by
    refine Raise_own Cc.F O.T.g (own_of_in O.X O.T hn hex) PySem.F.excBase_Exception (xI O) ?_ rfl rfl O.G.hk hx hd
    refine spliced_more ?_ rfl
    refine wpAny_mono ((zL (Γ := Γ) (fn := fn) (c := c) (x := msg) (kd := kd) (pos := p)).go σ _ s fz α rfl ⟨m, μ, Cc⟩ (fun v s' => (∀ b o, c.h₀.get? b = some o → s'.heap.get? b = some o) ∧ ∀ h' e, Heap.MadeExcOf s'.heap h' e (.ref C) [v] → E (.ref e) { s' with heap := h' }) E (fun v s' fz' av q nx sub S' D => ?_) (fun _ _ _ q => by cases q)) (fun v s' hq => ?_) fun _ _ q => q
    · refine ⟨S'.keep, fun h' e X => ?_⟩
      obtain ⟨m', μ', C'⟩ := S'
      exact ke e _ C rfl (nx.trans ⟨rfl, rfl, id⟩) (.inl ⟨s'.heap, m', [v], C'.F, fun p hp => C'.N p (sub p hp), X⟩)
    · exact spliced_none ⟨by simp [sizeLine], hq.1, hq.2⟩
  rw [env_plain hcl]
  exact key
set_option tactic.hygienic true in
theorem prim_max (O : Ok Γ n fn c) : yIq Γ fn c (fun v => call (.builtin "max") [v]) maxI := by
  intro σ s fz α a da d S la e
  unfold maxI at e
  split at e
  · split at e
    · rename_i l x r hi
      split at e
      · rename_i hlen
        obtain rfl := Option.some.inj e
        obtain ⟨a', vs, m, rfl, ha, ra⟩ := la
        have hI := k4 ra hi
        obtain ⟨mm, μ, C⟩ := id S
        obtain ⟨led, NL, off, ho, hc⟩ := C.led
        refine uE fun Q E k => max_list_N (xI O) C.F NL (xM ha) hI (by simp) fun h' M t tk F' N' hM hall => ?_
        have C' := C.again ho hc F' N'
        have hmax : M = r.foldl max x := by
          have key : ∀ (r : List Int) (x : Int), (r.foldl max x = x ∨ r.foldl max x ∈ r) ∧ (x ≤ r.foldl max x ∧ ∀ a ∈ r, a ≤ r.foldl max x) := by
            intro r
            induction r with
            | nil => intro x; exact ⟨.inl rfl, Int.le_refl _, fun a ha => by cases ha⟩
            | cons y r ih =>
              intro x
              obtain ⟨h1, h2, h3⟩ := ih (max x y)
              refine ⟨?_, ?_, ?_⟩
              · rcases h1 with h1 | h1
                · rw [List.foldl_cons, h1]
                  rcases Int.le_total x y with q | q
                  · right; rw [Int.max_eq_right q]; exact .head _
                  · left; exact Int.max_eq_left q
                · right; exact .tail _ h1
              · rw [List.foldl_cons]; exact Int.le_trans (Int.le_max_left x y) h2
              · intro a ha
                rw [List.foldl_cons]
                rcases List.mem_cons.mp ha with rfl | ha
                · exact Int.le_trans (Int.le_max_right x a) h2
                · exact h3 a ha
          obtain ⟨h1, h2, h3⟩ := key r x
          refine Int.le_antisymm ?_ ?_
          · rcases List.mem_cons.mp hM with rfl | hM
            · exact h2
            · exact h3 M hM
          · rcases h1 with h1 | h1
            · rw [h1]; exact hall x (.head _)
            · exact hall _ (.tail _ h1)
        subst hmax
        exact k _ _ fz ⟨rfl, rfl, id⟩ (fun _ hp => hp) ⟨_, _, C'⟩ (Rep.int _ _)
      · cases e
    · cases e
  · cases e
theorem zTz (p : Nat → Bool) (k : Nat) : ∀ (l : List Value) (j : Nat), (∀ i, i < j + l.length → p i = decide (k ≤ i)) → (l.zipIdx j).filterMap (fun q => if p q.2 = true then none else some q.1) = l.take (k - j)
  | [], j, _ => by simp
  | v :: r, j, hp => by
    have ih := zTz p k r (j + 1) fun i hi => hp i (by simp only [List.length_cons]; omega)
    have h0 := hp j (by simp only [List.length_cons]; omega)
    rw [List.zipIdx_cons]
    by_cases hj : k ≤ j
    · rw [List.filterMap_cons_none (by simp [h0, hj]), ih, show k - j = 0 by omega, show k - (j + 1) = 0 by omega]
      simp
    · rw [List.filterMap_cons_some (b := v) (by simp [h0, hj]), ih, show k - j = (k - (j + 1)) + 1 by omega, List.take_succ_cons]
theorem kFz {l sl : Addr} {vs : List Value} {m k : Nat} {vl : Value} {A : Around} {Q : Unit → Shared → Prop} {E : Value → Shared → Prop} (hl : s.heap.get? l = some (x4z vs m)) (hs : s.heap.IsSliceOf sl vl .none .none) (pl : IsPart vl (some (k : Int))) (hk : k ≤ vs.length) (hsz : vs.length ≤ sizeLine)
    (h : ∀ h' m', h'.get? l = some (x4z (vs.take k) m') → Heap.SameBut l s.heap h' → Q () { s with heap := h' }) : wpAny (model Γ.prog Γ.w) A (delItem (.ref l) (.ref sl)) Q E s := by
  obtain ⟨os, hos, hcs, hds⟩ := id hs
  have hTs : s.TypeIs (.ref sl) "slice" := ⟨os, hos, hcs⟩
  have hT : s.TypeIs (.ref l) "list" := ⟨_, hl, rfl⟩
  refine wpAny_delItem_slot hT (by decide) PySem.F.slot_list_delitem (wpAny_call_entry PySem.F.slot_list_delitem hT PySem.F.entry_list_delitem ?_ (PySem.F.args_list_delitem_2 _ _))
  show wpAny _ _ (Builtin.List.listSubscript? (.ref sl) >>= _) _ _ s
  refine wpAny_bind ?_
  unfold Builtin.List.listSubscript?
  refine wpAny_bind (wpAny_specialOf hTs slice_no_index ?_)
  simp only [Option.isNone_none, if_true]
  refine wpAny_pure ?_
  show wpAny _ _ (typeOf (.ref sl) >>= _) _ _ s
  refine wpAny_bind (wpAny_typeOf hTs ?_)
  rw [if_neg (by decide)]
  rw [listSliceParts_eq]
  refine wpAny_bind (wpAny_bind (wpAny_field hos hds (x := .none) rfl (wpAny_bind (wpAny_listPart .none ?_))))
  rw [if_neg (show ¬ ((rawPart none == rawInt 0) = true) from Bool.false_ne_true)]
  refine wpAny_bind (wpAny_field hos hds (x := vl) rfl (wpAny_bind (wpAny_listPart pl ?_)))
  refine wpAny_bind (wpAny_field hos hds (x := .none) rfl (wpAny_bind (wpAny_listPart .none (wpAny_pure ?_))))
  refine wpAny_bind (m := Builtin.List.listItems (.ref l)) ?_
  unfold Builtin.List.listItems
  refine wpAny_bind (wpAny_seqItems hl rfl (wpAny_pure ?_))
  refine wpAny_bind (wpAny_of_eq (sliceIndices_raw (some (k : Int)) none none vs.toArray.size (by simp)) ?_)
  refine wpAny_bind (wpAny_rule ?_)
  refine wpAny_bind ?_
  have hb : sliceBounds (some (k : Int)) none none vs.toArray.size = ((k : Int), (vs.length : Int), 1) := by
    simp only [sliceBounds, Option.getD_none, List.size_toArray]
    have h1 : (1 : Int) > 0 := by omega
    have h2 : ¬ ((k : Int) < 0) := by omega
    simp only [h1, h2, if_true, if_false]
    congr 1; omega
  rw [hb]
  have hcut : ∀ (p : Nat → Bool), (∀ i, i < vs.length → p i = decide (k ≤ i)) → (vs.toArray.toList.zipIdx.filterMap fun q => if p q.2 = true then none else some q.1) = vs.take k := fun p hp => zTz p k vs 0 fun i hi => hp i (by omega)
  have hsel : ∀ i, i < vs.length → (if (1 : Int) > 0 then decide ((k : Int) ≤ i) && decide ((i : Int) < vs.length) && (((i : Int) - k) % 1 == 0) else decide ((vs.length : Int) < i) && decide ((i : Int) ≤ k) && (((k : Int) - i) % (-1) == 0)) = decide (k ≤ i) := fun i hi => by
    rw [if_pos (by omega), Int.emod_one]
    simp [hi]
  refine wpAny_updateSeq hl rfl ?_ (by simpa using hsz) ?_
  · refine wpAny_bind (wpAny_letGo ?_)
    refine wpAny_pure ⟨_, rfl, ?_⟩
    refine h _ (if (vs.take k).toArray.size == vs.toArray.size then m else m + 1) ?_ (Heap.SameBut.update ..)
    rw [Heap.get?_update_self _ hl rfl]
    simp only [Obj.mapSeq]
    exact congrArg (fun z : List Value => some (x4z z (if z.toArray.size == vs.toArray.size then m else m + 1))) (hcut _ hsel)
  · refine Nat.le_trans (Nat.le_of_eq (congrArg (fun z : List Value => z.toArray.size) (hcut _ hsel))) ?_
    simp only [List.size_toArray, List.length_take] at *
    omega
set_option tactic.hygienic true in
theorem kNz {x : Str} {p sp tp pos : Pos} {idx : Expr} {i : Nat} {e : EX} (O : Ok Γ n fn c) (hx : SimE Γ fn c (eval (.Name x p) (fn.env c)) (zG i)) (h : SimE Γ fn c (eval idx (fn.env c)) e) :
    SimS Γ fn c (exec (.Delete [.Subscript (.Name x p) (.Slice (some idx) none none sp) tp] pos) (fn.env c)) (vOz i e) := by
  refine ⟨?_⟩
  intro σ r s fz α e S Q E hE k ke
  refine wpAny_Delete (wpAny_deleteEach_cons (wpAny_delete_Subscript ?_))
  unfold vOz at e
  split at e
  · rename_i l hs
    refine hx.own ⟨hs, rfl⟩ S fun s₁ fz₁ nx₁ sub₁ S₁ => ?_
    refine wpAny_Slice ?_
    show wpAny _ _ (eval idx (fn.env c)) _ _ _
    rcases z8 e with ⟨y, h1, hy⟩ | ⟨d, h1, h2⟩
    · exact h.rdE h1 S₁ fun e s' nx R => ke e s' y hy (nx₁.trans nx) (yP sub₁ R)
    · refine h.rdK h1 S₁ fun v s₂ fz₂ av nx₂ sub₂ S₂ D hd => ?_
      have hL := S₂.lrep O.X D hd
      rw [evalPart_none]
      refine wpAny_pure ?_
      refine wpAny_pure ?_
      split at h2
      · rename_i kk
        split at h2
        · rename_i hb
          obtain rfl := Option.some.inj h2
          obtain ⟨t, rfl⟩ := hL
          obtain ⟨vs, m, hg, rr⟩ := wMz S₂ hs
          have hl := rr.length
          have S₄ := S₂.push O.G { cls := .type "slice", data := .fields #[.int kk t, .none, .none] }
          have hg' := Heap.get?_push_of_some ({ cls := .type "slice", data := .fields #[.int kk t, .none, .none] } : Obj) hg
          refine kFz (s := { s₂ with heap := s₂.heap.push { cls := .type "slice", data := .fields #[.int kk t, .none, .none] } }) (k := kk.toNat) hg' (Heap.IsSliceOf.new ..) (by rw [Int.toNat_of_nonneg hb.1]; exact .int _ _) (by omega) (by simp only [sizeLine, lim] at *; omega) fun h' m' hg'' hsb => ?_
          obtain ⟨mm, μ, C⟩ := S₄
          exact wpAny_deleteEach_nil (k .next _ _ α _ _ rfl ((nx₁.trans nx₂).trans ⟨rfl, rfl, id⟩) (fun p hp => List.mem_cons_of_mem _ (sub₂ p (sub₁ p hp))) (fun _ _ => rfl) ⟨mm, μ, C.turn ⟨hs, rfl⟩ hsb hg'' (sl' := .ol (l.take kk.toNat)) ⟨_, _, rfl, (rr.take _).mono Dk.of_cons⟩ rfl⟩ trivial)
        · cases h2
      · cases h2
  · cases e
theorem x0z : ∀ (ns : List Int), ns.all (fun i => decide (0 ≤ i) && decide (i < 1000)) = true → PyData.weightAll (ns.map PyData.int) ≤ 11 * ns.length ∧ PyData.depthAll (ns.map PyData.int) = 0 ∧ PyData.canLayAll0 (ns.map PyData.int) = true
  | [], _ => by simp [PyData.weightAll, PyData.depthAll, PyData.canLayAll0]
  | i :: r, h => by
    rw [List.all_cons, Bool.and_eq_true] at h
    obtain ⟨h1, h2⟩ := h
    simp only [Bool.and_eq_true, decide_eq_true_eq] at h1
    obtain ⟨a, b, d⟩ := x0z r h2
    have hw : PyData.weight (.int i) ≤ 10 := by
      unfold PyData.weight
      split
      · omega
      · have : i.natAbs.log2 < 10 := by
          rw [Nat.log2_lt (by rename_i q; simp at q; omega)]
          omega
        omega
    refine ⟨?_, ?_, ?_⟩
    · simp only [List.map_cons, PyData.weightAll, List.length_cons]; omega
    · simp only [List.map_cons, PyData.depthAll, PyData.depth, b]; rfl
    · simp only [List.map_cons, PyData.canLayAll0, PyData.canLay0, d]; rfl
theorem lay_small {ns : List Int} (hl : ns.length ≤ 1000) (h : ns.all (fun i => decide (0 ≤ i) && decide (i < 1000)) = true) : PyData.layable0 (.list (ns.map .int)) = true := by
  obtain ⟨a, b, d⟩ := x0z ns h
  simp only [PyData.layable0, PyData.canLay0, PyData.depth, PyData.weight, b, d, Bool.and_eq_true, decide_eq_true_eq, true_and]
  refine ⟨by decide, decide_eq_true (Nat.le_trans a (Nat.le_trans (Nat.mul_le_mul_left 11 hl) ?_))⟩
  decide
inductive IdxC (e : EX) (d : PyData) (σ : Sta) (r : Except Addr AV) : Prop
  | mk (l : List PyData) (kk : Int) (ns : List Int) (hd : d = .list l) (h3 : rd e σ = some (.ok (.int kk))) (hns : wN l = some ns) (hb : ns.contains kk ∧ ns.length ≤ 1000 ∧ ns.all (fun i => decide (0 ≤ i) && decide (i < 1000)) = true) (hr : r = .ok (.pv (.int (ns.idxOf kk)))) : IdxC e d σ r
theorem index_inv {e : EX} {d : PyData} {r : Except Addr AV} (hne : ∀ σ y, rd e σ ≠ some (.error y)) (h : bnd (rd e σ) (fun b => okP ((uYz d b).map AV.pv)) = some r) : IdxC e d σ r := by
  rcases z8 h with ⟨y, h3, rfl⟩ | ⟨b, h3, h4⟩
  · exact absurd h3 (hne _ _)
  · obtain ⟨dd, h6, rfl⟩ := qQz h4
    unfold uYz at h6
    split at h6
    · split at h6
      · split at h6
        · exact ⟨_, _, _, rfl, h3, ‹_›, ‹_›, by rw [Option.some.inj h6]⟩
        · cases h6
      · cases h6
    · cases h6
theorem yGq {x : Str} {p ap cp : Pos} {arg : Expr} {ex e : EX} (O : Ok Γ n fn c) (hx : SimE Γ fn c (eval (.Name x p) (fn.env c)) ex) (h : SimE Γ fn c (eval arg (fn.env c)) e) (he : starEach [arg] (fn.env c) = [(false, eval arg (fn.env c))]) (hne : ∀ σ y, rd e σ ≠ some (.error y))
    {pl : Sem Bool} (hm : eval (.Call (.Attribute (.Name x p) (Str.ofString "index") ap) [arg] [] cp) (fn.env c) = (do
      let ov ← eval (.Name x p) (fn.env c)
      standAt ap.atName
      let (f, first) ← holding [ov] (getMethod ov (Str.ofString "index") pl)
      callWith cp f first (backTo cp (starEach [arg] (fn.env c))) [])) :
    SimE Γ fn c (eval (.Call (.Attribute (.Name x p) (Str.ofString "index") ap) [arg] [] cp) (fn.env c)) (op2 uYz ex e) := by
  refine ⟨?_⟩
  intro σ r s fz α e S Q E k ke
  refine MethodCall_ ?_ hm
  rcases z8 e with ⟨y, h1, hy⟩ | ⟨d, h1, h2⟩
  · exact hx.rdE h1 S fun e s' => ke e s' y hy
  obtain ⟨l, kk, ns, rfl, h3, hns, hb, hr⟩ := index_inv hne h2
  refine hx.rdK h1 S fun v s₁ fz₁ av nx₁ sub₁ S₁ D₁ hd₁ => ?_
  obtain ⟨a', vs, m, rfl, ha, ra⟩ := S₁.lrep O.X D₁ hd₁
  refine getMethod_list_of PySem.F.slot_list_index PySem.F.type_list_index (xM ha) ⟨_, ha, rfl⟩ ?_
  refine callWith_method1 ?_ he rfl
  refine spliced_more ?_ he
  refine h.rdK h3 S₁ fun v s₂ fz₂ av₂ nx₂ sub₂ S₂ D₂ hd₂ => ?_
  refine spliced_none ?_
  obtain ⟨t, rfl⟩ := S₂.lrep O.X D₂ hd₂
  obtain ⟨a₂, vs₂, m₂, e2, ha₂, ra₂⟩ := S₂.lrep O.X (D₁.mono sub₂) hd₁
  injection e2 with e2; subst e2
  have hI := k4 ra₂ hns
  refine index_list_ints (xM ha₂) hI ?_ (by simpa using hb.1) ?_
  · exact lay_small hb.2.1 hb.2.2
  · exact k _ _ fz₂ _ hr ((nx₁.trans nx₂).trans ⟨rfl, rfl, id⟩) (fun p hp => sub₂ p (sub₁ p hp)) S₂ (Rep.int _ _)
end
section
variable {Γ : Gl} {n : Nat} {fn : Fn} {c : Dy} {fz : List (Addr × Obj)} {α : Nat → Addr} {σ : Sta} {s : Shared} {h h' : Heap}
theorem areInts : ∀ {vs : List Value} {ns : List Int}, IntsAre vs ns → AreOf ItemKind.int vs ns
  | _, _, .nil => .nil
  | _, _, .cons _ t r => .cons ⟨t, rfl⟩ (areInts r)
theorem z8z {D : Addr → Obj → Prop} : ∀ {vs : List Value} {ds : List PyData}, CarriedAll vs ds → RepAll Γ D vs ds
  | _, _, .nil => .nil
  | _, _, .cons h r => .cons (by cases h <;> constructor) (z8z r)
set_option tactic.hygienic true in
theorem cell_in (S : St Γ fn c fz α σ s.heap) {x : Str} {i : Nat} (hi : fn.nm[i]? = some x) (hl : fn.scope.names.lookup x = some .cell) {env : Env} (hk : env.scope.kind = .function) (hx : env.kindOf x = some .cell) (hcl : env.cells.lookup x = (fn.cells c).lookup x) (hd : (x == ("__debug__" : Str)) = false)
    {d : PyData} (hv : rd (zG i) σ = some (.ok d)) {M : Model} {A : Around} {pos : Pos} {Q E : Value → Shared → Prop} (X : Γ.K.In c.h₀) (k : ∀ v, LRep Γ (Dk Γ fz) s.heap v d → Q v s) : wpAny M A (eval (.Name x pos) env) Q E s := by
  obtain ⟨m, μ, C⟩ := id S
  obtain ⟨ca, o, h1, h2, h3, h4, _⟩ := C.cel i x hi hl
  rcases z8 hv with ⟨y, e1, e2⟩ | ⟨av, e1, e2⟩
  · cases e2
  · obtain ⟨d', e3, e4⟩ := vS e2
    injection e4 with e4; subst e4
    unfold zG at e1
    split at e1
    · rename_i dd hs
      obtain rfl := Except.ok.inj (Option.some.inj e1)
      obtain ⟨v, hv, r⟩ := C.val i dd hs
      exact wpAny_Name (wpAny_loadName_cell hk hx (hcl.trans h1) ⟨o, h2, by rw [h3, hv]⟩ (k v (S.lrep X (av := .pv dd) r e3))) hd
    · rename_i sl hno hs
      obtain rfl := Except.ok.inj (Option.some.inj e1)
      have ho : x6 σ i sl := ⟨hs, by induction sl with | fz d => exact (hno d rfl).elim | ol l => rfl | od a b => rfl⟩
      obtain ⟨hv, _⟩ := C.own i sl ho
      exact wpAny_Name (wpAny_loadName_cell hk hx (hcl.trans h1) ⟨o, h2, by rw [h3, hv]⟩ (k _ (S.lrep X (av := .own i) rfl e3))) hd
    · cases e1
theorem z5z {i : Nat} (σ : Sta) (y : Addr) : rd (zG i) σ ≠ some (.error y) := by
  intro e
  rcases z8 e with ⟨z, h1, h2⟩ | ⟨a, h1, h2⟩
  · unfold zG at h1
    split at h1 <;> cases h1
  · obtain ⟨_, _, q⟩ := vS h2
    cases q
inductive FiltC (ei : EX) (ih : Nat) (σ : Sta) (r : Except Addr AV) : Prop
  | err (y : Addr) (h1 : rd ei σ = some (.error y)) (hy : r = .error y) : FiltC ei ih σ r
  | ok (l hl : List PyData) (ns hs : List Int) (h1 : rd ei σ = some (.ok (.list l))) (h3 : rd (zG ih) σ = some (.ok (.list hl))) (hns : wN l = some ns) (hhs : wN hl = some hs) (hlen : ns.length ≤ 1000) (hr : r = .ok (.pv (.list ((ns.filter fun v => !hs.contains v).map .int)))) : FiltC ei ih σ r
theorem filt_inv {ei : EX} {ih : Nat} {r : Except Addr AV} (e : op2 filtI ei (zG ih) σ = some r) : FiltC ei ih σ r := by
  rcases z8 e with ⟨y, h1, hy⟩ | ⟨d, h1, h2⟩
  · exact .err y h1 hy
  rcases z8 h2 with ⟨y, h3, rfl⟩ | ⟨b, h3, h4⟩
  · exact absurd h3 (z5z _ _)
  obtain ⟨a, h5, rfl⟩ := vS h4
  obtain ⟨dd, h6, rfl⟩ := Option.map_eq_some_iff.mp h5
  unfold filtI at h6
  split at h6
  · split at h6
    · split at h6
      · exact .ok _ _ _ _ h1 h3 ‹_› ‹_› ‹_› (by rw [Option.some.inj h6])
      · cases h6
    · cases h6
  · cases h6
theorem SimE_filt (O : Ok Γ n fn c) {iter : Expr} {v hn : Str} {pe px p1 p2 p3 pos : Pos} {scope : Scope} {cl : List (Str × Addr)} {ei : EX} {ih : Nat} (hit : SimE Γ fn c (eval iter (fn.env c)) ei)
    (hi : fn.nm[ih]? = some hn) (hl : fn.scope.names.lookup hn = some .cell) (hdh : (hn == ("__debug__" : Str)) = false) (hdv : (v == ("__debug__" : Str)) = false)
    (hclos : closureFor scope (fn.env c) = pure cl) (hcell : ∀ y ∈ scope.names, y.2 ≠ .cell) (hkind : scope.kind = .function)
    (hnames : ∀ y ∈ scope.names, y.2 = .local → scope.names.lookup y.1 = some .local) (hx : scope.names.lookup v = some .local)
    (hkv : ∀ C, (compEnvC scope cl C (fn.env c)).kindOf v = some .local) (hkh : ∀ C, (compEnvC scope cl C (fn.env c)).kindOf hn = some .cell) (hcl : cl.lookup hn = (fn.cells c).lookup hn)
    (hs : ∀ x, foldedSetIterable iter (fn.env c) x = pure x) :
    SimE Γ fn c (eval (.ListComp (.Name v pe) [⟨.Name v px, iter, [.Compare (.Name v p1) [.NotIn] [.Name hn p2] p3], 0⟩] scope pos) (fn.env c)) (op2 filtI ei (zG ih)) := by
  refine ⟨?_⟩
  intro σ r s fz α e S Q E k ke
  rcases filt_inv e with ⟨y, h1, hy⟩ | ⟨l, hl', ns, hs', h1, h3, hns, hhs, hlen, hr'⟩
  · refine wpAny_ListComp_free (fun _ => true) (fun _ _ => True) hclos hcell hkind hnames hx ?_ hs
    exact hit.rdE h1 S fun e s' => ke e s' y hy
  refine wpAny_ListComp_free (ItemKind.int.lift fun v => !hs'.contains v) (fun v y => ∃ a, ItemKind.int.is a v ∧ Carried y (.int a)) hclos hcell hkind hnames hx ?_ hs
  refine hit.rdK h1 S fun xv s₁ fz₁ av nx₁ sub₁ S₁ D₁ hd₁ => ?_
  obtain ⟨a', vs, mm, rfl, ha, ra⟩ := S₁.lrep O.X D₁ hd₁
  have hI := areInts (k4 ra hns)
  have hlt : a' < s₁.heap.objs.size := Heap.lt_size ha
  have hL := xM ha
  have up : ∀ (s₃ : Shared), (∀ b o, b ∉ [s₁.heap.objs.size] → (s₁.heap.push { cls := .type "list_iterator", data := .fields #[.ref a', .int 0 0] }).get? b = some o → s₃.heap.get? b = some o) → ∀ b o, s₁.heap.get? b = some o → s₃.heap.get? b = some o :=
    fun s₃ hk b o e => hk b o (fun hm => by rcases List.mem_cons.mp hm with rfl | hm; exact Nat.lt_irrefl _ (Heap.lt_size e); cases hm) (Heap.get?_push_of_some _ e)
  refine wpAny_pyIter_list hL ⟨s₁.heap.objs.size, [s₁.heap.objs.size, a'], [s₁.heap.objs.size], vs.toArray.size, _, _, rfl, Walks.list (xI O) _ _ (Nat.ne_of_lt hlt) vs.toArray, ?_, ⟨⟨_, Heap.get?_push_size _ rfl, rfl, rfl⟩, hL.push _⟩, ?_, ⟨?_, ?_⟩, ?_⟩
  · have := hI.length
    simp only [List.size_toArray, sizeLine]; omega
  · intro b hb
    show b < (s₁.heap.push _).objs.size
    rw [Heap.size_push]
    rcases List.mem_cons.mp hb with rfl | hb
    · exact Nat.lt_succ_self _
    · rcases List.mem_cons.mp hb with rfl | hb
      · exact Nat.lt_succ_of_lt hlt
      · cases hb
  · intro C' i v' s₂ m₂ E' hC hP hns₂ hm₂ hk₂ _
    obtain ⟨z, hmem, hz⟩ := hI.memD v' (by simpa using Array.mem_of_getElem? hP)
    rw [ItemKind.lift_is hz]
    obtain ⟨t, rfl⟩ := hz
    have S₂ : St Γ fn c fz₁ α σ s₂.heap := S₁.grow (up s₂ hk₂)
    simp only [List.forIn_cons, List.forIn_nil, if_true, bind_assoc, pure_bind]
    refine wpAny_bind (wpAny_isTrue_Compare1 ?_ rfl)
    refine wpAny_Name (wpAny_loadName_local (env := compEnvC scope cl C' (fn.env c)) hkind (hkv C') hns₂ hm₂ ?_) hdv
    refine cell_in S₂ hi hl hkind (hkh C') hcl hdh h3 O.X fun hv hr => ?_
    refine q7 σ s₂ fz₁ α _ _ (.int z) (.list hl') (!hs'.contains z) S₂ ⟨t, rfl⟩ hr ?_ _ _ fun tk => ?_
    · show (inI (.int z) (.list hl')).map not = _
      show ((wN hl').map fun ns => ns.contains z).map not = _
      rw [hhs]; rfl
    · exact wpAny_truthy_bool (wpAny_pure ⟨rfl, _, _, rfl, fun b o e => e⟩)
  · intro C' i v' s₂ m₂ E' hC hP hp hns₂ hm₂ hk₂ _
    obtain ⟨z, hmem, hz⟩ := hI.memD v' (by simpa using Array.mem_of_getElem? hP)
    obtain ⟨t, rfl⟩ := hz
    exact wpAny_Name (wpAny_loadName_local (env := compEnvC scope cl C' (fn.env c)) hkind (hkv C') hns₂ hm₂ ⟨⟨z, ⟨t, rfl⟩, .int _ _⟩, _, _, rfl, fun b o e => e⟩) hdv
  · intro D h' tk ys vs' hnew hlD hplD hlen' hP hF hk
    have e : vs' = vs := by simpa using list_of_places hlen' hP
    subst e
    have keep : ∀ b o, s₁.heap.get? b = some o → h'.get? b = some o := up { s₁ with heap := h' } hk
    obtain ⟨pn, hpl⟩ := hplD
    have hca := hI.paired (fun v => !hs'.contains v) PyData.int _ hF
    have hDs : s₁.heap.get? D = none := by
      cases e : s₁.heap.get? D with
      | none => rfl
      | some o' => rw [Heap.get?_push_of_some _ e] at hnew; cases hnew
    have S₃ : St Γ fn c fz₁ α σ h' := S₁.grow keep
    refine k (.ref D) _ ((D, x4z ys.toList pn) :: fz₁) _ hr' (nx₁.trans ⟨rfl, rfl, id⟩) (fun p hp => List.mem_cons_of_mem _ (sub₁ p hp)) ?_ (Rep.list (.inr (.head _)) (z8z hca))
    obtain ⟨m, μ, C⟩ := id S₁
    refine S₃.freeze1 (by rw [hpl]) (fun e => ?_) ?_ (fun j sl hj => ?_) fun x ca hx hl => ?_
    · obtain ⟨o, _, _, ho, _⟩ := C.F.ns
      rw [e, ho] at hDs; cases hDs
    · cases e : c.h₀.get? D with
      | none => rfl
      | some o' => rw [C.F.keep _ _ e] at hDs; cases hDs
    · obtain ⟨_, ⟨o', h2, _⟩, _⟩ := C.own j sl hj
      intro e; rw [e, hDs] at h2; cases h2
    · obtain ⟨o', h2⟩ := wA S₁ O.G.all hx hl
      intro e; rw [e, hDs] at h2; cases h2
end
section
variable {Γ : Gl} {n : Nat} {fn : Fn} {c : Dy} {fz : List (Addr × Obj)} {α : Nat → Addr} {σ : Sta} {s : Shared} {h h' : Heap}
theorem y3z : ∀ {l : List PyData} {ns : List Int}, wN l = some ns → l.length = ns.length
  | [], ns, h => by cases h; rfl
  | .int i :: r, ns, h => by
    obtain ⟨ms, h1, rfl⟩ := Option.map_eq_some_iff.mp (show (wN r).map (i :: ·) = some ns from h)
    rw [List.length_cons, List.length_cons, y3z h1]
theorem hIz (ns : List Int) : ((rangeInts 0 1 ns.length).filter fun _ => true).map (fun z => PyData.int (z + 1 + (ns[z.toNat]?).getD 0)) = ns.zipIdx.map fun p => PyData.int ((p.2 : Int) + 1 + p.1) := by
  refine List.ext_getElem? fun i => ?_
  rw [show ∀ l : List Int, (l.filter fun _ => true) = l from fun l => List.filter_eq_self.mpr fun _ _ => rfl]
  simp only [List.getElem?_map, List.getElem?_zipIdx, rangeInts]
  by_cases hi : i < ns.length
  · simp [hi]
  · simp [hi]
theorem h5z {z : Int} : ∀ {vs : List Value} {ns : List Int} {i : Nat}, IntsAre vs ns → ns[i]? = some z → ∃ t, vs[i]? = some (.int z t)
  | _, _, i, .nil, h => by simp at h
  | _, _, i, .cons k t r, h => by
    induction i with
    | zero => simp at h; subst h; exact ⟨t, rfl⟩
    | succ i => simpa using h5z (i := i) r (by simpa using h)
inductive BordC (it : Nat) (σ : Sta) (r : Except Addr AV) : Prop
  | mk (l : List PyData) (ns : List Int) (h1 : rd (zG it) σ = some (.ok (.list l))) (hns : wN l = some ns) (hsz : ns.length ≤ 1000) (hr : r = .ok (.pv (.list (ns.zipIdx.map fun p => .int ((p.2 : Int) + 1 + p.1))))) : BordC it σ r
theorem z9q {it : Nat} {r : Except Addr AV} (e : op1 k9 (zG it) σ = some r) : BordC it σ r := by
  rcases z8 e with ⟨y, h1, rfl⟩ | ⟨d, h1, h2⟩
  · exact absurd h1 (z5z _ _)
  obtain ⟨a, h5, rfl⟩ := vS h2
  obtain ⟨dd, h6, rfl⟩ := Option.map_eq_some_iff.mp h5
  unfold k9 at h6
  split at h6
  · split at h6
    · split at h6
      · exact ⟨_, _, h1, ‹_›, ‹_›, by rw [Option.some.inj h6]⟩
      · cases h6
    · cases h6
  · cases h6
theorem hLz (O : Ok Γ n fn c) {iv tn : Str} {p1 p2 p3 p4 p5 p6 p7 px pr pc pl plc pt pos : Pos} {kd : Nat} {scope : Scope} {cl : List (Str × Addr)} {it : Nat}
    (hi : fn.nm[it]? = some tn) (hl : fn.scope.names.lookup tn = some .cell) (hdt : (tn == ("__debug__" : Str)) = false) (hdv : (iv == ("__debug__" : Str)) = false)
    (hclos : closureFor scope (fn.env c) = pure cl) (hcell : ∀ y ∈ scope.names, y.2 ≠ .cell) (hkind : scope.kind = .function)
    (hnames : ∀ y ∈ scope.names, y.2 = .local → scope.names.lookup y.1 = some .local) (hx : scope.names.lookup iv = some .local)
    (hkv : ∀ C, (compEnvC scope cl C (fn.env c)).kindOf iv = some .local) (hkt : ∀ C, (compEnvC scope cl C (fn.env c)).kindOf tn = some .cell) (hcl : cl.lookup tn = (fn.cells c).lookup tn)
    (hlen : SimE Γ fn c (eval (.Call (.Name (Str.ofString "len") pl) [.Name tn pt] [] plc) (fn.env c)) (op1 vM (zG it)))
    (he : starEach [.Call (.Name (Str.ofString "len") pl) [.Name tn pt] [] plc] (fn.env c) = [(false, eval (.Call (.Name (Str.ofString "len") pl) [.Name tn pt] [] plc) (fn.env c))]) (hk : fn.scope.names.lookup (Str.ofString "range") = some .globalImplicit)
    (hK : nsIn Γ.K mainGlobals (Str.ofString "range") = some none) :
    SimE Γ fn c (eval (.ListComp (.BinOp (.BinOp (.Name iv p1) .Add (.Constant (.int 1) kd p2) p3) .Add (.Subscript (.Name tn p4) (.Name iv p5) p6) p7)
      [⟨.Name iv px, .Call (.Name (Str.ofString "range") pr) [.Call (.Name (Str.ofString "len") pl) [.Name tn pt] [] plc] [] pc, [], 0⟩] scope pos) (fn.env c)) (op1 k9 (zG it)) := by
  refine ⟨?_⟩
  intro σ r s fz α e S Q E k ke
  obtain ⟨l, ns, h1, hns, hsz, hr'⟩ := z9q e
  have hll := y3z hns
  refine wpAny_ListComp_free (ItemKind.int.lift fun _ => true) (fun v y => ∃ a, ItemKind.int.is a v ∧ Carried y (.int (a + 1 + (ns[a.toNat]?).getD 0))) hclos hcell hkind hnames hx ?_ (fun _ => rfl)
  obtain ⟨mm, μ, C⟩ := id S
  refine Call_Name rfl (nameX_B C.F O.X O.T hK boot_range (by decide) ?_ O.G.hk hk (by decide))
  refine PyProof.Rows.callWith_type1 ?_ he rfl
  refine spliced_more ?_ he
  have hlenv : rd (op1 vM (zG it)) σ = some (.ok (.int (ns.length : Int))) := by
    unfold rd op1
    rw [h1]
    show bnd (okP ((vM (.list l)).map AV.pv)) _ = _
    have : vM (.list l) = some (.int (ns.length : Int)) := by
      show (if l.length ≤ lim then some (PyData.int (l.length : Int)) else none) = _
      rw [if_pos (by simp only [lim]; omega), hll]
    rw [this]; rfl
  refine hlen.rdK hlenv S fun v s' fz' av nx sub S' D hd => ?_
  refine spliced_none ?_
  obtain ⟨t, rfl⟩ := S'.lrep O.X D hd
  refine call_range_1 ?_
  have hr : IsRange (s'.heap.push { cls := .type "range", data := .fields #[.int 0 s'.toks, .int ns.length t, .int 1 (s'.toks + 1)] }) s'.heap.objs.size 0 ns.length 1 s'.toks t (s'.toks + 1) := IsRange.new _ _ _ _ _ _ _
  have S₁ : St Γ fn c fz' α σ (s'.heap.push { cls := .type "range", data := .fields #[.int 0 s'.toks, .int ns.length t, .int 1 (s'.toks + 1)] }) := S'.grow fun b o' e => Heap.get?_push_of_some _ e
  generalize hH : s'.heap.push { cls := .type "range", data := .fields #[.int 0 s'.toks, .int ns.length t, .int 1 (s'.toks + 1)] } = H at hr S₁ ⊢
  have up : ∀ (s₃ : Shared), (∀ b o, b ∉ [H.objs.size] → (H.push { cls := .type "range_iterator", data := .fields #[rawInt 0, rawInt (Builtin.Range.rangeSize 0 ns.length 1), rawInt 1] }).get? b = some o → s₃.heap.get? b = some o) → ∀ b o, H.get? b = some o → s₃.heap.get? b = some o :=
    fun s₃ hk b o e => hk b o (fun hm => by rcases List.mem_cons.mp hm with rfl | hm; exact Nat.lt_irrefl _ (Heap.lt_size e); cases hm) (Heap.get?_push_of_some _ e)
  have hn : Builtin.Range.rangeSize 0 ns.length 1 = (ns.length : Int) := by rw [rangeSize_nat]; omega
  refine wpAny_pyIter_range hr (small_one (by omega) (by omega) (by omega) (by omega)) ⟨H.objs.size, [H.objs.size], [H.objs.size], ns.length, _, _, rfl, (Walks.range (xI O) _ 0 1 ns.length).bound, by simp only [sizeLine]; omega, (by show IsRangeIter _ _ _ _ _; rw [hn]; simpa using Heap.get?_push_size _ rfl), ?_, ⟨?_, ?_⟩, ?_⟩
  · intro b hb
    show b < (H.push _).objs.size
    rw [Heap.size_push]
    rcases List.mem_cons.mp hb with rfl | hb
    · exact Nat.lt_succ_self _
    · cases hb
  · intro C' i v s₃ m₃ E' hC hP hn' hm hk' _
    have ha : ItemKind.int.is (0 + (i : Nat) * 1) v := hP.2
    rw [ItemKind.lift_is ha]
    simp only [List.forIn_nil]
    exact wpAny_pure ⟨rfl, _, _, rfl, fun b o e => e⟩
  · intro C' i v s₃ m₃ E' hC hP hp hn' hm hk' _
    obtain ⟨t', rfl⟩ : ItemKind.int.is (0 + (i : Nat) * 1) v := hP.2
    have hi' : i < ns.length := hP.1
    have S₃ : St Γ fn c fz' α σ s₃.heap := S₁.grow (up s₃ hk')
    refine wpAny_BinOp (wpAny_BinOp ?_)
    refine wpAny_Name (wpAny_loadName_local (env := compEnvC scope cl C' (fn.env c)) hkind (hkv C') hn' hm ?_) hdv
    refine wpAny_Constant_int ?_
    refine add_int ?_
    refine Subscript_ ?_
    refine cell_in (s := { s₃ with toks := s₃.toks + 1 + 1 }) S₃ hi hl hkind (hkt C') hcl hdt h1 O.X fun hv hr => ?_
    refine wpAny_Name (wpAny_loadName_local (env := compEnvC scope cl C' (fn.env c)) hkind (hkv C') hn' hm ?_) hdv
    obtain ⟨a', vs, mm, rfl, ha, ra⟩ := hr
    have hI := k4 ra hns
    have hL := xM ha
    have hvi : ∃ z t, vs[i]? = some (.int z t) ∧ ns[i]? = some z := by
      have h7 : ns[i]? = some ns[i] := List.getElem?_eq_getElem hi'
      obtain ⟨t₂, h8⟩ := h5z hI h7
      exact ⟨_, t₂, h8, h7⟩
    obtain ⟨z, t₂, hz1, hz2⟩ := hvi
    refine tail_any hL.typeIs slot_list_getitem.lookup ?_ rfl
    refine wpAny_getItem_list hL (by omega) (by omega) (by rw [show (0 + (i : Int) * 1).toNat = i by omega]; simpa using hz1) ?_
    refine add_int ?_
    refine ⟨⟨_, ⟨t', rfl⟩, ?_⟩, _, _, rfl, fun b o e => e⟩
    rw [show (0 + (i : Int) * 1).toNat = i by omega, hz2]
    exact .int _ _
  · intro D h' tk ys vs' hnew hlD hplD hlen' hP hF hk'
    have hi : AreOf .int vs' (rangeInts 0 1 ns.length) := AreOf.of_get (hlen'.trans (rangeInts_length _ _ _).symm) fun j v hv => ⟨_, rangeInts_get (hP j v hv).1, (hP j v hv).2⟩
    have keep : ∀ b o, H.get? b = some o → h'.get? b = some o := up { s' with heap := h' } hk'
    obtain ⟨pn, hpl⟩ := hplD
    have hca := hi.paired (fun _ => true) (fun z => PyData.int (z + 1 + (ns[z.toNat]?).getD 0)) _ hF
    rw [hIz] at hca
    have hDs : H.get? D = none := by
      cases e : H.get? D with
      | none => rfl
      | some o' => rw [Heap.get?_push_of_some _ e] at hnew; cases hnew
    have S₃ : St Γ fn c fz' α σ h' := S₁.grow keep
    refine k (.ref D) _ ((D, x4z ys.toList pn) :: fz') _ hr' (nx.trans ⟨rfl, rfl, id⟩) (fun p hp => List.mem_cons_of_mem _ (sub p hp)) ?_ (Rep.list (.inr (.head _)) (z8z hca))
    obtain ⟨m, μ, C⟩ := id S₁
    refine S₃.freeze1 (by rw [hpl]) (fun e => ?_) ?_ (fun j sl hj => ?_) fun x ca hx hl => ?_
    · obtain ⟨o, _, _, ho, _⟩ := C.F.ns
      rw [e, ho] at hDs; cases hDs
    · cases e : c.h₀.get? D with
      | none => rfl
      | some o' => rw [C.F.keep _ _ e] at hDs; cases hDs
    · obtain ⟨_, ⟨o', h2, _⟩, _⟩ := C.own j sl hj
      intro e; rw [e, hDs] at h2; cases h2
    · obtain ⟨o', h2⟩ := wA S₁ O.G.all hx hl
      intro e; rw [e, hDs] at h2; cases h2
end
section
variable {Γ : Gl} {n : Nat} {fn : Fn} {c : Dy} {fz : List (Addr × Obj)} {α : Nat → Addr} {σ : Sta} {s : Shared} {h h' : Heap}
noncomputable abbrev Dy.on (c : Dy) (g : Heap) : Dy := { c with h₀ := g, base := g }
theorem StC.on {m : Str → Option Value} {μ : Nat → Option Value} {h₁ : Heap} {cc P : Addr} {ps ps' : Array Value} (C : StC Γ fn c fz α σ h m μ) (B : Based h₁ c.h₀ cc P ps) (hk : ∀ b o, b ≠ P → h.get? b = some o → h'.get? b = some o)
    (F : Fr (regrown c.h₀ P ps') c.L h' m) : StC Γ fn (c.on (regrown c.h₀ P ps')) fz α σ h' m μ := by
  have fresh : ∀ b, c.h₀.get? b = none → b ≠ P ∧ (regrown c.h₀ P ps').get? b = none := fun b e => by
    have hb : b ≠ P := fun q => by rw [q, B.tab.2] at e; cases e
    exact ⟨hb, (Heap.get?_update_other _ _ (Ne.symm hb)).trans e⟩
  have mine : ∀ b, Mine1 c fz b → Mine1 (c.on (regrown c.h₀ P ps')) fz b := fun b M => ⟨M.ne, (fresh b M.new).2, M.off⟩
  refine ⟨F, fun p hp => ⟨hk _ _ (fresh _ (C.N p hp).2.2).1 (C.N p hp).1, (C.N p hp).2.1, (fresh _ (C.N p hp).2.2).2⟩, C.loc, fun i x hi hx => ?_, C.val, fun i sl ho => ?_, C.inj⟩
  · obtain ⟨ca, o, h1, h2, h3, h4, h5⟩ := C.cel i x hi hx
    exact ⟨ca, o, h1, hk _ _ (fresh _ h4.new).1 h2, h3, mine _ h4, h5⟩
  · obtain ⟨h1, ⟨o, h2, h3⟩, h4⟩ := C.own i sl ho
    exact ⟨h1, ⟨o, hk _ _ (fresh _ h4.new).1 h2, h3⟩, mine _ h4⟩
inductive PairAt (D : Addr → Obj → Prop) (v : Option Value) : Prop
  | mk (T : Addr) (x : Str) (t : Tok) (i : Int) (u : Tok) (nn : Nat) (h : v = some (.ref T)) (hd : D T (tobj [.str x t, .int i u] nn)) : PairAt D v
inductive TsAt (h : Heap) (v : Option Value) (T : Addr) (vals : Array Value) : Prop
  | mk (x : Str) (t : Tok) (i : Int) (u : Tok) (nn : Nat) (e1 : v = some (.ref T)) (e2 : h.get? T = some (tobj [.str x t, .int i u] nn)) (e3 : vals = #[.str x t, .int i u]) : TsAt h v T vals
theorem pair_at {D : Addr → Obj → Prop} : ∀ {vs : List Value} {l : List PyData}, RepAll Γ D vs l → l.all (fun d => match d with | .tuple [.str _, .int _] => true | _ => false) = true →
    ∀ (j : Nat), j < vs.length → PairAt D vs[j]?
  | _, _, .nil, _, j, hj => by simp at hj
  | _, _, .cons (d := d) r rs, h, j, hj => by
    rw [List.all_cons, Bool.and_eq_true] at h
    cases j with
    | zero =>
      obtain ⟨h, _⟩ := h
      split at h
      · rename_i x i
        cases r with
        | tuple hd rr =>
          cases rr with
          | cons r1 rr =>
            cases rr with
            | cons r2 rr =>
              cases rr
              cases r1
              cases r2
              exact ⟨_, _, _, _, _, _, rfl, hd⟩
      · cases h
    | succ j => simpa using pair_at rs h.2 j (by simpa using hj)
structure AllAt (Γ : Gl) (fn : Fn) (c : Dy) (h₁ : Heap) (cc P : Addr) (ig : Nat) (ex : Expr) : Prop where
  go : ∀ {fz : List (Addr × Obj)} {α : Nat → Addr} {σ : Sta} {s : Shared} {d : PyData} {Q E : Value → Shared → Prop}, St Γ fn c fz α σ s.heap → AllBare s.gens → rd (zG ig) σ = some (.ok d) → uG d = some true →
    (∀ s' fz' ps', (∀ p ∈ fz, p ∈ fz') → Based h₁ (regrown c.h₀ P ps') cc P ps' → St Γ fn (c.on (regrown c.h₀ P ps')) fz' α σ s'.heap → AllBare s'.gens → s'.os = s.os → Q (.bool true) s') → wpAny (model Γ.prog Γ.w) (fn.A c) (eval ex (fn.env c)) Q E s
inductive AllC (ig : Nat) (σ : Sta) : Prop
  | mk (l : List PyData) (h : rd (zG ig) σ = some (.ok (.list l))) (ha : l.all (fun d => match d with | .tuple [.str _, .int _] => true | _ => false) = true) : AllC ig σ
theorem yCq {ig : Nat} {d : PyData} (h : rd (zG ig) σ = some (.ok d)) (ha : uG d = some true) : AllC ig σ := by
  unfold uG at ha
  split at ha
  · split at ha
    · exact ⟨_, h, ‹_›⟩
    · cases ha
  · cases ha
theorem all_gen {h₁ : Heap} {cc P bm : Addr} {ob : Obj} (O : Ok Γ n fn c) (B : Based h₁ c.h₀ cc P #[]) (M : BMod c.h₀ mainGlobals Γ.mg bm ob) (hcode : c.cd = .ref cc) (hcls : kb_classed Γ.K = true)
    {xa xb gn : Str} {p1 p2 p3 p4 p5 pa pb pt pg gp pn pos : Pos} {kt : Nat} {scope : Scope} {cl : List (Str × Addr)} {ig : Nat}
    (hclos : closureFor scope (fn.env c) = pure cl) (hco : scope.isCoroutine = false) (hcell : ∀ y ∈ scope.names, y.2 ≠ .cell) (h0 : scope.names.lookup (".0" : Str) = some NameKind.local)
    (hxa : scope.names.lookup xa = some .local) (hxb : scope.names.lookup xb = some .local) (hab : xa ≠ xb) (hkind : scope.kind = .function) (hdb : (xb == ("__debug__" : Str)) = false)
    (hgt : scope.names.lookup (Str.ofString "type") = some .globalImplicit) (hgi : scope.names.lookup (Str.ofString "int") = some .globalImplicit)
    (hgot : SimE Γ fn c (eval (.Name gn pg) (fn.env c)) (zG ig)) (hs : ∀ x, genFold (.Name gn pg) (fn.env c) x = pure x)
    (hka : fn.scope.names.lookup (Str.ofString "all") = some .globalImplicit) (hKa : nsIn Γ.K mainGlobals (Str.ofString "all") = some none) (hKt : nsIn Γ.K mainGlobals (Str.ofString "type") = some none) (hKi : nsIn Γ.K mainGlobals (Str.ofString "int") = some none) :
    AllAt Γ fn c h₁ cc P ig (.Call (.Name (Str.ofString "all") pn) [.GeneratorExp (.Compare (.Call (.Name (Str.ofString "type") p1) [.Name xb p2] [] p3) [.Is] [.Name (Str.ofString "int") p4] p5) [⟨.Tuple [.Name xa pa, .Name xb pb] kt pt, .Name gn pg, [], 0⟩] scope gp] [] pos) := by
  refine ⟨?_⟩
  intro fz α σ s d Q E S hg hd ha k
  obtain ⟨l, hd, hall⟩ := yCq hd ha
  obtain ⟨m₀, μ₀, C₀⟩ := id S
  refine Call_Name rfl (nameX_B C₀.F O.X O.T hKa boot_all (by decide) ?_ O.G.hk hka (by decide))
  refine PyProof.Rows.callWith_builtin1 ?_ rfl rfl
  refine spliced_more ?_ rfl
  have hroom : (fn.A c).depth < recursionLimit := by
    have := O.room
    show c.A₀.depth + 1 < _
    omega
  refine wpAny_GeneratorExp_walksQT (xI O) hco hclos hcell h0 hxa hxb hab hkind hroom ?_ hs
  refine hgot.rdK hd S fun xv s₁ fz₁ av nx₁ sub₁ S₁ D₁ hd₁ => ?_
  obtain ⟨ax, vs, mm, rfl, hax, ra⟩ := S₁.lrep O.X D₁ hd₁
  have hlist := xM hax
  obtain ⟨m, μ, C⟩ := id S₁
  have hlim : s₁.heap.NoLimit := O.T.nolimit.keeps C.F.keep
  let I := s₁.heap.objs.size
  let H := s₁.heap.push { cls := .type "list_iterator", data := .fields #[.ref ax, .int 0 0] }
  have FH : Fr c.h₀ c.L H m := C.F.keeps fun _ _ e => Heap.get?_push_of_some _ e
  let Ts : Nat → Addr := fun j => match vs[j]? with | some (.ref T) => T | _ => 0
  let vals : Nat → Array Value := fun j => match s₁.heap.get? (Ts j) with | some o => (match o.data with | .seq xs _ => xs | _ => #[]) | none => #[]
  have at_ : ∀ j, j < vs.length → TsAt s₁.heap vs[j]? (Ts j) (vals j) := fun j hj => by
    obtain ⟨T, x, t, i, u, nn, e1, e2⟩ := pair_at ra hall j hj
    have e3 : Ts j = T := by show (match vs[j]? with | some (.ref T) => T | _ => 0) = T; rw [e1]
    have e4 := S₁.heapD O.X _ _ e2
    refine ⟨x, t, i, u, nn, by rw [e3]; exact e1, by rw [e3]; exact e4, ?_⟩
    show (match s₁.heap.get? (Ts j) with | some o => (match o.data with | .seq xs _ => xs | _ => #[]) | none => #[]) = _
    rw [e3, e4]
  have tabH := B.tabAt FH
  have neP : ∀ b o, H.get? b = some o → o.cls ≠ .none → b ≠ P := fun b o e hc q => by
    rw [q, tabH.2] at e; cases e; exact hc rfl
  have up : ∀ b o, s₁.heap.get? b = some o → H.get? b = some o := fun b o e => Heap.get?_push_of_some _ e
  have hI : H.get? I = some { cls := .type "list_iterator", data := .fields #[.ref ax, .int 0 0] } := Heap.get?_push_size _ rfl
  have axlt : ax < I := Heap.lt_size hax
  refine wpAny_pyIter_list hlist ⟨hlim.push _, wpAny_genexprCodeX (c := cc) (P := P) (ps := #[]) hcode (B.codeAt FH) tabH rfl fun c' h₃ tk₃ hx₃ hge hlt hcode₃ _ htab₃ _ => ?_⟩
  obtain ⟨B₃, F₃⟩ := B.grow FH hx₃ hcode₃ htab₃
  have M₃ : BMod h₃ mainGlobals Γ.mg bm ob := (M.keeps FH.keep).extBut tabH hx₃
  have hlim₃ : h₃.NoLimit := (hlim.push _).extBut hx₃ (Ne.symm B.notStatics)
  have hsz₃ : H.objs.size ≤ h₃.objs.size := Nat.le_trans hge (Nat.le_of_lt hlt)
  refine wpAny_builtinsFor M₃.ns M₃.name M₃.ne M₃.obj M₃.cls M₃.dict M₃.data ?_
  have hit : ∀ j, j < vs.toArray.size → vs.toArray[j]? = some (.ref (Ts j)) := fun j hj => by
    obtain ⟨_, _, _, _, _, e, _⟩ := at_ j (by simpa using hj)
    simpa using e
  have hTI : ∀ j, j < vs.toArray.size → Ts j ≠ I := fun j hj => by
    obtain ⟨_, _, _, _, _, _, e, _⟩ := at_ j (by simpa using hj)
    exact Nat.ne_of_lt (Heap.lt_size e)
  have hH : H.objs.size = I + 1 := Heap.size_push _ _
  refine ⟨I, I :: ax :: (List.range vs.toArray.size).map Ts, [I], vs.toArray.size, _, _, _, fun _ => true, fun _ y => y = .bool true, rfl, fun A' hA => (WalksU.listOfTuples hA I ax (Nat.ne_of_lt axlt) vs.toArray Ts vals hit hTI).bound, ?_, ?_, ?_, hlim₃, ?_, ?_, ?_⟩
  · intro i vv hv
    obtain ⟨hi, rfl⟩ := hv
    obtain ⟨_, _, _, _, _, _, _, e⟩ := at_ i (by simpa using hi)
    exact ⟨_, _, e⟩
  · refine ⟨⟨_, hx₃ _ _ (neP _ _ hI (by simp)) hI, rfl, rfl⟩, ⟨_, hx₃ _ _ (neP _ _ (up _ _ hax) (by simp)) (up _ _ hax), rfl, _, rfl⟩, fun j hj => ?_⟩
    obtain ⟨_, _, _, _, _, _, e, e2⟩ := at_ j (by simpa using hj)
    rw [e2]
    exact ⟨_, hx₃ _ _ (neP _ _ (up _ _ e) (by simp)) (up _ _ e), rfl, _, rfl⟩
  · intro b hb
    show b < h₃.objs.size
    refine Nat.lt_of_lt_of_le ?_ hsz₃
    rw [hH]
    rcases List.mem_cons.mp hb with rfl | hb
    · exact Nat.lt_succ_self _
    · rcases List.mem_cons.mp hb with rfl | hb
      · exact Nat.lt_succ_of_lt axlt
      · obtain ⟨j, hj, rfl⟩ := List.mem_map.mp hb
        obtain ⟨_, _, _, _, _, _, e, _⟩ := at_ j (by simpa using hj)
        exact Nat.lt_succ_of_lt (Heap.lt_size e)
  · intro hm
    have hc : cStatics < s₁.heap.objs.size := let ⟨_, hn, _⟩ := hlim; hn.lt
    rcases List.mem_cons.mp hm with e | hb
    · exact absurd (e ▸ hc) (Nat.lt_irrefl _)
    · cases hb
  · intro href hhref
    refine ⟨fun A' E' i va vb s₂ m₂ hA hP hn2 hm1 hm2 hk2 => ?_, fun A' E' i va vb s₂ m₂ hA hP _ hn2 hm1 hm2 hk2 => ?_⟩
    · simp only [List.forIn_nil]
      exact wpAny_pure ⟨rfl, _, _, rfl, fun b o e => e⟩
    · obtain ⟨hi, hv⟩ := hP
      obtain ⟨x, t, z, u, nn, _, _, e⟩ := at_ i (by simpa using hi)
      rw [e] at hv
      obtain ⟨rfl, rfl⟩ : va = .str x t ∧ vb = .int z u := by simpa using hv
      have keep₀ : ∀ b o, b ≠ P → c.h₀.get? b = some o → s₂.heap.get? b = some o := fun b o hb e => by
        have e1 := FH.keep b o e
        have e2 := hx₃ b o hb e1
        refine hk2 b (List.mem_range.mpr (Heap.lt_size e2)) (fun hm => ?_) o (hhref b o e2)
        rcases List.mem_cons.mp hm with rfl | hm
        · exact absurd (Heap.lt_size (C.F.keep _ _ e)) (Nat.lt_irrefl _)
        · cases hm
      have hgn : s₂.heap.Ns mainGlobals Γ.mg := O.T.g.at fun o e => keep₀ _ o (B.ne_of_ns O.T.g) e
      have hbn : s₂.heap.Ns builtinsNs Γ.mb := O.T.b.at fun o e => keep₀ _ o (B.ne_of_ns O.T.b) e
      refine wpAny_Compare1 ?_ rfl
      refine Call_Name rfl (Name_function_global hkind hgt (loadGlobal_builtin (env := genEnv scope cl h₃.objs.size (.ref c') builtinsNs (fn.env c)) hgn (mg_none_of O.X O.T.g hKt) hbn ((O.T.builtins _ (by decide)).trans boot_type) ?_) (by decide))
      refine PyProof.Rows.callWith_type1 ?_ rfl rfl
      refine spliced_more ?_ rfl
      refine wpAny_Name (wpAny_loadName_local (env := genEnv scope cl h₃.objs.size (.ref c') builtinsNs (fn.env c)) hkind hxb hn2 hm2 ?_) hdb
      refine spliced_none ?_
      refine call_type_of (typeIs_int s₂ z u) (by decide) ?_
      refine Name_function_global hkind hgi (loadGlobal_builtin (env := genEnv scope cl h₃.objs.size (.ref c') builtinsNs (fn.env c)) hgn (mg_none_of O.X O.T.g hKi) hbn ((O.T.builtins _ (by decide)).trans boot_int) ?_) (by decide)
      exact wpAny_is_self rfl ⟨rfl, _, _, rfl, fun b o e => e⟩
  · intro a h₅ tk gs hgb hag hsz₅ hk₅ W hat
    refine spliced_none ?_
    have W := W.in4_1
    refine call_all_walkS (W.self 0 _ _ _ hat ⟨a, _, _, _, _, _, _, fun _ => true, rfl, W, hat, fun i v s Q E hP hQ => ?_, fun s' hm => ?_⟩)
    · obtain ⟨_, _, rfl⟩ := hP
      exact wpAny_truthy_bool hQ
    · have e : ∀ N : Nat, (List.range N).all (fun _ => true) = true := fun N => by simp
      rw [e]
      have keepAll : ∀ b o, b ≠ P → s₁.heap.get? b = some o → s'.heap.get? b = some o := fun b o hb e => by
        have e1 := hx₃ b o hb (up b o e)
        refine hm.heap b o (fun hmem => ?_) (hk₅ b o e1)
        rcases List.mem_cons.mp hmem with rfl | hmem
        · exact absurd (Heap.lt_size e1) (Nat.lt_irrefl _)
        · rcases List.mem_cons.mp hmem with rfl | hmem
          · exact absurd (Heap.lt_size e) (Nat.lt_irrefl _)
          · cases hmem
      have hLI : c.L < I := C.F.ns.lt
      have F₅ := (F₃.keeps hk₅).moved (s := { heap := h₅, gens := s₁.gens.push gs, drawn := s₁.drawn, toks := tk, os := s₁.os }) hm fun b hb => by
        rcases List.mem_cons.mp hb with rfl | hb
        · exact Nat.lt_of_lt_of_le (Nat.lt_trans hLI (by rw [hH]; exact Nat.lt_succ_self _)) hsz₃
        · rcases List.mem_cons.mp hb with rfl | hb
          · exact hLI
          · cases hb
      exact k s' fz₁ _ sub₁ B₃ ⟨m, μ, C.on B keepAll F₅⟩ (((nx₁.gens hg).push hgb).movedS hm) (hm.os.trans nx₁.os)
end
section
variable {Γ : Gl} {n : Nat} {fn : Fn} {c : Dy} {fz : List (Addr × Obj)} {α : Nat → Addr} {σ : Sta} {s : Shared} {h h' : Heap}
theorem kF (ho : k6z σ = true) {i : Nat} {sl : Slot} (h : x6 σ i sl) : False := by
  have := List.all_eq_true.mp ho _ (List.mem_of_getElem? h.1)
  simp only [Bool.not_eq_true'] at this
  rw [h.2] at this; cases this
structure Land (Γ : Gl) (fn : Fn) (c : Dy) (fz : List (Addr × Obj)) (σ : Sta) (C e : Addr) (h : Heap) (m : Str → Option Value) (μ : Nat → Option Value) : Prop where
  fl : ∃ B a0, c.h₀.StaysIn B ∧ (∀ q ∈ fz, B.get? q.1 = some q.2) ∧ B.get? c.L = none ∧ Heap.FlyingW B (fn.env c :: c.outer) e (.ref C) a0 h
  st : ∀ α, StC Γ fn c fz α σ h m μ
theorem Land.up {C e : Addr} {m : Str → Option Value} {μ : Nat → Option Value} (ho : k6z σ = true) {B : Heap} {a0 : Value} (hB : c.h₀.StaysIn B) (hl : ∀ q ∈ fz, B.get? q.1 = some q.2) (hL : B.get? c.L = none) (hf : Heap.FlyingW B (fn.env c :: c.outer) e (.ref C) a0 h')
    (L : ∀ α, StC Γ fn c fz α σ h m μ) (U : h.UpToSlots h') : Land Γ fn c fz σ C e h' m μ := by
  refine ⟨⟨B, a0, hB, hl, hL, hf⟩, fun α => ?_⟩
  have C := L α
  refine ⟨C.F.of_stays (fun b o e => hf.1 b o (hB b o e)) U, fun p hp => ⟨hf.1 _ _ (hl p hp), (C.N p hp).2⟩, C.loc, fun i x hi hx => ?_, C.val, fun i sl h => (kF ho h).elim, fun i j sl sl' h => (kF ho h).elim⟩
  obtain ⟨ca, o, h1, h2, h3, h4, h5⟩ := C.cel i x hi hx
  obtain ⟨sl, h6⟩ := U ca o h2 fun vs q => by rw [h3] at q; cases q
  exact ⟨ca, _, h1, h6, h3, h4, h5⟩
inductive HsRel (Γ : Gl) (fn : Fn) (cls : Addr → Prop) : List ExceptHandler → List (Addr × SX) → Prop
  | nil : HsRel Γ fn cls [] []
  | cons {xn en msg : Str} {np p p2 p3 pos : Pos} {kd i : Nat} {C : Addr} {hs : List ExceptHandler} {xs : List (Addr × SX)} : nsIn Γ.K mainGlobals xn = some (some (.ref C)) → fn.scope.names.lookup xn = some .globalImplicit → (xn == ("__debug__" : Str)) = false →
      (∀ C', cls C' → exmOne Γ.K (.ref C') (.ref C) = some (C' == C)) → fn.nm[i]? = some en → fn.scope.names.lookup en = some .local → HsRel Γ fn cls hs xs →
      HsRel Γ fn cls (.ExceptHandler (some (.Name xn np)) none [.Assign [.Name en p] (.Constant (.str msg) kd p2) p3] pos :: hs) ((C, zU (yX i (zD (.str msg))) yA) :: xs)
theorem handle_go (O : Ok Γ n fn c) {cls : Addr → Prop} {C : Addr} {m : Str → Option Value} {μ : Nat → Option Value} (hC : cls C) (ho : k6z σ = true) {f : SX} {r : Except Addr (Fl × Sta)} (e : f σ = some r) {Q : Flow → Shared → Prop} {E : Value → Shared → Prop}
    (k : ∀ s' fl' σ', r = .ok (fl', σ') → Nx s s' → St Γ fn c fz α σ' s'.heap → jBz Γ fz .next fl' → Q .next s') :
    ∀ {hs : List ExceptHandler} {xs : List (Addr × SX)}, HsRel Γ fn cls hs xs → xs.lookup C = some f → ∀ {ex : Addr}, Land Γ fn c fz σ C ex s.heap m μ → wpAny (model Γ.prog Γ.w) (fn.A c) (handleBy (.ref ex) (fn.env c) hs) Q E s := by
  intro hs xs R
  induction R with
  | nil => intro hx; cases hx
  | @cons xn en msg np p p2 p3 pos kd i C' hs xs hn hk hd hm hi hl R ih =>
    intro hx ex L
    have F := (L.st α).F
    obtain ⟨B, a0, hB, hlz, hLB, hf⟩ := L.fl
    have LT : Looks (model Γ.prog Γ.w) s.heap (typeOf (.ref ex)) (.ref C) := by
      obtain ⟨ob, hob, hc⟩ := hf.there
      rw [← hc]
      exact (Looks.ld hob).andThen .now
    refine wpAny_handleBy_cons (codeAny_handlers_test (nameX_K F O.X O.T hn ((exm_one (O.X.keeps F.keep) LT (hm C hC)).here ?_) O.G.hk hk hd)) (by intro q; cases q)
    by_cases hq : C = C'
    · subst hq
      rw [beq_self_eq_true]
      refine codeAny_handlers_suite ?_
      refine lands_againW hf fun h₆ hf₆ sm₆ => ?_
      have L₆ := Land.up ho hB hlz hLB hf₆ L.st sm₆
      rw [List.lookup_cons, beq_self_eq_true] at hx
      obtain rfl := Option.some.inj hx
      refine wpAny_execs_cons (wpAny_Assign_Name (Calls.Constant_str ?_) rfl)
      refine storeL (s := { s with heap := h₆, toks := _ }) O hi hl ⟨m, μ, L₆.st α⟩ [] News.nil fun s' m' μ' nx C hv _ => ?_
      refine wpAny_execs_nil ?_
      obtain rfl := Option.some.inj e
      exact k s' _ _ rfl (Nx.trans (Nx.of s h₆ (s.toks + 1)) nx) ⟨m', μ', C.sayFz hv (Rep.str _ _)⟩ trivial
    · have hb : (C == C') = false := by simpa using hq
      rw [hb]
      rw [List.lookup_cons, hb] at hx
      exact ih hx L
inductive TryD (x : XF) (i : Nat) (sls : List Slot) (xs : List (Addr × SX)) (σ : Sta) (r : Except Addr (Fl × Sta)) : Prop
  | err (y : Addr) (h3 : x sls = some (.error y)) (f : SX) (hf : xs.lookup y = some f) (e : f σ = some r) : TryD x i sls xs σ r
  | ok (d : PyData) (τ : Sta) (h3 : x sls = some (.ok (d, τ))) (hr : r = .ok (.next, σ.set i (some (.fz d)))) : TryD x i sls xs σ r
inductive TryC (x : XF) (i : Nat) (as : List Arg) (xs : List (Addr × SX)) (σ : Sta) (r : Except Addr (Fl × Sta)) : Prop
  | mk (hno : k6z σ = true) (sls : List Slot) (h1 : vE as σ = some (.ok sls)) (h : TryD x i sls xs σ r) : TryC x i as xs σ r
set_option tactic.hygienic true in
theorem try_inv {x : XF} {i : Nat} {as : List Arg} {xs : List (Addr × SX)} {r : Except Addr (Fl × Sta)} (hne : ∀ σ y, vE as σ ≠ some (.error y)) (e : tryC i (yQ x as) xs σ = some r) : TryC x i as xs σ r := by
  unfold tryC at e
  split at e
  case isFalse => cases e
  rename_i hno
  cases h1 : vE as σ with
  | none =>
    have : yCz (yQ x as) σ = none := by unfold yCz yQ; rw [h1]; rfl
    rw [this] at e; cases e
  | some r₁ =>
    induction r₁ with
    | error y => exact absurd h1 (hne _ _)
    | ok sls =>
      refine ⟨hno, sls, h1, ?_⟩
      cases h3 : x sls with
      | none =>
        have : yCz (yQ x as) σ = none := by unfold yCz yQ; rw [h1]; show bnd (bnd (x sls) _) _ = none; rw [h3]; rfl
        rw [this] at e; cases e
      | some r₂ =>
        induction r₂ with
        | error y =>
          have h5 : yCz (yQ x as) σ = some (.error y) := by unfold yCz yQ; rw [h1]; show bnd (bnd (x sls) _) _ = _; rw [h3]; rfl
          rw [h5] at e
          dsimp only at e
          split at e
          case h_2 => cases e
          rename_i f' hf'
          exact .err y h3 f' hf' e
        | ok pr =>
          obtain ⟨d, τ⟩ := pr
          have h5 : yCz (yQ x as) σ = if xZ as τ σ then some (.ok d) else none := by
            unfold yCz yQ; rw [h1]; show bnd (bnd (x sls) _) _ = _; rw [h3]
            show bnd (if xZ as τ σ = true then _ else _) _ = _
            split <;> rfl
          rw [h5] at e
          refine .ok d τ h3 ?_
          split at e
          · rename_i q; split at q
            · injection q with q; injection q with q; subst q; exact (Option.some.inj e).symm
            · cases q
          · rename_i q; split at q <;> cases q
          · cases e
theorem SimS_try (O : Ok Γ n fn c) (hbase : c.base = c.h₀) {cls : Addr → Prop} {lv : Nat} {f : Addr} {x : XF} {nm tx : Str} {p pos tp sp tpos : Pos} {a : Expr} {rest : List Expr} {as : List Arg} {i : Nat} {h₀ : ExceptHandler} {hs : List ExceptHandler} {xs : List (Addr × SX)} (hi : IsLoc fn i tx) (hc : Cs Γ lv f x) (hlv : lv ≤ n)
    (hk : fn.scope.names.lookup nm = some .globalImplicit) (hK : nsIn Γ.K mainGlobals nm = some (some (.ref f))) (hd : (nm == ("__debug__" : Str)) = false)
    (hkeep : keepIn Γ.K (.ref f) = true) (he : starEach (a :: rest) (fn.env c) = (false, eval a (fn.env c)) :: starEach rest (fn.env c)) (hpl : (backTo pos (starEach rest (fn.env c))).any (·.1) = false) (nd : (k3 as).Nodup)
    (h : SimArgs Γ fn c (spliced (backTo pos (starEach (a :: rest) (fn.env c)))) as) (hne : ∀ σ y, vE as σ ≠ some (.error y)) (hcls : ∀ y f, xs.lookup y = some f → cls y) (R : HsRel Γ fn cls (h₀ :: hs) xs) :
    SimS Γ fn c (exec (.Try [.Assign [.Name tx tp] (.Call (.Name nm p) (a :: rest) [] pos) sp] (h₀ :: hs) [] [] tpos) (fn.env c)) (tryC i (yQ x as) xs) := by
  refine ⟨?_⟩
  intro σ r s fz α e S Q E hE k ke
  obtain ⟨hno, sls, h1, hD⟩ := try_inv hne e
  refine wpAny_Try_except (wpAny_execs_cons (wpAny_Assign_Name ?_ rfl))
  obtain ⟨m, μ, C⟩ := id S
  refine Call_Name rfl (nameX_K C.F O.X O.T hK ?_ O.G.hk hk hd)
  refine callWith_K O.X hkeep ?_ he hpl
  refine h.goK h1 S fun vs s' fz' nx sub S' AR => ?_
  refine ⟨fun a o e => S'.keep a o (O.X a o e), ?_⟩
  obtain ⟨m', μ', C'⟩ := id S'
  rcases hD with ⟨y, h3, f', hf', e⟩ | ⟨d, τ, h3, hr⟩
  · refine zGq O hc hlv nd h3 C' AR (fun _ _ _ _ _ _ _ q => by cases q) fun ex s₂ y' q nx₂ RC => ?_
    obtain rfl := Except.error.inj q
    obtain ⟨g, t, ws, FG, kp, U, RK⟩ := RC
    obtain ⟨⟨B, hB, hl, hfl, hnew⟩, htup⟩ := RK
    rw [hbase] at hB
    have hL : B.get? c.L = none := by
      obtain ⟨_, ⟨L', _, hf, hn', _⟩, _⟩ := hfl.2.2.1
      obtain rfl : c.L = L' := Option.some.inj hf
      exact hn'
    have L₀ : ∀ α, StC Γ fn c fz' α σ s₂.heap m' μ' := fun α' => by
      refine ⟨FG.of_stays (fun b o e => hfl.1 b o (hB b o e)) U, fun p hp => ⟨hfl.1 _ _ (hl p hp).1, (C'.N p hp).2⟩, C'.loc, fun j z hj hz => ?_, C'.val, fun j sl h => (kF hno h).elim, fun j j' sl sl' h => (kF hno h).elim⟩
      obtain ⟨ca, o, a1, a2, a3, a4, _⟩ := C'.cel j z hj hz
      have a6 := kp ca o a2 a4.off fun ⟨j', sl, h6, _⟩ => kF hno h6
      obtain ⟨sl, a7⟩ := U ca o a6 fun vs q => by rw [a3] at q; cases q
      exact ⟨ca, _, a1, a7, a3, a4, fun j' sl h => (kF hno h).elim⟩
    refine wpAny_looks_onW (Around.frames_deeper O.B.stack) rfl hfl fun h₄ hheld₄ hsm₄ => ?_
    refine wpAny_landsW hheld₄ fun h₅ hf₅ hsm₅ => ?_
    have L₅ := Land.up hno hB (fun q hq => (hl q hq).1) hL hf₅ L₀ (hsm₄.trans hsm₅)
    exact handle_go (s := { s₂ with heap := h₅ }) O (hcls _ _ hf') hno e (fun s₃ fl' σ' q nx₃ S₃ fr => k .next s₃ fz' α fl' σ' q ((nx.trans nx₂).trans (Nx.trans (Nx.of s₂ h₅ s₂.toks) nx₃)) sub (fun _ _ => rfl) S₃ fr) R hf' L₅
  · refine vPz O hc hlv nd h3 S' AR (fun v s₂ fz₂ d' τ' m₂ μ₂ q nx₂ sub₂ Rv aft => ?_) fun _ _ _ q => by cases q
    injection q with q; injection q with q1 q2; subst q1; subst q2
    refine zBz O hi ⟨m₂, μ₂, aft σ fun j => .inr ⟨rfl, fun sl ho => (kF hno ho).elim⟩⟩ Rv fun s₃ nx₃ S₃ => ?_
    exact wpAny_execs_nil (wpAny_execs_nil (k .next s₃ fz₂ α _ _ hr ((nx.trans nx₂).trans nx₃) (fun p hp => sub₂ p (sub p hp)) (fun _ _ => rfl) S₃ trivial))
end
section
variable {M : Model} {A : Around} {E : Value → Shared → Prop} {s' : Shared} {base g g₂ h : Heap} {outer : List Env} {L e t : Addr} {m : Str → Option Value} {env : Env} {Q : Unit → Shared → Prop} {news : List (Addr × Obj)}
theorem hAz {cls : Value} {vs : List Value} (K : Below A base outer g) (hf : env.frame = some L) (hk : env.scope.kind = .function) (hx : Heap.MadeExcOf h s'.heap e cls vs) (F : Fr g L h m) (N : News g L h news)
    (hQ : ∀ h' t, RaisedK base outer e cls t vs news h' → g.UpToSlots h' → Q () { s' with heap := h' }) : wpAny M (A.deeper env) (leaving env (.ref e)) Q E s' := by
  have K' := pushX K F hf hk
  have hin : ∀ ev ∈ (env :: outer), ∀ b, ev.frame = some b → b ∈ (env :: outer).filterMap (·.frame) := fun ev he b hb => List.mem_filterMap.mpr ⟨ev, he, hb⟩
  refine wpAny_leaves_madeW (base := hideAll h ((env :: outer).filterMap (·.frame))) K'.stack hf (fun b o q => of_hideAll _ q) (funFrames_hide K'.frames hin) hx fun h' t x1 x2 x3 x4 => hQ h' t ⟨⟨_, fun b o q => ?_, fun q hq => ⟨?_, fresh_of_stays K.stays (N q hq).2.2⟩, x1, x3⟩, x2⟩ (((Heap.UpToSlots.of_keeps F.keep).trans (Heap.UpToSlots.of_keeps hx.keeps)).trans x4)
  · exact hideAll_get _ (K'.stays b o q) fun hm => by rw [(K'.frames.mem hm).1] at q; cases q
  · refine hideAll_get _ (N q hq).1 fun hm => ?_
    obtain ⟨ev, he, hf'⟩ := List.mem_filterMap.mp hm
    rcases List.mem_cons.mp he with rfl | he
    · exact (N q hq).2.1 (Option.some.inj (hf.symm.trans hf')).symm
    · obtain ⟨o, ho, _⟩ := (K.frames.mem (List.mem_filterMap.mpr ⟨ev, he, hf'⟩)).2
      rw [(N q hq).2.2] at ho; cases ho
theorem leaveX_on {cls : Value} {vs : List Value} (K : Below A base outer g) (hf : env.frame = some L) (F : Fr g L g₂ m) (R : RaisedK base (env :: outer) e cls t vs news s'.heap) (hsm : g₂.UpToSlots s'.heap)
    (hQ : ∀ h', RaisedK base outer e cls t vs news h' → g.UpToSlots h' → Q () { s' with heap := h' }) : wpAny M (A.deeper env) (leaving env (.ref e)) Q E s' := by
  obtain ⟨⟨B, hB, hl, hfl, hnew⟩, htup⟩ := R
  exact wpAny_leaves_onW (Around.frames_deeper K.stack) hf hfl fun h' x1 x2 => hQ h' ⟨⟨B, hB, hl, x1, hnew⟩, htup.of_slots x2⟩ ((Heap.UpToSlots.of_keeps F.keep).trans (hsm.trans x2))
end
section
variable {Γ : Gl}
theorem vTz {kindOf : Str → Option NameKind} : ∀ {binds : List (Str × Value)} {m : Str → Option Value}, (∀ y ∈ binds, kindOf y.1 = some .local) → ∀ x, bindL kindOf binds m x = (binds.reverse.lookup x).or (m x)
  | [], m, _, x => by simp [bindL]
  | (y, v) :: r, m, h, x => by
    rw [bindL, if_pos (h _ (.head _)), vTz (fun z hz => h z (.tail _ hz)), List.reverse_cons, List.lookup_append]
    cases r.reverse.lookup x with
    | some u => rfl
    | none =>
      by_cases hx : x = y
      · subst hx; simp [List.lookup]
      · simp [List.lookup, hx, show (x == y) = false from by simpa using hx]
theorem vUz {kindOf : Str → Option NameKind} : ∀ {binds : List (Str × Value)} {m : Str → Option Value}, (∀ y ∈ binds, kindOf y.1 = some .local) → bindC kindOf binds m = m
  | [], m, _ => rfl
  | (y, v) :: r, m, h => by rw [bindC, if_pos (h _ (.head _)), vUz fun z hz => h z (.tail _ hz)]
theorem cs_cell {lv : Nat} {f : Addr} {fn' : Fn} {ps : List Str} {body : List Stmt} {b : SX} {xc : Str} (H : FnAt Γ f fn' ps body) (G : fn'.Good) (hpin : ∀ i, fn'.pin i = false) (hcl : ∀ k, cellsFrom k fn'.scope.names [] = [(xc, k)])
    (hone : ∀ y, fn'.scope.names.lookup y = some .cell → y = xc) (hxc : fn'.scope.names.lookup xc = some .cell)
    (hb : ∀ n c, lv ≤ n + 1 → Ok Γ n fn' c → SimS Γ fn' c (execs body (fn'.env c)) b) (hlv : 1 ≤ lv) :
    Cs Γ lv f (zDz ps.length fn'.nm.length fn'.pin b) := by
  intro args r hx n fn c O hn s m fz as vals F N hlen hfz hown hinj Q E k ke
  obtain ⟨hargs, hpins, hx⟩ := hSz hx
  obtain ⟨oc, od, osl, name, params, dV, kV, doc, pm, an, cdv, ct, hK, hcd, hbind⟩ := H.ex
  have hvl : vals.length = ps.length := hlen.trans hargs
  have noown : ∀ (i : Nat) sl, args[i]? = some sl → sl.isOwn = true → False := fun i sl h1 h2 => by
    have := xSz hpins i sl h1 h2
    rw [hpin] at this; cases this
  have hKs : s.heap.get? f = some ⟨oc, od, .func (fnOf name fn'.name params body fn'.scope dV kV doc pm an cdv ct), osl⟩ := F.keep _ _ (O.X _ _ hK)
  have hroom : (fn.A c).depth < recursionLimit := by
    have := O.room
    show c.A₀.depth + 1 < _
    omega
  have hloc : ∀ y ∈ ps.zip vals, fn'.scope.names.lookup y.1 = some .local := fun y hy => by
    obtain ⟨i, hi⟩ := List.mem_iff_getElem?.mp hy
    rw [List.getElem?_zip_eq_some] at hi
    exact (H.pre i y.1 hi.1).2
  obtain ⟨FG, BG, st, _⟩ := groundX (A := fn.A c) (R := fun _ _ => True) O.B F N (Around.frames_deeper O.B.stack) rfl O.G.hk
  refine wpAny_call (codeAny_call_function hroom hKs rfl H.co H.gen rfl (codeRec_of (O.X.keeps F.keep) hcd) (hbind s vals hvl _ _ _ _ ?_))
  refine wpAny_newFunctionEnv_cells G.hk (fun y hy => .inl (hloc y hy)) fun env' he s₁ x => ?_
  subst he
  refine ⟨(O.T.nolimit.keeps F.keep).keeps x.toInCall.keep, codeAny_func ?_⟩
  obtain ⟨h₁, tk, rfl, _⟩ := x.done
  have hk₁ := x.toInCall.keep
  obtain ⟨cells, NC₀, Y⟩ := Cl.news (h₀ := s.heap) (Nat.le_refl _) fun n c hm => ⟨x.cell n c (lookup_of_mem_nodup (cellsFrom_names fn'.scope.names 0 (s.heap.objs.size + 1) [] [] rfl ▸ (by rw [hcl]; simp)) hm), x.above n c hm⟩
  let g := hideAll s.heap (fz.map (·.1))
  let L' := s.heap.objs.size
  have F' : Fr g L' h₁ (bindL (envOfC fn'.name fn'.scope L' f cdv).kindOf (ps.zip vals) fun _ => none) := ⟨x.toInCall.ns, fun b o e => hk₁ b o (of_hideAll _ e), Nat.le_of_eq (hideAll_size _ _)⟩
  have lt : ∀ p ∈ fz, p.1 < L' := fun p hp => Heap.lt_size (N p hp).1
  have NC : News g L' h₁ (cells ++ fz) := fun p hp => by
    rcases List.mem_append.mp hp with hp | hp
    · refine ⟨(NC₀ p hp).1, (NC₀ p hp).2.1, ?_⟩
      cases q : g.get? p.1 with
      | none => rfl
      | some o => have := of_hideAll _ q; rw [(NC₀ p hp).2.2] at this; cases this
    · exact ⟨hk₁ _ _ (N p hp).1, Nat.ne_of_lt (Heap.lt_size (N p hp).1), hideAll_none _ (List.mem_map_of_mem hp)⟩
  have keepG : ∀ b o, s.heap.get? b = some o → (∀ p ∈ fz, p.1 ≠ b) → g.get? b = some o := fun b o h1 h2 => hideAll_get _ h1 fun q => by
    obtain ⟨p, hp, rfl⟩ := List.mem_map.mp q
    exact h2 p hp rfl
  let c' : Dy := ⟨fn.A c, c.base, g, fn.env c :: c.outer, L', f, cdv⟩
  have O' : Ok Γ (n - 1) fn' c' := ⟨BG, O.X.keeps st, O.T.keeps st, xI O, by
      have := O.room
      show c.A₀.depth + 1 + 2 + (n - 1) < _
      omega, by
      have := O.units
      show c.A₀.units + 3 + 8 * (n - 1) + 300 < _
      omega, G⟩
  rw [hcl, vUz hloc] at Y
  obtain ⟨ob, rfl, hob⟩ := Y.one
  have hcell := NC (L' + 1, ob) (.head _)
  have N' : News g L' h₁ fz := fun p hp => NC p (List.mem_append_right _ hp)
  have C' : StC Γ fn' c' fz as (args.map some ++ List.replicate (fn'.nm.length - args.length) none) h₁ (bindL (envOfC fn'.name fn'.scope L' f cdv).kindOf (ps.zip vals) fun _ => none)
      (fun i => (fn'.nm[i]?).bind fun x => if x = xc then none else bindL (envOfC fn'.name fn'.scope L' f cdv).kindOf (ps.zip vals) (fun _ => none) x) := by
    refine ⟨F', N', fun i x hi hx => ?_, fun i x hi hx => ?_, fun i d hd => ?_, fun i sl ho => (noown i sl (v4 ho.1) ho.2).elim, fun i j sl sl' h1 => (noown i sl (v4 h1.1) h1.2).elim⟩
    · have hne : x ≠ xc := fun e => by rw [e, hxc] at hx; cases hx
      rw [hi]; show _ = (if x = xc then none else _); rw [if_neg hne]
    · obtain rfl := hone x hx
      refine ⟨L' + 1, ob, ?_, hcell.1, ?_, ⟨hcell.2.1, hcell.2.2, fun p hp => Nat.ne_of_lt (Nat.lt_succ_of_lt (lt p hp))⟩, fun j sl ho => (noown j sl (v4 ho.1) ho.2).elim⟩
      · show (cellsFrom (L' + 1) fn'.scope.names []).lookup x = _
        rw [hcl]; simp [List.lookup]
      · rw [hob, hi]; simp
    · have ha := v4 hd
      obtain ⟨v, hv, r⟩ := hfz i d ha
      have hi : i < args.length := (List.getElem?_eq_some_iff.mp ha).1
      obtain ⟨x, hx⟩ : ∃ x, ps[i]? = some x := ⟨_, List.getElem?_eq_getElem (by omega)⟩
      obtain ⟨h1, h2⟩ := H.pre i x hx
      have hne : x ≠ xc := fun e => by rw [e, hxc] at h2; cases h2
      refine ⟨v, ?_, r⟩
      rw [h1]; show (if x = xc then none else _) = _
      rw [if_neg hne, vTz hloc, zVz H.nd hvl hx hv]; rfl
  have sim := hb (n - 1) c' (by omega) O'
  have fin : ∀ (e : Addr) (s' : Shared) (y : Addr), r = .error y → Nx s s' → ∀ h'' t vs, RaisedK c.base (fn.env c :: c.outer) e (.ref y) t vs fz h'' → g.UpToSlots h'' → E (.ref e) { s' with heap := h'' } := fun e s' y q nx h'' t vs R₂ U =>
    ke e _ y q (nx.trans ⟨rfl, rfl, id⟩) ⟨g, t, vs, FG, fun b o h1 h2 _ => keepG b o h1 h2, U, R₂⟩
  · rcases hx with ⟨y, e1, hy⟩ | ⟨d, σ', e1, hy⟩
    · refine sim.goE (s := { s with heap := h₁, toks := tk }) e1 ⟨_, _, C'⟩ PassesOwn.leaving fun e s' nx R => ?_
      have nx' := (Nx.of s h₁ tk).trans nx
      rcases R with ⟨hh, mm, vs, Fh, Nh, X⟩ | ⟨hh, mm, t, vs, Fh, U, R⟩
      · exact hAz (env := fn'.env c') BG rfl G.hk X Fh Nh fun h'' t R₂ U => fin e s' y hy nx' h'' t vs R₂ U
      · exact leaveX_on (env := fn'.env c') BG rfl Fh R U fun h'' R₂ U₂ => fin e s' y hy nx' h'' t vs R₂ U₂
    · refine sim.goK (s := { s with heap := h₁, toks := tk }) e1 ⟨_, _, C'⟩ PassesOwn.leaving fun fl₁ s' fz' α' nx sub pin S' fr => ?_
      obtain ⟨v, hfl, fr⟩ := flV fr
      rw [hfl]
      obtain ⟨mm, μ, C₂⟩ := id S'
      obtain ⟨oL, _, _, hL, _⟩ := F.ns
      have hLg : g.get? c.L = some oL := keepG _ _ hL fun p hp e => (N p hp).2.1 e
      refine k v s' fz' d σ' hy ((Nx.of s h₁ tk).trans nx) sub (fun p hp => ⟨(C₂.N p hp).1, fun e => ?_, ?_⟩) fr (fun b o h1 h2 h3 => ?_) fun i sl sl' h1 h2 => (noown i sl h1 h2).elim
      · have := (C₂.N p hp).2.2
        rw [e] at this
        exact absurd (this.symm.trans hLg) (by intro z; cases z)
      · cases q : c.h₀.get? p.1 with
        | none => rfl
        | some o => exact absurd ((C₂.N p hp).2.2.symm.trans (st _ _ q)) (by intro z; cases z)
      · have hg := keepG b o h1 h2
        exact ⟨C₂.F.keep b o hg, fun p hp e => absurd ((C₂.N p hp).2.2.symm.trans (e ▸ hg)) (by intro z; cases z)⟩
end
section
variable {Γ : Gl} {n : Nat} {fn : Fn} {c : Dy} {fz : List (Addr × Obj)} {α : Nat → Addr} {σ : Sta} {s : Shared} {h h' : Heap}
theorem xIz (O : Ok Γ n fn c) {x : Str} {pos : Pos} {v : Value} {d : PyData} (hK : nsIn Γ.K mainGlobals x = some (some v)) (hr : Rep Γ (Dk Γ []) v d) (hk : fn.scope.names.lookup x = some .globalImplicit) (hd : (x == ("__debug__" : Str)) = false) :
    SimE Γ fn c (eval (.Name x pos) (fn.env c)) (zD d) := by
  refine ⟨?_⟩
  intro σ r s fz α e S Q E k _
  obtain rfl := Option.some.inj e
  obtain ⟨m, μ, C⟩ := id S
  exact nameX_K C.F O.X O.T hK (k v s fz _ rfl (Nx.refl s) (fun _ hp => hp) S (hr.mono (Dk.sub fun p (hp : p ∈ []) => by cases hp))) O.G.hk hk hd
theorem yHq (O : Ok Γ n fn c) {arg : Expr} {p1 p2 p3 pos : Pos} {whole : Sem Value} {e : EX} (he : starEach [arg] (fn.env c) = [(false, eval arg (fn.env c))]) (h : SimE Γ fn c (eval arg (fn.env c)) e)
    (hkt : fn.scope.names.lookup (Str.ofString "type") = some .globalImplicit) (hki : fn.scope.names.lookup (Str.ofString "int") = some .globalImplicit) (hKt : nsIn Γ.K mainGlobals (Str.ofString "type") = some none) (hKi : nsIn Γ.K mainGlobals (Str.ofString "int") = some none) :
    SimB Γ fn c (isTrue (.Compare (.Call (.Name (Str.ofString "type") p1) [arg] [] p2) [.Is] [.Name (Str.ofString "int") p3] pos) (fn.env c) whole) (zAz isIntI e) := by
  refine ⟨?_⟩
  intro σ r s fz α e S Q E k ke
  refine wpAny_isTrue_Compare1 ?_ rfl
  obtain ⟨mm, μ, C⟩ := id S
  refine Call_Name rfl (nameX_B C.F O.X O.T hKt boot_type (by decide) ?_ O.G.hk hkt (by decide))
  refine PyProof.Rows.callWith_type1 ?_ he rfl
  refine spliced_more ?_ he
  rcases z8 e with ⟨y, h1, hy⟩ | ⟨da, h1, h2⟩
  · exact h.rdE h1 S fun e s' => ke e s' y hy
  · refine h.rdK h1 S fun v s' fz' av nx sub S' D hd => ?_
    obtain ⟨b, h3, rfl⟩ := vS h2
    refine spliced_none ?_
    have hL := S'.lrep O.X D hd
    obtain ⟨m₂, μ₂, C₂⟩ := id S'
    have fin : ∀ T : String, (Value.type T == Value.type "int") = b → (Value.type T == Value.type "builtin_function_or_method") = false → s'.TypeIs v T → wpAny (model Γ.prog Γ.w) (fn.A c) (call (.type "type") [v]) (fun a s₁ => wpAny (model Γ.prog Γ.w) (fn.A c) (eval (.Name (Str.ofString "int") p3) (fn.env c)) (fun b s₂ => wpAny (model Γ.prog Γ.w) (fn.A c) (compareOp .Is a b) (fun v s₃ => wpAny (model Γ.prog Γ.w) (fn.A c) (truthy v) Q E s₃) E s₂) E s₁) E s' := fun T hb hnb hT => by
      refine call_type_of hT hnb ?_
      refine nameX_B C₂.F O.X O.T hKi boot_int (by decide) ?_ O.G.hk hki (by decide)
      refine wpAny_is_plain rfl ?_
      rw [hb]
      exact wpAny_truthy_bool (k s' fz' b rfl nx sub S')
    cases da with
    | none => obtain rfl : v = .none := hL; obtain rfl := Option.some.inj h3; exact fin "NoneType" (by decide) (by decide) (typeIs_none s')
    | bool b => obtain rfl : v = .bool b := hL; obtain rfl := Option.some.inj h3; exact fin "bool" (by decide) (by decide) (PySem.typeIs_bool s' b)
    | int i => obtain ⟨t, rfl⟩ := hL; obtain rfl := Option.some.inj h3; exact fin "int" (by decide) (by decide) (typeIs_int s' i t)
    | str x => obtain ⟨t, rfl⟩ := hL; obtain rfl := Option.some.inj h3; exact fin "str" (by decide) (by decide) (typeIs_str s' x t)
    | list ds => cases h3
    | tuple ds => cases h3
    | dict kvs => cases h3
theorem yW {fn : Fn} (hk : fn.scope.kind = .function) (nd : fn.nm.Nodup) (hc : ∀ x ∈ fn.scope.names, x.2 ≠ .cell) : fn.Good :=
  ⟨hk, nd, fun x hx => absurd rfl (hc (x, .cell) (mem_of_lookup hx)), fun _ _ x _ _ _ hx => absurd rfl (hc (x, .cell) (mem_of_lookup hx))⟩
theorem h8z {fn : Fn} {xc : Str} (hk : fn.scope.kind = .function) (nd : fn.nm.Nodup) (hm : xc ∈ fn.nm) (hone : ∀ y, fn.scope.names.lookup y = some .cell → y = xc) : fn.Good :=
  ⟨hk, nd, fun x hx => hone x hx ▸ hm, fun i j x y hi hj hx hy => by
    obtain rfl := hone x hx
    obtain rfl := hone y hy
    exact (List.getElem?_inj (List.getElem?_eq_some_iff.mp hi).1 nd).mp (hi.trans hj.symm)⟩
theorem hXz {names : List (Str × NameKind)} {xc : Str} (h : ∀ p ∈ names, p.2 = .cell → p.1 = xc) : ∀ y, names.lookup y = some .cell → y = xc := fun y hy => h (y, .cell) (mem_of_lookup hy) rfl
theorem pre_of {nm ps : List Str} {names : List (Str × NameKind)} (h1 : ps.isPrefixOf nm = true) (h2 : ps.all (fun x => names.lookup x == some .local) = true) : ∀ (i : Nat) x, ps[i]? = some x → nm[i]? = some x ∧ names.lookup x = some .local := fun i x hx => by
  obtain ⟨r, rfl⟩ := List.isPrefixOf_iff_prefix.mp h1
  refine ⟨?_, by simpa using List.all_eq_true.mp h2 x (List.mem_of_getElem? hx)⟩
  rw [List.getElem?_append_left (List.getElem?_eq_some_iff.mp hx).1]; exact hx
theorem wP {α : Type} {n : Nat} : ∀ {l : List α}, l.length = n + 1 → ∃ a r, l = a :: r ∧ r.length = n := fun {l} h => by
  induction l with
  | nil => cases h
  | cons a r => exact ⟨a, r, rfl, Nat.succ.inj h⟩
theorem k7z {α : Type} {l : List α} (h : l.length = 0) : l = [] := by
  induction l with
  | nil => rfl
  | cons a r => cases h
theorem u6z {fd : FuncData} {p1 : Str} (h : ∀ (s : Shared) a, BindsTo s fd ⟨[a], []⟩ [(p1, a)]) : ∀ s (vals : List Value), vals.length = [p1].length → BindsTo s fd ⟨vals, []⟩ ([p1].zip vals) := fun s vals e => by
  obtain ⟨xa, r0, rfl, e0⟩ := wP e
  cases k7z e0
  exact h s xa
theorem vSz {fd : FuncData} {p1 p2 : Str} (h : ∀ (s : Shared) a b, BindsTo s fd ⟨[a, b], []⟩ [(p1, a), (p2, b)]) : ∀ s (vals : List Value), vals.length = [p1, p2].length → BindsTo s fd ⟨vals, []⟩ ([p1, p2].zip vals) := fun s vals e => by
  obtain ⟨xa, r0, rfl, e0⟩ := wP e
  obtain ⟨xb, r1, rfl, e1⟩ := wP e0
  cases k7z e1
  exact h s xa xb
theorem binds3 {fd : FuncData} {p1 p2 p3 : Str} (h : ∀ (s : Shared) a b c, BindsTo s fd ⟨[a, b, c], []⟩ [(p1, a), (p2, b), (p3, c)]) : ∀ s (vals : List Value), vals.length = [p1, p2, p3].length → BindsTo s fd ⟨vals, []⟩ ([p1, p2, p3].zip vals) := fun s vals e => by
  obtain ⟨xa, r0, rfl, e0⟩ := wP e
  obtain ⟨xb, r1, rfl, e1⟩ := wP e0
  obtain ⟨xc, r2, rfl, e2⟩ := wP e1
  cases k7z e2
  exact h s xa xb xc
theorem binds4 {fd : FuncData} {p1 p2 p3 p4 : Str} (h : ∀ (s : Shared) a b c d, BindsTo s fd ⟨[a, b, c, d], []⟩ [(p1, a), (p2, b), (p3, c), (p4, d)]) : ∀ s (vals : List Value), vals.length = [p1, p2, p3, p4].length → BindsTo s fd ⟨vals, []⟩ ([p1, p2, p3, p4].zip vals) := fun s vals e => by
  obtain ⟨xa, r0, rfl, e0⟩ := wP e
  obtain ⟨xb, r1, rfl, e1⟩ := wP e0
  obtain ⟨xc, r2, rfl, e2⟩ := wP e1
  obtain ⟨xd, r3, rfl, e3⟩ := wP e2
  cases k7z e3
  exact h s xa xb xc xd
theorem binds5 {fd : FuncData} {p1 p2 p3 p4 p5 : Str} (h : ∀ (s : Shared) a b c d e, BindsTo s fd ⟨[a, b, c, d, e], []⟩ [(p1, a), (p2, b), (p3, c), (p4, d), (p5, e)]) : ∀ s (vals : List Value), vals.length = [p1, p2, p3, p4, p5].length → BindsTo s fd ⟨vals, []⟩ ([p1, p2, p3, p4, p5].zip vals) := fun s vals e => by
  obtain ⟨xa, r0, rfl, e0⟩ := wP e
  obtain ⟨xb, r1, rfl, e1⟩ := wP e0
  obtain ⟨xc, r2, rfl, e2⟩ := wP e1
  obtain ⟨xd, r3, rfl, e3⟩ := wP e2
  obtain ⟨xe, r4, rfl, e4⟩ := wP e3
  cases k7z e4
  exact h s xa xb xc xd xe
theorem binds6 {fd : FuncData} {p1 p2 p3 p4 p5 p6 : Str} (h : ∀ (s : Shared) a b c d e f, BindsTo s fd ⟨[a, b, c, d, e, f], []⟩ [(p1, a), (p2, b), (p3, c), (p4, d), (p5, e), (p6, f)]) : ∀ s (vals : List Value), vals.length = [p1, p2, p3, p4, p5, p6].length → BindsTo s fd ⟨vals, []⟩ ([p1, p2, p3, p4, p5, p6].zip vals) := fun s vals e => by
  obtain ⟨xa, r0, rfl, e0⟩ := wP e
  obtain ⟨xb, r1, rfl, e1⟩ := wP e0
  obtain ⟨xc, r2, rfl, e2⟩ := wP e1
  obtain ⟨xd, r3, rfl, e3⟩ := wP e2
  obtain ⟨xe, r4, rfl, e4⟩ := wP e3
  obtain ⟨xf, r5, rfl, e5⟩ := wP e4
  cases k7z e5
  exact h s xa xb xc xd xe xf
theorem binds7 {fd : FuncData} {p1 p2 p3 p4 p5 p6 p7 : Str} (h : ∀ (s : Shared) a b c d e f g, BindsTo s fd ⟨[a, b, c, d, e, f, g], []⟩ [(p1, a), (p2, b), (p3, c), (p4, d), (p5, e), (p6, f), (p7, g)]) : ∀ s (vals : List Value), vals.length = [p1, p2, p3, p4, p5, p6, p7].length → BindsTo s fd ⟨vals, []⟩ ([p1, p2, p3, p4, p5, p6, p7].zip vals) := fun s vals e => by
  obtain ⟨xa, r0, rfl, e0⟩ := wP e
  obtain ⟨xb, r1, rfl, e1⟩ := wP e0
  obtain ⟨xc, r2, rfl, e2⟩ := wP e1
  obtain ⟨xd, r3, rfl, e3⟩ := wP e2
  obtain ⟨xe, r4, rfl, e4⟩ := wP e3
  obtain ⟨xf, r5, rfl, e5⟩ := wP e4
  obtain ⟨xg, r6, rfl, e6⟩ := wP e5
  cases k7z e6
  exact h s xa xb xc xd xe xf xg
end
section
variable {Γ : Gl} {n : Nat} {fn : Fn} {c : Dy} {fz : List (Addr × Obj)} {α : Nat → Addr} {σ : Sta} {s : Shared} {h h' h₁ : Heap} {cc P bm : Addr} {ob : Obj}
theorem rcI {D : Addr → Obj → Prop} {i : Int} {t : Tok} {vs : List Value} {ds : List PyData} (r : RepAll Γ D vs ds) : RepAll Γ D (.int i t :: vs) (.int i :: ds) := .cons (.int _ _) r
theorem rcS {D : Addr → Obj → Prop} {i : Str} {t : Tok} {vs : List Value} {ds : List PyData} (r : RepAll Γ D vs ds) : RepAll Γ D (.str i t :: vs) (.str i :: ds) := .cons (.str _ _) r
theorem rcT {a : Addr} {vs ws : List Value} {k : Nat} {ds es : List PyData} (h : Γ.K.lookup a = some (tobj vs k)) (r : RepAll Γ (Dk Γ []) vs ds) (q : RepAll Γ (Dk Γ []) ws es) : RepAll Γ (Dk Γ []) (.ref a :: ws) (.tuple ds :: es) := .cons (.tuple (.inl h) r) q
theorem rcL {a : Addr} {vs ws : List Value} {k : Nat} {ds es : List PyData} (h : Γ.K.lookup a = some (x4z vs k)) (r : RepAll Γ (Dk Γ []) vs ds) (q : RepAll Γ (Dk Γ []) ws es) : RepAll Γ (Dk Γ []) (.ref a :: ws) (.list ds :: es) := .cons (.list (.inl h) r) q
structure SimEnd (Γ : Gl) (fn : Fn) (c : Dy) (h₁ : Heap) (t : Sem Flow) (f : SX) : Prop where
  go : ∀ σ (b : Bool) τ s fz α, f σ = some (.ok (.ret (.bool b), τ)) → St Γ fn c fz α σ s.heap → AllBare s.gens → ∀ (Q : Flow → Shared → Prop) (E : Value → Shared → Prop), PassesOwn (model Γ.prog Γ.w) (fn.A c) (fn.env c) E →
    (∀ s', s'.os = s.os → OldK h₁ s'.heap → AllBare s'.gens → Q (.ret (.bool b)) s') → wpAny (model Γ.prog Γ.w) (fn.A c) t Q E s
theorem flBool {fl : Flow} {b : Bool} (fr : jBz Γ fz fl (.ret (.bool b))) : fl = .ret (.bool b) := by
  induction fl with
  | ret v => have fr : Rep Γ (Dk Γ fz) v (.bool b) := fr; cases fr; rfl
  | next => exact fr.elim
  | brk => exact fr.elim
  | cont => exact fr.elim
theorem flNext {fl : Flow} (fr : jBz Γ fz fl .next) : fl = .next := by
  induction fl with
  | ret v => exact fr.elim
  | next => rfl
  | brk => exact fr.elim
  | cont => exact fr.elim
theorem xTz {A B : Type} {x y : B} (h : (some (Except.ok x) : Option (Except A B)) = some (.ok y)) : x = y := Except.ok.inj (Option.some.inj h)
inductive SeqC (f g : SX) (σ τ : Sta) (b : Bool) : Prop
  | ret (e : f σ = some (.ok (.ret (.bool b), τ))) : SeqC f g σ τ b
  | next (σ₁ : Sta) (e : f σ = some (.ok (.next, σ₁))) (h : g σ₁ = some (.ok (.ret (.bool b), τ))) : SeqC f g σ τ b
theorem seq_inv {f g : SX} {τ : Sta} {b : Bool} (e : zU f g σ = some (.ok (.ret (.bool b), τ))) : SeqC f g σ τ b := by
  rcases z8 e with ⟨y, h1, h2⟩ | ⟨⟨fl, σ'⟩, h1, h2⟩
  · cases h2
  · induction fl with
    | next => exact .next σ' h1 h2
    | ret d => exact .ret (h1.trans h2)
    | brk => exact nomatch xTz h2
    | cont => exact nomatch xTz h2
inductive SeqN (f g : SX) (σ σ' : Sta) (fl : Fl) : Prop
  | go (fl₁ : Fl) (σ₁ : Sta) (e : f σ = some (.ok (fl₁, σ₁))) (h : (fl₁ = .next ∧ g σ₁ = some (.ok (fl, σ'))) ∨ (fl₁ = fl ∧ σ₁ = σ' ∧ fl₁ ≠ .next)) : SeqN f g σ σ' fl
theorem seqN_inv {f g : SX} {σ' : Sta} {fl : Fl} (e : zU f g σ = some (.ok (fl, σ'))) : SeqN f g σ σ' fl := by
  rcases z8 e with ⟨y, h1, h2⟩ | ⟨⟨fl₁, σ₁⟩, h1, h2⟩
  · cases h2
  · induction fl₁ with
    | next => exact ⟨_, _, h1, .inl ⟨rfl, h2⟩⟩
    | ret d => exact ⟨_, _, h1, .inr ⟨(congrArg Prod.fst (xTz h2) :), (congrArg Prod.snd (xTz h2) :), nofun⟩⟩
    | brk => exact ⟨_, _, h1, .inr ⟨(congrArg Prod.fst (xTz h2) :), (congrArg Prod.snd (xTz h2) :), nofun⟩⟩
    | cont => exact ⟨_, _, h1, .inr ⟨(congrArg Prod.fst (xTz h2) :), (congrArg Prod.snd (xTz h2) :), nofun⟩⟩
inductive GenC (t : BX) (fa g : SX) (ig : Nat) (σ τ : Sta) (b : Bool) : Prop
  | no (h : t σ = some (.ok false)) (e : g σ = some (.ok (.ret (.bool b), τ))) : GenC t fa g ig σ τ b
  | ret (h : t σ = some (.ok true)) (σ₁ : Sta) (e : fa σ = some (.ok (.ret (.bool b), σ₁))) : GenC t fa g ig σ τ b
  | yes (h : t σ = some (.ok true)) (σ₁ : Sta) (d : PyData) (h1 : fa σ = some (.ok (.next, σ₁))) (h2 : rd (zG ig) σ₁ = some (.ok d)) (h3 : uG d = some true) (e : g σ₁ = some (.ok (.ret (.bool b), τ))) : GenC t fa g ig σ τ b
theorem if_inv {fb : SX} {ig : Nat} {σ' : Sta} {fl : Fl} (e : zU (ifC (notB (zAz uG (zG ig))) fb yA) yA σ = some (.ok (fl, σ'))) : ∃ d, rd (zG ig) σ = some (.ok d) ∧ uG d = some true ∧ fl = .next ∧ σ' = σ := by
  rcases z8 e with ⟨y, h7, h8⟩ | ⟨⟨fl₂, σ₂⟩, h7, h8⟩
  · cases h8
  rcases z8 h7 with ⟨y, h9, h10⟩ | ⟨cnd, h9, h10⟩
  · cases h10
  rcases z8 h9 with ⟨y, h11, h12⟩ | ⟨al, h11, h12⟩
  · cases h12
  rcases z8 h11 with ⟨y, h13, h14⟩ | ⟨d, h13, h14⟩
  · cases h14
  obtain ⟨al', h15, h16⟩ := vS h14
  have hal : al' = true := by
    unfold uG at h15
    split at h15
    · split at h15
      · exact (Option.some.inj h15).symm
      · cases h15
    · cases h15
  injection h16 with h16; subst h16; subst hal
  obtain rfl : cnd = false := (xTz h12).symm
  have h10 := xTz h10
  injection h10 with h17 h18; subst h17; subst h18
  have h8 := xTz h8
  injection h8 with h17 h18; subst h17; subst h18
  exact ⟨d, h13, h15, rfl, rfl⟩
theorem gen_inv {t : BX} {fa fb g : SX} {ig : Nat} {τ : Sta} {b : Bool} (e : zU (ifC t (zU fa (zU (ifC (notB (zAz uG (zG ig))) fb yA) yA)) yA) g σ = some (.ok (.ret (.bool b), τ))) : GenC t fa g ig σ τ b := by
  have fin : ∀ {fl : Fl} {σ' : Sta}, t σ = some (.ok true) → zU fa (zU (ifC (notB (zAz uG (zG ig))) fb yA) yA) σ = some (.ok (fl, σ')) → (fl = .ret (.bool b) ∨ (fl = .next ∧ g σ' = some (.ok (.ret (.bool b), τ)))) → GenC t fa g ig σ τ b := fun h1 h hfl => by
    obtain ⟨fl₁, σ₁, h5, ⟨rfl, h6⟩ | ⟨rfl, rfl, ne⟩⟩ := seqN_inv h
    · obtain ⟨d, h13, h15, rfl, rfl⟩ := if_inv h6
      rcases hfl with h | ⟨_, h⟩
      · cases h
      · exact .yes h1 _ d h5 h13 h15 h
    · rcases hfl with rfl | ⟨rfl, h⟩
      · exact .ret h1 _ h5
      · exact absurd rfl ne
  rcases seq_inv e with h | ⟨σ', h, h2⟩
  · rcases z8 h with ⟨y, h3, h4⟩ | ⟨cnd, h3, h4⟩
    · cases h4
    · induction cnd with
      | false => exact nomatch xTz h4
      | true => exact fin h3 h4 (.inl rfl)
  · rcases z8 h with ⟨y, h3, h4⟩ | ⟨cnd, h3, h4⟩
    · cases h4
    · induction cnd with
      | false =>
        have h4 := xTz h4
        injection h4 with _ h4; subst h4
        exact .no h3 h2
      | true => exact fin h3 h4 (.inr ⟨rfl, h2⟩)
theorem SimEnd_of {t : Sem Flow} {f : SX} {ps : Array Value} (B : Based h₁ c.h₀ cc P ps) (h : SimS Γ fn c t f) : SimEnd Γ fn c h₁ t f := by
  refine ⟨?_⟩
  intro σ b τ s fz α e S hg Q E hE k
  refine h.goK e S hE fun fl s' fz' α' nx sub pin S' fr => ?_
  rw [flBool fr]
  obtain ⟨m, hF⟩ := S'.fr
  exact k s' nx.os (B.finish hF) (nx.gens hg)
theorem xE {st : Stmt} {rest : List Stmt} {f g : SX} {ps : Array Value} (B : Based h₁ c.h₀ cc P ps) (hf : SimS Γ fn c (exec st (fn.env c)) f) (hg : SimEnd Γ fn c h₁ (execs rest (fn.env c)) g) : SimEnd Γ fn c h₁ (execs (st :: rest) (fn.env c)) (zU f g) := by
  refine ⟨?_⟩
  intro σ b τ s fz α e S hb Q E hE k
  refine wpAny_execs_cons ?_
  rcases seq_inv e with h1 | ⟨σ', h1, h2⟩
  · refine hf.goK h1 S hE fun fl₁ s' fz' α' nx sub pin S' fr => ?_
    rw [flBool fr]
    obtain ⟨m, hF⟩ := S'.fr
    exact k s' nx.os (B.finish hF) (nx.gens hb)
  · refine hf.goK h1 S hE fun fl₁ s' fz' α' nx sub pin S' fr => ?_
    rw [flNext fr]
    exact hg.go σ' b τ s' fz' α' h2 S' (nx.gens hb) Q E hE fun s₂ e1 e2 e3 => k s₂ (e1.trans nx.os) e2 e3
theorem Ok.on (O : Ok Γ n fn c) {ps ps' : Array Value} (B : Based h₁ c.h₀ cc P ps) (hcls : kb_classed Γ.K = true) (hA : c.A₀ = callerA) (ho : c.outer = []) (S : St Γ fn (c.on (regrown c.h₀ P ps')) fz α σ h) : Ok Γ n fn (c.on (regrown c.h₀ P ps')) := by
  obtain ⟨m, μ, C⟩ := S
  exact ⟨by show Below c.A₀ _ c.outer _; rw [hA, ho]; exact below_caller _, kb_in_regrown B O.X O.T.g hcls, LGe.top_regrown C.F O.T B, O.hh, O.room, O.units, O.G⟩
theorem yFq (O : Ok Γ n fn c) (hA : c.A₀ = callerA) (ho : c.outer = []) (B : Based h₁ c.h₀ cc P #[]) (hcls : kb_classed Γ.K = true)
    {test ex : Expr} {exs : List Expr} {a : Stmt} {body2 rest : List Stmt} {ipos npos ipos2 xpos : Pos} {t : BX} {fa fb g : SX} {ig : Nat} (hx : AllAt Γ fn c h₁ cc P ig (.Call ex exs [] xpos))
    (ht : SimB Γ fn c (isTrue test (fn.env c) (eval test (fn.env c))) t) (ha : SimS Γ fn c (exec a (fn.env c)) fa)
    (hr : ∀ (c' : Dy) (ps : Array Value), Ok Γ n fn c' → c'.base = c'.h₀ → c'.L = c.L → c'.a = c.a → c'.cd = c.cd → c'.A₀ = c.A₀ → Based h₁ c'.h₀ cc P ps → SimEnd Γ fn c' h₁ (execs rest (fn.env c')) g) (hbase : c.base = c.h₀) :
    SimEnd Γ fn c h₁ (execs (.If test [a, .If (.UnaryOp .Not (.Call ex exs [] xpos) npos) body2 [] ipos2] [] ipos :: rest) (fn.env c))
      (zU (ifC t (zU fa (zU (ifC (notB (zAz uG (zG ig))) fb yA) yA)) yA) g) := by
  refine ⟨?_⟩
  intro σ b τ s fz α e S hb Q E hE k
  refine wpAny_execs_cons (wpAny_If ?_)
  rcases gen_inv e with ⟨h, e⟩ | ⟨h, σ₁, e⟩ | ⟨h, σ₁, d, h5, h13, h15, e⟩
  · refine ht.goK h S fun s₁ fz₁ nx₁ sub₁ S₁ => ?_
    refine wpAny_execs_nil ?_
    exact (hr c #[] O hbase rfl rfl rfl rfl B).go σ b τ s₁ fz₁ α e S₁ (nx₁.gens hb) Q E hE fun s₂ e1 e2 e3 => k s₂ (e1.trans nx₁.os) e2 e3
  · refine ht.goK h S fun s₁ fz₁ nx₁ sub₁ S₁ => ?_
    refine wpAny_execs_cons ?_
    refine ha.goK e S₁ hE fun fla s₂ fz₂ α₂ nx₂ sub₂ pin S₂ fr => ?_
    rw [flBool fr]
    obtain ⟨m, hF⟩ := S₂.fr
    exact k s₂ (nx₁.trans nx₂).os (B.finish hF) ((nx₁.trans nx₂).gens hb)
  · refine ht.goK h S fun s₁ fz₁ nx₁ sub₁ S₁ => ?_
    refine wpAny_execs_cons ?_
    refine ha.goK h5 S₁ hE fun fla s₂ fz₂ α₂ nx₂ sub₂ pin S₂ fr => ?_
    rw [flNext fr]
    refine wpAny_execs_cons (wpAny_If ?_)
    refine isTrue_not ?_
    show wpAny _ _ (do let v ← eval _ (fn.env c); standAt _; holding [v] (truthy v)) _ _ _
    refine wpAny_bind (hx.go S₂ (nx₂.gens (nx₁.gens hb)) h13 h15 fun s₃ fz₃ ps' _ B' S₃ g₃ o₃ => ?_)
    refine wpAny_bind (wpAny_standAt (wpAny_holding (wpAny_truthy_bool ?_)))
    refine wpAny_execs_nil (wpAny_execs_nil ?_)
    have O' := O.on B hcls hA ho S₃
    exact (hr (c.on (regrown c.h₀ P ps')) ps' O' rfl rfl rfl rfl rfl B').go σ₁ b τ s₃ fz₃ α₂ e S₃ g₃ Q E hE fun s₄ e1 e2 e3 => k s₄ (e1.trans (o₃.trans (nx₁.trans nx₂).os)) e2 e3
end
end
theorem nlb {n m : Nat} (h : Nat.ble n m = true) : n ≤ m := Nat.le_of_ble_eq_true h
open PySem PySem.W PySem.Calls PySem.Spec PySem.SeqAt PyProof.Rows
noncomputable abbrev gl (K : Params → Frag) (q : Program) (w : World) (mg mb : Str → Option Value) (ext : Frag) : Gl := ⟨PySem.Challenge.rw_sx_zprincipal_4.row.prog, w, K w.params ++ ext, q, looseW q [Str.ofString "_law_seeds"], mg, mb⟩
theorem kKz {i j : Nat} : ∀ (σ : Sta) (y : Addr), vE [.ex (zG i), .ex (zG j)] σ ≠ some (.error y) := by
  have ne : ∀ (i : Nat) (σ : Sta) (y : Addr), yCz (zG i) σ ≠ some (.error y) := fun i σ y e => by
    rcases z8 e with ⟨z, h1, h2⟩ | ⟨a, h1, h2⟩
    · unfold zG at h1; split at h1 <;> cases h1
    · cases a <;> cases h2
  intro σ y e
  rcases z8 e with ⟨z, h1, h2⟩ | ⟨a, h1, h2⟩
  · exact ne _ _ _ h1
  · rcases z8 h2 with ⟨z, h3, h4⟩ | ⟨b, h3, h4⟩
    · rcases z8 h3 with ⟨z, h5, h6⟩ | ⟨b, h5, h6⟩
      · exact ne _ _ _ h5
      · cases h6
    · cases h4
theorem hcls3 {f1 f2 f3 : SX} : ∀ (y : Addr) (f : SX), ([(x9, f1), (wE, f2), (vY, f3)] : List (Addr × SX)).lookup y = some f → y = x9 ∨ y = wE ∨ y = vY := by
  intro y f e
  by_cases h1 : y = x9
  · exact .inl h1
  · by_cases h2 : y = wE
    · exact .inr (.inl h2)
    · by_cases h3 : y = vY
      · exact .inr (.inr h3)
      · simp [List.lookup, show (y == x9) = false from by simpa using h1, show (y == wE) = false from by simpa using h2, show (y == vY) = false from by simpa using h3] at e
theorem law_runs {args : List Slot} {d : PyData} {τ : Sta} (h : xlaw args = some (.ok (d, τ))) : args.length = 1 ∧ blaw (args.map some ++ List.replicate (17 - args.length) none) = some (.ok (.ret d, τ)) := by
  unfold xlaw zDz at h
  split at h
  · rename_i hp
    rcases z8 h with ⟨y, h1, h2⟩ | ⟨⟨fl, σ'⟩, h1, h2⟩
    · cases h2
    · cases fl with
      | ret d' =>
        injection h2 with h2; injection h2 with h2; injection h2 with h3 h4; subst h3; subst h4
        exact ⟨hp.1, h1⟩
      | next => cases h2
      | brk => cases h2
      | cont => cases h2
  · cases h
theorem law_enter {Γ : Gl} {scope : Scope} {nm : List Str} {body : List Stmt} {c : Dy} {h₁ : Heap} {b : Bool} {σ τ : Sta} {s : Shared} {α : Nat → Addr} {fz : List (Addr × Obj)} {Q : Flow → Shared → Prop} {E : Value → Shared → Prop}
    (hO : Ok Γ 30 ⟨Str.ofString "law", scope, nm, uJ []⟩ c) (sim : Ok Γ 30 ⟨Str.ofString "law", scope, nm, uJ []⟩ c → SimEnd Γ ⟨Str.ofString "law", scope, nm, uJ []⟩ c h₁ (execs body (Fn.env ⟨Str.ofString "law", scope, nm, uJ []⟩ c)) blaw)
    (hb : blaw σ = some (.ok (.ret (.bool b), τ))) (S : St Γ ⟨Str.ofString "law", scope, nm, uJ []⟩ c fz α σ s.heap) (hg : AllBare s.gens) (hE : PassesOwn (model Γ.prog Γ.w) (Fn.A ⟨Str.ofString "law", scope, nm, uJ []⟩ c) (Fn.env ⟨Str.ofString "law", scope, nm, uJ []⟩ c) E)
    (k : ∀ s', s'.os = s.os → OldK h₁ s'.heap → AllBare s'.gens → Q (.ret (.bool b)) s') :
    wpAny (model Γ.prog Γ.w) (Fn.A ⟨Str.ofString "law", scope, nm, uJ []⟩ c) (execs body (Fn.env ⟨Str.ofString "law", scope, nm, uJ []⟩ c)) Q E s :=
  (sim hO).go σ b τ s fz α hb S hg Q E hE k
theorem z0q {K : Frag} {a : Addr} {o : Obj} {h : Heap} (X : K.In h) (ha : h.get? a = some o) : (K ++ [(a, o)]).lookup a = some o := by
  rw [List.lookup_append]
  cases e : K.lookup a with
  | none => simp [List.lookup]
  | some o' => have := X a o' e; rw [ha] at this; cases this; rfl
theorem in_ext {K : Frag} {a : Addr} {o : Obj} {h : Heap} (X : K.In h) (ha : h.get? a = some o) : Frag.In (K ++ [(a, o)]) h := fun b ob e => by
  rw [List.lookup_append] at e
  cases e1 : K.lookup b with
  | some o' => rw [e1] at e; cases e; exact X b _ e1
  | none =>
    rw [e1] at e
    simp only [Option.none_or, List.lookup] at e
    split at e
    · rename_i q; cases e; rw [beq_iff_eq.mp q]; exact ha
    · cases e
inductive LawAt (K : Params → Frag) (w : World) (scope : Scope) (body : List Stmt) : Prop
  | mk (oc : Value) (od : Option Addr) (osl : Array (Option Value)) (name : Str) (params : Arguments) (dV kV doc pm : Value) (an : Option Addr) (cdv ct : Value)
   (h : (K w.params).lookup 392 = some ⟨oc, od, .func (fnOf name (Str.ofString "law") params body scope dV kV doc pm an cdv ct), osl⟩) : LawAt K w scope body
noncomputable abbrev qVz : List Str := ["script", "n", "made", "nodes", "t", "err", "trace", "v", "steps", "kept", "border", "fuel", "due", "got", "end", "want", "ran"]
noncomputable abbrev lawFn (scope : Scope) : Fn := ⟨Str.ofString "law", scope, qVz, uJ []⟩
structure LawSim (K : Params → Frag) (q : Program) (w : World) (mg mb : Str → Option Value) (ext : Frag) (scope : Scope) (body : List Stmt) : Prop where
  good : (lawFn scope).Good
  cells : ∀ k, cellsFrom k scope.names [] = [(Str.ofString "trace", k)]
  one : ∀ y, scope.names.lookup y = some .cell → y = Str.ofString "trace"
  cel : scope.names.lookup (Str.ofString "trace") = some .cell
  arg : scope.names.lookup (Str.ofString "script") = some .local
  sim : ∀ {h₁ : Heap} {cc P bm : Addr} {ob : Obj} {c : Dy}, kb_classed (gl K q w mg mb ext).K = true → Based h₁ c.h₀ cc P #[] → BMod c.h₀ mainGlobals mg bm ob → c.cd = .ref cc → c.A₀ = callerA → c.outer = [] → c.base = c.h₀ →
    Ok (gl K q w mg mb ext) 30 (lawFn scope) c → SimEnd (gl K q w mg mb ext) (lawFn scope) c h₁ (execs body ((lawFn scope).env c)) blaw
theorem hq.tw3701847374599009501 : True := ⟨⟩
theorem hq.tw13502862691939865659 : True := ⟨⟩
theorem hq.tw1984572075599771513 : True := ⟨⟩
theorem hq.tw18276807595065023739 : True := ⟨⟩
theorem hq.tw12390233527935181475 : True := ⟨⟩
theorem hq.tw4533897431571354071 : True := ⟨⟩
theorem hq.tw13509674016235769675 : True := ⟨⟩
theorem hq.tw6269745914701477426 : True := ⟨⟩
theorem hq.tw10737892303006934758 : True := ⟨⟩
theorem hq.tw14979113064049515171 : True := ⟨⟩
theorem hq.tw338245939585270834 : True := ⟨⟩
theorem hq.tw16807989910089786516 : True := ⟨⟩
theorem hq.tw5301994602263957399 : True := ⟨⟩
theorem hq.tw13354247350071896366 : True := ⟨⟩
theorem hq.tw6007477226900982618 : True := ⟨⟩
theorem hq.tw541360200788322803 : True := ⟨⟩
theorem hq.tw916892066089585398 : True := ⟨⟩
theorem hq.tw8049949838826251480 : True := ⟨⟩
theorem hq.tw2640350884122359693 : True := ⟨⟩
theorem hq.tw10092852166775279130 : True := ⟨⟩
theorem hq.tw10376031466752974828 : True := ⟨⟩
theorem hq.tw771947914003707973 : True := ⟨⟩
theorem hq.tw13976329359730278593 : True := ⟨⟩
theorem hq.tw13100683107442814338 : True := ⟨⟩
theorem hq.tw14237485161361176573 : True := ⟨⟩
theorem hq.tw13448033582049419322 : True := ⟨⟩
theorem hq.tw1111263606911284345 : True := ⟨⟩
theorem hq.tw3279247951013379325 : True := ⟨⟩
theorem hq.tw7723358927924880359 : True := ⟨⟩
theorem hq.tw16549860719943262585 : True := ⟨⟩
theorem hq.tw7574501811584800559 : True := ⟨⟩
theorem hq.tw3480666100315175299 : True := ⟨⟩
theorem hq.tw13886267558521391256 : True := ⟨⟩
theorem hq.tw14353095049506806319 : True := ⟨⟩
theorem hq.tw1710684574680506057 : True := ⟨⟩
theorem hq.tw9493725803484967530 : True := ⟨⟩
theorem hq.tw10371403677947509614 : True := ⟨⟩
theorem hq.tw1356178445314535933 : True := ⟨⟩
theorem hq.tw17719787235402466642 : True := ⟨⟩
theorem hq.tw7409416600757584363 : True := ⟨⟩
theorem hq.tw9428742883436320482 : True := ⟨⟩
theorem hq.tw5731166914374295624 : True := ⟨⟩
theorem hq.tw8813382931127158424 : True := ⟨⟩
theorem hq.tw16782676387622030179 : True := ⟨⟩
theorem hq.tw17939040331521840985 : True := ⟨⟩
theorem hq.tw4167004640589313651 : True := ⟨⟩
theorem hq.tw7511721461442411465 : True := ⟨⟩
theorem hq.tw9812839542755203597 : True := ⟨⟩
theorem hq.tw11207855887277221106 : True := ⟨⟩
theorem hq.tw2320559199587278016 : True := ⟨⟩
theorem hq.tw15182601442485666286 : True := ⟨⟩
theorem hq.tw6304881022484498786 : True := ⟨⟩
theorem hq.tw2338785445158028428 : True := ⟨⟩
theorem hq.tw14969264746431923806 : True := ⟨⟩
theorem hq.tw15945134739743178578 : True := ⟨⟩
theorem hq.tw16325697439411301246 : True := ⟨⟩
theorem hq.tw8843670863553936208 : True := ⟨⟩
theorem hq.tw13276833702047066570 : True := ⟨⟩
theorem hq.tw3048173636268286377 : True := ⟨⟩
theorem hq.tw384518735521986950 : True := ⟨⟩
theorem hq.tw15812451359255101891 : True := ⟨⟩
theorem hq.tw3421353514304016194 : True := ⟨⟩
theorem hq.tw11596143682707957329 : True := ⟨⟩
theorem hq.tw13370623703081640355 : True := ⟨⟩
theorem hq.tw5578676019213602690 : True := ⟨⟩
theorem hq.tw2892858402054980869 : True := ⟨⟩
theorem hq.tw4026668784279576677 : True := ⟨⟩
theorem hq.tw674073021615805732 : True := ⟨⟩
theorem hq.tw14567226737135143758 : True := ⟨⟩
theorem hq.tw15752517208743610924 : True := ⟨⟩
theorem hq.tw18064312367536619883 : True := ⟨⟩
theorem hq.tw12728415866068041311 : True := ⟨⟩
theorem hq.tw15957552500467261736 : True := ⟨⟩
theorem hq.tw13510361038845904283 : True := ⟨⟩
theorem hq.tw12545650446048111660 : True := ⟨⟩
theorem hq.tw5915431954461271860 : True := ⟨⟩
theorem hq.tw1700315315751232304 : True := ⟨⟩
theorem hq.tw5613207279310253425 : True := ⟨⟩
theorem hq.tw4330991180929535625 : True := ⟨⟩
theorem hq.tw9659669307319190640 : True := ⟨⟩
theorem hq.tw16637177162505234527 : True := ⟨⟩
theorem hq.tw8138599290071183656 : True := ⟨⟩
theorem hq.tw10808934275972336993 : True := ⟨⟩
theorem hq.tw1640272328417397822 : True := ⟨⟩
theorem hq.tw2568601839324270733 : True := ⟨⟩
theorem hq.tw16807017868417353128 : True := ⟨⟩
theorem hq.tw18190943572339469658 : True := ⟨⟩
theorem hq.tw14187982978997237623 : True := ⟨⟩
theorem hq.tw8474040522217814807 : True := ⟨⟩
theorem hq.tw10223406500745991142 : True := ⟨⟩
theorem hq.tw8612858684465989739 : True := ⟨⟩
theorem hq.tw15732555661696549327 : True := ⟨⟩
theorem hq.tw15248956921075036628 : True := ⟨⟩
theorem hq.tw9876288160915811745 : True := ⟨⟩
theorem hq.tw13751960006981385605 : True := ⟨⟩
theorem hq.tw9616370734746824208 : True := ⟨⟩
theorem hq.tw1500765314571102690 : True := ⟨⟩
theorem hq.tw10366571678140251363 : True := ⟨⟩
theorem hq.tw9950089704063908547 : True := ⟨⟩
theorem hq.tw1148625622953004833 : True := ⟨⟩
theorem hq.tw3880375719507622018 : True := ⟨⟩
theorem hq.tw17485836952703706218 : True := ⟨⟩
theorem hq.tw14512733808186690832 : True := ⟨⟩
theorem hq.tw16231922416965314548 : True := ⟨⟩
theorem hq.tw15952631729719037887 : True := ⟨⟩
theorem hq.tw2147655035671245215 : True := ⟨⟩
theorem hq.tw8804238086855099115 : True := ⟨⟩
theorem hq.tw17480515895037040760 : True := ⟨⟩
theorem hq.tw13169572222614648372 : True := ⟨⟩
theorem hq.tw9025512103472134450 : True := ⟨⟩
theorem hq.tw8730326856917428115 : True := ⟨⟩
theorem hq.tw271354171592042819 : True := ⟨⟩
theorem hq.tw9011297252748127280 : True := ⟨⟩
theorem hq.tw4171725333644275513 : True := ⟨⟩
theorem hq.tw5102381659091134590 : True := ⟨⟩
theorem hq.tw7089316416521786280 : True := ⟨⟩
theorem hq.tw8094907942427954523 : True := ⟨⟩
theorem hq.tw4991336011138955280 : True := ⟨⟩
theorem hq.tw6738601660276500248 : True := ⟨⟩
theorem hq.tw18023701660430168103 : True := ⟨⟩
theorem hq.tw11149061711742648548 : True := ⟨⟩
theorem hq.tw1790225447845560585 : True := ⟨⟩
theorem hq.tw1629939692016619404 : True := ⟨⟩
theorem hq.tw8878085667783850231 : True := ⟨⟩
theorem hq.tw16316352616789880349 : True := ⟨⟩
theorem hq.tw12428739965439566872 : True := ⟨⟩
theorem hq.tw6824146438439059971 : True := ⟨⟩
theorem hq.tw3061969403100960489 : True := ⟨⟩
theorem hq.tw12664413295080255743 : True := ⟨⟩
theorem hq.tw1383527236628300131 : True := ⟨⟩
theorem hq.tw15079305990305215762 : True := ⟨⟩
theorem hq.tw3628305938926661053 : True := ⟨⟩
theorem hq.tw17570233290061857690 : True := ⟨⟩
theorem hq.tw18250771422189292895 : True := ⟨⟩
theorem hq.tw430407546983676048 : True := ⟨⟩
theorem hq.tw16046787055161014137 : True := ⟨⟩
theorem hq.tw12481044172393887954 : True := ⟨⟩
theorem hq.tw13023949505232002771 : True := ⟨⟩
theorem hq.tw14322759412192637791 : True := ⟨⟩
theorem hq.tw14768286036203141162 : True := ⟨⟩
theorem hq.tw12889914191371890957 : True := ⟨⟩
theorem hq.tw2060327042702796305 : True := ⟨⟩
theorem hq.tw9375045823711978607 : True := ⟨⟩
theorem hq.tw14772127340083367040 : True := ⟨⟩
theorem hq.tw17451322227400245958 : True := ⟨⟩
theorem hq.tw15629568606158070697 : True := ⟨⟩
theorem hq.tw8201169055858481340 : True := ⟨⟩
theorem hq.tw2367623169485729044 : True := ⟨⟩
theorem hq.tw15299981847786275131 : True := ⟨⟩
theorem hq.tw17790109234249064360 : True := ⟨⟩
theorem hq.tw3406242299724796062 : True := ⟨⟩
theorem hq.tw11762732935092854722 : True := ⟨⟩
theorem hq.tw14810766176975304553 : True := ⟨⟩
theorem hq.tw5429477869994368367 : True := ⟨⟩
theorem hq.tw15276287227970242661 : True := ⟨⟩
theorem hq.tw3277950488986541542 : True := ⟨⟩
theorem hq.tw13201679970922164330 : True := ⟨⟩
theorem hq.tw7902054454379397355 : True := ⟨⟩
theorem hq.tw10515724994809746482 : True := ⟨⟩
theorem hq.tw5611102857607521741 : True := ⟨⟩
theorem hq.tw16141408570927184927 : True := ⟨⟩
theorem hq.tw4346122449067867847 : True := ⟨⟩
theorem hq.tw15050050835727825964 : True := ⟨⟩
theorem hq.tw8092459957483288813 : True := ⟨⟩
theorem hq.tw14680810799054715792 : True := ⟨⟩
theorem hq.tw17313500477962296120 : True := ⟨⟩
theorem hq.tw7884614384692140816 : True := ⟨⟩
theorem hq.tw17486772711794031567 : True := ⟨⟩
theorem hq.tw11895432268523212573 : True := ⟨⟩
theorem hq.tw2460405866545305436 : True := ⟨⟩
theorem hq.tw11363321000426732400 : True := ⟨⟩
theorem hq.tw7632206556856918147 : True := ⟨⟩
theorem hq.tw4057580815170638606 : True := ⟨⟩
theorem hq.tw17417107624613210504 : True := ⟨⟩
theorem hq.tw17415775317282982117 : True := ⟨⟩
theorem hq.tw8039898743254704824 : True := ⟨⟩
theorem hq.tw4222511593086879587 : True := ⟨⟩
theorem hq.tw6336642640299219094 : True := ⟨⟩
theorem hq.tw4797868753551183999 : True := ⟨⟩
theorem hq.tw3858204857450945017 : True := ⟨⟩
theorem hq.tw5895416178271551497 : True := ⟨⟩
theorem hq.tw5219493252240457098 : True := ⟨⟩
theorem hq.tw4666310112322607275 : True := ⟨⟩
theorem hq.tw9188848632486924633 : True := ⟨⟩
theorem hq.tw4288558672954378248 : True := ⟨⟩
theorem hq.tw15944341401679933261 : True := ⟨⟩
theorem hq.tw3491428954475440883 : True := ⟨⟩
theorem hq.tw3702623868654441055 : True := ⟨⟩
theorem hq.tw13495405613607610781 : True := ⟨⟩
theorem hq.tw6156483766952535384 : True := ⟨⟩
theorem hq.tw1601456569762913703 : True := ⟨⟩
theorem hq.tw6831830282658272535 : True := ⟨⟩
theorem hq.tw3106084185226902877 : True := ⟨⟩
theorem hq.tw2175518295204102879 : True := ⟨⟩
theorem hq.tw8783513367562574285 : True := ⟨⟩
theorem hq.tw17688041192245645826 : True := ⟨⟩
theorem hq.tw4741875132220596311 : True := ⟨⟩
theorem hq.tw10340674731281136786 : True := ⟨⟩
theorem hq.tw2408465754971806201 : True := ⟨⟩
theorem hq.tw10844470459063464443 : True := ⟨⟩
theorem hq.tw13468631102399112637 : True := ⟨⟩
theorem hq.tw16653776548582141348 : True := ⟨⟩
theorem hq.tw6279407891034730392 : True := ⟨⟩
theorem hq.tw6655851296632736839 : True := ⟨⟩
theorem hq.tw17641890241275046623 : True := ⟨⟩
theorem hq.tw37697335950043382 : True := ⟨⟩
theorem hq.tw12235868485125894331 : True := ⟨⟩
theorem hq.tw15491281439746748380 : True := ⟨⟩
theorem hq.tw16809807526908380884 : True := ⟨⟩
theorem hq.tw15114332125836811107 : True := ⟨⟩
theorem hq.tw6578545976327660020 : True := ⟨⟩
theorem hq.tw12058654197788596436 : True := ⟨⟩
theorem hq.tw12771422461613121140 : True := ⟨⟩
theorem hq.tw4003514286515377017 : True := ⟨⟩
theorem hq.tw8016986591111299822 : True := ⟨⟩
theorem hq.tw12892139197361222039 : True := ⟨⟩
theorem hq.tw10914737284747560342 : True := ⟨⟩
theorem hq.tw13946695615888808057 : True := ⟨⟩
theorem hq.tw9763324061818089090 : True := ⟨⟩
theorem hq.tw15487811534215124188 : True := ⟨⟩
theorem hq.tw4214643438969434645 : True := ⟨⟩
theorem hq.tw1112758292735411213 : True := ⟨⟩
theorem hq.tw6492908563196855892 : True := ⟨⟩
theorem hq.tw8331520620733812097 : True := ⟨⟩
theorem hq.tw9549253132143110608 : True := ⟨⟩
theorem hq.tw3313988557390523843 : True := ⟨⟩
theorem hq.tw13835040335912294723 : True := ⟨⟩
theorem hq.tw1102692453144107117 : True := ⟨⟩
theorem hq.tw1738449604571460292 : True := ⟨⟩
theorem hq.tw16393828553131281715 : True := ⟨⟩
theorem hq.tw9105997651957022955 : True := ⟨⟩
theorem hq.tw4836737923570769024 : True := ⟨⟩
theorem hq.tw2996563815162090415 : True := ⟨⟩
theorem hq.tw7850188486041987321 : True := ⟨⟩
theorem hq.tw1500719978199872653 : True := ⟨⟩
theorem hq.tw16003533353896068565 : True := ⟨⟩
theorem hq.tw18201938650840483205 : True := ⟨⟩
theorem hq.tw12790755645740596454 : True := ⟨⟩
theorem hq.tw4950995695539448390 : True := ⟨⟩
theorem hq.tw10630391147137001860 : True := ⟨⟩
theorem hq.tw5080482457446688561 : True := ⟨⟩
theorem hq.tw17490343775666085965 : True := ⟨⟩
theorem hq.tw6703137428290144329 : True := ⟨⟩
theorem hq.tw9901537562536030562 : True := ⟨⟩
theorem hq.tw2609510587700438405 : True := ⟨⟩
theorem hq.tw18340721319590389962 : True := ⟨⟩
theorem hq.tw1658547955452154472 : True := ⟨⟩
theorem hq.tw15256828576862472125 : True := ⟨⟩
theorem hq.tw9133466482286349414 : True := ⟨⟩
theorem hq.tw6544732300459080682 : True := ⟨⟩
theorem hq.tw3560430997919898871 : True := ⟨⟩
theorem hq.tw8954724947790862241 : True := ⟨⟩
theorem hq.tw9366186876789818649 : True := ⟨⟩
theorem hq.tw13001207721643841512 : True := ⟨⟩
theorem hq.tw3478883397168826629 : True := ⟨⟩
theorem hq.tw12485548662368916749 : True := ⟨⟩
theorem hq.tw15947022525539137760 : True := ⟨⟩
theorem hq.tw5831826152446136541 : True := ⟨⟩
theorem hq.tw12417311007122829836 : True := ⟨⟩
theorem hq.tw8914243485484973694 : True := ⟨⟩
theorem hq.tw7079364385445073895 : True := ⟨⟩
theorem hq.tw5914124745671280715 : True := ⟨⟩
theorem hq.tw13029019406344279537 : True := ⟨⟩
theorem hq.tw14544256373392573544 : True := ⟨⟩
theorem hq.tw16936868174623810526 : True := ⟨⟩
theorem hq.tw11961918275323247916 : True := ⟨⟩
theorem hq.tw7813778406405503521 : True := ⟨⟩
theorem hq.tw14587594007023303460 : True := ⟨⟩
theorem hq.tw10312157954276465073 : True := ⟨⟩
theorem hq.tw13133925777924542315 : True := ⟨⟩
theorem hq.tw9168773537736573765 : True := ⟨⟩
theorem hq.tw540485975783732659 : True := ⟨⟩
theorem hq.tw4498321342021566067 : True := ⟨⟩
theorem hq.tw10189871300808820423 : True := ⟨⟩
theorem hq.tw9612742909652353465 : True := ⟨⟩
theorem hq.tw7253851005133477568 : True := ⟨⟩
theorem hq.tw18141165161687149130 : True := ⟨⟩
theorem hq.tw8280607470232188737 : True := ⟨⟩
theorem hq.tw14036627289367018796 : True := ⟨⟩
theorem hq.tw2446711658860428672 : True := ⟨⟩
theorem hq.tw10000794576204330153 : True := ⟨⟩
theorem hq.tw6118443615581677530 : True := ⟨⟩
theorem hq.tw10671993194109991074 : True := ⟨⟩
theorem hq.tw6847527207690855968 : True := ⟨⟩
theorem hq.tw8308388744524497552 : True := ⟨⟩
theorem hq.tw2260561623700716748 : True := ⟨⟩
theorem hq.tw8377207884362891880 : True := ⟨⟩
theorem hq.tw11855007290812442598 : True := ⟨⟩
theorem hq.tw10968501387965271627 : True := ⟨⟩
theorem hq.tw7943177803539212061 : True := ⟨⟩
theorem hq.tw7002464205399081975 : True := ⟨⟩
theorem hq.tw13486078771128344647 : True := ⟨⟩
theorem hq.tw12496698030514209297 : True := ⟨⟩
theorem hq.tw195319319105484837 : True := ⟨⟩
theorem hq.tw11603209444005165735 : True := ⟨⟩
theorem hq.tw2214581351128497116 : True := ⟨⟩
theorem hq.tw15204825319287093212 : True := ⟨⟩
theorem hq.tw9276792759960484386 : True := ⟨⟩
theorem hq.tw12964062633142722049 : True := ⟨⟩
theorem hq.tw11402776170388669038 : True := ⟨⟩
theorem hq.tw9563767174587072967 : True := ⟨⟩
theorem hq.tw14065372797180803292 : True := ⟨⟩
theorem hq.tw16635847823566414107 : True := ⟨⟩
theorem hq.tw15450133903358312512 : True := ⟨⟩
theorem hq.tw3475086186801777325 : True := ⟨⟩
theorem hq.tw5288753061374985246 : True := ⟨⟩
theorem hq.tw13959481576897727349 : True := ⟨⟩
theorem hq.tw11824069836422780227 : True := ⟨⟩
theorem hq.tw3461464765368363466 : True := ⟨⟩
theorem hq.tw8632563731568542535 : True := ⟨⟩
theorem hq.tw10952823829123372175 : True := ⟨⟩
theorem hq.tw5569108009095968475 : True := ⟨⟩
theorem hq.tw12463699929421395298 : True := ⟨⟩
theorem hq.tw9034970781958629739 : True := ⟨⟩
theorem hq.tw10010650081863701617 : True := ⟨⟩
theorem hq.tw1441488458906403996 : True := ⟨⟩
theorem hq.tw12617662541128001882 : True := ⟨⟩
theorem hq.tw9031073068422697509 : True := ⟨⟩
theorem hq.tw5691554338385257998 : True := ⟨⟩
theorem hq.tw722643689031310280 : True := ⟨⟩
theorem hq.tw233199577985559970 : True := ⟨⟩
theorem hq.tw4489070043729951717 : True := ⟨⟩
theorem hq.tw17191537605157243135 : True := ⟨⟩
theorem hq.tw16729471575171175110 : True := ⟨⟩
theorem hq.tw9381266235724177792 : True := ⟨⟩
theorem hq.tw1140332349131322219 : True := ⟨⟩
theorem hq.tw1750795104730000546 : True := ⟨⟩
theorem hq.tw7276312473770576539 : True := ⟨⟩
theorem hq.tw8172153524177814700 : True := ⟨⟩
theorem hq.tw11641537968807545709 : True := ⟨⟩
theorem hq.tw17982033904585381360 : True := ⟨⟩
theorem hq.tw8114841426480393502 : True := ⟨⟩
theorem hq.tw4824584372287218620 : True := ⟨⟩
theorem hq.tw16750279658653203061 : True := ⟨⟩
theorem hq.tw7587259842506438161 : True := ⟨⟩
theorem hq.tw12391500430906805003 : True := ⟨⟩
theorem hq.tw12634840236772402975 : True := ⟨⟩
theorem hq.tw7907064084398135858 : True := ⟨⟩
theorem hq.tw5740101952899550972 : True := ⟨⟩
theorem hq.tw5906174600817787350 : True := ⟨⟩
theorem hq.tw15136850233242887438 : True := ⟨⟩
theorem hq.tw3858470327796980622 : True := ⟨⟩
theorem hq.tw4439803078412725676 : True := ⟨⟩
theorem hq.tw7128186512092943417 : True := ⟨⟩
theorem hq.tw4665913176990191628 : True := ⟨⟩
theorem hq.tw3413191660162019370 : True := ⟨⟩
theorem hq.tw14121371055001849588 : True := ⟨⟩
theorem hq.tw13398516417001538080 : True := ⟨⟩
theorem hq.tw13328776239465341797 : True := ⟨⟩
theorem hq.tw6815685841524224632 : True := ⟨⟩
theorem hq.tw2267212845272169836 : True := ⟨⟩
theorem hq.tw10957233804992961332 : True := ⟨⟩
theorem hq.tw1560922779193176835 : True := ⟨⟩
theorem hq.tw7179472203213589255 : True := ⟨⟩
theorem hq.tw8635002137240528865 : True := ⟨⟩
theorem hq.tw10899058296728633960 : True := ⟨⟩
theorem hq.tw860166213271251909 : True := ⟨⟩
theorem hq.tw193804917870597374 : True := ⟨⟩
theorem hq.tw9151865133259420103 : True := ⟨⟩
theorem hq.tw639632618262785173 : True := ⟨⟩
theorem hq.tw18033964682163610285 : True := ⟨⟩
theorem hq.tw4700772123730980896 : True := ⟨⟩
theorem hq.tw10187816474469822774 : True := ⟨⟩
theorem hq.tw13406518014326716138 : True := ⟨⟩
theorem hq.tw9904924192073418881 : True := ⟨⟩
theorem hq.tw3647894231261621685 : True := ⟨⟩
theorem hq.tw6112821752894491310 : True := ⟨⟩
theorem hq.tw16367165154766714319 : True := ⟨⟩
theorem hq.tw10001376382149582108 : True := ⟨⟩
theorem hq.tw17389483476063430775 : True := ⟨⟩
theorem hq.tw18377318545847360015 : True := ⟨⟩
theorem hq.tw3616478996217396334 : True := ⟨⟩
theorem hq.tw11660552598173695988 : True := ⟨⟩
theorem hq.tw11904904241039891960 : True := ⟨⟩
theorem hq.tw13127699335793737955 : True := ⟨⟩
theorem hq.tw12939260477051835880 : True := ⟨⟩
theorem hq.tw1945927827826211355 : True := ⟨⟩
theorem hq.tw12224511430472119265 : True := ⟨⟩
theorem hq.tw3085968280470273992 : True := ⟨⟩
theorem hq.tw17371673905730003010 : True := ⟨⟩
theorem hq.tw12360401225053915393 : True := ⟨⟩
theorem hq.tw3154463578298619625 : True := ⟨⟩
theorem hq.tw8703168442280000639 : True := ⟨⟩
theorem hq.tw16498171049323729267 : True := ⟨⟩
theorem hq.tw15976676881008073619 : True := ⟨⟩
theorem hq.tw5070146122541468937 : True := ⟨⟩
theorem hq.tw16911447347678364338 : True := ⟨⟩
theorem hq.tw12551386086251720438 : True := ⟨⟩
theorem hq.tw9604195178463712877 : True := ⟨⟩
theorem hq.tw12219819207030029821 : True := ⟨⟩
theorem hq.tw15499493932771899486 : True := ⟨⟩
theorem hq.tw14243319542641745285 : True := ⟨⟩
theorem hq.tw14287419288450536493 : True := ⟨⟩
theorem hq.tw7589107396602480322 : True := ⟨⟩
theorem hq.tw8073309143868657023 : True := ⟨⟩
theorem hq.tw925611148017520223 : True := ⟨⟩
theorem hq.tw14886498140707089192 : True := ⟨⟩
theorem hq.tw828373266779266601 : True := ⟨⟩
theorem hq.tw10384215637601404327 : True := ⟨⟩
theorem hq.tw10557348633716791549 : True := ⟨⟩
theorem hq.tw16086767934403656065 : True := ⟨⟩
theorem hq.tw1702131522092824670 : True := ⟨⟩
theorem hq.tw15734650141668845536 : True := ⟨⟩
theorem hq.tw909575876175560465 : True := ⟨⟩
theorem hq.tw1860683089816694825 : True := ⟨⟩
theorem hq.tw5991825269154617347 : True := ⟨⟩
theorem hq.tw4848108807988124131 : True := ⟨⟩
theorem hq.tw926538531027841127 : True := ⟨⟩
theorem hq.tw16231039490463794110 : True := ⟨⟩
theorem hq.tw8116986973751701504 : True := ⟨⟩
theorem hq.tw16757073528338650253 : True := ⟨⟩
theorem hq.tw5582761554524759094 : True := ⟨⟩
theorem hq.tw12911645755892562355 : True := ⟨⟩
theorem hq.tw2757439949053186533 : True := ⟨⟩
theorem hq.tw9055881919929000657 : True := ⟨⟩
theorem hq.tw14375828484873233585 : True := ⟨⟩
theorem hq.tw2706923899692441627 : True := ⟨⟩
theorem hq.tw13450832908405550097 : True := ⟨⟩
theorem hq.tw801188883035828325 : True := ⟨⟩
theorem hq.tw781474288783034380 : True := ⟨⟩
theorem hq.tw2050150026035442444 : True := ⟨⟩
theorem hq.tw15170669351824557439 : True := ⟨⟩
theorem hq.tw8267469052338804902 : True := ⟨⟩
theorem hq.tw7740853044027385959 : True := ⟨⟩
theorem hq.tw2083378949489099755 : True := ⟨⟩
theorem hq.tw15534325259311548342 : True := ⟨⟩
theorem hq.tw14641220288254092781 : True := ⟨⟩
theorem hq.tw2535131229827767169 : True := ⟨⟩
theorem hq.tw11550264267855334806 : True := ⟨⟩
theorem hq.tw17884644973305957733 : True := ⟨⟩
theorem hq.tw11388725880924503747 : True := ⟨⟩
theorem hq.tw16041765032119523446 : True := ⟨⟩
theorem hq.tw8698537833381394938 : True := ⟨⟩
theorem hq.tw13538046220882042919 : True := ⟨⟩
theorem hq.tw4611843103851283707 : True := ⟨⟩
theorem hq.tw4115226851099395319 : True := ⟨⟩
theorem hq.tw9814521365788848951 : True := ⟨⟩
theorem hq.tw13991502105691641572 : True := ⟨⟩
theorem hq.tw9083301775340355608 : True := ⟨⟩
theorem hq.tw12849039064130270240 : True := ⟨⟩
theorem hq.tw7987718348732695843 : True := ⟨⟩
theorem hq.tw16867273931720873272 : True := ⟨⟩
theorem hq.tw1569526789006978644 : True := ⟨⟩
theorem hq.tw8666260620100344464 : True := ⟨⟩
theorem hq.tw15674605124737195981 : True := ⟨⟩
theorem hq.tw10775009283162208714 : True := ⟨⟩
theorem hq.tw7940537527954018458 : True := ⟨⟩
theorem hq.tw4724890111835787062 : True := ⟨⟩
theorem hq.tw9048559258887259956 : True := ⟨⟩
theorem hq.tw15298563710665395474 : True := ⟨⟩
theorem hq.tw16240424374227401199 : True := ⟨⟩
theorem hq.tw11150044685417158869 : True := ⟨⟩
theorem hq.tw8316094494326325915 : True := ⟨⟩
theorem hq.tw17191050232335479264 : True := ⟨⟩
theorem hq.tw9954246468241796668 : True := ⟨⟩
theorem hq.tw6815287188669290861 : True := ⟨⟩
theorem hq.tw3422547408385998623 : True := ⟨⟩
theorem hq.tw6693717068639252140 : True := ⟨⟩
theorem hq.tw6710546539944103053 : True := ⟨⟩
theorem hq.tw9867696046603355536 : True := ⟨⟩
set_option tactic.hygienic true
set_option Elab.async true
theorem hq : PySem.Challenge.rw_sx_zprincipal_4.Holds := by
  w_on; o_law; k_head; (case hw => w_witness2)
  have law_sim : ∀ (w : World) (mg mb : Str → Option Value) (ext : Frag), ∃ scope body, LawAt hq.heap_1_39 w scope body ∧ LawSim hq.heap_1_39 hq.view_1_40 w mg mb ext scope body := by
    intro w mg mb ext
    have kX : Rep (gl hq.heap_1_39 hq.view_1_40 w mg mb ext) (Dk (gl hq.heap_1_39 hq.view_1_40 w mg mb ext) []) (.ref 157) wK := by
      repeat' first | exact RepAll.nil | refine rcI ?_ | refine rcS ?_ | refine rcT rfl ?_ ?_ | refine rcL rfl ?_ ?_ | exact Rep.int _ _ | exact Rep.str _ _ | exact Rep.none | refine RepAll.cons ?_ ?_ | refine Rep.tuple (.inl rfl) ?_ | refine Rep.list (.inl rfl) ?_
    have k4z : Rep (gl hq.heap_1_39 hq.view_1_40 w mg mb ext) (Dk (gl hq.heap_1_39 hq.view_1_40 w mg mb ext) []) (.ref 182) uO := by
      repeat' first | exact RepAll.nil | refine rcI ?_ | refine rcS ?_ | refine rcT rfl ?_ ?_ | refine rcL rfl ?_ ?_ | exact Rep.int _ _ | exact Rep.str _ _ | exact Rep.none | refine RepAll.cons ?_ ?_ | refine Rep.tuple (.inl rfl) ?_ | refine Rep.list (.inl rfl) ?_
    have qOz : Rep (gl hq.heap_1_39 hq.view_1_40 w mg mb ext) (Dk (gl hq.heap_1_39 hq.view_1_40 w mg mb ext) []) (.ref 324) vIz := by
      repeat' first | exact RepAll.nil | refine rcI ?_ | refine rcS ?_ | refine rcT rfl ?_ ?_ | refine rcL rfl ?_ ?_ | exact Rep.int _ _ | exact Rep.str _ _ | exact Rep.none | refine RepAll.cons ?_ ?_ | refine Rep.tuple (.inl rfl) ?_ | refine Rep.list (.inl rfl) ?_
    have uEz : excIn (hq.heap_1_39 w.params ++ ext) x9 [.type "Exception", .type "BaseException", .type "object"] "Exception.__new__" = true := by first | with_unfolding_all rfl | kernel_rfl
    have k6 : excIn (hq.heap_1_39 w.params ++ ext) wE [.type "Exception", .type "BaseException", .type "object"] "Exception.__new__" = true := by first | with_unfolding_all rfl | kernel_rfl
    have y7z : excIn (hq.heap_1_39 w.params ++ ext) vY [.type "Exception", .type "BaseException", .type "object"] "Exception.__new__" = true := by first | with_unfolding_all rfl | kernel_rfl
    have uDz : ∀ C, (C = x9 ∨ C = wE ∨ C = vY) → exmOne (hq.heap_1_39 w.params ++ ext) (.ref C) (.ref x9) = some (C == x9) := by
      rintro C (rfl | rfl | rfl) <;> first | with_unfolding_all rfl | kernel_rfl
    have vJz : ∀ C, (C = x9 ∨ C = wE ∨ C = vY) → exmOne (hq.heap_1_39 w.params ++ ext) (.ref C) (.ref wE) = some (C == wE) := by
      rintro C (rfl | rfl | rfl) <;> first | with_unfolding_all rfl | kernel_rfl
    have q2z : ∀ C, (C = x9 ∨ C = wE ∨ C = vY) → exmOne (hq.heap_1_39 w.params ++ ext) (.ref C) (.ref vY) = some (C == vY) := by
      rintro C (rfl | rfl | rfl) <;> first | with_unfolding_all rfl | kernel_rfl
    have uIz : Cs (gl hq.heap_1_39 hq.view_1_40 w mg mb ext) 1 60 jW := by
      refine xN (fn' := ⟨Str.ofString "parts_of", _, ["t", "last", "start", "wanted"], uJ []⟩) (ps := ["t"]) (b := kIz) ⟨⟨_, _, _, _, _, _, _, _, _, _, _, _, rfl, rfl, u6z fun s a => BindsTo.of_eq rfl⟩, rfl, rfl, by decide, pre_of rfl rfl⟩ (yW rfl (by decide) (by decide)) (by decide) (fun _ => rfl) (fun n c hn O => ?_) (by decide)
      exact
      (zE (z0 O (.loc rfl rfl) (zS O y9 (yI O rfl rfl rfl boot_len (by decide) rfl (zA O rfl rfl rfl) xB) zH) rfl)
      (zE (z5 (xF (zQ O (wI O) (zK O (zK O (zA O rfl rfl rfl) (zA O rfl rfl rfl) fun _ _ => rfl) zH fun _ _ => rfl) zL rfl) (xF (zQ O (wI O) (zK O (zK O (zA O rfl rfl rfl) (zA O rfl rfl rfl) fun _ _ => rfl) zH fun _ _ => rfl) zL rfl) xU))
       (zE (zY (z6 (zT O zI (nlb rfl))))
       zJ)
       zJ)
      (zE (z0 O (.loc rfl rfl) (zA O rfl rfl rfl) rfl)
      (zE (z0 O (.loc rfl rfl) zH rfl)
      (zE (zOz (xF (zQ O wLz (zA O rfl rfl rfl) zH rfl) (xF (zQ O wLz (zA O rfl rfl rfl) zH rfl) xU))
       (zE (z0 O (.loc rfl rfl) (zS O y9 (zA O rfl rfl rfl) zH) rfl)
       (zE (z5 (qO (zQ O (z1 O) (zK O (zK O (zA O rfl rfl rfl) (zA O rfl rfl rfl) fun _ _ => rfl) zH fun _ _ => rfl) zL rfl) (qO (zQ O (z1 O) (zK O (zK O (zA O rfl rfl rfl) (zA O rfl rfl rfl) fun _ _ => rfl) zH fun _ _ => rfl) zL rfl) q4))
       (zE (z0 O (.loc rfl rfl) (zS O (z7 O) (zA O rfl rfl rfl) zH) rfl)
       zJ)
       (zE (z0 O (.loc rfl rfl) (zS O y9 (zA O rfl rfl rfl) zH) rfl)
       zJ))
       zJ)))
      (zE (zY (z6 (zT O (zC (wQ O (zA O rfl rfl rfl) y6 (qK O (zA O rfl rfl rfl))) (zC (wQ O (zA O rfl rfl rfl) (qK O (zA O rfl rfl rfl)) (qK O (zA O rfl rfl rfl))) zI rfl) rfl) (nlb rfl))))
      zJ))))))
    have yHz : Cs (gl hq.heap_1_39 hq.view_1_40 w mg mb ext) 1 67 qS := by
      refine xN (fn' := ⟨Str.ofString "vars_of", _, ["t", "met", "item"], uJ []⟩) (ps := ["t"]) (b := zHq) ⟨⟨_, _, _, _, _, _, _, _, _, _, _, _, rfl, rfl, u6z fun s a => BindsTo.of_eq rfl⟩, rfl, rfl, by decide, pre_of rfl rfl⟩ (yW rfl (by decide) (by decide)) (by decide) (fun _ => rfl) (fun n c hn O => ?_) (by decide)
      exact
      (zE (wU O (.loc rfl rfl) rfl (zT O zI (nlb rfl)) rfl)
      (zE (qB O (vF O (.loc rfl rfl)) (zA O rfl rfl rfl)
       (zE (z5 (xF (zQ O (z1 O) (zK O (zA O rfl rfl rfl) zH fun _ _ => rfl) zL rfl) (xF (zQ O q7 (zK O (zA O rfl rfl rfl) zH fun _ _ => rfl) (zA O rfl rfl rfl) rfl) xU))
       (zE (yO (zA O rfl rfl rfl) (zK O (zA O rfl rfl rfl) zH fun _ _ => rfl) rfl rfl rfl)
       zJ)
       zJ)
       zJ)
       (fun _ => rfl))
      (zE (zY (yI O rfl rfl rfl boot_sorted (by decide) rfl (zA O rfl rfl rfl) (k5z O)))
      zJ)))
    have x3z : Cs (gl hq.heap_1_39 hq.view_1_40 w mg mb ext) 1 74 uA := by
      refine xN (fn' := ⟨Str.ofString "apply_once", _, ["t", "s", "out", "item"], uJ [1]⟩) (ps := ["t", "s"]) (b := v2z) ⟨⟨_, _, _, _, _, _, _, _, _, _, _, _, rfl, rfl, vSz fun s a b => BindsTo.of_eq rfl⟩, rfl, rfl, by decide, pre_of rfl rfl⟩ (yW rfl (by decide) (by decide)) (by decide) (fun _ => rfl) (fun n c hn O => ?_) (by decide)
      exact
      (zE (wU O (.loc rfl rfl) rfl (zT O zI (nlb rfl)) rfl)
      (zE (qB O (vF O (.loc rfl rfl)) (zA O rfl rfl rfl)
       (zE (z5 (xF (zQ O (z1 O) (zK O (zA O rfl rfl rfl) zH fun _ _ => rfl) zL rfl) (xF (zQ O yRz (zK O (zA O rfl rfl rfl) zH fun _ _ => rfl) (zA O rfl rfl rfl) rfl) xU))
       (zE (wU O (.loc rfl rfl) rfl (zNq O (zA O rfl rfl rfl) (zK O (zA O rfl rfl rfl) (zK O (zA O rfl rfl rfl) zH fun _ _ => rfl) fun _ _ => rfl)) rfl)
       zJ)
       (zE (yO (zA O rfl rfl rfl) (zA O rfl rfl rfl) rfl rfl rfl)
       zJ))
       zJ)
       (fun _ => rfl))
      (zE (v7z O.G (zY (zA O rfl rfl rfl)))
      zJ)))
    have wYz : Cs (gl hq.heap_1_39 hq.view_1_40 w mg mb ext) 2 81 jK := by
      refine xN (fn' := ⟨Str.ofString "apply", _, ["t", "s", "now", "turn", "after"], uJ [1]⟩) (ps := ["t", "s"]) (b := bapply) ⟨⟨_, _, _, _, _, _, _, _, _, _, _, _, rfl, rfl, vSz fun s a b => BindsTo.of_eq rfl⟩, rfl, rfl, by decide, pre_of rfl rfl⟩ (yW rfl (by decide) (by decide)) (by decide) (fun _ => rfl) (fun n c hn O => ?_) (by decide)
      exact
      (zE (z0 O (.loc rfl rfl) (wQ O (zA O rfl rfl rfl) y6 y6) rfl)
      (zE (v8z O rfl rfl rfl (vF O (.loc rfl rfl)) (zS O (z7 O) (yI O rfl rfl rfl boot_len (by decide) rfl (zA O rfl rfl rfl) xB) zH)
       (zE (z0 O (.loc rfl rfl) (yD O x3z (by omega) rfl rfl rfl rfl rfl rfl (by decide) (zP (zA O rfl rfl rfl) (zP (zA O rfl rfl rfl) z4 rfl) rfl)) rfl)
       (zE (z5 (zQ O (z1 O) (zA O rfl rfl rfl) (zA O rfl rfl rfl) rfl)
       (zE (zY (zA O rfl rfl rfl))
       zJ)
       zJ)
       (zE (z0 O (.loc rfl rfl) (zA O rfl rfl rfl) rfl)
       zJ))))
      (zE (zY (zA O rfl rfl rfl))
      zJ)))
    have xOz : Cs (gl hq.heap_1_39 hq.view_1_40 w mg mb ext) 3 88 jV := by
      refine xN (fn' := ⟨Str.ofString "unify", _, ["a", "b", "s", "fuel", "out", "v", "work", "pair", "x", "y", "x_last", "y_last", "x_parts", "y_parts"], uJ []⟩) (ps := ["a", "b", "s", "fuel"]) (b := bunify) ⟨⟨_, _, _, _, _, _, _, _, _, _, _, _, rfl, rfl, binds4 fun s a b c d => BindsTo.of_eq rfl⟩, rfl, rfl, by decide, pre_of rfl rfl⟩ (yW rfl (by decide) (by decide)) (by decide) (fun _ => rfl) (fun n c hn O => ?_) (by decide)
      exact
      (zE (xGz O (.loc rfl rfl) rfl)
      (zE (qB O (vF O (.loc rfl rfl)) (zA O rfl rfl rfl)
       (zE (zPz O (zA O rfl rfl rfl) (zA O rfl rfl rfl) (wQ O (zK O (zA O rfl rfl rfl) (zA O rfl rfl rfl) fun _ _ => rfl) y6 y6) rfl)
       zJ)
       (fun _ => rfl))
      (zE (wU O (.loc rfl rfl) rfl (zT O (zC (zM O (zC (zA O rfl rfl rfl) (zC (zA O rfl rfl rfl) zI rfl) rfl) (nlb rfl)) zI rfl) (nlb rfl)) rfl)
      (zE (zOz (zQ O (wI O) (zA O rfl rfl rfl) (z6 (zT O zI (nlb rfl))) rfl)
       (zE (z5 (zQ O hVz (zA O rfl rfl rfl) zH rfl)
       (zE (j7 O (fun _ => rfl) rfl y7z rfl rfl)
       zJ)
       zJ)
       (zE (z0 O (.loc rfl rfl) (zS O y9 (zA O rfl rfl rfl) zH) rfl)
       (zE (z0 O (.loc rfl rfl) (zK O (zA O rfl rfl rfl) (zS O y9 (yI O rfl rfl rfl boot_len (by decide) rfl (zA O rfl rfl rfl) xB) zH) fun _ _ => rfl) rfl)
       (zE (wWz O (zA O rfl rfl rfl) (zS O y9 (yI O rfl rfl rfl boot_len (by decide) rfl (zA O rfl rfl rfl) xB) zH))
       (zE (z0 O (.loc rfl rfl) (yD O wYz (by omega) rfl rfl rfl rfl rfl rfl (by decide) (z3 (zK O (zA O rfl rfl rfl) zH fun _ _ => rfl) (zP (zA O rfl rfl rfl) z4 rfl) rfl)) rfl)
       (zE (z0 O (.loc rfl rfl) (yD O wYz (by omega) rfl rfl rfl rfl rfl rfl (by decide) (z3 (zK O (zA O rfl rfl rfl) zH fun _ _ => rfl) (zP (zA O rfl rfl rfl) z4 rfl) rfl)) rfl)
       (zE (z5 (zQ O (z1 O) (zA O rfl rfl rfl) (zA O rfl rfl rfl) rfl)
       (zE SimS_cont
       zJ)
       zJ)
       (zE (z0 O (.loc rfl rfl) (zK O (zA O rfl rfl rfl) (zS O y9 (yI O rfl rfl rfl boot_len (by decide) rfl (zA O rfl rfl rfl) xB) zH) fun _ _ => rfl) rfl)
       (zE (z0 O (.loc rfl rfl) (zK O (zA O rfl rfl rfl) (zS O y9 (yI O rfl rfl rfl boot_len (by decide) rfl (zA O rfl rfl rfl) xB) zH) fun _ _ => rfl) rfl)
       (zE (z5 (zQ O (z1 O) (zK O (zA O rfl rfl rfl) zH fun _ _ => rfl) zL rfl)
       (zE (z5 (zQ O yRz (zK O (zA O rfl rfl rfl) zH fun _ _ => rfl) (yD O yHz (by omega) rfl rfl rfl rfl rfl rfl (by decide) (zP (zA O rfl rfl rfl) z4 rfl)) rfl)
       (zE (j7 O (fun _ => rfl) rfl k6 rfl rfl)
       zJ)
       zJ)
       (zE (zPz O (zA O rfl rfl rfl) (zK O (zA O rfl rfl rfl) zH fun _ _ => rfl) (zA O rfl rfl rfl) rfl)
       zJ))
       (zE (z5 (zQ O (z1 O) (zK O (zA O rfl rfl rfl) zH fun _ _ => rfl) zL rfl)
       (zE (z5 (zQ O yRz (zK O (zA O rfl rfl rfl) zH fun _ _ => rfl) (yD O yHz (by omega) rfl rfl rfl rfl rfl rfl (by decide) (zP (zA O rfl rfl rfl) z4 rfl)) rfl)
       (zE (j7 O (fun _ => rfl) rfl k6 rfl rfl)
       zJ)
       zJ)
       (zE (zPz O (zA O rfl rfl rfl) (zK O (zA O rfl rfl rfl) zH fun _ _ => rfl) (zA O rfl rfl rfl) rfl)
       zJ))
       (zE (z5 (zQ O (z1 O) (zA O rfl rfl rfl) (zA O rfl rfl rfl) rfl)
       (zE (z0 O (.loc rfl rfl) (yD O uIz (by omega) rfl rfl rfl rfl rfl rfl (by decide) (zP (zA O rfl rfl rfl) z4 rfl)) rfl)
       (zE (z0 O (.loc rfl rfl) (yD O uIz (by omega) rfl rfl rfl rfl rfl rfl (by decide) (zP (zA O rfl rfl rfl) z4 rfl)) rfl)
       (zE (yO (zA O rfl rfl rfl) (zM O (zC (zK O (zA O rfl rfl rfl) zH fun _ _ => rfl) (zC (zK O (zA O rfl rfl rfl) zH fun _ _ => rfl) zI rfl) rfl) (nlb rfl)) rfl rfl rfl)
       (zE (yO (zA O rfl rfl rfl) (zM O (zC (zK O (zA O rfl rfl rfl) zH fun _ _ => rfl) (zC (zK O (zA O rfl rfl rfl) zH fun _ _ => rfl) zI rfl) rfl) (nlb rfl)) rfl rfl rfl)
       zJ))))
       (zE (j7 O (fun _ => rfl) rfl uEz rfl rfl)
       zJ))
       zJ))
       zJ))
       zJ)))))))))))
      (zE (v7z O.G (zY (zA O rfl rfl rfl)))
      zJ)))))
    have k1z : Cs (gl hq.heap_1_39 hq.view_1_40 w mg mb ext) 1 95 xKz := by
      refine xN (fn' := ⟨Str.ofString "canonical", _, ["t", "names", "out", "item"], uJ []⟩) (ps := ["t"]) (b := u8z) ⟨⟨_, _, _, _, _, _, _, _, _, _, _, _, rfl, rfl, u6z fun s a => BindsTo.of_eq rfl⟩, rfl, rfl, by decide, pre_of rfl rfl⟩ (yW rfl (by decide) (by decide)) (by decide) (fun _ => rfl) (fun n c hn O => ?_) (by decide)
      exact
      (zE (xGz O (.loc rfl rfl) rfl)
      (zE (wU O (.loc rfl rfl) rfl (zT O zI (nlb rfl)) rfl)
      (zE (qB O (vF O (.loc rfl rfl)) (zA O rfl rfl rfl)
       (zE (z5 (zQ O (z1 O) (zK O (zA O rfl rfl rfl) zH fun _ _ => rfl) zL rfl)
       (zE (z5 (zQ O q7 (zK O (zA O rfl rfl rfl) zH fun _ _ => rfl) (zA O rfl rfl rfl) rfl)
       (zE (zPz O (zA O rfl rfl rfl) (zK O (zA O rfl rfl rfl) zH fun _ _ => rfl) (yI O rfl rfl rfl boot_len (by decide) rfl (zA O rfl rfl rfl) xB) rfl)
       zJ)
       zJ)
       (zE (yO (zA O rfl rfl rfl) (zM O (zC zL (zC (zK O (zA O rfl rfl rfl) (zK O (zA O rfl rfl rfl) zH fun _ _ => rfl) fun _ _ => rfl) zI rfl) rfl) (nlb rfl)) rfl rfl rfl)
       zJ))
       (zE (yO (zA O rfl rfl rfl) (zA O rfl rfl rfl) rfl rfl rfl)
       zJ))
       zJ)
       (fun _ => rfl))
      (zE (v7z O.G (zY (zA O rfl rfl rfl)))
      zJ))))
    have jLz : Cs (gl hq.heap_1_39 hq.view_1_40 w mg mb ext) 3 100 zZz := by
      refine cs_cell (xc := "held") (fn' := ⟨Str.ofString "generalize", _, ["t", "s", "env", "held", "scheme", "v", "u"], uJ []⟩) (ps := ["t", "s", "env"]) (b := vVz) ⟨⟨_, _, _, _, _, _, _, _, _, _, _, _, rfl, rfl, binds3 fun s a b c => BindsTo.of_eq rfl⟩, rfl, rfl, by decide, pre_of rfl rfl⟩ (h8z (xc := "held") rfl (by decide) (by decide) (hXz (by decide))) (fun _ => rfl) (fun _ => rfl) (hXz (by decide)) rfl (fun n c hn O => ?_) (by decide)
      exact
      (zE (wU O (.cel rfl rfl) rfl (zT O zI (nlb rfl)) rfl)
      (zE (qB O (vF O (.loc rfl rfl)) (zA O rfl rfl rfl)
       (zE (qB O (vF O (.loc rfl rfl)) (yD O yHz (by omega) rfl rfl rfl rfl rfl rfl (by decide) (z3 (yD O wYz (by omega) rfl rfl rfl rfl rfl rfl (by decide) (z3 (zK O (zA O rfl rfl rfl) zH fun _ _ => rfl) (zP (zA O rfl rfl rfl) z4 rfl) rfl)) z4 rfl))
       (zE (z5 (zQ O q7 (zA O rfl rfl rfl) (zK O (zA O rfl rfl rfl) zH fun _ _ => rfl) rfl)
       (zE (yO (qBz O rfl rfl rfl) (zA O rfl rfl rfl) rfl rfl rfl)
       zJ)
       zJ)
       zJ)
       (fun _ => rfl))
       zJ)
       (fun _ => rfl))
      (zE (z0 O (.loc rfl rfl) (yD O wYz (by omega) rfl rfl rfl rfl rfl rfl (by decide) (zP (zA O rfl rfl rfl) (zP (zA O rfl rfl rfl) z4 rfl) rfl)) rfl)
      (zE (zY (zM O (zC (SimE_filt O (yD O yHz (by omega) rfl rfl rfl rfl rfl rfl (by decide) (zP (zA O rfl rfl rfl) z4 rfl)) rfl rfl rfl rfl rfl (by decide) rfl (by decide) rfl (fun _ => rfl) (fun _ => rfl) rfl (fun _ => rfl)) (zC (zA O rfl rfl rfl) zI rfl) rfl) (nlb rfl)))
      zJ))))
    have qJz : Cs (gl hq.heap_1_39 hq.view_1_40 w mg mb ext) 2 107 kR := by
      refine xN (fn' := ⟨Str.ofString "instantiate", _, ["scheme", "fresh", "renaming", "i"], uJ []⟩) (ps := ["scheme", "fresh"]) (b := x8z) ⟨⟨_, _, _, _, _, _, _, _, _, _, _, _, rfl, rfl, vSz fun s a b => BindsTo.of_eq rfl⟩, rfl, rfl, by decide, pre_of rfl rfl⟩ (yW rfl (by decide) (by decide)) (by decide) (fun _ => rfl) (fun n c hn O => ?_) (by decide)
      exact
      (zE (xGz O (.loc rfl rfl) rfl)
      (zE (v8z O rfl rfl rfl (vF O (.loc rfl rfl)) (yI O rfl rfl rfl boot_len (by decide) rfl (zK O (zA O rfl rfl rfl) zH fun _ _ => rfl) xB)
       (zE (zPz O (zA O rfl rfl rfl) (zK O (zK O (zA O rfl rfl rfl) zH fun _ _ => rfl) (zA O rfl rfl rfl) fun _ _ => rfl) (z6 (zT O (zC (zM O (zC zL (zC (zS O (z7 O) (zA O rfl rfl rfl) (zA O rfl rfl rfl)) zI rfl) rfl) (nlb rfl)) zI rfl) (nlb rfl))) rfl)
       zJ))
      (zE (zY (zM O (zC (yD O x3z (by omega) rfl rfl rfl rfl rfl rfl (by decide) (z3 (zK O (zA O rfl rfl rfl) zH fun _ _ => rfl) (zP (zA O rfl rfl rfl) z4 rfl) rfl)) (zC (zS O (z7 O) (zA O rfl rfl rfl) (yI O rfl rfl rfl boot_len (by decide) rfl (zK O (zA O rfl rfl rfl) zH fun _ _ => rfl) xB)) zI rfl) rfl) (nlb rfl)))
      zJ)))
    have yIz : Cs (gl hq.heap_1_39 hq.view_1_40 w mg mb ext) 1 114 uH := by
      refine xN (fn' := ⟨Str.ofString "children_of", _, ["node", "kind"], uJ []⟩) (ps := ["node"]) (b := wCz) ⟨⟨_, _, _, _, _, _, _, _, _, _, _, _, rfl, rfl, u6z fun s a => BindsTo.of_eq rfl⟩, rfl, rfl, by decide, pre_of rfl rfl⟩ (yW rfl (by decide) (by decide)) (by decide) (fun _ => rfl) (fun n c hn O => ?_) (by decide)
      exact
      (zE (z0 O (.loc rfl rfl) (zK O (zA O rfl rfl rfl) zH fun _ _ => rfl) rfl)
      (zE (z5 (zQ O yRz (zA O rfl rfl rfl) (zM O (zC zL (zC zL (zC zL zI rfl) rfl) rfl) (nlb rfl)) rfl)
       (zE (zY (z6 (zT O (zC (zK O (zA O rfl rfl rfl) zH fun _ _ => rfl) zI rfl) (nlb rfl))))
       zJ)
       zJ)
      (zE (z5 (zQ O yRz (zA O rfl rfl rfl) (zM O (zC zL (zC zL (zC zL (zC zL (zC zL zI rfl) rfl) rfl) rfl) rfl) (nlb rfl)) rfl)
       (zE (zY (z6 (zT O (zC (zK O (zA O rfl rfl rfl) zH fun _ _ => rfl) (zC (zK O (zA O rfl rfl rfl) zH fun _ _ => rfl) zI rfl) rfl) (nlb rfl))))
       zJ)
       zJ)
      (zE (z5 (zQ O (z1 O) (zA O rfl rfl rfl) zL rfl)
       (zE (zY (z6 (zT O (zC (zK O (zA O rfl rfl rfl) zH fun _ _ => rfl) (zC (zK O (zA O rfl rfl rfl) zH fun _ _ => rfl) (zC (zK O (zA O rfl rfl rfl) zH fun _ _ => rfl) zI rfl) rfl) rfl) (nlb rfl))))
       zJ)
       zJ)
      (zE (zY (z6 (zT O zI (nlb rfl))))
      zJ)))))
    have jMz : Cs (gl hq.heap_1_39 hq.view_1_40 w mg mb ext) 1 121 w9 := by
      refine xN (fn' := ⟨Str.ofString "begin_node", _, ["nodes", "place", "env", "frames", "node"], uJ [3]⟩) (ps := ["nodes", "place", "env", "frames"]) (b := v1z) ⟨⟨_, _, _, _, _, _, _, _, _, _, _, _, rfl, rfl, binds4 fun s a b c d => BindsTo.of_eq rfl⟩, rfl, rfl, by decide, pre_of rfl rfl⟩ (yW rfl (by decide) (by decide)) (by decide) (fun _ => rfl) (fun n c hn O => ?_) (by decide)
      exact
      (zE (z0 O (.loc rfl rfl) (zK O (zA O rfl rfl rfl) (zA O rfl rfl rfl) fun _ _ => rfl) rfl)
      (zE (z5 (zQ O (z1 O) (zK O (zA O rfl rfl rfl) zH fun _ _ => rfl) zL rfl)
       (zE (zY (zM O (zC zL (zC (zM O (zC zL (zC (zK O (zA O rfl rfl rfl) zH fun _ _ => rfl) zI rfl) rfl) (nlb rfl)) (zC (z6 (zT O zI (nlb rfl))) zI rfl) rfl) rfl) (nlb rfl)))
       zJ)
       zJ)
      (zE (z5 (zQ O (z1 O) (zK O (zA O rfl rfl rfl) zH fun _ _ => rfl) zL rfl)
       (zE (zY (zM O (zC zL (zC (zM O (zC zL (zC (zK O (zA O rfl rfl rfl) zH fun _ _ => rfl) zI rfl) rfl) (nlb rfl)) (zC (z6 (zT O zI (nlb rfl))) zI rfl) rfl) rfl) (nlb rfl)))
       zJ)
       zJ)
      (zE (z5 (zQ O (z1 O) (zK O (zA O rfl rfl rfl) zH fun _ _ => rfl) zL rfl)
       (zE (zY (zM O (zC zL (zC (zK O (zA O rfl rfl rfl) (zK O (zA O rfl rfl rfl) zH fun _ _ => rfl) fun _ _ => rfl) (zC (z6 (zT O zI (nlb rfl))) zI rfl) rfl) rfl) (nlb rfl)))
       zJ)
       zJ)
      (zE (z5 (zQ O (z1 O) (zK O (zA O rfl rfl rfl) zH fun _ _ => rfl) zL rfl)
       (zE (zY (zM O (zC zL (zC (zM O (zC zL (zC (zK O (zA O rfl rfl rfl) zH fun _ _ => rfl) (zC (wQ O (zA O rfl rfl rfl) y6 y6) zI rfl) rfl) rfl) (nlb rfl)) (zC (z6 (zT O zI (nlb rfl))) zI rfl) rfl) rfl) (nlb rfl)))
       zJ)
       zJ)
      (zE (yO (zA O rfl rfl rfl) (zM O (zC (zA O rfl rfl rfl) (zC (zA O rfl rfl rfl) (zC wW zI rfl) rfl) rfl) (nlb rfl)) rfl rfl rfl)
      (zE (zY (zM O (zC zL (zC (zK O (zA O rfl rfl rfl) zH fun _ _ => rfl) (zC (wQ O (zA O rfl rfl rfl) y6 y6) zI rfl) rfl) rfl) (nlb rfl)))
      zJ)))))))
    have uAz : Cs (gl hq.heap_1_39 hq.view_1_40 w mg mb ext) 1 128 yZ := by
      refine xN (fn' := ⟨Str.ofString "resume_frame", _, ["nodes", "value", "frames", "place", "env", "first", "node", "kind", "wanted"], uJ [2]⟩) (ps := ["nodes", "value", "frames"]) (b := xDz) ⟨⟨_, _, _, _, _, _, _, _, _, _, _, _, rfl, rfl, binds3 fun s a b c => BindsTo.of_eq rfl⟩, rfl, rfl, by decide, pre_of rfl rfl⟩ (yW rfl (by decide) (by decide)) (by decide) (fun _ => rfl) (fun n c hn O => ?_) (by decide)
      exact
      (zE (qW O (.cons (.loc rfl rfl) (.cons (.loc rfl rfl) (.cons (.loc rfl rfl) .nil))) (zK O (zA O rfl rfl rfl) (zS O y9 (yI O rfl rfl rfl boot_len (by decide) rfl (zA O rfl rfl rfl) xB) zH) fun _ _ => rfl) rfl rfl)
      (zE (wWz O (zA O rfl rfl rfl) (zS O y9 (yI O rfl rfl rfl boot_len (by decide) rfl (zA O rfl rfl rfl) xB) zH))
      (zE (z0 O (.loc rfl rfl) (zK O (zA O rfl rfl rfl) (zA O rfl rfl rfl) fun _ _ => rfl) rfl)
      (zE (z0 O (.loc rfl rfl) (zK O (zA O rfl rfl rfl) zH fun _ _ => rfl) rfl)
      (zE (z5 (hJ O (zA O rfl rfl rfl))
       (zE (z5 (zQ O (z1 O) (zA O rfl rfl rfl) zL rfl)
       (zE (zY (zM O (zC zL (zC (zK O (zA O rfl rfl rfl) zH fun _ _ => rfl) (zC (zS O (z7 O) (z6 (zT O (zC (zA O rfl rfl rfl) zI rfl) (nlb rfl))) (zA O rfl rfl rfl)) zI rfl) rfl) rfl) (nlb rfl)))
       zJ)
       zJ)
       (zE (z0 O (.loc rfl rfl) zL rfl)
       (zE (z5 (zQ O (z1 O) (zA O rfl rfl rfl) zL rfl)
       (zE (z0 O (.loc rfl rfl) (zK O (zA O rfl rfl rfl) zH fun _ _ => rfl) rfl)
       zJ)
       (zE (z5 (zQ O (z1 O) (zA O rfl rfl rfl) zL rfl)
       (zE (z0 O (.loc rfl rfl) zL rfl)
       zJ)
       (zE (z5 (zQ O (z1 O) (zA O rfl rfl rfl) zL rfl)
       (zE (z0 O (.loc rfl rfl) zL rfl)
       zJ)
       (zE (z5 (qO (zQ O (z1 O) (zA O rfl rfl rfl) zL rfl) (qO (zQ O (z1 O) (zA O rfl rfl rfl) zL rfl) q4))
       (zE (z0 O (.loc rfl rfl) zL rfl)
       zJ)
       zJ)
       zJ))
       zJ))
       zJ))
       (zE (z5 (zQ O (wI O) (zK O (zA O rfl rfl rfl) zH fun _ _ => rfl) (zA O rfl rfl rfl) rfl)
       (zE (zY (zM O (zC zL (zC wW (zC (z6 (zT O zI (nlb rfl))) zI rfl) rfl) rfl) (nlb rfl)))
       zJ)
       zJ)
       (zE (z5 (zQ O (z1 O) (zA O rfl rfl rfl) zL rfl)
       (zE (zY (zM O (zC zL (zC (q3 (zQ O (z1 O) (zK O (zA O rfl rfl rfl) zH fun _ _ => rfl) zH rfl) (zK O (zA O rfl rfl rfl) zH fun _ _ => rfl) (zK O (zA O rfl rfl rfl) zH fun _ _ => rfl)) (zC (wQ O (zA O rfl rfl rfl) y6 y6) zI rfl) rfl) rfl) (nlb rfl)))
       zJ)
       zJ)
       (zE (z5 (zQ O (z1 O) (zA O rfl rfl rfl) zL rfl)
       (zE (zY (zM O (zC zL (zC (zK O (zA O rfl rfl rfl) zH fun _ _ => rfl) (zC (z6 (zT O zI (nlb rfl))) zI rfl) rfl) rfl) (nlb rfl)))
       zJ)
       zJ)
       (zE (z5 (zQ O (z1 O) (zA O rfl rfl rfl) zL rfl)
       (zE (zY (zM O (zC zL (zC (zK O (zA O rfl rfl rfl) zH fun _ _ => rfl) (zC (z6 (zT O zI (nlb rfl))) zI rfl) rfl) rfl) (nlb rfl)))
       zJ)
       zJ)
       (zE (yO (zA O rfl rfl rfl) (zM O (zC (zA O rfl rfl rfl) (zC (zA O rfl rfl rfl) (zC (zA O rfl rfl rfl) zI rfl) rfl) rfl) (nlb rfl)) rfl rfl rfl)
       (zE (zY (zM O (zC zL (zC (zK O (zA O rfl rfl rfl) zH fun _ _ => rfl) (zC (wQ O (zA O rfl rfl rfl) y6 y6) zI rfl) rfl) rfl) (nlb rfl)))
       zJ)))))))))
       zJ)
      (zE (z5 (zQ O (z1 O) (zA O rfl rfl rfl) zL rfl)
       (zE (zY (zM O (zC zL (zC (zK O (zA O rfl rfl rfl) zH fun _ _ => rfl) (zC (zS O (z7 O) (z6 (zT O (zC (zA O rfl rfl rfl) zI rfl) (nlb rfl))) (zK O (zA O rfl rfl rfl) zH fun _ _ => rfl)) zI rfl) rfl) rfl) (nlb rfl)))
       zJ)
       zJ)
      (zE (z5 (zQ O (z1 O) (zA O rfl rfl rfl) zL rfl)
       (zE (zY (zM O (zC zL (zC (zM O (zC zL (zC (zA O rfl rfl rfl) (zC (zA O rfl rfl rfl) zI rfl) rfl) rfl) (nlb rfl)) (zC (z6 (zT O zI (nlb rfl))) zI rfl) rfl) rfl) (nlb rfl)))
       zJ)
       zJ)
      (zE (z5 (zQ O (wI O) (zK O (zA O rfl rfl rfl) zH fun _ _ => rfl) zL rfl)
       (zE (zY (zM O (zC zL (zC wW (zC (z6 (zT O zI (nlb rfl))) zI rfl) rfl) rfl) (nlb rfl)))
       zJ)
       zJ)
      (zE (z5 (zQ O (z1 O) (zA O rfl rfl rfl) zL rfl)
       (zE (zY (zM O (zC zL (zC (zM O (zC zL (zC (zS O (z7 O) (zK O (zA O rfl rfl rfl) zH fun _ _ => rfl) (zK O (zA O rfl rfl rfl) zH fun _ _ => rfl)) zI rfl) rfl) (nlb rfl)) (zC (z6 (zT O zI (nlb rfl))) zI rfl) rfl) rfl) (nlb rfl)))
       zJ)
       zJ)
      (zE (zY (zM O (zC zL (zC (zM O (zC zL (zC (q3 (zQ O zIz (zK O (zA O rfl rfl rfl) zH fun _ _ => rfl) (zK O (zA O rfl rfl rfl) zH fun _ _ => rfl) rfl) zH zH) zI rfl) rfl) (nlb rfl)) (zC (z6 (zT O zI (nlb rfl))) zI rfl) rfl) rfl) (nlb rfl)))
      zJ))))))))))
    have t_run : Cs (gl hq.heap_1_39 hq.view_1_40 w mg mb ext) 2 135 xrun := by
      refine xN (fn' := ⟨Str.ofString "run", _, ["nodes", "fuel", "frames", "state"], uJ []⟩) (ps := ["nodes", "fuel"]) (b := brun) ⟨⟨_, _, _, _, _, _, _, _, _, _, _, _, rfl, rfl, vSz fun s a b => BindsTo.of_eq rfl⟩, rfl, rfl, by decide, pre_of rfl rfl⟩ (yW rfl (by decide) (by decide)) (by decide) (fun _ => rfl) (fun n c hn O => ?_) (by decide)
      exact
      (zE (wU O (.loc rfl rfl) rfl (zT O zI (nlb rfl)) rfl)
      (zE (z0 O (.loc rfl rfl) (zM O (zC zL (zC (zS O y9 (yI O rfl rfl rfl boot_len (by decide) rfl (zA O rfl rfl rfl) xB) zH) (zC (z6 (zT O zI (nlb rfl))) zI rfl) rfl) rfl) (nlb rfl)) rfl)
      (zE (zOz (zQ O wLz (zA O rfl rfl rfl) zH rfl)
       (zE (z0 O (.loc rfl rfl) (zS O y9 (zA O rfl rfl rfl) zH) rfl)
       (zE (z5 (zQ O (z1 O) (zK O (zA O rfl rfl rfl) zH fun _ _ => rfl) zL rfl)
       (zE (v6z O (.loc rfl rfl) jMz (by omega) rfl rfl rfl rfl rfl rfl (by decide) (zP (zA O rfl rfl rfl) (z3 (zK O (zA O rfl rfl rfl) zH fun _ _ => rfl) (z3 (zK O (zA O rfl rfl rfl) zH fun _ _ => rfl) (zP (zA O rfl rfl rfl) z4 rfl) rfl) rfl) rfl))
       zJ)
       (zE (v6z O (.loc rfl rfl) uAz (by omega) rfl rfl rfl rfl rfl rfl (by decide) (zP (zA O rfl rfl rfl) (z3 (zK O (zA O rfl rfl rfl) zH fun _ _ => rfl) (zP (zA O rfl rfl rfl) z4 rfl) rfl) rfl))
       zJ))
       (zE (z5 (zQ O (z1 O) (zK O (zA O rfl rfl rfl) zH fun _ _ => rfl) zL rfl)
       (zE (zY (zM O (zC zL (zC wW zI rfl) rfl) (nlb rfl)))
       zJ)
       zJ)
       (zE (z5 (xF (zQ O (z1 O) (zK O (zA O rfl rfl rfl) zH fun _ _ => rfl) zL rfl) (xF (zQ O (z1 O) (zA O rfl rfl rfl) (z6 (zT O zI (nlb rfl))) rfl) xU))
       (zE (zY (zM O (zC zL (zC (zK O (zA O rfl rfl rfl) zH fun _ _ => rfl) zI rfl) rfl) (nlb rfl)))
       zJ)
       zJ)
       zJ)))))
      (zE (zY (zM O (zC zL (zC wW zI rfl) rfl) (nlb rfl)))
      zJ))))
    have jIz : Cs (gl hq.heap_1_39 hq.view_1_40 w mg mb ext) 3 142 w0 := by
      refine xN (fn' := ⟨Str.ofString "visit_node", _, ["nodes", "place", "env", "fresh", "todo", "types", "node", "copy", "after", "child"], uJ [4, 5]⟩) (ps := ["nodes", "place", "env", "fresh", "todo", "types"]) (b := vQz) ⟨⟨_, _, _, _, _, _, _, _, _, _, _, _, rfl, rfl, binds6 fun s a b c d e f => BindsTo.of_eq rfl⟩, rfl, rfl, by decide, pre_of rfl rfl⟩ (yW rfl (by decide) (by decide)) (by decide) (fun _ => rfl) (fun n c hn O => ?_) (by decide)
      exact
      (zE (z0 O (.loc rfl rfl) (zK O (zA O rfl rfl rfl) (zA O rfl rfl rfl) fun _ _ => rfl) rfl)
      (zE (z5 (zQ O (z1 O) (zK O (zA O rfl rfl rfl) zH fun _ _ => rfl) zL rfl)
       (zE (yO (zA O rfl rfl rfl) (z6 (zT O (zC (zM O (zC zL (zC zH zI rfl) rfl) (nlb rfl)) zI rfl) (nlb rfl))) rfl rfl rfl)
       (zE (zY (zA O rfl rfl rfl))
       zJ))
       zJ)
      (zE (z5 (zQ O (z1 O) (zK O (zA O rfl rfl rfl) zH fun _ _ => rfl) zL rfl)
       (zE (yO (zA O rfl rfl rfl) (z6 (zT O (zC (zM O (zC zL (zC zH zI rfl) rfl) (nlb rfl)) zI rfl) (nlb rfl))) rfl rfl rfl)
       (zE (zY (zA O rfl rfl rfl))
       zJ))
       zJ)
      (zE (z5 (zQ O (z1 O) (zK O (zA O rfl rfl rfl) zH fun _ _ => rfl) zL rfl)
       (zE (qW O (.cons (.loc rfl rfl) (.cons (.loc rfl rfl) .nil)) (yD O qJz (by omega) rfl rfl rfl rfl rfl rfl (by decide) (z3 (zK O (zA O rfl rfl rfl) (zK O (zA O rfl rfl rfl) zH fun _ _ => rfl) fun _ _ => rfl) (zP (zA O rfl rfl rfl) z4 rfl) rfl)) rfl rfl)
       (zE (yO (zA O rfl rfl rfl) (zA O rfl rfl rfl) rfl rfl rfl)
       (zE (zY (zA O rfl rfl rfl))
       zJ)))
       zJ)
      (zE (z5 (zQ O (z1 O) (zK O (zA O rfl rfl rfl) zH fun _ _ => rfl) zL rfl)
       (zE (yO (zA O rfl rfl rfl) (zM O (zC zL (zC (zA O rfl rfl rfl) (zC (zA O rfl rfl rfl) zI rfl) rfl) rfl) (nlb rfl)) rfl rfl rfl)
       (zE (yO (zA O rfl rfl rfl) (zM O (zC zL (zC (zK O (zA O rfl rfl rfl) zH fun _ _ => rfl) (zC (zA O rfl rfl rfl) zI rfl) rfl) rfl) (nlb rfl)) rfl rfl rfl)
       (zE (zY (zA O rfl rfl rfl))
       zJ)))
       zJ)
      (zE (yO (zA O rfl rfl rfl) (zM O (zC zL (zC (zA O rfl rfl rfl) (zC (z6 (zT O zI (nlb rfl))) zI rfl) rfl) rfl) (nlb rfl)) rfl rfl rfl)
      (zE (z5 (zQ O (z1 O) (zK O (zA O rfl rfl rfl) zH fun _ _ => rfl) zL rfl)
       (zE (yO (zA O rfl rfl rfl) (z6 (zT O (zC (zM O (zC zL (zC (zA O rfl rfl rfl) zI rfl) rfl) (nlb rfl)) zI rfl) (nlb rfl))) rfl rfl rfl)
       (zE (yO (zA O rfl rfl rfl) (zM O (zC zL (zC (zK O (zA O rfl rfl rfl) zH fun _ _ => rfl) (zC (zS O (z7 O) (z6 (zT O (zC (zM O (zC (z6 (zT O zI (nlb rfl))) (zC (z6 (zT O (zC (zM O (zC zL (zC (zA O rfl rfl rfl) zI rfl) rfl) (nlb rfl)) zI rfl) (nlb rfl))) zI rfl) rfl) (nlb rfl)) zI rfl) (nlb rfl))) (zA O rfl rfl rfl)) zI rfl) rfl) rfl) (nlb rfl)) rfl rfl rfl)
       (zE (zY (zS O (z7 O) (zA O rfl rfl rfl) zH))
       zJ)))
       zJ)
      (zE (qB O (vF O (.loc rfl rfl)) (SimE_rev O (yD O yIz (by omega) rfl rfl rfl rfl rfl rfl (by decide) (zP (zA O rfl rfl rfl) z4 rfl)))
       (zE (yO (zA O rfl rfl rfl) (zM O (zC zL (zC (zA O rfl rfl rfl) (zC (zA O rfl rfl rfl) zI rfl) rfl) rfl) (nlb rfl)) rfl rfl rfl)
       zJ)
       (fun _ => rfl))
      (zE (zY (zA O rfl rfl rfl))
      zJ)))))))))
    have jKz : Cs (gl hq.heap_1_39 hq.view_1_40 w mg mb ext) 4 149 uX := by
      refine xN (fn' := ⟨Str.ofString "join_types", _, ["kind", "parts", "s", "fresh", "fuel", "same", "v", "maker", "wanted", "tested", "once", "both", "after", "taken"], uJ []⟩) (ps := ["kind", "parts", "s", "fresh", "fuel"]) (b := vRz) ⟨⟨_, _, _, _, _, _, _, _, _, _, _, _, rfl, rfl, binds5 fun s a b c d e => BindsTo.of_eq rfl⟩, rfl, rfl, by decide, pre_of rfl rfl⟩ (yW rfl (by decide) (by decide)) (by decide) (fun _ => rfl) (fun n c hn O => ?_) (by decide)
      exact
      (zE (z5 (qO (zQ O (z1 O) (zA O rfl rfl rfl) zL rfl) (qO (zQ O (z1 O) (zA O rfl rfl rfl) zL rfl) q4))
       (zE (xGz O (.loc rfl rfl) rfl)
       (zE (qB O (vF O (.loc rfl rfl)) (zA O rfl rfl rfl)
       (zE (zPz O (zA O rfl rfl rfl) (zA O rfl rfl rfl) (wQ O (zK O (zA O rfl rfl rfl) (zA O rfl rfl rfl) fun _ _ => rfl) y6 y6) rfl)
       zJ)
       (fun _ => rfl))
       (zE (z0 O (.loc rfl rfl) (q3 (zQ O (z1 O) (zA O rfl rfl rfl) zL rfl) (zM O (zC zL (zC zH zI rfl) rfl) (nlb rfl)) (zM O (zC zL (zC zH zI rfl) rfl) (nlb rfl))) rfl)
       (zE (v7z O.G (zY (zM O (zC (zS O (z7 O) (zS O (z7 O) (zK O (zA O rfl rfl rfl) zH fun _ _ => rfl) (zK O (zA O rfl rfl rfl) zH fun _ _ => rfl)) (z6 (zT O (zC (zA O rfl rfl rfl) zI rfl) (nlb rfl)))) (zC (zA O rfl rfl rfl) (zC (zA O rfl rfl rfl) zI rfl) rfl) rfl) (nlb rfl))))
       zJ))))
       zJ)
      (zE (z5 (zQ O (z1 O) (zA O rfl rfl rfl) zL rfl)
       (zE (z0 O (.loc rfl rfl) (zS O (z7 O) (zK O (zA O rfl rfl rfl) zH fun _ _ => rfl) (z6 (zT O (zC (zM O (zC zL (zC (zA O rfl rfl rfl) zI rfl) rfl) (nlb rfl)) (zC (zM O (zC zL (zC zH zI rfl) rfl) (nlb rfl)) zI rfl) rfl) (nlb rfl)))) rfl)
       (zE (zY (zM O (zC (z6 (zT O (zC (zM O (zC zL (zC (zA O rfl rfl rfl) zI rfl) rfl) (nlb rfl)) zI rfl) (nlb rfl))) (zC (yD O xOz (by omega) rfl rfl rfl rfl rfl rfl (by decide) (z3 (zK O (zA O rfl rfl rfl) zH fun _ _ => rfl) (zP (zA O rfl rfl rfl) (zP (zA O rfl rfl rfl) (zP (zA O rfl rfl rfl) z4 rfl) rfl) rfl) rfl)) (zC (zS O (z7 O) (zA O rfl rfl rfl) zH) zI rfl) rfl) rfl) (nlb rfl)))
       zJ))
       zJ)
      (zE (z5 (zQ O (z1 O) (zA O rfl rfl rfl) zL rfl)
       (zE (z0 O (.loc rfl rfl) (yD O xOz (by omega) rfl rfl rfl rfl rfl rfl (by decide) (z3 (zK O (zA O rfl rfl rfl) zH fun _ _ => rfl) (z3 (z6 (zT O (zC (zM O (zC zL (zC zH zI rfl) rfl) (nlb rfl)) zI rfl) (nlb rfl))) (zP (zA O rfl rfl rfl) (zP (zA O rfl rfl rfl) z4 rfl) rfl) rfl) rfl)) rfl)
       (zE (zY (zM O (zC (wQ O (zK O (zA O rfl rfl rfl) zH fun _ _ => rfl) y6 y6) (zC (yD O xOz (by omega) rfl rfl rfl rfl rfl rfl (by decide) (z3 (zK O (zA O rfl rfl rfl) zH fun _ _ => rfl) (z3 (zK O (zA O rfl rfl rfl) zH fun _ _ => rfl) (zP (zA O rfl rfl rfl) (zP (zA O rfl rfl rfl) z4 rfl) rfl) rfl) rfl)) (zC (zA O rfl rfl rfl) zI rfl) rfl) rfl) (nlb rfl)))
       zJ))
       zJ)
      (zE (z5 (qO (zQ O (z1 O) (zA O rfl rfl rfl) zL rfl) (qO (zQ O (z1 O) (zA O rfl rfl rfl) zL rfl) q4))
       (zE (z0 O (.loc rfl rfl) (yD O xOz (by omega) rfl rfl rfl rfl rfl rfl (by decide) (z3 (zK O (zA O rfl rfl rfl) zH fun _ _ => rfl) (z3 (z6 (zT O (zC (zM O (zC zL (zC zH zI rfl) rfl) (nlb rfl)) zI rfl) (nlb rfl))) (zP (zA O rfl rfl rfl) (zP (zA O rfl rfl rfl) z4 rfl) rfl) rfl) rfl)) rfl)
       (zE (z0 O (.loc rfl rfl) (yD O xOz (by omega) rfl rfl rfl rfl rfl rfl (by decide) (z3 (zK O (zA O rfl rfl rfl) zH fun _ _ => rfl) (z3 (z6 (zT O (zC (zM O (zC zL (zC zH zI rfl) rfl) (nlb rfl)) zI rfl) (nlb rfl))) (zP (zA O rfl rfl rfl) (zP (zA O rfl rfl rfl) z4 rfl) rfl) rfl) rfl)) rfl)
       (zE (zY (zM O (zC (q3 (zQ O (z1 O) (zA O rfl rfl rfl) zL rfl) (z6 (zT O (zC (zM O (zC zL (zC zH zI rfl) rfl) (nlb rfl)) zI rfl) (nlb rfl))) (z6 (zT O (zC (zM O (zC zL (zC zH zI rfl) rfl) (nlb rfl)) zI rfl) (nlb rfl)))) (zC (zA O rfl rfl rfl) (zC (zA O rfl rfl rfl) zI rfl) rfl) rfl) (nlb rfl)))
       zJ)))
       zJ)
      (zE (z0 O (.loc rfl rfl) (z6 (zT O (zC (zM O (zC zL (zC (zA O rfl rfl rfl) zI rfl) rfl) (nlb rfl)) (zC (zM O (zC zL (zC (zS O (z7 O) (zA O rfl rfl rfl) zH) zI rfl) rfl) (nlb rfl)) (zC (zM O (zC zL (zC zH zI rfl) rfl) (nlb rfl)) zI rfl) rfl) rfl) (nlb rfl))) rfl)
      (zE (z0 O (.loc rfl rfl) (yD O xOz (by omega) rfl rfl rfl rfl rfl rfl (by decide) (z3 (zK O (zA O rfl rfl rfl) zH fun _ _ => rfl) (zP (zA O rfl rfl rfl) (zP (zA O rfl rfl rfl) (zP (zA O rfl rfl rfl) z4 rfl) rfl) rfl) rfl)) rfl)
      (zE (z0 O (.loc rfl rfl) (q3 (zQ O (z1 O) (zA O rfl rfl rfl) zL rfl) (zA O rfl rfl rfl) (zS O (z7 O) (zA O rfl rfl rfl) zH)) rfl)
      (zE (zY (zM O (zC (z6 (zT O (zC (zM O (zC zL (zC (zA O rfl rfl rfl) zI rfl) rfl) (nlb rfl)) zI rfl) (nlb rfl))) (zC (zA O rfl rfl rfl) (zC (zS O (z7 O) (zA O rfl rfl rfl) zH) zI rfl) rfl) rfl) (nlb rfl)))
      zJ))))))))
    have t_infer : Cs (gl hq.heap_1_39 hq.view_1_40 w mg mb ext) 5 156 kP := by
      refine xN (fn' := ⟨Str.ofString "infer", _, ["nodes", "fuel", "todo", "types", "s", "fresh", "task", "place", "env", "node", "scheme", "count", "parts", "joined"], uJ []⟩) (ps := ["nodes", "fuel"]) (b := binfer) ⟨⟨_, _, _, _, _, _, _, _, _, _, _, _, rfl, rfl, vSz fun s a b => BindsTo.of_eq rfl⟩, rfl, rfl, by decide, pre_of rfl rfl⟩ (yW rfl (by decide) (by decide)) (by decide) (fun _ => rfl) (fun n c hn O => ?_) (by decide)
      exact
      (zE (wU O (.loc rfl rfl) rfl (zT O (zC (zM O (zC zL (zC (zS O y9 (yI O rfl rfl rfl boot_len (by decide) rfl (zA O rfl rfl rfl) xB) zH) (zC (z6 (zT O zI (nlb rfl))) zI rfl) rfl) rfl) (nlb rfl)) zI rfl) (nlb rfl)) rfl)
      (zE (wU O (.loc rfl rfl) rfl (zT O zI (nlb rfl)) rfl)
      (zE (z0 O (.loc rfl rfl) (SimE_dict O) rfl)
      (zE (z0 O (.loc rfl rfl) zH rfl)
      (zE (zOz (zQ O (wI O) (zA O rfl rfl rfl) (z6 (zT O zI (nlb rfl))) rfl)
       (zE (z5 (zQ O hVz (zA O rfl rfl rfl) zH rfl)
       (zE (j7 O (fun _ => rfl) rfl y7z rfl rfl)
       zJ)
       zJ)
       (zE (z0 O (.loc rfl rfl) (zS O y9 (zA O rfl rfl rfl) zH) rfl)
       (zE (qW O (.cons (.loc rfl rfl) (.cons (.loc rfl rfl) (.cons (.loc rfl rfl) .nil))) (zK O (zA O rfl rfl rfl) (zS O y9 (yI O rfl rfl rfl boot_len (by decide) rfl (zA O rfl rfl rfl) xB) zH) fun _ _ => rfl) rfl rfl)
       (zE (wWz O (zA O rfl rfl rfl) (zS O y9 (yI O rfl rfl rfl boot_len (by decide) rfl (zA O rfl rfl rfl) xB) zH))
       (zE (z0 O (.loc rfl rfl) (zK O (zA O rfl rfl rfl) (zA O rfl rfl rfl) fun _ _ => rfl) rfl)
       (zE (z5 (zQ O (z1 O) (zA O rfl rfl rfl) zL rfl)
       (zE (v6z O (.loc rfl rfl) jIz (by omega) rfl rfl rfl rfl rfl rfl (by decide) (zP (zA O rfl rfl rfl) (zP (zA O rfl rfl rfl) (zP (zA O rfl rfl rfl) (zP (zA O rfl rfl rfl) (zP (zA O rfl rfl rfl) (zP (zA O rfl rfl rfl) z4 rfl) rfl) rfl) rfl) rfl) rfl))
       zJ)
       (zE (z5 (zQ O (z1 O) (zA O rfl rfl rfl) zL rfl)
       (zE (z0 O (.loc rfl rfl) (yD O jLz (by omega) rfl rfl rfl rfl rfl rfl (by decide) (z3 (zK O (zA O rfl rfl rfl) (zS O y9 (yI O rfl rfl rfl boot_len (by decide) rfl (zA O rfl rfl rfl) xB) zH) fun _ _ => rfl) (zP (zA O rfl rfl rfl) (zP (zA O rfl rfl rfl) z4 rfl) rfl) rfl)) rfl)
       (zE (wWz O (zA O rfl rfl rfl) (zS O y9 (yI O rfl rfl rfl boot_len (by decide) rfl (zA O rfl rfl rfl) xB) zH))
       (zE (yO (zA O rfl rfl rfl) (zM O (zC zL (zC (zK O (zA O rfl rfl rfl) zH fun _ _ => rfl) (zC (zS O (z7 O) (z6 (zT O (zC (zA O rfl rfl rfl) zI rfl) (nlb rfl))) (zA O rfl rfl rfl)) zI rfl) rfl) rfl) (nlb rfl)) rfl rfl rfl)
       zJ)))
       (zE (z0 O (.loc rfl rfl) (q3 (zQ O (z1 O) (zK O (zA O rfl rfl rfl) zH fun _ _ => rfl) zL rfl) zH (yI O rfl rfl rfl boot_len (by decide) rfl (yD O yIz (by omega) rfl rfl rfl rfl rfl rfl (by decide) (zP (zA O rfl rfl rfl) z4 rfl)) xB)) rfl)
       (zE (z0 O (.loc rfl rfl) (wQ O (zA O rfl rfl rfl) (qK O (zS O y9 (yI O rfl rfl rfl boot_len (by decide) rfl (zA O rfl rfl rfl) xB) (zA O rfl rfl rfl))) y6) rfl)
       (zE (kNz O (zA O rfl rfl rfl) (zS O y9 (yI O rfl rfl rfl boot_len (by decide) rfl (zA O rfl rfl rfl) xB) (zA O rfl rfl rfl)))
       (zE (qW O (.cons (.loc rfl rfl) (.cons (.loc rfl rfl) (.cons (.loc rfl rfl) .nil))) (yD O jKz (by omega) rfl rfl rfl rfl rfl rfl (by decide) (z3 (zK O (zA O rfl rfl rfl) zH fun _ _ => rfl) (zP (zA O rfl rfl rfl) (zP (zA O rfl rfl rfl) (zP (zA O rfl rfl rfl) (zP (zA O rfl rfl rfl) z4 rfl) rfl) rfl) rfl) rfl)) rfl rfl)
       (zE (yO (zA O rfl rfl rfl) (zA O rfl rfl rfl) rfl rfl rfl)
       zJ))))))
       zJ))
       zJ)))))))
      (zE (zY (yD O k1z (by omega) rfl rfl rfl rfl rfl rfl (by decide) (z3 (yD O wYz (by omega) rfl rfl rfl rfl rfl rfl (by decide) (z3 (zK O (zA O rfl rfl rfl) zH fun _ _ => rfl) (zP (zA O rfl rfl rfl) z4 rfl) rfl)) z4 rfl)))
      zJ))))))
    have vR : Cs (gl hq.heap_1_39 hq.view_1_40 w mg mb ext) 1 331 xC := by
      refine xN (fn' := ⟨Str.ofString "_law_pick", _, ["x", "n"], uJ []⟩) (ps := ["x", "n"]) (b := vZz) ⟨⟨_, _, _, _, _, _, _, _, _, _, _, _, rfl, rfl, vSz fun s a b => BindsTo.of_eq rfl⟩, rfl, rfl, by decide, pre_of rfl rfl⟩ (yW rfl (by decide) (by decide)) (by decide) (fun _ => rfl) (fun n c hn O => ?_) (by decide)
      exact
      (zE (zY (zS O yQz (zA O rfl rfl rfl) (zA O rfl rfl rfl)))
      zJ)
    have zWq : Cs (gl hq.heap_1_39 hq.view_1_40 w mg mb ext) 1 338 z0z := by
      refine xN (fn' := ⟨Str.ofString "_law_seed", _, ["which", "n"], uJ []⟩) (ps := ["which", "n"]) (b := vYz) ⟨⟨_, _, _, _, _, _, _, _, _, _, _, _, rfl, rfl, vSz fun s a b => BindsTo.of_eq rfl⟩, rfl, rfl, by decide, pre_of rfl rfl⟩ (yW rfl (by decide) (by decide)) (by decide) (fun _ => rfl) (fun n c hn O => ?_) (by decide)
      exact
      (zE (z5 (zQ O zIz (zA O rfl rfl rfl) zH rfl)
       (zE (zY (zM O (zC (z6 (zT O (zC (zM O (zC zL (zC (zA O rfl rfl rfl) (zC zH (zC zH zI rfl) rfl) rfl) rfl) (nlb rfl)) zI rfl) (nlb rfl))) (zC (z6 (zT O (zC (zM O (zC zL (zC zH zI rfl) rfl) (nlb rfl)) zI rfl) (nlb rfl))) (zC zL (zC (z6 (zT O (zC zH zI rfl) (nlb rfl))) (zC (zM O (zC zL (zC (zA O rfl rfl rfl) zI rfl) rfl) (nlb rfl)) (zC zH zI rfl) rfl) rfl) rfl) rfl) rfl) (nlb rfl)))
       zJ)
       zJ)
      (zE (z5 (zQ O (z1 O) (zA O rfl rfl rfl) zH rfl)
       (zE (zY (zM O (zC (z6 (zT O (zC (zM O (zC zL (zC (zS O yQz (zA O rfl rfl rfl) zH) (zC zH (zC zH zI rfl) rfl) rfl) rfl) (nlb rfl)) zI rfl) (nlb rfl))) (zC (z6 (zT O (zC (zM O (zC zL (zC zH zI rfl) rfl) (nlb rfl)) zI rfl) (nlb rfl))) (zC zL (zC (z6 (zT O (zC zH zI rfl) (nlb rfl))) (zC (zM O (zC zL (zC (zS O yQz (zA O rfl rfl rfl) zH) zI rfl) rfl) (nlb rfl)) (zC zH zI rfl) rfl) rfl) rfl) rfl) rfl) (nlb rfl)))
       zJ)
       zJ)
      (zE (zY (zK O (xIz O rfl qOz rfl rfl) (zS O y9 (zA O rfl rfl rfl) zH) fun _ _ => rfl))
      zJ)))
    have uKz : Cs (gl hq.heap_1_39 hq.view_1_40 w mg mb ext) 1 345 w8 := by
      refine xN (fn' := ⟨Str.ofString "_law_grow", _, ["nodes", "kind", "extras", "pos", "subject", "lit", "kids", "i"], uJ []⟩) (ps := ["nodes", "kind", "extras", "pos", "subject", "lit"]) (b := v0z) ⟨⟨_, _, _, _, _, _, _, _, _, _, _, _, rfl, rfl, binds6 fun s a b c d e f => BindsTo.of_eq rfl⟩, rfl, rfl, by decide, pre_of rfl rfl⟩ (yW rfl (by decide) (by decide)) (by decide) (fun _ => rfl) (fun n c hn O => ?_) (by decide)
      exact
      (zE (wU O (.loc rfl rfl) rfl (zT O zI (nlb rfl)) rfl)
      (zE (v8z O rfl rfl rfl (vF O (.loc rfl rfl)) (yI O rfl rfl rfl boot_len (by decide) rfl (zA O rfl rfl rfl) xB)
       (zE (yO (zA O rfl rfl rfl) (yI O rfl rfl rfl boot_len (by decide) rfl (zA O rfl rfl rfl) xB) rfl rfl rfl)
       (zE (z5 (zQ O (z1 O) (zK O (zA O rfl rfl rfl) (zA O rfl rfl rfl) fun _ _ => rfl) zL rfl)
       (zE (z0 O (.loc rfl rfl) (zS O (z7 O) (zA O rfl rfl rfl) (z6 (zT O (zC (zM O (zC zL (zC (zS O yQz (zA O rfl rfl rfl) zH) (zC zH (zC zH zI rfl) rfl) rfl) rfl) (nlb rfl)) zI rfl) (nlb rfl)))) rfl)
       zJ)
       (zE (z0 O (.loc rfl rfl) (zS O (z7 O) (zA O rfl rfl rfl) (z6 (zT O (zC (zM O (zC zL (zC (zS O (z7 O) (zA O rfl rfl rfl) (zA O rfl rfl rfl)) (zC zH (zC zH zI rfl) rfl) rfl) rfl) (nlb rfl)) zI rfl) (nlb rfl)))) rfl)
       zJ))
       zJ)))
      (zE (wU O (.loc rfl rfl) rfl (zNq O (zS O (z7 O) (zS O (z7 O) (wQ O (zA O rfl rfl rfl) y6 (qK O (zA O rfl rfl rfl))) (z6 (zT O (zC (zA O rfl rfl rfl) zI rfl) (nlb rfl)))) (wQ O (zA O rfl rfl rfl) (qK O (zA O rfl rfl rfl)) y6)) (z6 (zT O (zC zH (zC zH zI rfl) rfl) (nlb rfl)))) rfl)
      (zE (zY (zS O (z7 O) (zA O rfl rfl rfl) (z6 (zT O (zC (zM O (zC (zA O rfl rfl rfl) (zC (zK O (zA O rfl rfl rfl) zH fun _ _ => rfl) (zC (zK O (zA O rfl rfl rfl) zH fun _ _ => rfl) (zC (zK O (zA O rfl rfl rfl) zH fun _ _ => rfl) zI rfl) rfl) rfl) rfl) (nlb rfl)) zI rfl) (nlb rfl)))))
      zJ))))
    have wXz : Cs (gl hq.heap_1_39 hq.view_1_40 w mg mb ext) 1 352 jI := by
      refine xN (fn' := ⟨Str.ofString "_law_split", _, ["t", "done", "item"], uJ []⟩) (ps := ["t"]) (b := x9z) ⟨⟨_, _, _, _, _, _, _, _, _, _, _, _, rfl, rfl, u6z fun s a => BindsTo.of_eq rfl⟩, rfl, rfl, by decide, pre_of rfl rfl⟩ (yW rfl (by decide) (by decide)) (by decide) (fun _ => rfl) (fun n c hn O => ?_) (by decide)
      exact
      (zE (z0 O (.loc rfl rfl) (z6 (zT O zI (nlb rfl))) rfl)
      (zE (qB O (vF O (.loc rfl rfl)) (wQ O (zA O rfl rfl rfl) y6 (qK O (xHz O zH)))
       (zE (z5 (qO (zQ O (z1 O) (zK O (zA O rfl rfl rfl) zH fun _ _ => rfl) zL rfl) (qO (zQ O (z1 O) (zK O (zA O rfl rfl rfl) zH fun _ _ => rfl) zL rfl) q4))
       (zE (z0 O (.loc rfl rfl) (zS O (z7 O) (wQ O (zA O rfl rfl rfl) y6 (qK O (xHz O zH))) (z6 (zT O (zC (zS O (z7 O) (zS O (z7 O) (zK O (zA O rfl rfl rfl) (xHz O zH) fun _ _ => rfl) (zK O (zA O rfl rfl rfl) (xHz O zH) fun _ _ => rfl)) (z6 (zT O (zC (zA O rfl rfl rfl) zI rfl) (nlb rfl)))) zI rfl) (nlb rfl)))) rfl)
       zJ)
       (zE (z0 O (.loc rfl rfl) (zS O (z7 O) (zA O rfl rfl rfl) (z6 (zT O (zC (z6 (zT O (zC (zA O rfl rfl rfl) zI rfl) (nlb rfl))) zI rfl) (nlb rfl)))) rfl)
       zJ))
       zJ)
       (fun _ => rfl))
      (zE (zY (zA O rfl rfl rfl))
      zJ)))
    have zVq : Cs (gl hq.heap_1_39 hq.view_1_40 w mg mb ext) 2 359 v9 := by
      refine xN (fn' := ⟨Str.ofString "_law_type", _, ["kind", "pos", "need", "t", "base"], uJ []⟩) (ps := ["kind", "pos", "need", "t", "base"]) (b := vXz) ⟨⟨_, _, _, _, _, _, _, _, _, _, _, _, rfl, rfl, binds5 fun s a b c d e => BindsTo.of_eq rfl⟩, rfl, rfl, by decide, pre_of rfl rfl⟩ (yW rfl (by decide) (by decide)) (by decide) (fun _ => rfl) (fun n c hn O => ?_) (by decide)
      exact
      (zE (z5 (xF (zQ O (wI O) (zA O rfl rfl rfl) zL rfl) (xF (zQ O (wI O) (zK O (zK O (zA O rfl rfl rfl) (xHz O zH) fun _ _ => rfl) zH fun _ _ => rfl) (zA O rfl rfl rfl) rfl) xU))
       (zE (zY wW)
       zJ)
       zJ)
      (zE (z5 (zQ O (z1 O) (zA O rfl rfl rfl) zL rfl)
       (zE (zY (zK O (yD O wXz (by omega) rfl rfl rfl rfl rfl rfl (by decide) (zP (zA O rfl rfl rfl) z4 rfl)) zH fun _ _ => rfl))
       zJ)
       zJ)
      (zE (z5 (zQ O (z1 O) (zA O rfl rfl rfl) zL rfl)
       (zE (zY (zK O (yD O wXz (by omega) rfl rfl rfl rfl rfl rfl (by decide) (zP (zA O rfl rfl rfl) z4 rfl)) zH fun _ _ => rfl))
       zJ)
       zJ)
      (zE (z5 (xF (zQ O (z1 O) (zA O rfl rfl rfl) zL rfl) (xF (zQ O (z1 O) (zA O rfl rfl rfl) zH rfl) xU))
       (zE (zY (zS O (z7 O) (zA O rfl rfl rfl) (z6 (zT O (zC (zM O (zC zL (zC zH zI rfl) rfl) (nlb rfl)) (zC (zM O (zC zL (zC zH zI rfl) rfl) (nlb rfl)) zI rfl) rfl) (nlb rfl)))))
       zJ)
       zJ)
      (zE (z5 (zQ O (z1 O) (zA O rfl rfl rfl) zL rfl)
       (zE (zY (zS O (z7 O) (zS O (z7 O) (z6 (zT O (zC (zM O (zC zL (zC zH zI rfl) rfl) (nlb rfl)) zI rfl) (nlb rfl))) (zA O rfl rfl rfl)) (z6 (zT O (zC (zM O (zC zL (zC zH zI rfl) rfl) (nlb rfl)) zI rfl) (nlb rfl)))))
       zJ)
       zJ)
      (zE (z5 (zQ O (z1 O) (zA O rfl rfl rfl) zL rfl)
       (zE (zY (zS O (z7 O) (zS O (z7 O) (z6 (zT O (zC (zM O (zC zL (zC (zA O rfl rfl rfl) zI rfl) rfl) (nlb rfl)) zI rfl) (nlb rfl))) (zA O rfl rfl rfl)) (z6 (zT O (zC (zM O (zC zL (zC zH zI rfl) rfl) (nlb rfl)) zI rfl) (nlb rfl)))))
       zJ)
       zJ)
      (zE (z5 (zQ O (z1 O) (zA O rfl rfl rfl) zL rfl)
       (zE (zY (z6 (zT O (zC (zM O (zC zL (zC zH zI rfl) rfl) (nlb rfl)) zI rfl) (nlb rfl))))
       zJ)
       zJ)
      (zE (zY (z6 (zT O (zC (zM O (zC zL (zC zH zI rfl) rfl) (nlb rfl)) zI rfl) (nlb rfl))))
      zJ))))))))
    have kZz : Cs (gl hq.heap_1_39 hq.view_1_40 w mg mb ext) 1 366 qC := by
      refine xN (fn' := ⟨Str.ofString "_law_pairs", _, ["need", "road", "bad"], uJ []⟩) (ps := ["need", "road", "bad"]) (b := wAz) ⟨⟨_, _, _, _, _, _, _, _, _, _, _, _, rfl, rfl, binds3 fun s a b c => BindsTo.of_eq rfl⟩, rfl, rfl, by decide, pre_of rfl rfl⟩ (yW rfl (by decide) (by decide)) (by decide) (fun _ => rfl) (fun n c hn O => ?_) (by decide)
      exact
      (zE (z5 (xF (zQ O (z1 O) (zA O rfl rfl rfl) zH rfl) (xF (qCz O (zA O rfl rfl rfl) rfl) xU))
       (zE (zY zH)
       zJ)
       zJ)
      (zE (z5 (xF (zQ O (z1 O) (zA O rfl rfl rfl) zH rfl) (xF (zQ O (z1 O) (zA O rfl rfl rfl) zL rfl) xU))
       (zE (zY zH)
       zJ)
       zJ)
      (zE (z5 (zQ O (z1 O) (zA O rfl rfl rfl) zH rfl)
       (zE (zY zH)
       zJ)
       zJ)
      (zE (z5 (zQ O (z1 O) (zA O rfl rfl rfl) zL rfl)
       (zE (zY zH)
       zJ)
       zJ)
      (zE (z5 (xF (zQ O (z1 O) (zA O rfl rfl rfl) zL rfl) (xF (zQq (qCz O (zA O rfl rfl rfl) rfl)) xU))
       (zE (zY zH)
       zJ)
       zJ)
      (zE (zY zH)
      zJ))))))
    have jJz : Cs (gl hq.heap_1_39 hq.view_1_40 w mg mb ext) 1 373 wR := by
      refine xN (fn' := ⟨Str.ofString "_law_act", _, ["kind", "pos", "v", "s", "lit", "place", "env", "low", "high"], uJ []⟩) (ps := ["kind", "pos", "v", "s", "lit", "place", "env"]) (b := u7z) ⟨⟨_, _, _, _, _, _, _, _, _, _, _, _, rfl, rfl, binds7 fun s a b c d e f g => BindsTo.of_eq rfl⟩, rfl, rfl, by decide, pre_of rfl rfl⟩ (yW rfl (by decide) (by decide)) (by decide) (fun _ => rfl) (fun n c hn O => ?_) (by decide)
      exact
      (zE (z5 (zQ O (z1 O) (zA O rfl rfl rfl) zL rfl)
       (zE (zY (zM O (zC (zM O (zC zL (zC (zA O rfl rfl rfl) (zC (zA O rfl rfl rfl) zI rfl) rfl) rfl) (nlb rfl)) (zC zH zI rfl) rfl) (nlb rfl)))
       zJ)
       zJ)
      (zE (z5 (xF (zQ O (z1 O) (zA O rfl rfl rfl) zL rfl) (xF (zQ O wLz (zA O rfl rfl rfl) zH rfl) xU))
       (zE (z5 (zQ O (wI O) (zS O (z7 O) (zS O yQz (zA O rfl rfl rfl) zH) (zA O rfl rfl rfl)) zH rfl)
       (zE (zY (zM O (zC (zM O (zC zL (zC (zS O (z7 O) (zA O rfl rfl rfl) zH) zI rfl) rfl) (nlb rfl)) (zC zH zI rfl) rfl) (nlb rfl)))
       zJ)
       zJ)
       (zE (zY (zM O (zC (zA O rfl rfl rfl) (zC (zS O (z7 O) zH (zA O rfl rfl rfl)) zI rfl) rfl) (nlb rfl)))
       zJ))
       zJ)
      (zE (z5 (hJ O (zA O rfl rfl rfl))
       (zE (zY (zM O (zC wW (zC (zS O (z7 O) (zS O (z7 O) (zA O rfl rfl rfl) zH) (zS O (zHz O) zH (zA O rfl rfl rfl))) zI rfl) rfl) (nlb rfl)))
       zJ)
       zJ)
      (zE (z5 (xF (zQ O (z1 O) (zA O rfl rfl rfl) zL rfl) (xF (zQ O (z1 O) (zA O rfl rfl rfl) zH rfl) xU))
       (zE (zY (zM O (zC (zM O (zC zL (zC (zA O rfl rfl rfl) (zC (zM O (zC zL (zC (zA O rfl rfl rfl) zI rfl) rfl) (nlb rfl)) zI rfl) rfl) rfl) (nlb rfl)) (zC (zS O (z7 O) (zA O rfl rfl rfl) zH) zI rfl) rfl) (nlb rfl)))
       zJ)
       zJ)
      (zE (z5 (zQ O (z1 O) (zA O rfl rfl rfl) zL rfl)
       (zE (zY (zM O (zC (zM O (zC zL (zC (zM O (zC zL (zC (zA O rfl rfl rfl) zI rfl) rfl) (nlb rfl)) (zC (zA O rfl rfl rfl) zI rfl) rfl) rfl) (nlb rfl)) (zC (zS O (z7 O) (zA O rfl rfl rfl) zH) zI rfl) rfl) (nlb rfl)))
       zJ)
       zJ)
      (zE (z5 (qO (zQ O (z1 O) (zA O rfl rfl rfl) zL rfl) (qO (zQ O (z1 O) (zA O rfl rfl rfl) zL rfl) q4))
       (zE (z5 (zQ O (wI O) (zK O (zA O rfl rfl rfl) zH fun _ _ => rfl) zL rfl)
       (zE (zY (zM O (zC wW (zC (zS O (z7 O) (zA O rfl rfl rfl) zH) zI rfl) rfl) (nlb rfl)))
       zJ)
       zJ)
       (zE (z5 (zQ O (z1 O) (zA O rfl rfl rfl) zL rfl)
       (zE (zY (zM O (zC (zK O (zA O rfl rfl rfl) zH fun _ _ => rfl) (zC (zS O (z7 O) (zA O rfl rfl rfl) zH) zI rfl) rfl) (nlb rfl)))
       zJ)
       zJ)
       (zE (zY (zM O (zC (zK O (zA O rfl rfl rfl) zH fun _ _ => rfl) (zC (zS O (z7 O) (zA O rfl rfl rfl) zH) zI rfl) rfl) (nlb rfl)))
       zJ)))
       zJ)
      (zE (z5 (zQ O (z1 O) (zA O rfl rfl rfl) zL rfl)
       (zE (z5 (zQ O (wI O) (zK O (zA O rfl rfl rfl) zH fun _ _ => rfl) zL rfl)
       (zE (zY (zM O (zC wW (zC (zS O (z7 O) (zA O rfl rfl rfl) zH) zI rfl) rfl) (nlb rfl)))
       zJ)
       zJ)
       (zE (zY (zM O (zC (zM O (zC zL (zC (zS O y9 (zS O (z7 O) (zA O rfl rfl rfl) zH) (zK O (zA O rfl rfl rfl) zH fun _ _ => rfl)) zI rfl) rfl) (nlb rfl)) (zC (zS O (z7 O) (zA O rfl rfl rfl) zH) zI rfl) rfl) (nlb rfl)))
       zJ))
       zJ)
      (zE (z5 (zQ O (wI O) (zK O (zA O rfl rfl rfl) zH fun _ _ => rfl) zL rfl)
       (zE (zY (zM O (zC wW (zC (zS O (z7 O) (zS O (z7 O) (zA O rfl rfl rfl) zH) (zS O (zHz O) zH (zA O rfl rfl rfl))) zI rfl) rfl) (nlb rfl)))
       zJ)
       zJ)
      (zE (z5 (zQ O (z1 O) (zA O rfl rfl rfl) zL rfl)
       (zE (zY (zM O (zC (zM O (zC zL (zC (zS O (z7 O) (zK O (zA O rfl rfl rfl) zH fun _ _ => rfl) (zA O rfl rfl rfl)) zI rfl) rfl) (nlb rfl)) (zC (zS O (z7 O) (zA O rfl rfl rfl) zH) zI rfl) rfl) (nlb rfl)))
       zJ)
       zJ)
      (zE (qAz O (.cons (.loc rfl rfl) (.cons (.loc rfl rfl) .nil)) (zM O (zC (zK O (zA O rfl rfl rfl) zH fun _ _ => rfl) (zC (zA O rfl rfl rfl) zI rfl) rfl) (nlb rfl)) rfl rfl)
      (zE (z5 (zQ O (z1 O) (zA O rfl rfl rfl) zH rfl)
       (zE (qAz O (.cons (.loc rfl rfl) (.cons (.loc rfl rfl) .nil)) (zM O (zC (zA O rfl rfl rfl) (zC (zK O (zA O rfl rfl rfl) zH fun _ _ => rfl) zI rfl) rfl) (nlb rfl)) rfl rfl)
       zJ)
       zJ)
      (zE (z5 (zQ O zIz (zA O rfl rfl rfl) (zA O rfl rfl rfl) rfl)
       (zE (zY (zM O (zC (zM O (zC zL (zC zH zI rfl) rfl) (nlb rfl)) (zC (zS O (z7 O) (zA O rfl rfl rfl) zH) zI rfl) rfl) (nlb rfl)))
       zJ)
       zJ)
      (zE (zY (zM O (zC (zM O (zC zL (zC zH zI rfl) rfl) (nlb rfl)) (zC (zS O (z7 O) (zA O rfl rfl rfl) zH) zI rfl) rfl) (nlb rfl)))
      zJ)))))))))))))
    have uJz : Cs (gl hq.heap_1_39 hq.view_1_40 w mg mb ext) 3 380 v8 := by
      refine xN (fn' := ⟨Str.ofString "_law_wrap", _, ["made", "which", "road", "lit", "base", "nodes", "t", "err", "trace", "v", "steps", "kind", "extras", "pos", "need", "spot", "ahead", "behind", "level", "body", "inner", "more"], uJ []⟩) (ps := ["made", "which", "road", "lit", "base"]) (b := vWz) ⟨⟨_, _, _, _, _, _, _, _, _, _, _, _, rfl, rfl, binds5 fun s a b c d e => BindsTo.of_eq rfl⟩, rfl, rfl, by decide, pre_of rfl rfl⟩ (yW rfl (by decide) (by decide)) (by decide) (fun _ => rfl) (fun n c hn O => ?_) (by decide)
      exact
      (zE (qW O (.cons (.loc rfl rfl) (.cons (.loc rfl rfl) (.cons (.loc rfl rfl) (.cons (.loc rfl rfl) (.cons (.loc rfl rfl) (.cons (.loc rfl rfl) .nil)))))) (zA O rfl rfl rfl) rfl rfl)
      (zE (qW O (.cons (.loc rfl rfl) (.cons (.loc rfl rfl) (.cons (.loc rfl rfl) (.cons (.loc rfl rfl) .nil)))) (zK O (xIz O rfl k4z rfl rfl) (zA O rfl rfl rfl) fun _ _ => rfl) rfl rfl)
      (zE (z0 O (.loc rfl rfl) (zS O y9 (yI O rfl rfl rfl boot_len (by decide) rfl (zA O rfl rfl rfl) xB) zH) rfl)
      (zE (z0 O (.loc rfl rfl) (zS O (zHz O) (z6 (zT O (zC zH zI rfl) (nlb rfl))) (zS O (z7 O) zH (zA O rfl rfl rfl))) rfl)
      (zE (z0 O (.loc rfl rfl) (zS O (zHz O) (z6 (zT O (zC zH zI rfl) (nlb rfl))) (zS O y9 (yI O rfl rfl rfl boot_len (by decide) rfl (zA O rfl rfl rfl) xB) (zA O rfl rfl rfl))) rfl)
      (zE (z5 (zQ O (z1 O) (zA O rfl rfl rfl) zH rfl)
       (zE (z0 O (.loc rfl rfl) (yD O uKz (by omega) rfl rfl rfl rfl rfl rfl (by decide) (zP (zA O rfl rfl rfl) (zP (zA O rfl rfl rfl) (zP (zA O rfl rfl rfl) (zP (zA O rfl rfl rfl) (zP (zA O rfl rfl rfl) (zP (zA O rfl rfl rfl) z4 rfl) rfl) rfl) rfl) rfl) rfl)) rfl)
       (zE (qW O (.cons (.loc rfl rfl) (.cons (.loc rfl rfl) .nil)) (yD O jJz (by omega) rfl rfl rfl rfl rfl rfl (by decide) (zP (zA O rfl rfl rfl) (zP (zA O rfl rfl rfl) (zP (zA O rfl rfl rfl) (zP (zA O rfl rfl rfl) (zP (zA O rfl rfl rfl) (zP (zA O rfl rfl rfl) (z3 (z6 (zT O zI (nlb rfl))) z4 rfl) rfl) rfl) rfl) rfl) rfl) rfl)) rfl rfl)
       zJ))
       (zE (z0 O (.loc rfl rfl) zH rfl)
       (zE (z5 (zQ O (z1 O) (zA O rfl rfl rfl) zL rfl)
       (zE (z0 O (.loc rfl rfl) zH rfl)
       zJ)
       zJ)
       (zE (z0 O (.loc rfl rfl) (yD O uKz (by omega) rfl rfl rfl rfl rfl rfl (by decide) (z3 (zS O (z7 O) (zA O rfl rfl rfl) (z6 (zT O (zC (zM O (zC zL (zC (zA O rfl rfl rfl) (zC zH (zC zH zI rfl) rfl) rfl) rfl) (nlb rfl)) zI rfl) (nlb rfl)))) (zP (zA O rfl rfl rfl) (zP (zA O rfl rfl rfl) (zP (zA O rfl rfl rfl) (z3 (zS O (z7 O) (zA O rfl rfl rfl) zH) (zP (zA O rfl rfl rfl) z4 rfl) rfl) rfl) rfl) rfl) rfl)) rfl)
       (zE (z0 O (.loc rfl rfl) (zS O y9 (yI O rfl rfl rfl boot_len (by decide) rfl (zA O rfl rfl rfl) xB) zH) rfl)
       (zE (z5 (zQ O (z1 O) (zA O rfl rfl rfl) zH rfl)
       (zE (z0 O (.loc rfl rfl) (zS O (z7 O) (zA O rfl rfl rfl) (z6 (zT O (zC (zM O (zC zL (zC (zA O rfl rfl rfl) (zC (zA O rfl rfl rfl) (zC zH zI rfl) rfl) rfl) rfl) (nlb rfl)) zI rfl) (nlb rfl)))) rfl)
       (zE (z0 O (.loc rfl rfl) (zS O (z7 O) (zS O (z7 O) (zS O (z7 O) (z6 (zT O (zC zH zI rfl) (nlb rfl))) (zA O rfl rfl rfl)) (z6 (zT O (zC zH zI rfl) (nlb rfl)))) (zA O rfl rfl rfl)) rfl)
       (zE (z0 O (.loc rfl rfl) (z6 (zT O (zC zH zI rfl) (nlb rfl))) rfl)
       zJ)))
       (zE (z0 O (.loc rfl rfl) (zS O (z7 O) (zA O rfl rfl rfl) (z6 (zT O (zC (zM O (zC zL (zC (zA O rfl rfl rfl) (zC zH (zC zH zI rfl) rfl) rfl) rfl) (nlb rfl)) (zC (zM O (zC zL (zC (zS O (z7 O) (zA O rfl rfl rfl) zH) (zC (zA O rfl rfl rfl) (zC zH zI rfl) rfl) rfl) rfl) (nlb rfl)) zI rfl) rfl) (nlb rfl)))) rfl)
       (zE (z0 O (.loc rfl rfl) zH rfl)
       (zE (z5 (zQ O (z1 O) (zA O rfl rfl rfl) zL rfl)
       (zE (z0 O (.loc rfl rfl) zH rfl)
       zJ)
       zJ)
       (zE (z0 O (.loc rfl rfl) (zS O (z7 O) (zS O (z7 O) (zS O (z7 O) (zS O (z7 O) (z6 (zT O (zC zH (zC zH zI rfl) rfl) (nlb rfl))) (zA O rfl rfl rfl)) (z6 (zT O (zC zH zI rfl) (nlb rfl)))) (zA O rfl rfl rfl)) (z6 (zT O (zC (zA O rfl rfl rfl) (zC zH zI rfl) rfl) (nlb rfl)))) rfl)
       (zE (z0 O (.loc rfl rfl) (z6 (zT O zI (nlb rfl))) rfl)
       zJ))))))
       (zE (z5 (hJ O (zA O rfl rfl rfl))
       (zE (z0 O (.loc rfl rfl) (zS O y9 (zS O (z7 O) (zA O rfl rfl rfl) (zS O (zHz O) zH (zA O rfl rfl rfl))) zH) rfl)
       zJ)
       (zE (qW O (.cons (.loc rfl rfl) (.cons (.loc rfl rfl) .nil)) (yD O jJz (by omega) rfl rfl rfl rfl rfl rfl (by decide) (zP (zA O rfl rfl rfl) (zP (zA O rfl rfl rfl) (zP (zA O rfl rfl rfl) (z3 zH (zP (zA O rfl rfl rfl) (z3 (zS O (z7 O) (zA O rfl rfl rfl) zH) (z3 (z6 (zT O (zC (zA O rfl rfl rfl) zI rfl) (nlb rfl))) z4 rfl) rfl) rfl) rfl) rfl) rfl) rfl)) rfl rfl)
       (zE (z0 O (.loc rfl rfl) (zS O (z7 O) (zS O (z7 O) (zA O rfl rfl rfl) (zS O (zHz O) zH (zA O rfl rfl rfl))) (zA O rfl rfl rfl)) rfl)
       zJ)))
       zJ)))))))
      (zE (z0 O (.loc rfl rfl) (zS O (z7 O) (zA O rfl rfl rfl) (zA O rfl rfl rfl)) rfl)
      (zE (z5 (zQ O (z1 O) (zA O rfl rfl rfl) zL rfl)
       (zE (z0 O (.loc rfl rfl) (yD O zVq (by omega) rfl rfl rfl rfl rfl rfl (by decide) (zP (zA O rfl rfl rfl) (zP (zA O rfl rfl rfl) (zP (zA O rfl rfl rfl) (zP (zA O rfl rfl rfl) (zP (zA O rfl rfl rfl) z4 rfl) rfl) rfl) rfl) rfl)) rfl)
       (zE (z0 O (.loc rfl rfl) (zS O (z7 O) (zS O (z7 O) (zA O rfl rfl rfl) (zA O rfl rfl rfl)) (z6 (zT O (zC (yD O kZz (by omega) rfl rfl rfl rfl rfl rfl (by decide) (zP (zA O rfl rfl rfl) (zP (zA O rfl rfl rfl) (z3 (hKz O (zA O rfl rfl rfl)) z4 rfl) rfl) rfl)) zI rfl) (nlb rfl)))) rfl)
       (zE (z5 (hJ O (zA O rfl rfl rfl))
       (zE (z0 O (.loc rfl rfl) zL rfl)
       zJ)
       zJ)
       zJ)))
       zJ)
      (zE (zY (zM O (zC (zA O rfl rfl rfl) (zC (zA O rfl rfl rfl) (zC (zA O rfl rfl rfl) (zC (zA O rfl rfl rfl) (zC (zA O rfl rfl rfl) (zC (zA O rfl rfl rfl) zI rfl) rfl) rfl) rfl) rfl) rfl) (nlb rfl)))
      zJ)))))))))
    have k0z : Cs (gl hq.heap_1_39 hq.view_1_40 w mg mb ext) 1 387 jJ := by
      refine xN (fn' := ⟨Str.ofString "_law_canon", _, ["t", "seen", "out", "name", "n"], uJ []⟩) (ps := ["t"]) (b := wBz) ⟨⟨_, _, _, _, _, _, _, _, _, _, _, _, rfl, rfl, u6z fun s a => BindsTo.of_eq rfl⟩, rfl, rfl, by decide, pre_of rfl rfl⟩ (yW rfl (by decide) (by decide)) (by decide) (fun _ => rfl) (fun n c hn O => ?_) (by decide)
      exact
      (zE (wU O (.loc rfl rfl) rfl (zT O zI (nlb rfl)) rfl)
      (zE (wU O (.loc rfl rfl) rfl (zT O zI (nlb rfl)) rfl)
      (zE (qB O (yEq O (.cons (.loc rfl rfl) (.cons (.loc rfl rfl) .nil))) (zA O rfl rfl rfl)
       (zE (z5 (zQ O (z1 O) (zA O rfl rfl rfl) zL rfl)
       (zE (z5 (zQ O q7 (zA O rfl rfl rfl) (zA O rfl rfl rfl) rfl)
       (zE (yO (zA O rfl rfl rfl) (zA O rfl rfl rfl) rfl rfl rfl)
       zJ)
       zJ)
       (zE (yO (zA O rfl rfl rfl) (zM O (zC zL (zC (yGq O (zA O rfl rfl rfl) (zA O rfl rfl rfl) rfl z5z rfl) zI rfl) rfl) (nlb rfl)) rfl rfl rfl)
       zJ))
       (zE (yO (zA O rfl rfl rfl) (zM O (zC (zA O rfl rfl rfl) (zC zH zI rfl) rfl) (nlb rfl)) rfl rfl rfl)
       zJ))
       zJ)
       (fun _ => rfl))
      (zE (v7z O.G (zY (zA O rfl rfl rfl)))
      zJ))))
    refine ⟨_, _, ⟨_, _, _, _, _, _, _, _, _, _, _, _, rfl⟩, h8z (xc := "trace") rfl (by decide) (by decide) (hXz (by decide)), fun _ => rfl, hXz (by decide), rfl, rfl, ?_⟩
    intro h₁ cc P bm ob c hcls B M hcode hA ho hbase O
    exact
    (xE B (z5 (zQ O zIz (yI O rfl rfl rfl boot_len (by decide) rfl (zA O rfl rfl rfl) xB) zH rfl)
     (zE (zY qL)
     zJ)
     zJ)
    (xE B (z0 O (.loc rfl rfl) (zK O (zA O rfl rfl rfl) zH fun _ _ => rfl) rfl)
    (xE B (z0 O (.loc rfl rfl) (yD O zWq (by omega) rfl rfl rfl rfl rfl rfl (by decide) (z3 (yD O vR (by omega) rfl rfl rfl rfl rfl rfl (by decide) (z3 (zK O (zA O rfl rfl rfl) zH fun _ _ => rfl) (z3 zH z4 rfl) rfl)) (zP (zA O rfl rfl rfl) z4 rfl) rfl)) rfl)
    (xE B (z0 O (.loc rfl rfl) (yD O uJz (by omega) rfl rfl rfl rfl rfl rfl (by decide) (zP (zA O rfl rfl rfl) (z3 (yD O vR (by omega) rfl rfl rfl rfl rfl rfl (by decide) (z3 (zK O (zA O rfl rfl rfl) zH fun _ _ => rfl) (z3 zH z4 rfl) rfl)) (z3 (yD O vR (by omega) rfl rfl rfl rfl rfl rfl (by decide) (z3 (zK O (zA O rfl rfl rfl) zH fun _ _ => rfl) (z3 zH z4 rfl) rfl)) (z3 (zS O y9 (zS O (z7 O) (zA O rfl rfl rfl) (yD O vR (by omega) rfl rfl rfl rfl rfl rfl (by decide) (z3 (zK O (zA O rfl rfl rfl) zH fun _ _ => rfl) (z3 zH z4 rfl) rfl))) zH) (z3 zH z4 rfl) rfl) rfl) rfl) rfl)) rfl)
    (xE B (z0 O (.loc rfl rfl) (yD O uJz (by omega) rfl rfl rfl rfl rfl rfl (by decide) (zP (zA O rfl rfl rfl) (z3 (yD O vR (by omega) rfl rfl rfl rfl rfl rfl (by decide) (z3 (zK O (zA O rfl rfl rfl) zH fun _ _ => rfl) (z3 zH z4 rfl) rfl)) (z3 (yD O vR (by omega) rfl rfl rfl rfl rfl rfl (by decide) (z3 (zK O (zA O rfl rfl rfl) zH fun _ _ => rfl) (z3 zH z4 rfl) rfl)) (z3 (zS O y9 (zS O (z7 O) (zA O rfl rfl rfl) (yD O vR (by omega) rfl rfl rfl rfl rfl rfl (by decide) (z3 (zK O (zA O rfl rfl rfl) zH fun _ _ => rfl) (z3 zH z4 rfl) rfl))) zH) (z3 zH z4 rfl) rfl) rfl) rfl) rfl)) rfl)
    (xE B (qW O (.cons (.loc rfl rfl) (.cons (.loc rfl rfl) (.cons (.loc rfl rfl) (.cons (.cel rfl rfl) (.cons (.loc rfl rfl) (.cons (.loc rfl rfl) .nil)))))) (zA O rfl rfl rfl) rfl rfl)
    (xE B (z0 O (.loc rfl rfl) (wQ O (zA O rfl rfl rfl) y6 y6) rfl)
    (xE B (z0 O (.loc rfl rfl) (yI O rfl rfl rfl boot_max (by decide) rfl (hLz O rfl rfl rfl rfl rfl (by decide) rfl (by decide) rfl (fun _ => rfl) (fun _ => rfl) rfl (yI O rfl rfl rfl boot_len (by decide) rfl (qBz O rfl rfl rfl) xB) rfl rfl rfl) (prim_max O)) rfl)
    (xE B (z0 O (.loc rfl rfl) (zS O (z7 O) (zA O rfl rfl rfl) (zK O (xIz O rfl kX rfl rfl) (yD O vR (by omega) rfl rfl rfl rfl rfl rfl (by decide) (z3 (zK O (zA O rfl rfl rfl) zH fun _ _ => rfl) (z3 zH z4 rfl) rfl)) fun _ _ => rfl)) rfl)
    (xE B (z0 O (.loc rfl rfl) (zA O rfl rfl rfl) rfl)
    (xE B (z5 (zQ O zIz (zA O rfl rfl rfl) (zA O rfl rfl rfl) rfl)
     (zE (z0 O (.loc rfl rfl) zL rfl)
     zJ)
     zJ)
    (xE B (z0 O (.loc rfl rfl) wW rfl)
    (xE B (z0 O (.loc rfl rfl) zL rfl)
    (xE B (SimS_try O hbase (.loc rfl rfl) t_infer (by omega) rfl rfl rfl rfl rfl rfl (by decide) (z3 (zA O rfl rfl rfl) (z3 (zA O rfl rfl rfl) z4 rfl) rfl) kKz hcls3 (.cons rfl rfl rfl uDz rfl rfl (.cons rfl rfl rfl vJz rfl rfl (.cons rfl rfl rfl q2z rfl rfl .nil))))
    (xE B (z5 (zQ O (wI O) (zA O rfl rfl rfl) (zA O rfl rfl rfl) rfl)
     (zE (zY qL)
     zJ)
     zJ)
    (xE B (z5 (zQ O (wI O) (zA O rfl rfl rfl) (zA O rfl rfl rfl) rfl)
     (zE (zY qL)
     zJ)
     zJ)
    (yFq O hA ho B hcls (all_gen O B M hcode hcls rfl rfl (by decide) rfl rfl rfl (by decide) rfl rfl rfl rfl (zA O rfl rfl rfl) (fun _ => rfl) rfl rfl rfl rfl) (zQ O (z1 O) (zA O rfl rfl rfl) zL rfl) (z5 (zQ O (wI O) (zA O rfl rfl rfl) (yD O k0z (by omega) rfl rfl rfl rfl rfl rfl (by decide) (zP (zA O rfl rfl rfl) z4 rfl)) rfl)
     (zE (zY qL)
     zJ)
     zJ)
    (fun c' ps O hbase _ _ _ _ B => SimEnd_of B
    (zE (z0 O (.loc rfl rfl) (zS O (z7 O) (zA O rfl rfl rfl) (zK O (xIz O rfl kX rfl rfl) (yD O vR (by omega) rfl rfl rfl rfl rfl rfl (by decide) (z3 (zK O (zA O rfl rfl rfl) zH fun _ _ => rfl) (z3 zH z4 rfl) rfl)) fun _ _ => rfl)) rfl)
     (zE (z0 O (.loc rfl rfl) (zM O (zC zL (zC (zA O rfl rfl rfl) zI rfl) rfl) (nlb rfl)) rfl)
     (zE (z5 (zQ O zIz (zA O rfl rfl rfl) (zA O rfl rfl rfl) rfl)
     (zE (z0 O (.loc rfl rfl) (zM O (zC zL (zC wW zI rfl) rfl) (nlb rfl)) rfl)
     zJ)
     (zE (z5 (hJ O (zA O rfl rfl rfl))
     (zE (z0 O (.loc rfl rfl) (zM O (zC zL (zC wW zI rfl) rfl) (nlb rfl)) rfl)
     zJ)
     zJ)
     zJ))
     (zE (z0 O (.loc rfl rfl) (yD O t_run (by omega) rfl rfl rfl rfl rfl rfl (by decide) (zP (zA O rfl rfl rfl) (zP (zA O rfl rfl rfl) z4 rfl) rfl)) rfl)
     (zE (z5 (zQ O (wI O) (zA O rfl rfl rfl) (zA O rfl rfl rfl) rfl)
     (zE (zY qL)
     zJ)
     zJ)
     (zE (z5 (xF (zQ O (z1 O) (zK O (zA O rfl rfl rfl) zH fun _ _ => rfl) zL rfl) (xF (zQ O (z1 O) (yI O rfl rfl rfl boot_len (by decide) rfl (zK O (zA O rfl rfl rfl) zH fun _ _ => rfl) xB) zH rfl) xU))
     (zE (z5 (zQq (yHq O rfl (zK O (zK O (zA O rfl rfl rfl) zH fun _ _ => rfl) zH fun _ _ => rfl) rfl rfl rfl rfl))
     (zE (zY qL)
     zJ)
     zJ)
     zJ)
     zJ)
     (zE (z5 (zQ O (wI O) (zA O rfl rfl rfl) (zA O rfl rfl rfl) rfl)
     (zE (zY qL)
     zJ)
     zJ)
     (zE (zY qL)
     zJ))))))))) hbase)))))))))))))))))
  have classed : ∀ (w : World) {a : Addr} {o : Obj} (h : o.cls ≠ .none), kb_classed (hq.heap_1_39 w.params ++ [(a, o)]) = true := by
    intro w a o h
    have h1 : kb_classed (hq.heap_1_39 w.params) = true := by first | with_unfolding_all rfl | kernel_rfl
    unfold kb_classed at *
    rw [List.all_append, h1]
    simp [h]
  k_fill
  intro w s₀ s₁ mg mb G Y fa o pm cd doc dV kV ho hd' hcd hD hmg hg args vals as hpre hlay hrd hwl hlo
  have KX := kIn_of Y
  refine Ground.open G ?_
  intro T B D TE TW
  try (refine guard_noD D (by decide +kernel) ?_; clear D)
  obtain ⟨bm, ob, M⟩ := bmod_of_top T
  have TA := at_of_top T
  obtain ⟨cc, P, he, B0⟩ := based_of_top T rfl hmg ho hd'
  have he' : cd = _ := he
  subst he'
  have hmg' := hmg
  clear he hmg
  wrow_args hpre hlay hrd hwl hlo
  all_goals (
    first | refine callC_kw (enter_call ?_) | refine enter_call ?_ | refine callC_kw (enter_callW ?_) | refine enter_callW ?_ | w_how
    w_top on
    w_call any ho hd' hcd hD T F)
  rename List Int => ns
  rename IntsAre _ _ => hI
  rename Well _ _ _ _ => hW
  rename Heap.IsList _ _ _ => hL
  rename ¬ _ < _ => hlen
  rename News _ _ _ _ => N0
  rename CellsAre _ _ _ => X0
  obtain ⟨τ, hx⟩ := Pl.plain ns (by omega)
  obtain ⟨_, hb⟩ := law_runs hx
  rename_i hs hlay0 hLy hr1 hl2 as5 as4 a vs as1 ra r0 hr0 hcond h₁ tk₁ oc hcell hleft
  obtain ⟨vs', hobj⟩ : ∃ vs', s₁.heap.get? a = some (x4z vs' 0) := by
    generalize hq : ofPy (PyData.list (ns.map PyData.int)) = d at hW
    cases hW with
    | list h1 _ => exact ⟨_, h1⟩
    | _ => simp [ofPy] at hq
  obtain rfl : vs' = vs := by
    obtain ⟨o', h1, _, nn, h2⟩ := hL
    rw [hobj] at h1; cases h1
    injection h2 with h2
    simpa using h2
  let ext : Frag := [(a, x4z vs' 0)]
  let c : Dy := ⟨callerA, s₁.heap, s₁.heap, [], s₁.heap.objs.size, fa, .ref cc⟩
  have hcls := classed w (a := a) (o := x4z vs' 0) (by simp)
  have hroom : callerA.depth + 2 + 30 < recursionLimit := by decide
  have hunits : callerA.units + 8 * 30 + 300 < cLine := by decide
  obtain ⟨scope, body, hLA, hLS⟩ := law_sim w mg mb ext
  obtain ⟨oc', od', osl', name', params', dV', kV', doc', pm', an', cdv', ct', hK⟩ := hLA
  have hfa : fa = 392 := by
    have h1 := mg_of KX T.g (n := Str.ofString "law") (v := .ref 392) (by with_unfolding_all rfl)
    rw [hmg'] at h1
    injection h1 with h1; injection h1
  have hobj' := KX _ _ hK
  rw [← hfa, ho] at hobj'
  injection hobj' with hobj'
  rw [hobj'] at hd'
  injection hd' with hd'
  injection hd' with e1 e2 e3 e4 e5
  injection e4 with e4
  subst e4
  subst e5
  refine law_enter (Γ := gl hq.heap_1_39 hq.view_1_40 w mg mb ext) (c := c) (nm := qVz) (h₁ := s₁.heap) (α := fun _ => 0) (fz := []) ⟨below_caller s₁.heap, in_ext KX hobj, topRead_of T, rfl, hroom, hunits, hLS.good⟩ (fun O => hLS.sim hcls B0 M rfl rfl rfl rfl O) hb ?st ?bare PassesOwn.leaving ?kfin
  case bare => exact .of_eq hg
  case kfin =>
    intro s' hos hold hbare
    refine ⟨.inl ⟨.bool true, .bool true, [], rfl, ?raises, ?reads, ?post, fun _ => ⟨.nil, fun _ h => nomatch h⟩⟩, hold, hos, hbare⟩
    case raises => intro cls; rfl
    case reads => exact .bool true
    case post => first | rfl | wrow_post
  case st =>
    refine ⟨_, fun i => (qVz[i]?).bind fun x => if x = Str.ofString "trace" then none else (if x = Str.ofString "script" then some (Value.ref a) else none), ⟨F, News.nil, fun i x hi hx => ?_, fun i x hi hx => ?_, fun i d hd => ?_, fun i sl h => ?_, fun i j sl sl' h => ?_⟩⟩
    · have hne : x ≠ Str.ofString "trace" := fun e => by
        rw [e] at hx
        exact absurd (hx.symm.trans hLS.cel) (by intro q; cases q)
      rw [hi]
      show _ = (if x = Str.ofString "trace" then none else (if x = Str.ofString "script" then some (Value.ref a) else none))
      rw [if_neg hne]
      rfl
    · obtain rfl := hLS.one x hx
      refine ⟨s₁.heap.objs.size + 1, oc, ?_, (N0 _ (.head _)).1, ?_, ⟨(N0 _ (.head _)).2.1, (N0 _ (.head _)).2.2, fun _ hp => nomatch hp⟩, fun j sl h => ?_⟩
      · exact (congrArg (fun l : List (Str × Addr) => l.lookup (Str.ofString "trace")) (hLS.cells (s₁.heap.objs.size + 1))).trans (by simp [List.lookup])
      · rw [hcell, hi]
        rfl
      · have h1 := v4 h.1
        cases j with
        | zero => simp at h1; subst h1; cases h.2
        | succ j => simp at h1
    · have h1 := v4 hd
      cases i with
      | zero =>
        simp at h1; subst h1
        exact ⟨.ref a, rfl, Rep.list (.inl (z0q KX hobj)) (z4z hI)⟩
      | succ i => simp at h1
    · have h1 := v4 h.1
      cases i with
      | zero => simp at h1; subst h1; cases h.2
      | succ i => simp at h1
    · have h1 := v4 h.1
      cases i with
      | zero => simp at h1; subst h1; cases h.2
      | succ i => simp at h1
end Mine
end
theorem PySem.Challenge.cw_sx_zprincipal_4_holds : PySem.Challenge.rw_sx_zprincipal_4.Holds :=
  Mine.hq
