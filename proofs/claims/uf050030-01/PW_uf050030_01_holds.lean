import PyProof.Rows.All
import Wide.All
import OpenK.AllK
import Wide.FinOn
import PyProof.P3Eq
import KE.KSortAsk
import PyProof.Rows.Top
import PyProof.Rows.RowHeap
import PyProof.TupleKey
import PyProof.DictRoadsH
import PyProof.Rows.CatchOwn
import PyProof.Rows.RuleN_isinstance
import PyProof.ExcAttrAll.ValueError
import PySem.Challenge.RW_uf050030_01
set_option Elab.async false
section
/-! M1: a small evaluator of my own (values, store, expressions, statements). -/
set_option genSizeOf false
set_option genSizeOfSpec false
namespace Mine
open PySem PySem.W

/-- a value: plain data, a list or dict of this activation's own, a def, a dict handed in, an exception caught -/
inductive V where
  | d (x : PyData)
  | ref (n : Nat)
  | fn (f : Nat)
  | pd (ks vs : List PyData)
  | ex (c : Nat)
  /-- data that may share lists with what this activation changes: looked at, never kept -/
  | tmp (x : PyData)
  | undef

inductive O where
  | list (xs : List V)
  | dict (ks : List PyData) (vs : List V)

inductive R (α : Type) where
  | ok (a : α)
  | exc (c : Nat)
  | stuck

abbrev St := List O
abbrev Rho := List V

noncomputable def R.bind {α β : Type} : R α → (α → R β) → R β
  | .ok a, f => f a
  | .exc c, _ => .exc c
  | .stuck, _ => .stuck
@[simp] theorem R.bind_ok {α β : Type} (a : α) (f : α → R β) : (R.ok a).bind f = f a := rfl
@[simp] theorem R.bind_exc {α β : Type} (c : Nat) (f : α → R β) : (R.exc c : R α).bind f = .exc c := rfl
@[simp] theorem R.bind_stuck {α β : Type} (f : α → R β) : (R.stuck : R α).bind f = .stuck := rfl
noncomputable def ofO {α : Type} : Option α → R α
  | some a => .ok a
  | none => .stuck
@[simp] theorem ofO_some {α : Type} (a : α) : ofO (some a) = .ok a := rfl
@[simp] theorem ofO_none {α : Type} : ofO (none : Option α) = .stuck := rfl

/-! structural sameness of data -/
mutual
noncomputable def sameD : PyData → PyData → Bool
  | .none, .none => true
  | .bool a, .bool b => a == b
  | .int a, .int b => a == b
  | .str a, .str b => a == b
  | .list a, .list b => sameDs a b
  | .tuple a, .tuple b => sameDs a b
  | _, _ => false
noncomputable def sameDs : List PyData → List PyData → Bool
  | [], [] => true
  | a :: r, b :: t => sameD a b && sameDs r t
  | _, _ => false
end
mutual
theorem sameD_eq : ∀ (a b : PyData), sameD a b = true → a = b
  | .none, b, h => by cases b <;> simp_all [sameD]
  | .bool x, b, h => by cases b <;> simp_all [sameD]
  | .int x, b, h => by cases b <;> simp_all [sameD]
  | .str x, b, h => by cases b <;> simp_all [sameD]
  | .list x, b, h => by
    cases b with
    | list y => rw [sameDs_eq x y (by simpa [sameD] using h)]
    | _ => simp [sameD] at h
  | .tuple x, b, h => by
    cases b with
    | tuple y => rw [sameDs_eq x y (by simpa [sameD] using h)]
    | _ => simp [sameD] at h
  | .dict x, b, h => by cases b <;> simp [sameD] at h
theorem sameDs_eq : ∀ (a b : List PyData), sameDs a b = true → a = b
  | [], b, h => by cases b <;> simp_all [sameDs]
  | x :: r, b, h => by
    cases b with
    | nil => simp [sameDs] at h
    | cons y t =>
      simp only [sameDs, Bool.and_eq_true] at h
      rw [sameD_eq x y h.1, sameDs_eq r t h.2]
end
noncomputable def sameV : V → V → Bool
  | .d a, .d b => sameD a b
  | .ref a, .ref b => a == b
  | _, _ => false
noncomputable def sameVs : List V → List V → Bool
  | [], [] => true
  | a :: r, b :: t => sameV a b && sameVs r t
  | _, _ => false
theorem sameV_eq {a b : V} (h : sameV a b = true) : a = b := by
  cases a <;> cases b <;> simp_all [sameV]
  exact sameD_eq _ _ h
theorem sameVs_eq : ∀ {a b : List V}, sameVs a b = true → a = b
  | [], b, h => by cases b <;> simp_all [sameVs]
  | x :: r, b, h => by
    cases b with
    | nil => simp [sameVs] at h
    | cons y t =>
      simp only [sameVs, Bool.and_eq_true] at h
      rw [sameV_eq h.1, sameVs_eq h.2]

/-! resolving references -/
noncomputable def allO {α β : Type} (f : α → Option β) : List α → Option (List β)
  | [] => some []
  | a :: r => match f a, allO f r with
    | some b, some t => some (b :: t)
    | _, _ => none
noncomputable def rv (σ : St) : Nat → V → Option PyData
  | 0, .d x => some x
  | 0, _ => none
  | k + 1, v => match v with
    | .d x => some x
    | .tmp x => some x
    | .ref n => (match σ[n]? with
      | some (.list xs) => (allO (rv σ k) xs).map .list
      | _ => none)
    | _ => none
noncomputable def res (σ : St) (v : V) : Option PyData := rv σ 2 v
@[simp] theorem res_d (σ : St) (x : PyData) : res σ (.d x) = some x := rfl
/-- a value handed to a def -/
noncomputable def argV (σ : St) : V → Option V
  | .d x => some (.d x)
  | .tmp x => some (.d x)
  | .fn f => some (.fn f)
  | .pd a b => some (.pd a b)
  | .ref n => (match σ[n]? with
    | some (.list xs) => (allO (rv σ 2) xs).map fun l => .d (.list l)
    | some (.dict ks vs) => (allO (rv σ 2) vs).map fun l => .pd ks l
    | none => none)
  | _ => none
noncomputable def isRef : V → Bool
  | .ref _ => true
  | .tmp _ => true
  | _ => false
/-- it may be kept -/
noncomputable def stor : V → Bool
  | .tmp _ => false
  | .undef => false
  | _ => true
mutual
/-- no list in it -/
noncomputable def flat : PyData → Bool
  | .list _ => false
  | .dict _ => false
  | .tuple xs => flats xs
  | _ => true
noncomputable def flats : List PyData → Bool
  | [] => true
  | x :: r => flat x && flats r
end

/-! operations on data -/
inductive Bop where | add | sub | mul | mod | fdiv | pow
  deriving DecidableEq
inductive Cop where | eq | ne | lt | le | gt | ge | isin | notin
  deriving DecidableEq
inductive B1 where | len | int | abs | all | any | min | max | sorted | list | tuple | str
  deriving DecidableEq
inductive B2 where | min | max
  deriving DecidableEq
inductive Ty where | tuple | list | int | bool
  deriving DecidableEq

noncomputable def okD (x : PyData) : Bool := x.canLay0 && decide (x.depth ≤ 60)
noncomputable def eqD (a b : PyData) : Option Bool := if okD a && okD b then some (PyData.eqv a b) else none
mutual
/-- g: greater in place of less -/
noncomputable def ordD (g : Bool) : PyData → PyData → Option Bool
  | .int a, .int b => some (if g then decide (b < a) else decide (a < b))
  | .tuple xs, .tuple ys => ordDs g xs ys
  | .list xs, .list ys => ordDs g xs ys
  | _, _ => none
noncomputable def ordDs (g : Bool) : List PyData → List PyData → Option Bool
  | [], [] => some false
  | [], _ :: _ => some !g
  | _ :: _, [] => some g
  | x :: xs, y :: ys => if PyData.eqv x y then ordDs g xs ys else ordD g x y
end
noncomputable def ltD (g : Bool) (a b : PyData) : Option Bool := if okD a && okD b then ordD g a b else none

noncomputable def binD : Bop → PyData → PyData → Option PyData
  | .add, .int a, .int b => some (.int (a + b))
  | .add, .list a, .list b => if a.length + b.length ≤ sizeLine then some (.list (a ++ b)) else none
  | .sub, .int a, .int b => some (.int (a - b))
  | .mul, .int a, .int b => if a.natAbs < 2 ^ 64 || b.natAbs < 2 ^ 64 then some (.int (a * b)) else none
  | .mod, .int a, .int b => if b = 0 then none else some (.int (a.fmod b))
  | .fdiv, .int a, .int b => if b = 0 then none else if b.natAbs < 1073741824 then some (.int (a.fdiv b)) else none
  | .pow, .int a, .int b => if 0 ≤ b && b ≤ 1000 && decide (a.natAbs < 2 ^ 64) then some (.int (a ^ b.toNat)) else none
  | _, _, _ => none

noncomputable def seqD : PyData → Option (List PyData)
  | .list xs => some xs
  | .tuple xs => some xs
  | _ => none
/-- the items of a sequence -/
noncomputable def seqV (σ : St) : V → Option (List V)
  | .d x => (seqD x).map fun l => l.map V.d
  | .ref n => (match σ[n]? with
    | some (.list xs) => some xs
    | _ => none)
  | _ => none
noncomputable def at? (xs : List V) (k : Int) : Option V :=
  if 0 ≤ k then xs[k.toNat]? else if 0 ≤ k + xs.length then xs[(k + xs.length).toNat]? else none
/-- a slice's bound, clamped -/
noncomputable def clampI (n : Nat) (k : Int) : Nat := if k < 0 then (k + n).toNat else min k.toNat n
noncomputable def sliceL {α : Type} (xs : List α) (lo hi : Option Int) : List α :=
  let a := match lo with | some k => clampI xs.length k | none => 0
  let b := match hi with | some k => clampI xs.length k | none => xs.length
  (xs.drop a).take (b - a)

/-! sorting: the model's own way, run with a pure comparison -/
noncomputable def kasRun {α : Type} (cmp : Nat → Nat → Option Bool) : KasT α → Option α
  | .ret a => some a
  | .ask i j k => match cmp i j with
    | some true => kasRun cmp (k true)
    | some false => kasRun cmp (k false)
    | none => none
/-- what a sort compares: all tuples, or all lists -/
noncomputable def kindD : PyData → Nat
  | .tuple (_ :: _) => 1
  | .list _ => 2
  | _ => 0
noncomputable def sortD (xs : List PyData) : Option (List Nat) :=
  if xs.length < 2 then some (List.range xs.length)
  else if 64 ≤ xs.length then none
  else match xs with
    | [] => none
    | x :: _ =>
      if kindD x != 0 && xs.all (fun y => kindD y == kindD x && okD y) then
        (kasRun (fun i j => match xs[i]?, xs[j]? with
          | some a, some b => ltD false a b
          | _, _ => none) (kas_sort xs.length)).map Array.toList
      else none

noncomputable def minGo (g : Bool) (b : PyData) : List PyData → Option PyData
  | [] => some b
  | x :: r => match ltD g x b with
    | some true => minGo g x r
    | some false => minGo g b r
    | none => none
/-- min (g = false) or max of some -/
noncomputable def minD (g : Bool) : List PyData → Option PyData
  | [] => none
  | x :: r => minGo g x r

/-- where the first least stands -/
noncomputable def minIGo (bi : Nat) (b : PyData) (i : Nat) : List PyData → Option Nat
  | [] => some bi
  | x :: r => match ltD false x b with
    | some true => minIGo i x (i + 1) r
    | some false => minIGo bi b (i + 1) r
    | none => none
noncomputable def minI : List PyData → Option Nat
  | [] => none
  | x :: r => minIGo 0 x 1 r

noncomputable def boolsD (xs : List PyData) : Option (List Bool) := allO (fun x => match x with | .bool b => some b | _ => none) xs
noncomputable def allB (xs : List PyData) : Option Bool := (boolsD xs).map fun l => l.all id
noncomputable def anyB (xs : List PyData) : Option Bool := (boolsD xs).map fun l => l.any id

noncomputable def isTy : Ty → PyData → Bool
  | .tuple, .tuple _ => true
  | .list, .list _ => true
  | .int, .int _ => true
  | .int, .bool _ => true
  | .bool, .bool _ => true
  | _, _ => false

noncomputable def anyEq (x : PyData) (ys : List PyData) : Option Bool := if okD x && ys.all okD then some (ys.any fun y => PyData.eqv y x) else none
noncomputable def idxEq (x : PyData) (ys : List PyData) : Option Nat := if okD x && ys.all okD && decide (ys.length ≤ 100000) then ys.findIdx? (fun y => PyData.eqv y x) else none

mutual
/-- a key of a dict: ints in tuples -/
noncomputable def keyD : PyData → Bool
  | .int _ => true
  | .tuple xs => keyDs xs
  | _ => false
noncomputable def keyDs : List PyData → Bool
  | [] => true
  | x :: r => keyD x && keyDs r
end
noncomputable def isTup : PyData → Bool
  | .tuple _ => true
  | _ => false
noncomputable def okKey (x : PyData) : Bool := isTup x && keyD x && decide (x.depth ≤ 6)
/-- where a key stands -/
noncomputable def findK (k : PyData) : Nat → List PyData → Option Nat
  | _, [] => none
  | n, y :: r => if PyData.eqv y k then some n else findK k (n + 1) r

/-! expressions -/
inductive SrcK where | seq | range | enum | keys
  deriving DecidableEq

set_option genInjectivity false in
inductive X where
  | var (i : Nat)
  | lit (x : PyData)
  | glob (g : String) (x : PyData)
  | fnv (f : Nat)
  | bin (op : Bop) (a b : X)
  | neg (a : X)
  | not (a : X)
  | and (a b : X)
  | or (a b : X)
  | cmp (op : Cop) (a b : X)
  | chain (o1 o2 : Cop) (a b c : X)
  | isNotTrue (a : X)
  | tup (es : List X)
  | lst (m : Bool) (es : List X)
  | dct
  | sub (a i : X)
  | slc (a : X) (lo hi : Option X)
  | rev (a : X)
  | cat (a b : X)
  | call (f : Nat) (m : Bool) (es : List X)
  | callv (f : X) (es : List X)
  | b1 (m : Bool) (b : B1) (a : X)
  | b2 (b : B2) (a c : X)
  | isin (t : Ty) (a : X)
  | isx (c : Nat) (a : X)
  | idx (a x : X)
  | comp (m : Bool) (k : SrcK) (src : X) (slots : List Nat) (cond : Option X) (elt : X)

set_option genInjectivity false in
inductive S where
  | assign (i : Nat) (e : X)
  | unpack (is : List Nat) (e : X)
  | setitem (d k v : X)
  | append (l v : X)
  | extend (l v : X)
  | insert (l i v : X)
  | sdapp (d k v : X)
  | expr (e : X)
  | ite (c : X) (t e : List S)
  | forS (k : SrcK) (src : X) (slots : List Nat) (body : List S)
  | whileS (fuel : Nat) (c : X) (body : List S)
  | ret (e : X)
  | raise (c : Nat)
  | tryS (body : List S) (slot : Nat) (handler : List S)

inductive Flo where
  | next
  | ret (v : V)

abbrev Fn := Nat → List V → R (V × St)

noncomputable def allD (vs : List V) : Option (List PyData) := allO (fun v => match v with | .d x => some x | _ => none) vs
@[simp] theorem allD_nil : allD [] = some [] := rfl
@[simp] theorem allD_cons (x : PyData) (r : List V) : allD (.d x :: r) = (allD r).map (x :: ·) := by
  simp only [allD, allO]
  cases allO (fun v : V => match v with | .d x => some x | _ => none) r <;> rfl

/-- a list made: plain, or of this activation's own -/
noncomputable def mkL (m : Bool) (vs : List V) (σ : St) : R (V × St) :=
  if m then (if vs.all stor then .ok (.ref σ.length, σ ++ [.list vs]) else .stuck)
  else match allD vs with
    | some ds => .ok (.d (.list ds), σ)
    | none => .stuck

noncomputable def truthyV : V → Option Bool
  | .d (.bool b) => some b
  | _ => none

noncomputable def cmpD (op : Cop) (a b : PyData) : Option Bool :=
  match op with
  | .eq => eqD a b
  | .ne => (eqD a b).map (!·)
  | .lt => ltD false a b
  | .gt => ltD true a b
  | .le => (match a, b with | .int x, .int y => some (decide (x ≤ y)) | _, _ => none)
  | .ge => (match a, b with | .int x, .int y => some (decide (y ≤ x)) | _, _ => none)
  | .isin => (match seqD b with | some ys => anyEq a ys | none => none)
  | .notin => (match seqD b with | some ys => (anyEq a ys).map (!·) | none => none)

/-- a dict's keys and values -/
noncomputable def dictV (σ : St) : V → Option (List PyData × List V)
  | .pd ks vs => some (ks, vs.map .d)
  | .ref n => (match σ[n]? with
    | some (.dict ks vs) => some (ks, vs)
    | _ => none)
  | _ => none

noncomputable def cmpV (op : Cop) (σ : St) (a b : V) : Option Bool :=
  match dictV σ b with
  | some (ks, _) => (match op, a with
    | .isin, .d k => if okKey k then some (findK k 0 ks).isSome else none
    | .notin, .d k => if okKey k then some (findK k 0 ks).isNone else none
    | _, _ => none)
  | none => (match res σ a, res σ b with
    | some x, some y => cmpD op x y
    | _, _ => none)

/-- no reference from outside into what was made behind -/
noncomputable def shiftV (n : Nat) : V → V
  | .ref k => .ref (k + n)
  | v => v
noncomputable def shiftO (n : Nat) : O → O
  | .list xs => .list (xs.map (shiftV n))
  | .dict ks vs => .dict ks (vs.map (shiftV n))

/-- a def's result in the caller: m: its own lists are kept; else it is plain data -/
noncomputable def backV (m : Bool) (refs : Bool) (σ : St) (r : V × St) : R (V × St) :=
  if m then (if refs then .stuck else .ok (shiftV σ.length r.1, σ ++ r.2.map (shiftO σ.length)))
  else match res r.2 r.1 with
    | some x => if stor r.1 then (if refs && !flat x then .ok (.tmp x, σ) else .ok (.d x, σ)) else .stuck
    | none => .stuck

noncomputable def callV (Φ : Fn) (m : Bool) (f : Nat) (vs : List V) (σ : St) : R (V × St) :=
  match allO (argV σ) vs with
  | some as => (Φ f as).bind (backV m (vs.any isRef) σ)
  | none => .stuck

noncomputable def b1D (b : B1) (x : PyData) : Option PyData :=
  match b with
  | .int => (match x with | .bool c => some (.int (if c then 1 else 0)) | _ => none)
  | .abs => (match x with | .int i => some (.int (if i < 0 then -i else i)) | _ => none)
  | .all => (match x with | .list xs => (allB xs).map .bool | _ => none)
  | .any => (match x with | .list xs => (anyB xs).map .bool | _ => none)
  | .min => (match seqD x with | some xs => minD false xs | none => none)
  | .max => (match seqD x with | some xs => minD true xs | none => none)
  | .tuple => (match x with | .list xs => some (.tuple xs) | _ => none)
  | _ => none

noncomputable def b1V (m : Bool) (b : B1) (v : V) (σ : St) : R (V × St) :=
  match b with
  | .len => (match seqV σ v with | some xs => if xs.length ≤ 100000 then .ok (.d (.int xs.length), σ) else .stuck | none => .stuck)
  | .list => (match v with
    | .d (.list _) | .ref _ => (match seqV σ v with | some xs => if xs.length ≤ 100000 then mkL m xs σ else .stuck | none => .stuck)
    | _ => .stuck)
  | .min => (match seqV σ v with
    | some xs => (match allO (res σ) xs with
      | some ds => (match m, allD xs with
        | false, some _ => (match minD false ds with | some x => .ok (.d x, σ) | none => .stuck)
        | false, none => .stuck
        | true, _ => (match minI ds with | some i => (ofO xs[i]?).bind fun x => .ok (x, σ) | none => .stuck))
      | none => .stuck)
    | none => .stuck)
  | .sorted => (match v with
    | .d (.list _) | .ref _ => (match seqV σ v with
      | some xs => (match allO (res σ) xs with
        | some ds => (match sortD ds with
          | some p => mkL m (p.map fun i => xs.getD i .undef) σ
          | none => .stuck)
        | none => .stuck)
      | none => .stuck)
    | _ => .stuck)
  | _ => (match res σ v with
    | some x => (match b1D b x with | some y => .ok (.d y, σ) | none => .stuck)
    | none => .stuck)

/-- what is walked over -/
noncomputable def srcV (k : SrcK) (σ : St) (v : V) : Option (List V) :=
  match k with
  | .seq => seqV σ v
  | .range => (match v with | .d (.int n) => if -100000 ≤ n && n ≤ 100000 then some ((List.range n.toNat).map fun i : Nat => .d (.int (i : Int))) else none | _ => none)
  | .enum => (match v with | .d (.list xs) => some (xs.zipIdx.map fun p => .d (.tuple [.int p.2, p.1])) | _ => none)
  | .keys => (dictV σ v).map fun p => p.1.map .d
/-- it is still what it was -/
noncomputable def srcOk (k : SrcK) (σ : St) (v : V) (xs : List V) : Bool :=
  match v with
  | .ref _ => (match srcV k σ v with | some ys => sameVs ys xs | none => false)
  | _ => true

noncomputable def bindV (slots : List Nat) (v : V) (ρ : Rho) : Option Rho :=
  match slots with
  | [i] => if i < ρ.length then some (ρ.set i v) else none
  | [i, j] => (match v with
    | .d (.tuple [a, b]) => if i < ρ.length && j < ρ.length && i != j then some ((ρ.set i (.d a)).set j (.d b)) else none
    | _ => none)
  | _ => none

noncomputable def compGo (test elt : Rho → St → R (V × St)) (slots : List Nat) (ok : St → Bool) (ρ : Rho) : List V → St → R (List V × St)
  | [], σ => .ok ([], σ)
  | x :: xs, σ => match bindV slots x ρ with
    | none => .stuck
    | some ρ' => (test ρ' σ).bind fun t => match truthyV t.1 with
      | none => .stuck
      | some false => if ok t.2 then compGo test elt slots ok ρ xs t.2 else .stuck
      | some true => (elt ρ' t.2).bind fun e => if ok e.2 then (compGo test elt slots ok ρ xs e.2).bind fun r => .ok (e.1 :: r.1, r.2) else .stuck

noncomputable def subV (σ : St) (a i : V) : Option V :=
  match dictV σ a with
  | some (ks, vs) => (match i with
    | .d k => if okKey k then (findK k 0 ks).bind fun n => vs[n]? else none
    | _ => none)
  | none => (match seqV σ a, i with
    | some xs, .d (.int k) => if -(2 ^ 62) < k && k < 2 ^ 62 then at? xs k else none
    | _, _ => none)

noncomputable def boundO : Option V → Option (Option Int)
  | none => some none
  | some (.d (.int k)) => if -(2 ^ 62) < k && k < 2 ^ 62 then some (some k) else none
  | some _ => none

/-- the items of a list, plain data all -/
noncomputable def lstD (σ : St) : V → Option (List PyData)
  | .d (.list xs) => if xs.length ≤ 100000 then some xs else none
  | .ref n => (match σ[n]? with
    | some (.list xs) => if xs.length ≤ 100000 then allD xs else none
    | _ => none)
  | _ => none
noncomputable def sliceV (σ : St) (v : V) (lo hi : Option V) : R (V × St) :=
  match lstD σ v, boundO lo, boundO hi with
  | some xs, some p, some q => .ok (.d (.list (sliceL xs p q)), σ)
  | _, _, _ => .stuck
noncomputable def revV (σ : St) (v : V) : R (V × St) :=
  match lstD σ v with
  | some xs => .ok (.d (.list xs.reverse), σ)
  | none => .stuck
noncomputable def catV (σ : St) (v w : V) : R (V × St) :=
  match v, w with
  | .d (.tuple _), _ => .stuck
  | _, .d (.tuple _) => .stuck
  | p, q => (match seqV σ p, seqV σ q with
    | some xs, some ys => if xs.length + ys.length ≤ 100000 then mkL true (xs ++ ys) σ else .stuck
    | _, _ => .stuck)

/-- the exception classes: 0 the base, 1 and 2 under it, 3 ValueError -/
noncomputable def isEx (k c : Nat) : Bool := k == 0 || k == 3 || k == c

mutual
noncomputable def ev (Φ : Fn) : X → Rho → St → R (V × St)
  | .var i, ρ, σ => match ρ[i]? with
    | some v => if stor v then .ok (v, σ) else .stuck
    | none => .stuck
  | .lit x, _, σ => .ok (.d x, σ)
  | .glob _ x, _, σ => .ok (.d x, σ)
  | .fnv f, _, σ => .ok (.fn f, σ)
  | .bin op a b, ρ, σ => (ev Φ a ρ σ).bind fun x => (ev Φ b ρ x.2).bind fun y => match x.1, y.1 with
    | .d p, .d q => (ofO (binD op p q)).bind fun z => .ok (.d z, y.2)
    | _, _ => .stuck
  | .neg a, ρ, σ => (ev Φ a ρ σ).bind fun x => match x.1 with
    | .d (.int i) => .ok (.d (.int (-i)), x.2)
    | _ => .stuck
  | .not a, ρ, σ => (ev Φ a ρ σ).bind fun x => (ofO (truthyV x.1)).bind fun b => .ok (.d (.bool !b), x.2)
  | .and a b, ρ, σ => (ev Φ a ρ σ).bind fun x => (ofO (truthyV x.1)).bind fun c => if c then ev Φ b ρ x.2 else .ok x
  | .or a b, ρ, σ => (ev Φ a ρ σ).bind fun x => (ofO (truthyV x.1)).bind fun c => if c then .ok x else ev Φ b ρ x.2
  | .cmp op a b, ρ, σ => (ev Φ a ρ σ).bind fun x => (ev Φ b ρ x.2).bind fun y => (ofO (cmpV op y.2 x.1 y.1)).bind fun z => .ok (.d (.bool z), y.2)
  | .chain o1 o2 a b c, ρ, σ => (ev Φ a ρ σ).bind fun x => (ev Φ b ρ x.2).bind fun y => (ofO (cmpV o1 y.2 x.1 y.1)).bind fun z =>
      if z then (ev Φ c ρ y.2).bind fun w => (ofO (cmpV o2 w.2 y.1 w.1)).bind fun u => .ok (.d (.bool u), w.2) else .ok (.d (.bool false), y.2)
  | .isNotTrue a, ρ, σ => (ev Φ a ρ σ).bind fun x => (ofO (truthyV x.1)).bind fun b => .ok (.d (.bool !b), x.2)
  | .tup es, ρ, σ => (evs Φ es ρ σ).bind fun r => (ofO (allD r.1)).bind fun ds => .ok (.d (.tuple ds), r.2)
  | .lst m es, ρ, σ => (evs Φ es ρ σ).bind fun r => mkL m r.1 r.2
  | .dct, _, σ => .ok (.ref σ.length, σ ++ [.dict [] []])
  | .sub a i, ρ, σ => (ev Φ a ρ σ).bind fun x => (ev Φ i ρ x.2).bind fun y => (ofO (subV y.2 x.1 y.1)).bind fun z => .ok (z, y.2)
  | .slc a lo hi, ρ, σ => (ev Φ a ρ σ).bind fun x => (evo Φ lo ρ x.2).bind fun l => (evo Φ hi ρ l.2).bind fun h => sliceV h.2 x.1 l.1 h.1
  | .rev a, ρ, σ => (ev Φ a ρ σ).bind fun x => revV x.2 x.1
  | .cat a b, ρ, σ => (ev Φ a ρ σ).bind fun x => (ev Φ b ρ x.2).bind fun y => catV y.2 x.1 y.1
  | .call f m es, ρ, σ => (evs Φ es ρ σ).bind fun r => callV Φ m f r.1 r.2
  | .callv f es, ρ, σ => (ev Φ f ρ σ).bind fun x => match x.1 with
      | .fn i => (evs Φ es ρ x.2).bind fun r => callV Φ false i r.1 r.2
      | _ => .stuck
  | .b1 m b a, ρ, σ => (ev Φ a ρ σ).bind fun x => b1V m b x.1 x.2
  | .b2 b a c, ρ, σ => (ev Φ a ρ σ).bind fun x => (ev Φ c ρ x.2).bind fun y => match x.1, y.1 with
      | .d p, .d q => (ofO (minD (b == .max) [p, q])).bind fun z => .ok (.d z, y.2)
      | _, _ => .stuck
  | .isin t a, ρ, σ => (ev Φ a ρ σ).bind fun x => match x.1 with
      | .d p => .ok (.d (.bool (isTy t p)), x.2)
      | .ref n => (match x.2[n]? with | some (.list _) => .ok (.d (.bool (t == .list)), x.2) | _ => .stuck)
      | _ => .stuck
  | .isx k a, ρ, σ => (ev Φ a ρ σ).bind fun x => match x.1 with
      | .ex c => .ok (.d (.bool (isEx k c)), x.2)
      | _ => .stuck
  | .idx a x, ρ, σ => (ev Φ a ρ σ).bind fun p => (ev Φ x ρ p.2).bind fun q => match p.1, q.1 with
      | .d (.list xs), .d y => (ofO (idxEq y xs)).bind fun n => .ok (.d (.int n), q.2)
      | _, _ => .stuck
  | .comp m k src slots cond elt, ρ, σ => (ev Φ src ρ σ).bind fun s => match srcV k s.2 s.1 with
      | none => .stuck
      | some xs => if 100000 < xs.length then .stuck else (compGo (evt Φ cond) (ev Φ elt) slots (fun σ' => srcOk k σ' s.1 xs) ρ xs s.2).bind fun r => mkL m r.1 r.2
noncomputable def evs (Φ : Fn) : List X → Rho → St → R (List V × St)
  | [], _, σ => .ok ([], σ)
  | x :: xs, ρ, σ => (ev Φ x ρ σ).bind fun v => (evs Φ xs ρ v.2).bind fun r => .ok (v.1 :: r.1, r.2)
noncomputable def evo (Φ : Fn) : Option X → Rho → St → R (Option V × St)
  | none, _, σ => .ok (none, σ)
  | some x, ρ, σ => (ev Φ x ρ σ).bind fun v => .ok (some v.1, v.2)
noncomputable def evt (Φ : Fn) : Option X → Rho → St → R (V × St)
  | none, _, σ => .ok (.d (.bool true), σ)
  | some x, ρ, σ => ev Φ x ρ σ
end

/-! statements -/
noncomputable def forGo (body : Rho → St → R (Flo × Rho × St)) (slots : List Nat) (ok : St → Bool) : List V → Rho → St → R (Flo × Rho × St)
  | [], ρ, σ => .ok (.next, ρ, σ)
  | x :: xs, ρ, σ => match bindV slots x ρ with
    | none => .stuck
    | some ρ' => (body ρ' σ).bind fun r => match r.1 with
      | .next => if ok r.2.2 then forGo body slots ok xs r.2.1 r.2.2 else .stuck
      | .ret v => .ok (.ret v, r.2.1, r.2.2)

noncomputable def whileGo (test : Rho → St → R (V × St)) (body : Rho → St → R (Flo × Rho × St)) : Nat → Rho → St → R (Flo × Rho × St)
  | 0, _, _ => .stuck
  | n + 1, ρ, σ => (test ρ σ).bind fun t => match truthyV t.1 with
    | none => .stuck
    | some false => .ok (.next, ρ, t.2)
    | some true => (body ρ t.2).bind fun r => match r.1 with
      | .next => whileGo test body n r.2.1 r.2.2
      | .ret v => .ok (.ret v, r.2.1, r.2.2)

noncomputable def setAll : List Nat → List PyData → Rho → Option Rho
  | [], [], ρ => some ρ
  | i :: is, x :: xs, ρ => if i < ρ.length then setAll is xs (ρ.set i (.d x)) else none
  | _, _, _ => none

noncomputable def isL (σ : St) (v : V) : Bool := match v with
  | .ref n => (match σ[n]? with | some (.list _) => true | _ => false)
  | _ => false
noncomputable def isM (σ : St) (v : V) : Bool := match v with
  | .ref n => (match σ[n]? with | some (.dict _ _) => true | _ => false)
  | _ => false
/-- a list of this activation's own, changed -/
noncomputable def updL (σ : St) (v : V) (f : List V → Option (List V)) : Option St :=
  match v with
  | .ref n => (match σ[n]? with
    | some (.list xs) => (f xs).map fun ys => σ.set n (.list ys)
    | _ => none)
  | _ => none

noncomputable def putD (ks : List PyData) (vs : List V) (k : PyData) (v : V) : List PyData × List V :=
  match findK k 0 ks with
  | some i => (ks, vs.set i v)
  | none => (ks ++ [k], vs ++ [v])

noncomputable def setItemV (σ : St) (d : V) (k : PyData) (v : V) : Option St :=
  match d with
  | .ref n => (match σ[n]? with
    | some (.dict ks vs) => if okKey k && decide (ks.length < 100000) then some (σ.set n (.dict (putD ks vs k v).1 (putD ks vs k v).2)) else none
    | _ => none)
  | _ => none

/-- d.setdefault(k, []).append(v) -/
noncomputable def sdappV (σ : St) (d : V) (k : PyData) (v : V) : Option St :=
  match d with
  | .ref n => (match σ[n]? with
    | some (.dict ks vs) => if okKey k && decide (ks.length < 100000) then (match findK k 0 ks with
        | some i => (match vs[i]? with
          | some l => updL σ l fun xs => if xs.length < 100000 then some (xs ++ [v]) else none
          | none => none)
        | none => some (σ.set n (.dict (ks ++ [k]) (vs ++ [.ref σ.length])) ++ [.list [v]]))
      else none
    | _ => none)
  | _ => none

noncomputable def appendF (v : V) (xs : List V) : Option (List V) := if xs.length < 100000 then some (xs ++ [v]) else none
noncomputable def extendF (ys xs : List V) : Option (List V) := if xs.length + ys.length < 100000 then some (xs ++ ys) else none
noncomputable def insertF (k : Int) (v : V) (xs : List V) : Option (List V) := if 0 ≤ k && k ≤ 100000 && decide (xs.length < 100000) then some (xs.take k.toNat ++ v :: xs.drop k.toNat) else none

mutual
noncomputable def ex (Φ : Fn) : S → Rho → St → R (Flo × Rho × St)
  | .assign i e, ρ, σ => (ev Φ e ρ σ).bind fun x => if i < ρ.length && stor x.1 then .ok (.next, ρ.set i x.1, x.2) else .stuck
  | .unpack is e, ρ, σ => (ev Φ e ρ σ).bind fun x => match x.1 with
    | .d (.tuple xs) => (ofO (setAll is xs ρ)).bind fun ρ' => .ok (.next, ρ', x.2)
    | _ => .stuck
  | .setitem d k v, ρ, σ => (ev Φ v ρ σ).bind fun x => (ev Φ d ρ x.2).bind fun y => (ev Φ k ρ y.2).bind fun z => match z.1 with
    | .d q => if stor x.1 then (ofO (setItemV z.2 y.1 q x.1)).bind fun σ' => .ok (.next, ρ, σ') else .stuck
    | _ => .stuck
  | .append l v, ρ, σ => (ev Φ l ρ σ).bind fun x => (ev Φ v ρ x.2).bind fun y => if stor y.1 && isL x.2 x.1 then (ofO (updL y.2 x.1 (appendF y.1))).bind fun σ' => .ok (.next, ρ, σ') else .stuck
  | .extend l v, ρ, σ => (ev Φ l ρ σ).bind fun x => (ev Φ v ρ x.2).bind fun y => match y.1 with
    | .d (.list ys) => if isL x.2 x.1 then (ofO (updL y.2 x.1 (extendF (ys.map .d)))).bind fun σ' => .ok (.next, ρ, σ') else .stuck
    | _ => .stuck
  | .insert l i v, ρ, σ => (ev Φ l ρ σ).bind fun x => (ev Φ i ρ x.2).bind fun j => (ev Φ v ρ j.2).bind fun y => match j.1 with
    | .d (.int k) => if stor y.1 && isL x.2 x.1 then (ofO (updL y.2 x.1 (insertF k y.1))).bind fun σ' => .ok (.next, ρ, σ') else .stuck
    | _ => .stuck
  | .sdapp d k v, ρ, σ => (ev Φ d ρ σ).bind fun x => (ev Φ k ρ x.2).bind fun y => (ev Φ v ρ y.2).bind fun z => match y.1 with
    | .d q => if stor z.1 && isM x.2 x.1 then (ofO (sdappV z.2 x.1 q z.1)).bind fun σ' => .ok (.next, ρ, σ') else .stuck
    | _ => .stuck
  | .expr e, ρ, σ => (ev Φ e ρ σ).bind fun x => match x.1 with
    | .d .none => .ok (.next, ρ, x.2)
    | .d (.bool _) => .ok (.next, ρ, x.2)
    | _ => .stuck
  | .ite c t e, ρ, σ => (ev Φ c ρ σ).bind fun x => match truthyV x.1 with
    | some true => exs Φ t ρ x.2
    | some false => exs Φ e ρ x.2
    | none => .stuck
  | .forS k src slots body, ρ, σ => (ev Φ src ρ σ).bind fun s => match srcV k s.2 s.1 with
    | none => .stuck
    | some xs => forGo (exs Φ body) slots (fun σ' => srcOk k σ' s.1 xs) xs ρ s.2
  | .whileS n c body, ρ, σ => whileGo (ev Φ c) (exs Φ body) n ρ σ
  | .ret e, ρ, σ => (ev Φ e ρ σ).bind fun x => if stor x.1 then .ok (.ret x.1, ρ, x.2) else .stuck
  | .raise c, _, _ => .exc c
  | .tryS body slot handler, ρ, σ => match exs Φ body ρ σ with
    | .ok r => .ok r
    | .exc c => if slot < ρ.length then exs Φ handler (ρ.set slot (.ex c)) σ else .stuck
    | .stuck => .stuck
noncomputable def exs (Φ : Fn) : List S → Rho → St → R (Flo × Rho × St)
  | [], ρ, σ => .ok (.next, ρ, σ)
  | s :: r, ρ, σ => (ex Φ s ρ σ).bind fun x => match x.1 with
    | .next => exs Φ r x.2.1 x.2.2
    | .ret v => .ok (.ret v, x.2.1, x.2.2)
end

/-! defs -/
structure Def where
  name : String
  pars : List String
  /-- the names that the frame keeps, by slot; a comprehension's own have empty names -/
  vars : List String
  body : List S

noncomputable def runDef (Φ : Fn) (D : Def) (as : List V) : R (V × St) :=
  if as.length = D.pars.length then
    (exs Φ D.body (as ++ List.replicate (D.vars.length - D.pars.length) .undef) []).bind fun r => match r.1 with
      | .ret v => .ok (v, r.2.2)
      | .next => .ok (.d .none, r.2.2)
  else .stuck

/-- the last def first; a def calls those behind it alone -/
noncomputable def tbl : List Def → Fn
  | [], _, _ => .stuck
  | D :: r, f, as => if f = r.length then runDef (tbl r) D as else tbl r f as
end Mine
end

section
/-! M2: how values stand in the heap -/
namespace Mine
open PySem PySem.Spec

/-- all that stands outside stays -/
noncomputable def Keep (as : List Addr) (h h' : Heap) : Prop := ∀ b o, b ∉ as → h.get? b = some o → h'.get? b = some o
theorem Keep.refl (as : List Addr) (h : Heap) : Keep as h h := fun _ _ _ e => e
theorem Keep.trans {as : List Addr} {h h' h'' : Heap} (a : Keep as h h') (b : Keep as h' h'') : Keep as h h'' := fun x o n e => b x o n (a x o n e)

noncomputable def NotTup (o : Obj) : Prop := o.cls = .type "tuple" → ∀ vs n, o.data ≠ .seq vs n
noncomputable def AsOk (as : List Addr) (h : Heap) : Prop := ∀ a ∈ as, ∃ o, h.get? a = some o ∧ NotTup o

mutual
theorem reads_mem {h : Heap} : ∀ {v : Value} {x : PyData} {fp : List Addr}, Reads h v x fp → ∀ a ∈ fp, ∃ o, h.get? a = some o
  | _, _, _, .none => fun _ m => nomatch m
  | _, _, _, .bool _ => fun _ m => nomatch m
  | _, _, _, .int _ _ => fun _ m => nomatch m
  | _, _, _, .str _ _ => fun _ m => nomatch m
  | _, _, _, .list e _ _ r => fun a m => by
    rcases List.mem_cons.mp m with rfl | m
    · exact ⟨_, e⟩
    · exact readsAll_mem r a m
  | _, _, _, .tuple _ _ _ r => fun a m => readsAll_mem r a m
  | _, _, _, .dict e _ _ r t => fun a m => by
    rcases List.mem_cons.mp m with rfl | m
    · exact ⟨_, e⟩
    · rcases List.mem_append.mp m with m | m
      · exact readsAll_mem r a m
      · exact readsAll_mem t a m
theorem readsAll_mem {h : Heap} : ∀ {vs : List Value} {xs : List PyData} {fp : List Addr}, ReadsAll h vs xs fp → ∀ a ∈ fp, ∃ o, h.get? a = some o
  | _, _, _, .nil => fun _ m => nomatch m
  | _, _, _, .cons r t => fun a m => by
    rcases List.mem_append.mp m with m | m
    · exact reads_mem r a m
    · exact readsAll_mem t a m
end

mutual
theorem reads_keep {as : List Addr} {h h' : Heap} (k : Keep as h h') (ok : AsOk as h) : ∀ {v : Value} {x : PyData} {fp : List Addr}, Reads h v x fp → (∀ a ∈ fp, a ∉ as) → Reads h' v x fp
  | _, _, _, .none, _ => .none
  | _, _, _, .bool b, _ => .bool b
  | _, _, _, .int i t, _ => .int i t
  | _, _, _, .str i t, _ => .str i t
  | _, _, _, .list e c d r, n => .list (k _ _ (n _ (.head _)) e) c d (readsAll_keep k ok r fun a m => n a (.tail _ m))
  | _, _, _, .tuple e c d r, n => .tuple (k _ _ (fun m => by
      obtain ⟨o, e', c'⟩ := ok _ m
      rw [e] at e'; cases e'; exact c' c _ _ d) e) c d (readsAll_keep k ok r n)
  | _, _, _, .dict e c d r t, n => .dict (k _ _ (n _ (.head _)) e) c d (readsAll_keep k ok r fun a m => n a (.tail _ (List.mem_append_left _ m))) (readsAll_keep k ok t fun a m => n a (.tail _ (List.mem_append_right _ m)))
theorem readsAll_keep {as : List Addr} {h h' : Heap} (k : Keep as h h') (ok : AsOk as h) : ∀ {vs : List Value} {xs : List PyData} {fp : List Addr}, ReadsAll h vs xs fp → (∀ a ∈ fp, a ∉ as) → ReadsAll h' vs xs fp
  | _, _, _, .nil, _ => .nil
  | _, _, _, .cons r t, n => .cons (reads_keep k ok r fun a m => n a (List.mem_append_left _ m)) (readsAll_keep k ok t fun a m => n a (List.mem_append_right _ m))
end

/-! keys of dicts -/
mutual
noncomputable def hashD : PyData → Int
  | .int i => hashInt i
  | .tuple xs => reduceHash (Builtin.Tuple.tupleHashOf (hashDs xs))
  | _ => 0
noncomputable def hashDs : List PyData → List Int
  | [] => []
  | x :: r => hashD x :: hashDs r
end
mutual
noncomputable def drawsD : PyData → Nat
  | .tuple xs => drawsDs xs + 1
  | _ => 1
noncomputable def drawsDs : List PyData → Nat
  | [] => 0
  | x :: r => drawsD x + drawsDs r
end

section
variable {prog : Program} {w : World}

mutual
theorem pyHash_key : ∀ (k : PyData) (A : Around) (E : Value → Shared → Prop) (s : Shared) (v : Value) (fp : List Addr) (Q : Int → Shared → Prop), keyD k = true → Reads s.heap v k fp → A.units + k.depth < cLine →
    Q (hashD k) { s with toks := s.toks + drawsD k } → wpAny (model prog w) A (pyHash v) Q E s
  | .int i, A, E, s, v, fp, Q, _, r, hu, h => by
    cases r
    exact wpAny_pyHash_int h
  | .tuple xs, A, E, s, v, fp, Q, hk, r, hu, h => by
    cases r with
    | @tuple a o vs n _ as ho hc hd hr =>
      have hT : s.TypeIs (.ref a) "tuple" := ⟨o, ho, hc⟩
      have hu' : A.units < cLine := by omega
      have hd1 : (PyData.tuple xs).depth = PyData.depthAll xs + 1 := rfl
      unfold pyHash
      unfold pyHashByItsType
      refine wpAny_bind (wpAny_cRoomFor_or (.inr hu') ?_)
      refine wpAny_bind (wpAny_specialOf hT F.slot_tuple_hash.lookup ?_)
      show wpAny _ _ (if (some (Value.builtin "tuple.__hash__") == some Value.none) = true then _ else _) Q E s
      rw [if_neg (by rw [beq_builtin_none]; exact Bool.false_ne_true)]
      refine wpAny_bind (wpAny_specialOf hT F.slot_tuple_hash.lookup ?_)
      show wpAny _ _ (callSpecialIfBoundUnlessNone? (.ref a) "__hash__" _ >>= _) Q E s
      refine wpAny_bind (wpAny_callSpecialIfBoundUnlessNone?_slot hT F.slot_tuple_hash (wpAny_call_entry F.slot_tuple_hash hT F.entry_tuple_hash ?_ (F.args_tuple_hash_1 _)))
      show wpAny _ _ (Builtin.Tuple.tupleItemsOf (.ref a) >>= _) _ _ s
      refine wpAny_bind (wpAny_tupleItemsOf ho hd ?_)
      refine wpAny_bind ?_
      rw [← Array.forIn_toList]
      refine pyHash_keys xs A.in1 _ s vs.toList fp #[] _ _ (fun x b => ?_) (by simpa [keyD] using hk) hr (by show A.units + 1 + _ < cLine; omega) ?_
      · rfl
      · show wpAny _ _ (retInt (Builtin.Tuple.tupleHashOf ((#[] : Array Int) ++ hashDs xs).toList)) _ _ _
        rw [show ((#[] : Array Int) ++ hashDs xs).toList = hashDs xs by simp]
        refine wpAny_ret_mkInt ?_
        show wpAny _ _ (if (decide (-(2 : Int) ^ 63 ≤ Builtin.Tuple.tupleHashOf (hashDs xs)) && decide (Builtin.Tuple.tupleHashOf (hashDs xs) < 2 ^ 63)) = true then _ else _) Q E _
        have h' : Q (reduceHash (Builtin.Tuple.tupleHashOf (hashDs xs))) { s with toks := s.toks + (drawsDs xs + 1) } := h
        unfold reduceHash at h'
        by_cases hr : (decide (-(2 : Int) ^ 63 ≤ Builtin.Tuple.tupleHashOf (hashDs xs)) && decide (Builtin.Tuple.tupleHashOf (hashDs xs) < 2 ^ 63)) = true
        · rw [if_pos hr]
          rw [if_pos hr] at h'
          exact wpAny_pure (by simpa [Nat.add_assoc] using h')
        · rw [if_neg hr]
          rw [if_neg hr] at h'
          exact wpAny_bind (wpAny_rule (wpAny_pure (by simpa [Nat.add_assoc] using h')))
  | .none, _, _, _, _, _, _, hk, _, _, _ => by simp [keyD] at hk
  | .bool _, _, _, _, _, _, _, hk, _, _, _ => by simp [keyD] at hk
  | .str _, _, _, _, _, _, _, hk, _, _, _ => by simp [keyD] at hk
  | .list _, _, _, _, _, _, _, hk, _, _, _ => by simp [keyD] at hk
  | .dict _, _, _, _, _, _, _, hk, _, _, _ => by simp [keyD] at hk
theorem pyHash_keys : ∀ (ks : List PyData) (A : Around) (E : Value → Shared → Prop) (s : Shared) (vs : List Value) (fp : List Addr) (acc : Array Int) (Q : Array Int → Shared → Prop) (f : Value → Array Int → Sem (ForInStep (Array Int))),
    (∀ x b, f x b = (do let h ← pyHash x; pure (.yield (b.push h)))) → keyDs ks = true → ReadsAll s.heap vs ks fp → A.units + PyData.depthAll ks < cLine →
    Q (acc ++ hashDs ks) { s with toks := s.toks + drawsDs ks } → wpAny (model prog w) A (forIn vs acc f) Q E s
  | [], A, E, s, vs, fp, acc, Q, f, hf, _, r, _, h => by
    cases r
    rw [List.forIn_nil]
    exact wpAny_pure (by simpa [hashDs, drawsDs] using h)
  | k :: ks, A, E, s, vs, fp, acc, Q, f, hf, hk, r, hu, h => by
    cases r with
    | @cons v vs' _ _ as bs r1 r2 =>
      simp only [keyDs, Bool.and_eq_true] at hk
      have hm : PyData.depthAll (k :: ks) = max k.depth (PyData.depthAll ks) := rfl
      rw [List.forIn_cons, hf]
      refine wpAny_bind (wpAny_bind (pyHash_key k A _ s v as _ hk.1 r1 (by omega) ?_))
      refine wpAny_pure ?_
      refine pyHash_keys ks A _ _ vs' bs _ _ f hf hk.2 r2 (by omega) ?_
      have e : acc.push (hashD k) ++ hashDs ks = acc ++ hashDs (k :: ks) := by
        apply Array.ext'
        simp [hashDs]
      rw [e]
      simpa [drawsDs, Nat.add_assoc] using h
end

mutual
theorem quiet_key : ∀ (k : PyData) (n : Nat) (A : Around) (E : Value → Shared → Prop) (s : Shared) (v : Value) (fp : List Addr) (Q : Bool → Shared → Prop), keyD k = true → Reads s.heap v k fp → k.depth ≤ n →
    Q true s → wpAny (model prog w) A (eqIsQuiet n v) Q E s
  | .int i, n, A, E, s, v, fp, Q, _, r, _, h => by
    cases r
    rw [eqIsQuiet_byValue n rfl]
    exact wpAny_pure h
  | .tuple xs, 0, A, E, s, v, fp, Q, hk, r, hn, h => by
    have hd1 : (PyData.tuple xs).depth = PyData.depthAll xs + 1 := rfl
    omega
  | .tuple xs, n + 1, A, E, s, v, fp, Q, hk, r, hn, h => by
    cases r with
    | @tuple a o vs m _ _ ho hc hd hr =>
      have hT : s.TypeIs (.ref a) "tuple" := ⟨o, ho, hc⟩
      have hd1 : (PyData.tuple xs).depth = PyData.depthAll xs + 1 := rfl
      unfold eqIsQuiet
      refine wpAny_bind (wpAny_specialOf hT F.slot_tuple_eq.lookup ?_)
      show wpAny _ _ (isInstance (.ref a) (.type "tuple") >>= _) _ _ s
      refine wpAny_bind (wpAny_isInstance hT isSubtype_tuple_tuple ?_)
      simp only [Bool.not_true, Bool.false_eq_true, if_false]
      refine wpAny_bind (wpAny_seqItems ho hd ?_)
      refine wpAny_bind ?_
      show wpAny _ _ (forIn vs _ _) _ _ s
      rw [← Array.forIn_toList]
      refine quiet_keys xs n A _ s vs.toList fp _ _ (fun x b => ?_) (by simpa [keyD] using hk) hr (by omega) ?_
      · rfl
      · exact wpAny_pure h
  | .none, _, _, _, _, _, _, _, hk, _, _, _ => by simp [keyD] at hk
  | .bool _, _, _, _, _, _, _, _, hk, _, _, _ => by simp [keyD] at hk
  | .str _, _, _, _, _, _, _, _, hk, _, _, _ => by simp [keyD] at hk
  | .list _, _, _, _, _, _, _, _, hk, _, _, _ => by simp [keyD] at hk
  | .dict _, _, _, _, _, _, _, _, hk, _, _, _ => by simp [keyD] at hk
theorem quiet_keys : ∀ (ks : List PyData) (n : Nat) (A : Around) (E : Value → Shared → Prop) (s : Shared) (vs : List Value) (fp : List Addr) (Q : Option Bool × PUnit → Shared → Prop) (f : Value → Option Bool × PUnit → Sem (ForInStep (Option Bool × PUnit))),
    (∀ x b, f x b = (do if !(← eqIsQuiet n x) then return (ForInStep.done (some false, PUnit.unit)) else return (ForInStep.yield (none, PUnit.unit)))) → keyDs ks = true → ReadsAll s.heap vs ks fp → PyData.depthAll ks ≤ n →
    Q (none, ⟨⟩) s → wpAny (model prog w) A (forIn vs (none, ⟨⟩) f) Q E s
  | [], n, A, E, s, vs, fp, Q, f, hf, _, r, _, h => by
    cases r
    rw [List.forIn_nil]
    exact wpAny_pure h
  | k :: ks, n, A, E, s, vs, fp, Q, f, hf, hk, r, hu, h => by
    cases r with
    | @cons v vs' _ _ as bs r1 r2 =>
      simp only [keyDs, Bool.and_eq_true] at hk
      have hm : PyData.depthAll (k :: ks) = max k.depth (PyData.depthAll ks) := rfl
      rw [List.forIn_cons, hf]
      refine wpAny_bind (wpAny_bind (quiet_key k n A _ s v as _ hk.1 r1 (by omega) ?_))
      refine wpAny_pure ?_
      exact quiet_keys ks n A _ _ vs' bs _ f hf hk.2 r2 (by omega) h
end

mutual
theorem reads_key_fp {h : Heap} : ∀ (k : PyData) {v : Value} {fp : List Addr}, keyD k = true → Reads h v k fp → fp = []
  | .int _, _, _, _, r => by cases r; rfl
  | .tuple xs, _, _, hk, r => by
    cases r with
    | tuple e c d r => exact readsAll_key_fp xs (by simpa [keyD] using hk) r
  | .none, _, _, ha, _ => by simp [keyD] at ha
  | .bool _, _, _, ha, _ => by simp [keyD] at ha
  | .str _, _, _, ha, _ => by simp [keyD] at ha
  | .list _, _, _, ha, _ => by simp [keyD] at ha
  | .dict _, _, _, ha, _ => by simp [keyD] at ha
theorem readsAll_key_fp {h : Heap} : ∀ (ks : List PyData) {vs : List Value} {fp : List Addr}, keyDs ks = true → ReadsAll h vs ks fp → fp = []
  | [], _, _, _, r => by cases r; rfl
  | x :: xs, _, _, hk, r => by
    simp only [keyDs, Bool.and_eq_true] at hk
    cases r with
    | cons r1 r2 => rw [reads_key_fp x hk.1 r1, readsAll_key_fp xs hk.2 r2]; rfl
end
mutual
theorem eqv_key : ∀ (a b : PyData), keyD a = true → keyD b = true → (PyData.eqv a b = true ↔ a = b)
  | .int i, b, _, hb => by
    cases b with
    | int j => simp [PyData.eqv]
    | tuple _ => simp [PyData.eqv]
    | _ => simp [keyD] at hb
  | .tuple xs, b, ha, hb => by
    cases b with
    | int j => simp [PyData.eqv]
    | tuple ys =>
      have := eqv_keys xs ys (by simpa [keyD] using ha) (by simpa [keyD] using hb)
      simp [PyData.eqv, this]
    | _ => simp [keyD] at hb
  | .none, _, ha, _ => by simp [keyD] at ha
  | .bool _, _, ha, _ => by simp [keyD] at ha
  | .str _, _, ha, _ => by simp [keyD] at ha
  | .list _, _, ha, _ => by simp [keyD] at ha
  | .dict _, _, ha, _ => by simp [keyD] at ha
theorem eqv_keys : ∀ (a b : List PyData), keyDs a = true → keyDs b = true → (PyData.eqvAll a b = true ↔ a = b)
  | [], b, _, _ => by cases b <;> simp [PyData.eqvAll]
  | x :: xs, b, ha, hb => by
    cases b with
    | nil => simp [PyData.eqvAll]
    | cons y ys =>
      simp only [keyDs, Bool.and_eq_true] at ha hb
      simp [PyData.eqvAll, eqv_key x y ha.1 hb.1, eqv_keys xs ys ha.2 hb.2]
end
mutual
theorem canLay_key : ∀ (a : PyData), keyD a = true → a.canLay0 = true
  | .int i, _ => rfl
  | .tuple xs, h => canLay_keys xs (by simpa [keyD] using h)
  | .none, ha => by simp [keyD] at ha
  | .bool _, ha => by simp [keyD] at ha
  | .str _, ha => by simp [keyD] at ha
  | .list _, ha => by simp [keyD] at ha
  | .dict _, ha => by simp [keyD] at ha
theorem canLay_keys : ∀ (a : List PyData), keyDs a = true → PyData.canLayAll0 a = true
  | [], _ => rfl
  | x :: xs, h => by
    simp only [keyDs, Bool.and_eq_true] at h
    show (x.canLay0 && PyData.canLayAll0 xs) = true
    rw [canLay_key x h.1, canLay_keys xs h.2]; rfl
end

open Classical in
/-- tuples of ints and of tuples, as keys -/
noncomputable def keyKind (prog : Program) (w : World) : HeapKind prog w PyData where
  is := fun h k a => okKey k = true ∧ ∃ fp, Reads h (.ref a) k fp
  hash := hashD
  draws := drawsD
  room := fun A => A.units + 16 < cLine
  inj := fun {h a x y} hx hy => by
    obtain ⟨_, fp, r⟩ := hx
    obtain ⟨_, fp', r'⟩ := hy
    exact (r.unique _ _ r').1
  keeps := fun {h h' k a d o es ep} hk ho hd hs => by
    obtain ⟨h1, fp, r⟩ := hk
    refine ⟨h1, fp, reads_keep (as := [d]) (fun b o' n e => hs.2 b (fun q => n (by simp [q])) ▸ e) (fun b m => ⟨o, by simp at m; rw [m]; exact ho, fun _ vs n q => by rw [hd] at q; cases q⟩) r fun b m q => ?_⟩
    have hk1 : keyD k = true := by simp only [okKey, Bool.and_eq_true] at h1; exact h1.1.2
    rw [reads_key_fp k hk1 r] at m
    cases m
  pyHash := fun {A E s k a Q} hu hk h => by
    obtain ⟨h1, fp, r⟩ := hk
    simp only [okKey, Bool.and_eq_true, decide_eq_true_eq] at h1
    exact pyHash_key k A E s _ fp Q h1.1.2 r (by omega) h
  eqBool := fun {A E s x y a b Q} hu hx hy h => by
    obtain ⟨h1, fp, r⟩ := hx
    obtain ⟨h2, fp', r'⟩ := hy
    simp only [okKey, Bool.and_eq_true, decide_eq_true_eq] at h1 h2
    refine SeqAt.eqAt_reads x y A s _ _ fp fp' r r' (canLay_key x h1.1.2) (canLay_key y h2.1.2) (by omega) prog w E Q ?_
    have e : PyData.eqv x y = decide (x = y) := by
      rw [Bool.eq_iff_iff, decide_eq_true_eq]
      exact eqv_key x y h1.1.2 h2.1.2
    rw [e]; exact h
  quiet := fun {A E s k a Q} hk h => by
    obtain ⟨h1, fp, r⟩ := hk
    simp only [okKey, Bool.and_eq_true, decide_eq_true_eq] at h1
    exact quiet_key k 8 A E s _ fp Q h1.1.2 r (by omega) h
end
end Mine
end

section
/-! M3: values, store and frames against the heap -/
namespace Mine
open PySem PySem.Spec

mutual
noncomputable def noDict : PyData → Bool
  | .dict _ => false
  | .list xs => noDicts xs
  | .tuple xs => noDicts xs
  | _ => true
noncomputable def noDicts : List PyData → Bool
  | [] => true
  | x :: r => noDict x && noDicts r
end
theorem noDicts_mem : ∀ {xs : List PyData}, noDicts xs = true ↔ ∀ x ∈ xs, noDict x = true
  | [] => by simp [noDicts]
  | x :: r => by simp [noDicts, noDicts_mem (xs := r)]

/-- what is written to: never a part of what a value reads -/
noncomputable def Out (P : Addr → Prop) (h : Heap) (fp : List Addr) : Prop := ∀ b o vs n, P b → h.get? b = some o → o.data = .seq vs n → o.cls ≠ .type "tuple" ∧ b ∉ fp
theorem Out.sub {P : Addr → Prop} {h : Heap} {fp fp' : List Addr} (o : Out P h fp) (s : ∀ a ∈ fp', a ∈ fp) : Out P h fp' :=
  fun b ob vs n p e d => ⟨(o b ob vs n p e d).1, fun m => (o b ob vs n p e d).2 (s b m)⟩

mutual
theorem reads_out {P : Addr → Prop} {h h' : Heap} (k : ∀ b o, ¬ P b → h.get? b = some o → h'.get? b = some o) : ∀ {v : Value} {x : PyData} {fp : List Addr}, Reads h v x fp → noDict x = true → Out P h fp → Reads h' v x fp
  | _, _, _, .none, _, _ => .none
  | _, _, _, .bool b, _, _ => .bool b
  | _, _, _, .int i t, _, _ => .int i t
  | _, _, _, .str i t, _, _ => .str i t
  | _, _, _, .list e c d r, n, o => .list (k _ _ (fun p => (o _ _ _ _ p e d).2 (.head _)) e) c d (readsAll_out k r (by simpa [noDict] using n) (o.sub fun a m => .tail _ m))
  | _, _, _, .tuple e c d r, n, o => .tuple (k _ _ (fun p => (o _ _ _ _ p e d).1 c) e) c d (readsAll_out k r (by simpa [noDict] using n) o)
  | _, _, _, .dict .., n, _ => by simp [noDict] at n
theorem readsAll_out {P : Addr → Prop} {h h' : Heap} (k : ∀ b o, ¬ P b → h.get? b = some o → h'.get? b = some o) : ∀ {vs : List Value} {xs : List PyData} {fp : List Addr}, ReadsAll h vs xs fp → noDicts xs = true → Out P h fp → ReadsAll h' vs xs fp
  | _, _, _, .nil, _, _ => .nil
  | _, _, _, .cons r t, n, o => by
    simp only [noDicts, Bool.and_eq_true] at n
    exact .cons (reads_out k r n.1 (o.sub fun a m => List.mem_append_left _ m)) (readsAll_out k t n.2 (o.sub fun a m => List.mem_append_right _ m))
end

mutual
theorem noDict_key : ∀ (k : PyData), keyD k = true → noDict k = true
  | .int _, _ => rfl
  | .tuple xs, h => noDict_keys xs (by simpa [keyD] using h)
  | .none, h | .bool _, h | .str _, h | .list _, h | .dict _, h => by simp [keyD] at h
theorem noDict_keys : ∀ (k : List PyData), keyDs k = true → noDicts k = true
  | [], _ => rfl
  | x :: r, h => by
    simp only [keyDs, Bool.and_eq_true] at h
    simp only [noDicts, Bool.and_eq_true]
    exact ⟨noDict_key x h.1, noDict_keys r h.2⟩
end

inductive All2 {α β : Type} (P : α → β → Prop) : List α → List β → Prop where
  | nil : All2 P [] []
  | cons {a : α} {b : β} {l : List α} {m : List β} : P a b → All2 P l m → All2 P (a :: l) (b :: m)
theorem All2.mono {α β : Type} {P Q : α → β → Prop} {l : List α} {m : List β} (x : All2 P l m) (h : ∀ a b, P a b → Q a b) : All2 Q l m := by
  induction x with
  | nil => exact .nil
  | cons p _ ih => exact .cons (h _ _ p) ih
theorem All2.length {α β : Type} {P : α → β → Prop} {l : List α} {m : List β} (x : All2 P l m) : l.length = m.length := by
  induction x with
  | nil => rfl
  | cons _ _ ih => simp [ih]
theorem All2.get {α β : Type} {P : α → β → Prop} {l : List α} {m : List β} (x : All2 P l m) : ∀ {i : Nat} {a : α}, l[i]? = some a → ∃ b, m[i]? = some b ∧ P a b := by
  induction x with
  | nil => intro i a e; simp at e
  | cons p _ ih =>
    intro i a e
    cases i with
    | zero => simp at e; subst e; exact ⟨_, rfl, p⟩
    | succ j => exact ih (by simpa using e)
theorem All2.append {α β : Type} {P : α → β → Prop} {l l' : List α} {m m' : List β} (x : All2 P l m) (y : All2 P l' m') : All2 P (l ++ l') (m ++ m') := by
  induction x with
  | nil => exact y
  | cons p _ ih => exact .cons p ih
theorem All2.reverse {α β : Type} {P : α → β → Prop} {l : List α} {m : List β} (x : All2 P l m) : All2 P l.reverse m.reverse := by
  induction x with
  | nil => exact .nil
  | cons p _ ih => rw [List.reverse_cons, List.reverse_cons]; exact ih.append (.cons p .nil)
theorem All2.take {α β : Type} {P : α → β → Prop} {l : List α} {m : List β} (x : All2 P l m) (n : Nat) : All2 P (l.take n) (m.take n) := by
  induction x generalizing n with
  | nil => simp; exact .nil
  | cons p _ ih => cases n with
    | zero => exact .nil
    | succ k => exact .cons p (ih k)
theorem All2.drop {α β : Type} {P : α → β → Prop} {l : List α} {m : List β} (x : All2 P l m) (n : Nat) : All2 P (l.drop n) (m.drop n) := by
  induction x generalizing n with
  | nil => simp; exact .nil
  | cons p q ih => cases n with
    | zero => exact .cons p q
    | succ k => exact ih k
theorem All2.set {α β : Type} {P : α → β → Prop} {l : List α} {m : List β} (x : All2 P l m) (n : Nat) {a : α} {b : β} (p : P a b) : All2 P (l.set n a) (m.set n b) := by
  induction x generalizing n with
  | nil => exact .nil
  | cons q r ih => cases n with
    | zero => exact .cons p r
    | succ k => exact .cons q (ih k)

/-- what stays the same through a law -/
structure Cx where
  prog : Program
  w : World
  H0 : Heap
  mg : Str → Option Value
  mb : Str → Option Value
  fa : Nat → Addr
  ca : Nat → Addr

/-- plain data at a value, none of it among what is changed -/
noncomputable def DR (as : List Addr) (X : Addr → Prop) (h : Heap) (x : PyData) (v : Value) : Prop :=
  noDict x = true ∧ ∃ fp, Reads h v x fp ∧ ∀ a ∈ fp, a ∉ as ∧ ¬ X a

open Classical in
noncomputable def PDR (C : Cx) (h : Heap) (a : Addr) (ks : List PyData) (vals : List Value) : Prop :=
  ∃ xs, h.DictOfH (keyKind C.prog C.w) a xs ∧ xs.map (·.1) = ks ∧ xs.map (·.2.2) = vals

noncomputable def VR (C : Cx) (as : List Addr) (X : Addr → Prop) (h : Heap) : V → Value → Prop
  | .d x, v => DR as X h x v
  | .ref n, v => ∃ a, as[n]? = some a ∧ v = .ref a
  | .fn f, v => v = .ref (C.fa f)
  | .pd ks vs, v => ∃ a vals, v = .ref a ∧ a ∉ as ∧ ¬ X a ∧ (a == sysModules) = false ∧ PDR C h a ks vals ∧ All2 (DR as X h) vs vals
  | .ex c, v => ∃ e o, v = .ref e ∧ h.get? e = some o ∧ o.cls = .ref (C.ca c) ∧ e ∉ as ∧ ¬ X e
  | .tmp x, v => noDict x = true ∧ ∃ fp, Reads h v x fp
  | .undef, _ => True

noncomputable def OR (C : Cx) (as : List Addr) (X : Addr → Prop) (h : Heap) (a : Addr) : O → Prop
  | .list xs => ∃ vs, h.PlainList a vs ∧ All2 (VR C as X h) xs vs.toList ∧ xs.all stor = true
  | .dict ks vs => ∃ vals, PDR C h a ks vals ∧ All2 (VR C as X h) vs vals ∧ vs.all stor = true ∧ (a == sysModules) = false

structure SR (C : Cx) (as : List Addr) (X : Addr → Prop) (σ : St) (h : Heap) : Prop where
  len : as.length = σ.length
  nodup : as.Nodup
  obj : ∀ (n : Nat) (o : O) (a : Addr), σ[n]? = some o → as[n]? = some a → OR C as X h a o
  fresh : ∀ a ∈ as, C.H0.get? a = none ∧ ¬ X a
  xd : ∀ a, X a → ∃ o, h.get? a = some o

noncomputable def Kp (h h' : Heap) : Prop := ∀ b o, h.get? b = some o → h'.get? b = some o
theorem Kp.refl (h : Heap) : Kp h h := fun _ _ e => e
theorem Kp.trans {h h' h'' : Heap} (a : Kp h h') (b : Kp h' h'') : Kp h h'' := fun x o e => b x o (a x o e)
theorem Kp.push (h : Heap) (o : Obj) : Kp h (h.push o) := fun _ _ e => Heap.get?_push_of_some _ e

theorem DR.kp {as as' : List Addr} {X X' : Addr → Prop} {h h' : Heap} {x : PyData} {v : Value} (r : DR as X h x v) (k : Kp h h')
    (hn : ∀ a o, h.get? a = some o → a ∉ as → ¬ X a → a ∉ as' ∧ ¬ X' a) : DR as' X' h' x v := by
  obtain ⟨n, fp, r, hf⟩ := r
  refine ⟨n, fp, PyProof.Rows.Reads.keeps k r, fun a m => ?_⟩
  obtain ⟨o, e⟩ := reads_mem r a m
  exact hn a o e (hf a m).1 (hf a m).2

theorem PDR.keepP {C : Cx} {P : Addr → Prop} {h h' : Heap} {a : Addr} {ks : List PyData} {vals : List Value} (r : PDR C h a ks vals) (k : ∀ b o, ¬ P b → h.get? b = some o → h'.get? b = some o)
    (hp : ∀ b o vs n, P b → h.get? b = some o → o.data = .seq vs n → o.cls ≠ .type "tuple") (ha : ¬ P a) : PDR C h' a ks vals := by
  obtain ⟨xs, ⟨o, es, ep, h1, h2, h3, h4, h5, h6⟩, h7, h8⟩ := r
  refine ⟨xs, ⟨o, es, ep, k a o ha h1, h2, h3, h4, fun x hx => ?_, h6⟩, h7, h8⟩
  obtain ⟨p, fp, r⟩ := h5 x hx
  have hk : keyD x.1 = true := by simp only [okKey, Bool.and_eq_true] at p; exact p.1.2
  have e := reads_key_fp x.1 hk r
  subst e
  refine ⟨p, [], reads_out k r (noDict_key x.1 hk) fun b o vs n pb e d => ⟨hp b o vs n pb e d, fun m => nomatch m⟩⟩

/-- the heap has grown -/
structure Grow (as as' : List Addr) (X X' : Addr → Prop) (h h' : Heap) : Prop where
  kp : Kp h h'
  old : ∀ (n : Nat) (a : Addr), as[n]? = some a → as'[n]? = some a
  out : ∀ a o, h.get? a = some o → a ∉ as → ¬ X a → a ∉ as' ∧ ¬ X' a

theorem VR.grow {C : Cx} {as as' : List Addr} {X X' : Addr → Prop} {h h' : Heap} {v : V} {u : Value} (r : VR C as X h v u) (g : Grow as as' X X' h h') : VR C as' X' h' v u := by
  cases v with
  | d x => exact DR.kp r g.kp g.out
  | ref n => obtain ⟨a, e, rfl⟩ := r; exact ⟨a, g.old n a e, rfl⟩
  | fn f => exact r
  | pd ks vs =>
    obtain ⟨a, vals, rfl, h1, h2, h3, h4, h5⟩ := r
    have hd := h4
    obtain ⟨_, ⟨o, _, _, e, _⟩, _⟩ := hd
    obtain ⟨q1, q2⟩ := g.out a o e h1 h2
    exact ⟨a, vals, rfl, q1, q2, h3, h4.keepP (P := fun _ => False) (fun b o _ e => g.kp b o e) (fun _ _ _ _ p => p.elim) id, h5.mono fun x u r => DR.kp r g.kp g.out⟩
  | ex c =>
    obtain ⟨e, o, rfl, h1, h2, h3, h4⟩ := r
    obtain ⟨q1, q2⟩ := g.out e o h1 h3 h4
    exact ⟨e, o, rfl, g.kp _ _ h1, h2, q1, q2⟩
  | tmp x => obtain ⟨n, fp, r⟩ := r; exact ⟨n, fp, PyProof.Rows.Reads.keeps g.kp r⟩
  | undef => trivial

theorem OR.grow {C : Cx} {as as' : List Addr} {X X' : Addr → Prop} {h h' : Heap} {a : Addr} {o : O} (r : OR C as X h a o) (g : Grow as as' X X' h h') : OR C as' X' h' a o := by
  cases o with
  | list xs =>
    obtain ⟨vs, ⟨n, e⟩, h2, h3⟩ := r
    exact ⟨vs, ⟨n, g.kp _ _ e⟩, h2.mono fun _ _ r => r.grow g, h3⟩
  | dict ks vs =>
    obtain ⟨vals, h1, h2, h3⟩ := r
    exact ⟨vals, h1.keepP (P := fun _ => False) (fun b o _ e => g.kp b o e) (fun _ _ _ _ p => p.elim) id, h2.mono fun _ _ r => r.grow g, h3⟩

/-- where an own object lies -/
theorem OR.obj {C : Cx} {as : List Addr} {X : Addr → Prop} {h : Heap} {a : Addr} {o : O} (r : OR C as X h a o) : ∃ ob, h.get? a = some ob ∧ ob.cls ≠ .type "tuple" := by
  cases o with
  | list xs => obtain ⟨vs, ⟨n, e⟩, _⟩ := r; exact ⟨_, e, by simp⟩
  | dict ks vs => obtain ⟨vals, ⟨_, ⟨ob, _, _, e, ⟨c, _⟩, _⟩, _⟩, _⟩ := r; exact ⟨ob, e, by rw [c]; simp⟩

theorem SR.asOk {C : Cx} {as : List Addr} {X : Addr → Prop} {σ : St} {h : Heap} (r : SR C as X σ h) : ∀ a ∈ as, ∃ o, h.get? a = some o ∧ o.cls ≠ .type "tuple" := by
  intro a m
  obtain ⟨n, e⟩ := List.mem_iff_getElem?.mp m
  have hn : n < σ.length := by rw [← r.len]; exact (List.getElem?_eq_some_iff.mp e).1
  exact (r.obj n _ a (List.getElem?_eq_some_iff.mpr ⟨hn, rfl⟩) e).obj

theorem SR.grow {C : Cx} {as : List Addr} {X : Addr → Prop} {σ : St} {h h' : Heap} (r : SR C as X σ h) (k : Kp h h') : SR C as X σ h' :=
  ⟨r.len, r.nodup, fun n o a e1 e2 => (r.obj n o a e1 e2).grow ⟨k, fun _ _ e => e, fun _ _ _ x y => ⟨x, y⟩⟩, r.fresh, fun a x => let ⟨o, e⟩ := r.xd a x; ⟨o, k a o e⟩⟩

/-- one more own object -/
theorem SR.add {C : Cx} {as : List Addr} {X : Addr → Prop} {σ : St} {h h' : Heap} {a : Addr} {o : O} (r : SR C as X σ h) (k : Kp h h') (hn : h.get? a = none) (ho : OR C (as ++ [a]) X h' a o)
    (hf : C.H0.get? a = none ∧ ¬ X a) : SR C (as ++ [a]) X (σ ++ [o]) h' := by
  have ha : a ∉ as := fun m => by obtain ⟨ob, e, _⟩ := r.asOk a m; rw [hn] at e; cases e
  refine ⟨by simp [r.len], ?_, fun n o' a' e1 e2 => ?_, fun b m => ?_, fun b x => let ⟨o, e⟩ := r.xd b x; ⟨o, k b o e⟩⟩
  · rw [List.nodup_append]
    exact ⟨r.nodup, by simp, fun x hx y hy => by simp at hy; subst hy; exact fun e => ha (e ▸ hx)⟩
  · have g : Grow as (as ++ [a]) X X h h' := ⟨k, fun n b e => by rw [List.getElem?_append_left (List.getElem?_eq_some_iff.mp e).1]; exact e,
      fun b ob e h1 h2 => ⟨fun m => (by
        rcases List.mem_append.mp m with m | m
        · exact h1 m
        · simp at m; subst m; rw [hn] at e; cases e), h2⟩⟩
    by_cases hlt : n < σ.length
    · rw [List.getElem?_append_left hlt] at e1
      rw [List.getElem?_append_left (by rw [r.len]; exact hlt)] at e2
      exact (r.obj n o' a' e1 e2).grow g
    · have h1 : n = σ.length := by
        have := (List.getElem?_eq_some_iff.mp e1).1
        simp at this; omega
      subst h1
      rw [List.getElem?_append_right (by omega)] at e1
      rw [List.getElem?_append_right (by rw [r.len]; omega), r.len] at e2
      simp at e1 e2
      subst e1 e2
      exact ho
  · rcases List.mem_append.mp m with m | m
    · exact r.fresh b m
    · simp at m; subst m; exact hf

structure FR (C : Cx) (env : PySem.Env) (nm : List (Str × Nat)) (ρ : Rho) (as : List Addr) (X : Addr → Prop) (h : Heap) : Prop where
  kind : env.scope.kind = .function
  glob : env.globals = mainGlobals
  blt : env.builtins = builtinsNs
  ns : ∃ m, h.Ns env.locals m ∧ ∀ (x : Str) (i : Nat) (v : V), nm.lookup x = some i → env.kindOf x = some .local → ρ[i]? = some v → stor v = true → ∃ u, m x = some u ∧ VR C as X h v u
  cell : ∀ (x : Str) (i : Nat), nm.lookup x = some i → env.kindOf x = some .cell → ∃ c u, env.cells.lookup x = some c ∧ h.IsCell c u ∧ ∀ v, ρ[i]? = some v → stor v = true → ∃ y, u = some y ∧ VR C as X h v y
  known : ∀ (x : Str) (i : Nat), nm.lookup x = some i → env.kindOf x = some .local ∨ env.kindOf x = some .cell
  locX : X env.locals
  cellX : ∀ (x : Str) (c : Addr), env.cells.lookup x = some c → X c ∧ c ≠ env.locals
  apart : ∀ (x y : Str) (c : Addr), env.cells.lookup x = some c → env.cells.lookup y = some c → x = y
  base : C.H0.get? env.locals = none ∧ ∀ (x : Str) (c : Addr), env.cells.lookup x = some c → C.H0.get? c = none
  inj : ∀ (x y : Str) (i : Nat), nm.lookup x = some i → nm.lookup y = some i → x = y
  cellO : ∀ (x : Str) (c : Addr), env.cells.lookup x = some c → ∃ u, h.IsCell c u

theorem FR.grow {C : Cx} {env : PySem.Env} {nm : List (Str × Nat)} {ρ : Rho} {as as' : List Addr} {X : Addr → Prop} {h h' : Heap} (r : FR C env nm ρ as X h) (g : Grow as as' X X h h') : FR C env nm ρ as' X h' where
  kind := r.kind
  glob := r.glob
  blt := r.blt
  ns := by
    obtain ⟨m, h1, h2⟩ := r.ns
    exact ⟨m, h1.keeps g.kp, fun x i v a b c d => by obtain ⟨u, e1, e2⟩ := h2 x i v a b c d; exact ⟨u, e1, e2.grow g⟩⟩
  cell := fun x i a b => by
    obtain ⟨c, u, e1, e2, e3⟩ := r.cell x i a b
    exact ⟨c, u, e1, e2.keeps g.kp, fun v p q => by obtain ⟨y, e4, e5⟩ := e3 v p q; exact ⟨y, e4, e5.grow g⟩⟩
  known := r.known
  locX := r.locX
  cellX := r.cellX
  apart := r.apart
  base := r.base
  inj := r.inj
  cellO := fun x c e => let ⟨u, q⟩ := r.cellO x c e; ⟨u, q.keeps g.kp⟩

/-- the state within an activation -/
structure Inv (C : Cx) (env : PySem.Env) (nm : List (Str × Nat)) (ρ : Rho) (as : List Addr) (X : Addr → Prop) (σ : St) (s : Shared) : Prop where
  base : Kp C.H0 s.heap
  fr : FR C env nm ρ as X s.heap
  sr : SR C as X σ s.heap

theorem SR.out {C : Cx} {as : List Addr} {X : Addr → Prop} {σ : St} {h : Heap} (r : SR C as X σ h) (b : Kp C.H0 h) {a : Addr} (e : h.get? a = none) : a ∉ as ∧ ¬ X a ∧ C.H0.get? a = none := by
  refine ⟨fun m => ?_, fun x => ?_, ?_⟩
  · obtain ⟨o, e', _⟩ := r.asOk a m; rw [e] at e'; cases e'
  · obtain ⟨o, e'⟩ := r.xd a x; rw [e] at e'; cases e'
  · cases q : C.H0.get? a with
    | none => rfl
    | some o => have := b a o q; rw [e] at this; cases this
theorem get?_size (h : Heap) : h.get? h.objs.size = none := Heap.get?_none_of_le (Nat.le_refl _)

/-- what an expression does -/
structure Step (C : Cx) (as : List Addr) (X : Addr → Prop) (σ' : St) (as' : List Addr) (s s' : Shared) : Prop where
  same : ∃ h tk, s' = { s with heap := h, toks := tk }
  kp : Kp s.heap s'.heap
  new : ∃ new, as' = as ++ new ∧ ∀ a ∈ new, s.heap.get? a = none
  sr : SR C as' X σ' s'.heap

theorem Step.grow {C : Cx} {as : List Addr} {X : Addr → Prop} {σ' : St} {as' : List Addr} {s s' : Shared} (r : Step C as X σ' as' s s') : Grow as as' X X s.heap s'.heap := by
  obtain ⟨new, rfl, hn⟩ := r.new
  refine ⟨r.kp, fun n a e => by rw [List.getElem?_append_left (List.getElem?_eq_some_iff.mp e).1]; exact e, fun a o e h1 h2 => ⟨fun m => ?_, h2⟩⟩
  rcases List.mem_append.mp m with m | m
  · exact h1 m
  · rw [hn a m] at e; cases e
theorem Step.refl {C : Cx} {as : List Addr} {X : Addr → Prop} {σ : St} {s : Shared} (r : SR C as X σ s.heap) : Step C as X σ as s s := ⟨⟨_, _, rfl⟩, Kp.refl _, ⟨[], by simp, fun _ m => nomatch m⟩, r⟩
theorem Step.toks {C : Cx} {as : List Addr} {X : Addr → Prop} {σ : St} {s : Shared} (r : SR C as X σ s.heap) (t : Nat) : Step C as X σ as s { s with toks := t } := ⟨⟨_, _, rfl⟩, Kp.refl _, ⟨[], by simp, fun _ m => nomatch m⟩, r⟩
theorem Step.heap {C : Cx} {as : List Addr} {X : Addr → Prop} {σ : St} {s : Shared} (r : SR C as X σ s.heap) {h' : Heap} (k : Kp s.heap h') (t : Nat) : Step C as X σ as s { s with heap := h', toks := t } :=
  ⟨⟨_, _, rfl⟩, k, ⟨[], by simp, fun _ m => nomatch m⟩, r.grow k⟩
theorem Step.trans {C : Cx} {as : List Addr} {X : Addr → Prop} {σ₁ σ₂ : St} {as₁ as₂ : List Addr} {s s₁ s₂ : Shared} (a : Step C as X σ₁ as₁ s s₁) (b : Step C as₁ X σ₂ as₂ s₁ s₂) : Step C as X σ₂ as₂ s s₂ := by
  obtain ⟨h1, t1, rfl⟩ := a.same
  obtain ⟨h2, t2, rfl⟩ := b.same
  obtain ⟨n1, rfl, f1⟩ := a.new
  obtain ⟨n2, rfl, f2⟩ := b.new
  refine ⟨⟨h2, t2, rfl⟩, a.kp.trans b.kp, ⟨n1 ++ n2, by simp, fun x m => ?_⟩, b.sr⟩
  rcases List.mem_append.mp m with m | m
  · exact f1 x m
  · cases e : s.heap.get? x with
    | none => rfl
    | some o => have := a.kp x o e; rw [f2 x m] at this; cases this
theorem Inv.step {C : Cx} {env : PySem.Env} {nm : List (Str × Nat)} {ρ : Rho} {as as' : List Addr} {X : Addr → Prop} {σ σ' : St} {s s' : Shared} (i : Inv C env nm ρ as X σ s) (r : Step C as X σ' as' s s') : Inv C env nm ρ as' X σ' s' :=
  ⟨i.base.trans r.kp, i.fr.grow r.grow, r.sr⟩
end Mine
end

section
/-! M4: which text a term of the small language stands for -/
namespace Mine
open PySem

noncomputable def opOf : Bop → Operator
  | .add => .Add | .sub => .Sub | .mul => .Mult | .mod => .Mod | .fdiv => .FloorDiv | .pow => .Pow
noncomputable def copOf : Cop → CmpOp
  | .eq => .Eq | .ne => .NotEq | .lt => .Lt | .le => .LtE | .gt => .Gt | .ge => .GtE | .isin => .In | .notin => .NotIn
noncomputable def b1Name : B1 → Str
  | .len => "len" | .int => "int" | .abs => "abs" | .all => "all" | .any => "any" | .min => "min" | .max => "max" | .sorted => "sorted" | .list => "list" | .tuple => "tuple" | .str => "str"
noncomputable def b2Name : B2 → Str
  | .min => "min" | .max => "max"
noncomputable def tyName : Ty → Str
  | .tuple => "tuple" | .list => "list" | .int => "int" | .bool => "bool"
noncomputable def exName : Nat → Str
  | 0 => "ShapeError" | 1 => "BadRings" | 2 => "BadSpot" | _ => "ValueError"

/-- the defs' names by number; the constants -/
structure Wd where
  fns : List Str
  gl : List (Str × Int)
abbrev Sc := List (Str × NameKind)
abbrev Nm := List (Str × Nat)

noncomputable def isGlob (sc : Sc) (x : Str) : Bool := sc.lookup x == some .globalImplicit && !(x == ("__debug__" : Str))
/-- the frame of a comprehension -/
noncomputable def compSc (sc names : Sc) : Sc := names.map fun (n, k) => if (k == .free && sc.lookup n == some .cell) then (n, .cell) else (n, k)
noncomputable def compNm (nm : Nm) (names : Sc) (ts : Nm) : Nm := ts ++ names.filterMap fun (n, k) => if k == .free then (nm.lookup n).map (n, ·) else none
noncomputable def compOk (sc : Sc) (nm : Nm) (scope : Scope) (ts : Nm) : Bool :=
  scope.kind == .function && scope.names.all (fun y => y.2 != .cell) && scope.names.all (fun y => y.2 != .local || scope.names.lookup y.1 == some .local) &&
  ts.all (fun t => scope.names.lookup t.1 == some .local && t.1 != ("__debug__" : Str)) &&
  scope.names.all (fun y => y.2 != .free || ((sc.lookup y.1 == some .cell) && (nm.lookup y.1).isSome && !(y.1 == ("__classdict__" : Str)))) && decide ((scope.names.map (·.1)).Nodup) && decide ((ts.map (·.1)).Nodup) && decide (((compNm nm scope.names ts).map (·.2)).Nodup)
noncomputable def notSet : Expr → Bool
  | .Set .. => false
  | _ => true
noncomputable def notStar : Expr → Bool
  | .Starred .. => false
  | _ => true
noncomputable def notSlice : Expr → Bool
  | .Slice .. => false
  | _ => true
noncomputable def isPlain : Expr → Bool
  | .UnaryOp .Not _ _ => false
  | .BoolOp .. => false
  | .IfExp .. => false
  | .Compare .. => false
  | _ => true
/-- a loop's targets -/
noncomputable def tgts : Expr → List Nat → Option Nm
  | .Name x _, [i] => some [(x, i)]
  | .Tuple [.Name x _, .Name y _] _ _, [i, j] => some [(x, i), (y, j)]
  | _, _ => none
theorem none_ne {α : Type} {a : α} {P : Prop} (h : none = some a) : P := by cases h
noncomputable def TgtsI (t : Expr) (slots : List Nat) (ts : Nm) : Prop := (∃ x p i, t = .Name x p ∧ slots = [i] ∧ ts = [(x, i)]) ∨ ∃ x p y q k pos i j, t = .Tuple [.Name x p, .Name y q] k pos ∧ slots = [i, j] ∧ ts = [(x, i), (y, j)]
theorem tgts_inv {t : Expr} {slots : List Nat} {ts : Nm} (h : tgts t slots = some ts) : TgtsI t slots ts := by
  cases t with
  | Name x p =>
    rcases slots with _ | ⟨i, _ | ⟨_, _⟩⟩
    · exact none_ne h
    · cases h; exact .inl ⟨x, p, i, rfl, rfl, rfl⟩
    · exact none_ne h
  | Tuple ls k pos =>
    rcases ls with _ | ⟨a, _ | ⟨b, _ | ⟨c, ls⟩⟩⟩
    · exact none_ne h
    · cases a <;> exact none_ne h
    · cases a with
      | Name x p => cases b with
        | Name y q =>
          rcases slots with _ | ⟨i, _ | ⟨j, _ | ⟨_, _⟩⟩⟩
          · exact none_ne h
          · exact none_ne h
          · cases h; exact .inr ⟨x, p, y, q, k, pos, i, j, rfl, rfl, rfl⟩
          · exact none_ne h
        | _ => exact none_ne h
      | _ => exact none_ne h
    · cases a with
      | Name x p => cases b <;> exact none_ne h
      | _ => exact none_ne h
  | _ => exact none_ne h
/-- the builtins that are covered -/
noncomputable def okB1 : B1 → Bool
  | .len | .int | .abs | .all | .any | .list => true
  | _ => false
/-- what is walked over, as the text says it -/
inductive MSrc (sc : Sc) : SrcK → Expr → Expr → Prop where
  | seq {e : Expr} : notSet e = true → MSrc sc .seq e e
  | range {e : Expr} {p1 p2 : Pos} : isGlob sc "range" = true → notStar e = true → MSrc sc .range e (.Call (.Name "range" p1) [e] [] p2)
noncomputable def chkSrc (sc : Sc) : SrcK → Expr → Option Expr
  | .seq, e => if notSet e then some e else none
  | .range, .Call (.Name x _) [e] [] _ => if x == ("range" : Str) && isGlob sc "range" && notStar e then some e else none
  | _, _ => none
mutual
noncomputable def chkX (W : Wd) : X → Sc → Nm → Expr → Bool
  | .var i, _, nm, e => (match e with | .Name x _ => nm.lookup x == some i && !(x == ("__debug__" : Str)) | _ => false)
  | .lit d, _, _, e => (match d, e with
    | .int i, .Constant (.int j) _ _ => i == j
    | .bool i, .Constant (.bool j) _ _ => i == j
    | .none, .Constant .none _ _ => true
    | .str i, .Constant (.str j) _ _ => i == j
    | _, _ => false)
  | .glob g d, sc, _, e => (match d, e with | .int i, .Name x _ => x == Str.ofString g && isGlob sc (Str.ofString g) && W.gl.lookup (Str.ofString g) == some i | _, _ => false)
  | .fnv f, sc, _, e => (match e with | .Name x _ => isGlob sc x && W.fns[f]? == some x | _ => false)
  | .bin op a b, sc, nm, e => (match e with | .BinOp l o r _ => decide (o = opOf op) && chkX W a sc nm l && chkX W b sc nm r | _ => false)
  | .cat a b, sc, nm, e => (match e with | .BinOp l .Add r _ => chkX W a sc nm l && chkX W b sc nm r | _ => false)
  | .neg a, sc, nm, e => (match e with | .UnaryOp .USub l _ => chkX W a sc nm l | _ => false)
  | .not a, sc, nm, e => (match e with | .UnaryOp .Not l _ => chkX W a sc nm l | _ => false)
  | .and a b, sc, nm, e => (match e with
    | .BoolOp .And [l, r] _ => chkX W a sc nm l && chkX W b sc nm r
    | .BoolOp .And (l :: r :: t :: ts) p => chkX W a sc nm l && chkX W b sc nm (.BoolOp .And (r :: t :: ts) p)
    | _ => false)
  | .or a b, sc, nm, e => (match e with
    | .BoolOp .Or [l, r] _ => chkX W a sc nm l && chkX W b sc nm r
    | .BoolOp .Or (l :: r :: t :: ts) p => chkX W a sc nm l && chkX W b sc nm (.BoolOp .Or (r :: t :: ts) p)
    | _ => false)
  | .cmp op a b, sc, nm, e => (match e with | .Compare l [o] [r] _ => decide (o = copOf op) && notSet r && chkX W a sc nm l && chkX W b sc nm r | _ => false)
  | .chain o1 o2 a b c, sc, nm, e => (match e with | .Compare l [p, q] [r, t] _ => decide (p = copOf o1) && decide (q = copOf o2) && notSet t && chkX W a sc nm l && chkX W b sc nm r && chkX W c sc nm t | _ => false)
  | .isNotTrue a, sc, nm, e => (match e with | .Compare l [.IsNot] [.Constant (.bool true) _ _] _ => chkX W a sc nm l | _ => false)
  | .tup es, sc, nm, e => (match e with | .Tuple ls _ _ => decide (es.length ≤ 1000) && chkXs W es sc nm ls | _ => false)
  | .lst _ es, sc, nm, e => (match e with | .List ls _ => decide (es.length ≤ 1000) && chkXs W es sc nm ls | _ => false)
  | .dct, _, _, e => (match e with | .Dict [] [] _ => true | _ => false)
  | .sub a i, sc, nm, e => (match e with | .Subscript l r _ => notSlice r && chkX W a sc nm l && chkX W i sc nm r | _ => false)
  | .slc a lo hi, sc, nm, e => (match e with | .Subscript l (.Slice p q none _) _ => chkX W a sc nm l && chkXo W lo sc nm p && chkXo W hi sc nm q | _ => false)
  | .rev a, sc, nm, e => (match e with | .Subscript l (.Slice none none (some (.UnaryOp .USub (.Constant (.int 1) _ _) _)) _) _ => chkX W a sc nm l | _ => false)
  | .call f _ es, sc, nm, e => (match e with | .Call (.Name x _) ls [] _ => isGlob sc x && W.fns[f]? == some x && decide (es.length ≤ 20) && chkXs W es sc nm ls | _ => false)
  | .callv _ _, _, _, _ => false
  | .b1 _ b a, sc, nm, e => (match e with | .Call (.Name x _) [l] [] _ => x == b1Name b && okB1 b && isGlob sc (b1Name b) && notStar l && chkX W a sc nm l | _ => false)
  | .b2 b a c, sc, nm, e => (match e with | .Call (.Name x _) [l, r] [] _ => x == b2Name b && isGlob sc (b2Name b) && notStar l && notStar r && chkX W a sc nm l && chkX W c sc nm r | _ => false)
  | .isin t a, sc, nm, e => (match e with | .Call (.Name x _) [l, .Name y _] [] _ => x == ("isinstance" : Str) && y == tyName t && isGlob sc "isinstance" && isGlob sc (tyName t) && notStar l && chkX W a sc nm l | _ => false)
  | .isx _ _, _, _, _ => false
  | .idx _ _, _, _, _ => false
  | .comp _ k src slots cond elt, sc, nm, e => (match e with
    | .ListComp l [⟨target, iter, ifs, 0⟩] scope _ => (match chkSrc sc k iter, tgts target slots with
      | some e', some ts => chkX W src sc nm e' && compOk sc nm scope ts && chkXc W cond (compSc sc scope.names) (compNm nm scope.names ts) ifs && chkX W elt (compSc sc scope.names) (compNm nm scope.names ts) l
      | _, _ => false)
    | _ => false)
noncomputable def chkXs (W : Wd) : List X → Sc → Nm → List Expr → Bool
  | [], _, _, es => es.isEmpty
  | x :: xs, sc, nm, es => (match es with | e :: es => notStar e && chkX W x sc nm e && chkXs W xs sc nm es | [] => false)
noncomputable def chkXo (W : Wd) : Option X → Sc → Nm → Option Expr → Bool
  | none, _, _, e => e.isNone
  | some x, sc, nm, e => (match e with | some e => chkX W x sc nm e | none => false)
noncomputable def chkXc (W : Wd) : Option X → Sc → Nm → List Expr → Bool
  | none, _, _, e => e.isEmpty
  | some x, sc, nm, e => (match e with | [e] => chkX W x sc nm e | _ => false)
end


noncomputable def MX (W : Wd) (sc : Sc) (nm : Nm) (x : X) (e : Expr) : Prop := chkX W x sc nm e = true
noncomputable def MXs (W : Wd) (sc : Sc) (nm : Nm) (x : List X) (e : List Expr) : Prop := chkXs W x sc nm e = true
noncomputable def MXo (W : Wd) (sc : Sc) (nm : Nm) (x : Option X) (e : Option Expr) : Prop := chkXo W x sc nm e = true

section
variable (W : Wd) (sc : Sc) (nm : Nm)
inductive Ivar (i : Nat) : Expr → Prop where
  | var {x pos} : nm.lookup x = some i → (x == ("__debug__" : Str)) = false → Ivar i (.Name x pos)
inductive Ilit : PyData → Expr → Prop where
  | litI {i k pos} : Ilit (.int i) (.Constant (.int i) k pos)
  | litB {b k pos} : Ilit (.bool b) (.Constant (.bool b) k pos)
  | litN {k pos} : Ilit .none (.Constant .none k pos)
  | litS {t k pos} : Ilit (.str t) (.Constant (.str t) k pos)
inductive Iglob (g : String) : PyData → Expr → Prop where
  | glob {i pos} : isGlob sc (Str.ofString g) = true → W.gl.lookup (Str.ofString g) = some i → Iglob g (.int i) (.Name (Str.ofString g) pos)
inductive Ifnv (f : Nat) : Expr → Prop where
  | fnv {x pos} : isGlob sc x = true → W.fns[f]? = some x → Ifnv f (.Name x pos)
inductive Ibin (op : Bop) (a b : X) : Expr → Prop where
  | bin {l r pos} : MX W sc nm a l → MX W sc nm b r → Ibin op a b (.BinOp l (opOf op) r pos)
inductive Icat (a b : X) : Expr → Prop where
  | cat {l r pos} : MX W sc nm a l → MX W sc nm b r → Icat a b (.BinOp l .Add r pos)
inductive Ineg (a : X) : Expr → Prop where
  | neg {l pos} : MX W sc nm a l → Ineg a (.UnaryOp .USub l pos)
inductive Inot (a : X) : Expr → Prop where
  | not {l pos} : MX W sc nm a l → Inot a (.UnaryOp .Not l pos)
inductive Iand (a b : X) : Expr → Prop where
  | and2 {l r pos} : MX W sc nm a l → MX W sc nm b r → Iand a b (.BoolOp .And [l, r] pos)
  | and {l r t ts pos} : MX W sc nm a l → MX W sc nm b (.BoolOp .And (r :: t :: ts) pos) → Iand a b (.BoolOp .And (l :: r :: t :: ts) pos)
inductive Ior (a b : X) : Expr → Prop where
  | or2 {l r pos} : MX W sc nm a l → MX W sc nm b r → Ior a b (.BoolOp .Or [l, r] pos)
  | or {l r t ts pos} : MX W sc nm a l → MX W sc nm b (.BoolOp .Or (r :: t :: ts) pos) → Ior a b (.BoolOp .Or (l :: r :: t :: ts) pos)
inductive Icmp (op : Cop) (a b : X) : Expr → Prop where
  | cmp {l r pos} : MX W sc nm a l → MX W sc nm b r → notSet r = true → Icmp op a b (.Compare l [copOf op] [r] pos)
inductive Ichain (o1 o2 : Cop) (a b c : X) : Expr → Prop where
  | chain {l r t pos} : MX W sc nm a l → MX W sc nm b r → MX W sc nm c t → notSet t = true → Ichain o1 o2 a b c (.Compare l [copOf o1, copOf o2] [r, t] pos)
inductive IisNotTrue (a : X) : Expr → Prop where
  | isNotTrue {l k p pos} : MX W sc nm a l → IisNotTrue a (.Compare l [.IsNot] [.Constant (.bool true) k p] pos)
inductive Itup (es : List X) : Expr → Prop where
  | tup {ls k pos} : MXs W sc nm es ls → es.length ≤ 1000 → Itup es (.Tuple ls k pos)
inductive Ilst (es : List X) : Expr → Prop where
  | lst {ls pos} : MXs W sc nm es ls → es.length ≤ 1000 → Ilst es (.List ls pos)
inductive Idct : Expr → Prop where
  | dct {pos} : Idct (.Dict [] [] pos)
inductive Isub (a i : X) : Expr → Prop where
  | sub {l r pos} : MX W sc nm a l → MX W sc nm i r → notSlice r = true → Isub a i (.Subscript l r pos)
inductive Islc (a : X) (lo hi : Option X) : Expr → Prop where
  | slc {l p q pos pos'} : MX W sc nm a l → MXo W sc nm lo p → MXo W sc nm hi q → Islc a lo hi (.Subscript l (.Slice p q none pos') pos)
inductive Irev (a : X) : Expr → Prop where
  | rev {l k p1 p2 pos pos'} : MX W sc nm a l → Irev a (.Subscript l (.Slice none none (some (.UnaryOp .USub (.Constant (.int 1) k p1) p2)) pos') pos)
inductive Icall (f : Nat) (es : List X) : Expr → Prop where
  | call {x p ls pos} : isGlob sc x = true → W.fns[f]? = some x → MXs W sc nm es ls → es.length ≤ 20 → Icall f es (.Call (.Name x p) ls [] pos)
inductive Ib1 (b : B1) (a : X) : Expr → Prop where
  | b1 {p l pos} : okB1 b = true → isGlob sc (b1Name b) = true → MX W sc nm a l → notStar l = true → Ib1 b a (.Call (.Name (b1Name b) p) [l] [] pos)
inductive Ib2 (b : B2) (a c : X) : Expr → Prop where
  | b2 {p l r pos} : isGlob sc (b2Name b) = true → MX W sc nm a l → MX W sc nm c r → notStar l = true → notStar r = true → Ib2 b a c (.Call (.Name (b2Name b) p) [l, r] [] pos)
inductive Iisin (t : Ty) (a : X) : Expr → Prop where
  | isin {p l q pos} : isGlob sc "isinstance" = true → isGlob sc (tyName t) = true → MX W sc nm a l → notStar l = true → Iisin t a (.Call (.Name "isinstance" p) [l, .Name (tyName t) q] [] pos)
inductive Icomp (k : SrcK) (src : X) (slots : List Nat) : Option X → X → Expr → Prop where
  | comp0 {elt target iter e l scope pos ts} : MX W sc nm src e → MSrc sc k e iter → tgts target slots = some ts → compOk sc nm scope ts = true →
      MX W (compSc sc scope.names) (compNm nm scope.names ts) elt l → Icomp k src slots none elt (.ListComp l [⟨target, iter, [], 0⟩] scope pos)
  | comp1 {c elt target iter e t l scope pos ts} : MX W sc nm src e → MSrc sc k e iter → tgts target slots = some ts → compOk sc nm scope ts = true →
      MX W (compSc sc scope.names) (compNm nm scope.names ts) c t → MX W (compSc sc scope.names) (compNm nm scope.names ts) elt l → Icomp k src slots (some c) elt (.ListComp l [⟨target, iter, [t], 0⟩] scope pos)
inductive Ixs : List X → List Expr → Prop where
  | nil : Ixs [] []
  | cons {x xs e es} : MX W sc nm x e → notStar e = true → MXs W sc nm xs es → Ixs (x :: xs) (e :: es)
inductive Ixo : Option X → Option Expr → Prop where
  | none : Ixo none none
  | some {x e} : MX W sc nm x e → Ixo (some x) (some e)
noncomputable def XI : X → Expr → Prop
  | .var i => Ivar nm i
  | .lit d => Ilit d
  | .glob g d => Iglob W sc g d
  | .fnv f => Ifnv W sc f
  | .bin op a b => Ibin W sc nm op a b
  | .cat a b => Icat W sc nm a b
  | .neg a => Ineg W sc nm a
  | .not a => Inot W sc nm a
  | .and a b => Iand W sc nm a b
  | .or a b => Ior W sc nm a b
  | .cmp op a b => Icmp W sc nm op a b
  | .chain o1 o2 a b c => Ichain W sc nm o1 o2 a b c
  | .isNotTrue a => IisNotTrue W sc nm a
  | .tup es => Itup W sc nm es
  | .lst _ es => Ilst W sc nm es
  | .dct => Idct
  | .sub a i => Isub W sc nm a i
  | .slc a lo hi => Islc W sc nm a lo hi
  | .rev a => Irev W sc nm a
  | .call f _ es => Icall W sc nm f es
  | .callv _ _ => fun _ => False
  | .b1 _ b a => Ib1 W sc nm b a
  | .b2 b a c => Ib2 W sc nm b a c
  | .isin t a => Iisin W sc nm t a
  | .isx _ _ => fun _ => False
  | .idx _ _ => fun _ => False
  | .comp _ k src slots cond elt => Icomp W sc nm k src slots cond elt
end
theorem and1 {a b : Bool} (h : (a && b) = true) : a = true := (Bool.and_eq_true_iff.mp h).1
theorem and2 {a b : Bool} (h : (a && b) = true) : b = true := (Bool.and_eq_true_iff.mp h).2
theorem nott {a : Bool} (h : (!a) = true) : a = false := by cases a <;> simp_all
theorem chkSrc_ok {sc : Sc} {k : SrcK} {iter e : Expr} (h : chkSrc sc k iter = some e) : MSrc sc k e iter := by
  cases k with
  | seq =>
    cases hb : notSet iter with
    | true =>
      have h : (if notSet iter then some iter else none) = some e := h
      rw [hb] at h
      cases h
      exact .seq hb
    | false =>
      have h : (if notSet iter then some iter else none) = some e := h
      rw [hb] at h
      cases h
  | range =>
    cases iter with
    | Call g ls ks p => cases g with
      | Name x q =>
        rcases ls with _ | ⟨l, _ | ⟨_, _⟩⟩ <;> cases ks <;> try exact none_ne h
        have h : (if x == ("range" : Str) && isGlob sc "range" && notStar l then some l else none) = some e := h
        cases hb : (x == ("range" : Str) && isGlob sc "range" && notStar l) with
        | false => rw [hb] at h; cases h
        | true =>
          rw [hb] at h
          cases h
          rw [beq_iff_eq.mp (and1 (and1 hb))]
          exact .range (and2 (and1 hb)) (and2 hb)
      | _ => exact none_ne h
    | _ => exact none_ne h
  | _ => exact none_ne h
section
variable {W : Wd} {sc : Sc} {nm : Nm} {e : Expr} {i f : Nat} {d : PyData} {g : String} {op : Bop} {a b c : X}
theorem inv_var (h : MX W sc nm (.var i) e) : Ivar nm i e := by
  cases e with
  | Name x p =>
    have h : (nm.lookup x == some i && !(x == ("__debug__" : Str))) = true := h
    exact .var (beq_iff_eq.mp (and1 h)) (nott (and2 h))
  | _ => exact Bool.noConfusion (h : false = true)

theorem inv_lit (h : MX W sc nm (.lit d) e) : Ilit d e := by
  cases e with
  | Constant c k p =>
    cases d with
    | none => cases c with
      | none => exact .litN
      | _ => exact Bool.noConfusion (h : false = true)
    | bool i => cases c with
      | bool j => cases beq_iff_eq.mp (h : (i == j) = true); exact .litB
      | _ => exact Bool.noConfusion (h : false = true)
    | int i => cases c with
      | int j => cases beq_iff_eq.mp (h : (i == j) = true); exact .litI
      | _ => exact Bool.noConfusion (h : false = true)
    | str i => cases c with
      | str j => cases beq_iff_eq.mp (h : (i == j) = true); exact .litS
      | _ => exact Bool.noConfusion (h : false = true)
    | _ => cases c <;> exact Bool.noConfusion (h : false = true)
  | _ => cases d <;> exact Bool.noConfusion (h : false = true)

theorem inv_glob (h : MX W sc nm (.glob g d) e) : Iglob W sc g d e := by
  cases d with
  | int i => cases e with
    | Name x p =>
      have h : (x == Str.ofString g && isGlob sc (Str.ofString g) && W.gl.lookup (Str.ofString g) == some i) = true := h
      rw [beq_iff_eq.mp (and1 (and1 h))]
      exact .glob (and2 (and1 h)) (beq_iff_eq.mp (and2 h))
    | _ => exact Bool.noConfusion (h : false = true)
  | _ => exact Bool.noConfusion (h : false = true)

theorem inv_fnv (h : MX W sc nm (.fnv f) e) : Ifnv W sc f e := by
  cases e with
  | Name x p =>
    have h : (isGlob sc x && W.fns[f]? == some x) = true := h
    exact .fnv (and1 h) (beq_iff_eq.mp (and2 h))
  | _ => exact Bool.noConfusion (h : false = true)

theorem inv_bin (h : MX W sc nm (.bin op a b) e) : Ibin W sc nm op a b e := by
  cases e with
  | BinOp l o r p =>
    have h : (decide (o = opOf op) && chkX W a sc nm l && chkX W b sc nm r) = true := h
    rw [of_decide_eq_true (and1 (and1 h))]
    exact .bin (and2 (and1 h)) (and2 h)
  | _ => exact Bool.noConfusion (h : false = true)

theorem inv_cat (h : MX W sc nm (.cat a b) e) : Icat W sc nm a b e := by
  cases e with
  | BinOp l o r p =>
    cases o with
    | Add =>
      have h : (chkX W a sc nm l && chkX W b sc nm r) = true := h
      exact .cat (and1 h) (and2 h)
    | _ => exact Bool.noConfusion (h : false = true)
  | _ => exact Bool.noConfusion (h : false = true)

theorem inv_neg (h : MX W sc nm (.neg a) e) : Ineg W sc nm a e := by
  cases e with
  | UnaryOp o l p =>
    cases o with
    | USub => exact .neg h
    | _ => exact Bool.noConfusion (h : false = true)
  | _ => exact Bool.noConfusion (h : false = true)

theorem inv_not (h : MX W sc nm (.not a) e) : Inot W sc nm a e := by
  cases e with
  | UnaryOp o l p =>
    cases o with
    | Not => exact .not h
    | _ => exact Bool.noConfusion (h : false = true)
  | _ => exact Bool.noConfusion (h : false = true)

theorem inv_and (h : MX W sc nm (.and a b) e) : Iand W sc nm a b e := by
  cases e with
  | BoolOp o ls p =>
    cases o with
    | Or => exact Bool.noConfusion (h : false = true)
    | And =>
      rcases ls with _ | ⟨l, _ | ⟨r, _ | ⟨t, ts⟩⟩⟩
      · exact Bool.noConfusion (h : false = true)
      · exact Bool.noConfusion (h : false = true)
      · have h : (chkX W a sc nm l && chkX W b sc nm r) = true := h
        exact .and2 (and1 h) (and2 h)
      · have h : (chkX W a sc nm l && chkX W b sc nm (.BoolOp .And (r :: t :: ts) p)) = true := h
        exact .and (and1 h) (and2 h)
  | _ => exact Bool.noConfusion (h : false = true)

theorem inv_or (h : MX W sc nm (.or a b) e) : Ior W sc nm a b e := by
  cases e with
  | BoolOp o ls p =>
    cases o with
    | And => exact Bool.noConfusion (h : false = true)
    | Or =>
      rcases ls with _ | ⟨l, _ | ⟨r, _ | ⟨t, ts⟩⟩⟩
      · exact Bool.noConfusion (h : false = true)
      · exact Bool.noConfusion (h : false = true)
      · have h : (chkX W a sc nm l && chkX W b sc nm r) = true := h
        exact .or2 (and1 h) (and2 h)
      · have h : (chkX W a sc nm l && chkX W b sc nm (.BoolOp .Or (r :: t :: ts) p)) = true := h
        exact .or (and1 h) (and2 h)
  | _ => exact Bool.noConfusion (h : false = true)

theorem inv_cmp {op : Cop} (h : MX W sc nm (.cmp op a b) e) : Icmp W sc nm op a b e := by
  cases e with
  | Compare l os rs p =>
    rcases os with _ | ⟨o, _ | ⟨_, _⟩⟩ <;> rcases rs with _ | ⟨r, _ | ⟨_, _⟩⟩ <;> try exact Bool.noConfusion (h : false = true)
    have h : (decide (o = copOf op) && notSet r && chkX W a sc nm l && chkX W b sc nm r) = true := h
    rw [of_decide_eq_true (and1 (and1 (and1 h)))]
    exact .cmp (and2 (and1 h)) (and2 h) (and2 (and1 (and1 h)))
  | _ => exact Bool.noConfusion (h : false = true)

theorem inv_chain {o1 o2 : Cop} (h : MX W sc nm (.chain o1 o2 a b c) e) : Ichain W sc nm o1 o2 a b c e := by
  cases e with
  | Compare l os rs p =>
    rcases os with _ | ⟨o, _ | ⟨o', _ | ⟨_, _⟩⟩⟩ <;> rcases rs with _ | ⟨r, _ | ⟨t, _ | ⟨_, _⟩⟩⟩ <;> try exact Bool.noConfusion (h : false = true)
    have h : (decide (o = copOf o1) && decide (o' = copOf o2) && notSet t && chkX W a sc nm l && chkX W b sc nm r && chkX W c sc nm t) = true := h
    have h1 := and1 (and1 (and1 h))
    rw [of_decide_eq_true (and1 (and1 h1)), of_decide_eq_true (and2 (and1 h1))]
    exact .chain (and2 (and1 (and1 h))) (and2 (and1 h)) (and2 h) (and2 h1)
  | _ => exact Bool.noConfusion (h : false = true)

theorem inv_isNotTrue (h : MX W sc nm (.isNotTrue a) e) : IisNotTrue W sc nm a e := by
  cases e with
  | Compare l os rs p =>
    rcases os with _ | ⟨o, _ | ⟨_, _⟩⟩
    · exact Bool.noConfusion (h : false = true)
    · cases o with
      | IsNot =>
        rcases rs with _ | ⟨r, _ | ⟨_, _⟩⟩
        · exact Bool.noConfusion (h : false = true)
        · cases r with
          | Constant c k q => cases c with
            | bool b => cases b with
              | true => exact .isNotTrue h
              | false => exact Bool.noConfusion (h : false = true)
            | _ => exact Bool.noConfusion (h : false = true)
          | _ => exact Bool.noConfusion (h : false = true)
        · cases r with
          | Constant c k q => cases c with
            | bool b => cases b <;> exact Bool.noConfusion (h : false = true)
            | _ => exact Bool.noConfusion (h : false = true)
          | _ => exact Bool.noConfusion (h : false = true)
      | _ => exact Bool.noConfusion (h : false = true)
    · cases o <;> exact Bool.noConfusion (h : false = true)
  | _ => exact Bool.noConfusion (h : false = true)

theorem inv_tup {es : List X} (h : MX W sc nm (.tup es) e) : Itup W sc nm es e := by
  cases e with
  | Tuple ls k p =>
    have h : (decide (es.length ≤ 1000) && chkXs W es sc nm ls) = true := h
    exact .tup (and2 h) (of_decide_eq_true (and1 h))
  | _ => exact Bool.noConfusion (h : false = true)

theorem inv_lst {m : Bool} {es : List X} (h : MX W sc nm (.lst m es) e) : Ilst W sc nm es e := by
  cases e with
  | List ls p =>
    have h : (decide (es.length ≤ 1000) && chkXs W es sc nm ls) = true := h
    exact .lst (and2 h) (of_decide_eq_true (and1 h))
  | _ => exact Bool.noConfusion (h : false = true)

theorem inv_dct (h : MX W sc nm .dct e) : Idct e := by
  cases e with
  | Dict ks vs p =>
    cases ks <;> cases vs <;> try exact Bool.noConfusion (h : false = true)
    exact .dct
  | _ => exact Bool.noConfusion (h : false = true)

theorem inv_sub {i : X} (h : MX W sc nm (.sub a i) e) : Isub W sc nm a i e := by
  cases e with
  | Subscript l r p =>
    have h : (notSlice r && chkX W a sc nm l && chkX W i sc nm r) = true := h
    exact .sub (and2 (and1 h)) (and2 h) (and1 (and1 h))
  | _ => exact Bool.noConfusion (h : false = true)

theorem inv_slc {lo hi : Option X} (h : MX W sc nm (.slc a lo hi) e) : Islc W sc nm a lo hi e := by
  cases e with
  | Subscript l r p =>
    cases r with
    | Slice x y z q =>
      cases z with
      | none =>
        have h : (chkX W a sc nm l && chkXo W lo sc nm x && chkXo W hi sc nm y) = true := h
        exact .slc (and1 (and1 h)) (and2 (and1 h)) (and2 h)
      | some _ => exact Bool.noConfusion (h : false = true)
    | _ => exact Bool.noConfusion (h : false = true)
  | _ => exact Bool.noConfusion (h : false = true)

theorem inv_rev (h : MX W sc nm (.rev a) e) : Irev W sc nm a e := by
  cases e with
  | Subscript l r p =>
    cases r with
    | Slice x y z q =>
      rcases x with _ | x
      · rcases y with _ | y
        · rcases z with _ | z
          · exact Bool.noConfusion (h : false = true)
          · cases z with
            | UnaryOp o c q1 =>
              cases o with
              | USub => cases c with
                | Constant c k q2 => cases c with
                  | int i =>
                    rcases i with (_ | _ | i) | i
                    · exact Bool.noConfusion (h : false = true)
                    · exact .rev h
                    · exact Bool.noConfusion (h : false = true)
                    · exact Bool.noConfusion (h : false = true)
                  | _ => exact Bool.noConfusion (h : false = true)
                | _ => exact Bool.noConfusion (h : false = true)
              | _ => exact Bool.noConfusion (h : false = true)
            | _ => exact Bool.noConfusion (h : false = true)
        · exact Bool.noConfusion (h : false = true)
      · exact Bool.noConfusion (h : false = true)
    | _ => exact Bool.noConfusion (h : false = true)
  | _ => exact Bool.noConfusion (h : false = true)

theorem inv_call {m : Bool} {es : List X} (h : MX W sc nm (.call f m es) e) : Icall W sc nm f es e := by
  cases e with
  | Call g ls ks p =>
    cases g with
    | Name x q =>
      cases ks with
      | nil =>
        have h : (isGlob sc x && W.fns[f]? == some x && decide (es.length ≤ 20) && chkXs W es sc nm ls) = true := h
        exact .call (and1 (and1 (and1 h))) (beq_iff_eq.mp (and2 (and1 (and1 h)))) (and2 h) (of_decide_eq_true (and2 (and1 h)))
      | cons _ _ => exact Bool.noConfusion (h : false = true)
    | _ => exact Bool.noConfusion (h : false = true)
  | _ => exact Bool.noConfusion (h : false = true)

theorem inv_b1 {m : Bool} {b : B1} (h : MX W sc nm (.b1 m b a) e) : Ib1 W sc nm b a e := by
  cases e with
  | Call g ls ks p =>
    cases g with
    | Name x q =>
      rcases ls with _ | ⟨l, _ | ⟨_, _⟩⟩ <;> cases ks <;> try exact Bool.noConfusion (h : false = true)
      have h : (x == b1Name b && okB1 b && isGlob sc (b1Name b) && notStar l && chkX W a sc nm l) = true := h
      have h1 := and1 (and1 (and1 h))
      rw [beq_iff_eq.mp (and1 h1)]
      exact .b1 (and2 h1) (and2 (and1 (and1 h))) (and2 h) (and2 (and1 h))
    | _ => exact Bool.noConfusion (h : false = true)
  | _ => exact Bool.noConfusion (h : false = true)

theorem inv_b2 {b : B2} (h : MX W sc nm (.b2 b a c) e) : Ib2 W sc nm b a c e := by
  cases e with
  | Call g ls ks p =>
    cases g with
    | Name x q =>
      rcases ls with _ | ⟨l, _ | ⟨r, _ | ⟨_, _⟩⟩⟩ <;> cases ks <;> try exact Bool.noConfusion (h : false = true)
      have h : (x == b2Name b && isGlob sc (b2Name b) && notStar l && notStar r && chkX W a sc nm l && chkX W c sc nm r) = true := h
      have h1 := and1 (and1 (and1 h))
      rw [beq_iff_eq.mp (and1 (and1 h1))]
      exact .b2 (and2 (and1 h1)) (and2 (and1 h)) (and2 h) (and2 h1) (and2 (and1 (and1 h)))
    | _ => exact Bool.noConfusion (h : false = true)
  | _ => exact Bool.noConfusion (h : false = true)

theorem inv_isin {t : Ty} (h : MX W sc nm (.isin t a) e) : Iisin W sc nm t a e := by
  cases e with
  | Call g ls ks p =>
    cases g with
    | Name x q =>
      rcases ls with _ | ⟨l, _ | ⟨r, _ | ⟨_, _⟩⟩⟩
      · cases ks <;> exact Bool.noConfusion (h : false = true)
      · cases ks <;> exact Bool.noConfusion (h : false = true)
      · cases r with
        | Name y q2 =>
          cases ks with
          | cons _ _ => exact Bool.noConfusion (h : false = true)
          | nil =>
            have h : (x == ("isinstance" : Str) && y == tyName t && isGlob sc "isinstance" && isGlob sc (tyName t) && notStar l && chkX W a sc nm l) = true := h
            have h1 := and1 (and1 (and1 h))
            rw [beq_iff_eq.mp (and1 (and1 h1)), beq_iff_eq.mp (and2 (and1 h1))]
            exact .isin (and2 h1) (and2 (and1 (and1 h))) (and2 h) (and2 (and1 h))
        | _ => cases ks <;> exact Bool.noConfusion (h : false = true)
      · cases r <;> cases ks <;> exact Bool.noConfusion (h : false = true)
    | _ => exact Bool.noConfusion (h : false = true)
  | _ => exact Bool.noConfusion (h : false = true)

theorem inv_comp {m : Bool} {k : SrcK} {src elt : X} {slots : List Nat} {cond : Option X} (h : MX W sc nm (.comp m k src slots cond elt) e) : Icomp W sc nm k src slots cond elt e := by
  cases e with
  | ListComp l gs scope p =>
    rcases gs with _ | ⟨⟨target, iter, ifs, n⟩, _ | ⟨_, _⟩⟩
    · exact Bool.noConfusion (h : false = true)
    · rcases n with (_ | n) | n
      rotate_left
      · exact Bool.noConfusion (h : false = true)
      · exact Bool.noConfusion (h : false = true)
      ·
        have h : (match chkSrc sc k iter, tgts target slots with
          | some e', some ts => chkX W src sc nm e' && compOk sc nm scope ts && chkXc W cond (compSc sc scope.names) (compNm nm scope.names ts) ifs && chkX W elt (compSc sc scope.names) (compNm nm scope.names ts) l
          | _, _ => false) = true := h
        cases h1 : chkSrc sc k iter with
        | none => rw [h1] at h; exact Bool.noConfusion (h : false = true)
        | some e' => cases h2 : tgts target slots with
          | none => rw [h1, h2] at h; exact Bool.noConfusion (h : false = true)
          | some ts =>
            rw [h1, h2] at h
            have h : (chkX W src sc nm e' && compOk sc nm scope ts && chkXc W cond (compSc sc scope.names) (compNm nm scope.names ts) ifs && chkX W elt (compSc sc scope.names) (compNm nm scope.names ts) l) = true := h
            have h3 := and2 (and1 h)
            cases cond with
            | none => cases ifs with
              | nil => exact .comp0 (and1 (and1 (and1 h))) (chkSrc_ok h1) h2 (and2 (and1 (and1 h))) (and2 h)
              | cons _ _ => exact Bool.noConfusion (h3 : false = true)
            | some c => rcases ifs with _ | ⟨t, _ | ⟨_, _⟩⟩
                        · exact Bool.noConfusion (h3 : false = true)
                        · exact .comp1 (and1 (and1 (and1 h))) (chkSrc_ok h1) h2 (and2 (and1 (and1 h))) h3 (and2 h)
                        · exact Bool.noConfusion (h3 : false = true)
    · rcases n with (_ | n) | n <;> exact Bool.noConfusion (h : false = true)
  | _ => exact Bool.noConfusion (h : false = true)
end

theorem MX.inv {W : Wd} {sc : Sc} {nm : Nm} {x : X} {e : Expr} (h : MX W sc nm x e) : XI W sc nm x e := by
  cases x with
  | var => exact inv_var h
  | lit => exact inv_lit h
  | glob => exact inv_glob h
  | fnv => exact inv_fnv h
  | bin => exact inv_bin h
  | neg => exact inv_neg h
  | not => exact inv_not h
  | and => exact inv_and h
  | or => exact inv_or h
  | cmp => exact inv_cmp h
  | chain => exact inv_chain h
  | isNotTrue => exact inv_isNotTrue h
  | tup => exact inv_tup h
  | lst => exact inv_lst h
  | dct => exact inv_dct h
  | sub => exact inv_sub h
  | slc => exact inv_slc h
  | rev => exact inv_rev h
  | cat => exact inv_cat h
  | call => exact inv_call h
  | callv => exact Bool.noConfusion (h : false = true)
  | b1 => exact inv_b1 h
  | b2 => exact inv_b2 h
  | isin => exact inv_isin h
  | isx => exact Bool.noConfusion (h : false = true)
  | idx => exact Bool.noConfusion (h : false = true)
  | comp => exact inv_comp h
theorem MXs.inv {W : Wd} {sc : Sc} {nm : Nm} {xs : List X} {es : List Expr} (h : MXs W sc nm xs es) : Ixs W sc nm xs es := by
  cases xs with
  | nil => cases es with
    | nil => exact .nil
    | cons _ _ => exact Bool.noConfusion (h : false = true)
  | cons x xs => cases es with
    | nil => exact Bool.noConfusion (h : false = true)
    | cons e es =>
      have h : (notStar e && chkX W x sc nm e && chkXs W xs sc nm es) = true := h
      exact .cons (and2 (and1 h)) (and1 (and1 h)) (and2 h)
theorem MXs.cons {W : Wd} {sc : Sc} {nm : Nm} {x : X} {xs : List X} {e : Expr} {es : List Expr} (h1 : MX W sc nm x e) (h2 : notStar e = true) (h3 : MXs W sc nm xs es) : MXs W sc nm (x :: xs) (e :: es) := by
  show (notStar e && chkX W x sc nm e && chkXs W xs sc nm es) = true
  rw [h2, (h1 : chkX W x sc nm e = true), (h3 : chkXs W xs sc nm es = true)]
  rfl
theorem MXo.inv {W : Wd} {sc : Sc} {nm : Nm} {xs : Option X} {es : Option Expr} (h : MXo W sc nm xs es) : Ixo W sc nm xs es := by
  cases xs with
  | none => cases es with
    | none => exact .none
    | some _ => exact Bool.noConfusion (h : false = true)
  | some x => cases es with
    | none => exact Bool.noConfusion (h : false = true)
    | some e => exact .some h
end Mine
end

section
/-! M5: expressions, first part -/
namespace Mine
open PySem PySem.Spec

structure AOk (A : Around) (k : Nat) : Prop where
  hd : A.handled = none
  dep : A.depth + k < recursionLimit
  un : A.units + 3 * k + 300 < cLine

theorem AOk.units {A : Around} {k : Nat} (h : AOk A k) : A.units < cLine := by have := h.un; omega
theorem AOk.in1 {A : Around} {k : Nat} (h : AOk A (k + 1)) : AOk A.in1 k := ⟨h.hd, by have := h.dep; show A.depth + k < _; omega, by have := h.un; show A.units + 1 + 3 * k + 300 < _; omega⟩

noncomputable def biTab : List (Str × Value) :=
  [("len", .builtin "len"), ("abs", .builtin "abs"), ("all", .builtin "all"), ("any", .builtin "any"), ("min", .builtin "min"), ("max", .builtin "max"), ("sorted", .builtin "sorted"), ("isinstance", .builtin "isinstance"),
   ("int", .type "int"), ("list", .type "list"), ("tuple", .type "tuple"), ("str", .type "str"), ("bool", .type "bool"), ("range", .type "range"), ("enumerate", .type "enumerate"), ("ValueError", .type "ValueError")]

structure Ok (C : Cx) (W : Wd) : Prop where
  g : C.H0.Ns mainGlobals C.mg
  b : C.H0.Ns builtinsNs C.mb
  nolimit : C.H0.NoLimit
  bi : ∀ p ∈ biTab, C.mg p.1 = none ∧ C.mb p.1 = some p.2
  fn : ∀ (f : Nat) (x : Str), W.fns[f]? = some x → C.mg x = some (.ref (C.fa f))
  fo : ∀ (f : Nat) (x : Str), W.fns[f]? = some x → ∃ o fd, C.H0.get? (C.fa f) = some o ∧ o.data = .func fd
  gl : ∀ (x : Str) (i : Int), W.gl.lookup x = some i → ∃ t, C.mg x = some (.int i t)

noncomputable def PX (C : Cx) (as : List Addr) (X : Addr → Prop) (σ' : St) (v : V) (s : Shared) (u : Value) (s' : Shared) : Prop := ∃ as', Step C as X σ' as' s s' ∧ VR C as' X s'.heap v u

theorem PX.trans {C : Cx} {as as₁ : List Addr} {X : Addr → Prop} {σ₁ σ' : St} {v : V} {s s₁ s' : Shared} {u : Value} (a : Step C as X σ₁ as₁ s s₁) (b : PX C as₁ X σ' v s₁ u s') : PX C as X σ' v s u s' :=
  let ⟨as', h1, h2⟩ := b; ⟨as', a.trans h1, h2⟩
/-- an answer without an own list -/
theorem PX.plain {C : Cx} {as : List Addr} {X : Addr → Prop} {σ : St} {v : V} {s : Shared} {u : Value} {h' : Heap} {t : Nat} (r : SR C as X σ s.heap) (k : Kp s.heap h') (hv : VR C as X h' v u) : PX C as X σ v s u { s with heap := h', toks := t } :=
  ⟨as, Step.heap r k t, hv⟩
theorem PX.tok {C : Cx} {as : List Addr} {X : Addr → Prop} {σ : St} {v : V} {s : Shared} {u : Value} {t : Nat} (r : SR C as X σ s.heap) (hv : VR C as X s.heap v u) : PX C as X σ v s u { s with toks := t } :=
  ⟨as, Step.toks r t, hv⟩
theorem PX.same {C : Cx} {as : List Addr} {X : Addr → Prop} {σ : St} {v : V} {s : Shared} {u : Value} (r : SR C as X σ s.heap) (hv : VR C as X s.heap v u) : PX C as X σ v s u s := ⟨as, Step.refl r, hv⟩

theorem DR.int {as : List Addr} {X : Addr → Prop} {h : Heap} (i : Int) (t : Tok) : DR as X h (.int i) (.int i t) := ⟨rfl, [], .int i t, fun _ m => nomatch m⟩
theorem DR.bool {as : List Addr} {X : Addr → Prop} {h : Heap} (b : Bool) : DR as X h (.bool b) (.bool b) := ⟨rfl, [], .bool b, fun _ m => nomatch m⟩
theorem DR.none {as : List Addr} {X : Addr → Prop} {h : Heap} : DR as X h .none .none := ⟨rfl, [], .none, fun _ m => nomatch m⟩
theorem DR.str {as : List Addr} {X : Addr → Prop} {h : Heap} (x : Str) (t : Tok) : DR as X h (.str x) (.str x t) := ⟨rfl, [], .str x t, fun _ m => nomatch m⟩
theorem DR.int_inv {as : List Addr} {X : Addr → Prop} {h : Heap} {i : Int} {u : Value} (r : DR as X h (.int i) u) : ∃ t, u = .int i t := by
  obtain ⟨_, _, r, _⟩ := r; cases r; exact ⟨_, rfl⟩
theorem DR.bool_inv {as : List Addr} {X : Addr → Prop} {h : Heap} {b : Bool} {u : Value} (r : DR as X h (.bool b) u) : u = .bool b := by
  obtain ⟨_, _, r, _⟩ := r; cases r; rfl

section
variable (C : Cx) (W : Wd) (Φ : Fn)

noncomputable def SX (k : Nat) (x : X) : Prop := ∀ (sc : Sc) (nm : Nm) (e : Expr) (env : PySem.Env) (A : Around) (E : Value → Shared → Prop) (s : Shared) (ρ : Rho) (as : List Addr) (Y : Addr → Prop) (σ σ' : St) (v : V),
  MX W sc nm x e → env.scope.names = sc → AOk A k → Inv C env nm ρ as Y σ s → ev Φ x ρ σ = .ok (v, σ') → wpAny (model C.prog C.w) A (eval e env) (PX C as Y σ' v s) E s
/-- an expression as a test -/
noncomputable def ST (k : Nat) (x : X) : Prop := ∀ (sc : Sc) (nm : Nm) (e : Expr) (env : PySem.Env) (A : Around) (E : Value → Shared → Prop) (s : Shared) (ρ : Rho) (as : List Addr) (Y : Addr → Prop) (σ σ' : St) (v : V) (b : Bool),
  MX W sc nm x e → env.scope.names = sc → AOk A k → Inv C env nm ρ as Y σ s → ev Φ x ρ σ = .ok (v, σ') → truthyV v = some b →
  wpAny (model C.prog C.w) A (isTrue e env (eval e env)) (fun c s' => c = b ∧ ∃ as', Step C as Y σ' as' s s') E s
end

theorem truthy_inv {v : V} {b : Bool} (h : truthyV v = some b) : v = .d (.bool b) := by
  unfold truthyV at h
  split at h
  · cases h; rfl
  · cases h

section
variable {C : Cx} {W : Wd} {Φ : Fn} {k : Nat}

theorem st_plain {x : X} (h : SX C W Φ k x) (hp : ∀ sc nm e, MX W sc nm x e → isPlain e = true) : ST C W Φ k x := by
  intro sc nm e env A E s ρ as Y σ σ' v b hm hs hA hI he ht
  obtain rfl := truthy_inv ht
  have he' : isTrue e env (eval e env) = (do let v ← eval e env; standAt e.pos; holding [v] (truthy v)) := by
    have := hp sc nm e hm
    cases e with
    | UnaryOp op _ _ => cases op <;> first | rfl | exact Bool.noConfusion (this : false = true)
    | _ => first | rfl | exact Bool.noConfusion (this : false = true)
  refine PyProof.Rows.isTrue_plain (wpAny_mono (h sc nm e env A E s ρ as Y σ σ' _ hm hs hA hI he) (fun u s₁ p => ?_) fun _ _ y => y) he'
  obtain ⟨as', h1, h2⟩ := p
  obtain rfl := DR.bool_inv h2
  exact wpAny_truthy_bool ⟨rfl, as', h1⟩

theorem sx_var (i : Nat) : SX C W Φ k (.var i) := by
  intro sc nm e env A E s ρ as Y σ σ' v hm hs hA hI he
  cases hm.inv with
  | @var x pos hx hd =>
    have he : (match ρ[i]? with | some v => if stor v then R.ok (v, σ) else .stuck | none => .stuck) = .ok (v, σ') := he
    cases hr : ρ[i]? with
    | none => rw [hr] at he; cases he
    | some v' =>
      rw [hr] at he
      dsimp only at he
      split at he
      · rename_i hst
        cases he
        rcases hI.fr.known x i hx with hl | hl
        · obtain ⟨m, hn, hv⟩ := hI.fr.ns
          obtain ⟨u, e1, e2⟩ := hv x i v hx hl hr hst
          exact wpAny_Name (wpAny_loadName_local hI.fr.kind hl hn e1 (PX.same hI.sr e2)) hd
        · obtain ⟨c, u, e1, e2, e3⟩ := hI.fr.cell x i hx hl
          obtain ⟨y, rfl, e4⟩ := e3 v hr hst
          exact wpAny_Name (wpAny_loadName_cell hI.fr.kind hl e1 e2 (PX.same hI.sr e4)) hd
      · cases he

theorem sx_lit (x : PyData) : SX C W Φ k (.lit x) := by
  intro sc nm e env A E s ρ as Y σ σ' v hm hs hA hI he
  cases he
  cases hm.inv with
  | litI => exact wpAny_Constant_int (PX.tok hI.sr (DR.int _ _))
  | litB => exact PyProof.Rows.Constant_bool (PX.same hI.sr (DR.bool _))
  | litN => exact PyProof.Rows.Constant_none (PX.same hI.sr DR.none)
  | litS => exact Calls.Constant_str (PX.tok hI.sr (DR.str _ _))

theorem isGlob_inv {sc : Sc} {x : Str} (h : isGlob sc x = true) : sc.lookup x = some .globalImplicit ∧ (x == ("__debug__" : Str)) = false := by
  unfold isGlob at h
  simp only [Bool.and_eq_true, beq_iff_eq, Bool.not_eq_true'] at h
  exact h

theorem name_glob {sc : Sc} {nm : Nm} {env : PySem.Env} {A : Around} {E : Value → Shared → Prop} {s : Shared} {ρ : Rho} {as : List Addr} {Y : Addr → Prop} {σ : St} {x : Str} {pos : Pos} {v : Value} {Q : Value → Shared → Prop}
    (O : Ok C W) (hI : Inv C env nm ρ as Y σ s) (hs : env.scope.names = sc) (hg : isGlob sc x = true) (hv : C.mg x = some v) (h : Q v s) : wpAny (model C.prog C.w) A (eval (.Name x pos) env) Q E s := by
  obtain ⟨h1, h2⟩ := isGlob_inv hg
  exact Calls.Name_function_global hI.fr.kind (by unfold Env.kindOf; rw [hs]; exact h1) (Calls.loadGlobal_global (env := env) (by rw [hI.fr.glob]; exact O.g.keeps hI.base) hv h) h2
theorem name_bi {sc : Sc} {nm : Nm} {env : PySem.Env} {A : Around} {E : Value → Shared → Prop} {s : Shared} {ρ : Rho} {as : List Addr} {Y : Addr → Prop} {σ : St} {x : Str} {pos : Pos} {v : Value} {Q : Value → Shared → Prop}
    (O : Ok C W) (hI : Inv C env nm ρ as Y σ s) (hs : env.scope.names = sc) (hg : isGlob sc x = true) (hv : (x, v) ∈ biTab) (h : Q v s) : wpAny (model C.prog C.w) A (eval (.Name x pos) env) Q E s := by
  obtain ⟨h1, h2⟩ := isGlob_inv hg
  obtain ⟨b1, b2⟩ := O.bi _ hv
  exact Calls.Name_function_global hI.fr.kind (by unfold Env.kindOf; rw [hs]; exact h1) (Calls.loadGlobal_builtin (env := env) (by rw [hI.fr.glob]; exact O.g.keeps hI.base) b1 (by rw [hI.fr.blt]; exact O.b.keeps hI.base) b2 h) h2

theorem sx_glob (O : Ok C W) (g : String) (x : PyData) : SX C W Φ k (.glob g x) := by
  intro sc nm e env A E s ρ as Y σ σ' v hm hs hA hI he
  cases he
  cases hm.inv with
  | glob hg hl =>
    obtain ⟨t, ht⟩ := O.gl _ _ hl
    exact name_glob O hI hs hg ht (PX.same hI.sr (DR.int _ _))
theorem sx_fnv (O : Ok C W) (f : Nat) : SX C W Φ k (.fnv f) := by
  intro sc nm e env A E s ρ as Y σ σ' v hm hs hA hI he
  cases he
  cases hm.inv with
  | fnv hg hl => exact name_glob O hI hs hg (O.fn _ _ hl) (PX.same hI.sr rfl)

/-- one after the other -/
theorem R.bind_inv {α β : Type} {r : R α} {f : α → R β} {b : β} (h : r.bind f = .ok b) : ∃ a, r = .ok a ∧ f a = .ok b := by
  cases r with
  | ok a => exact ⟨a, rfl, h⟩
  | exc c => cases h
  | stuck => cases h
theorem ofO_inv {α : Type} {o : Option α} {a : α} (h : ofO o = .ok a) : o = some a := by
  cases o with
  | none => cases h
  | some b => cases h; rfl

theorem sx_neg {a : X} (ha : SX C W Φ k a) : SX C W Φ k (.neg a) := by
  intro sc nm e env A E s ρ as Y σ σ' v hm hs hA hI he
  obtain ⟨⟨x, σ₁⟩, h1, h2⟩ := R.bind_inv he
  cases hm.inv with
  | neg hm =>
    refine PyProof.Rows.UnaryOp_ (wpAny_mono (ha _ _ _ env A E s ρ as Y σ σ₁ x hm hs hA hI h1) (fun u s₁ p => ?_) fun _ _ y => y)
    obtain ⟨as₁, p1, p2⟩ := p
    dsimp only at h2
    split at h2
    · cases h2
      rename_i i
      obtain ⟨t, rfl⟩ := DR.int_inv p2
      exact PyProof.Rows.neg_int (PX.trans p1 (PX.tok p1.sr (DR.int _ _)))
    · cases h2
theorem sx_not {a : X} (ha : SX C W Φ k a) : SX C W Φ k (.not a) := by
  intro sc nm e env A E s ρ as Y σ σ' v hm hs hA hI he
  obtain ⟨⟨x, σ₁⟩, h1, h2⟩ := R.bind_inv he
  obtain ⟨b, h3, h4⟩ := R.bind_inv h2
  have h3 := truthy_inv (ofO_inv h3)
  dsimp only at h3 h4
  subst h3
  cases h4
  cases hm.inv with
  | not hm =>
    refine PyProof.Rows.UnaryOp_ (wpAny_mono (ha _ _ _ env A E s ρ as Y σ _ _ hm hs hA hI h1) (fun u s₁ p => ?_) fun _ _ y => y)
    obtain ⟨as₁, p1, p2⟩ := p
    obtain rfl := DR.bool_inv p2
    exact PyProof.Rows.not_of (wpAny_truthy_bool (PX.trans p1 (PX.same p1.sr (DR.bool _))))
theorem st_not {a : X} (ha : ST C W Φ k a) : ST C W Φ k (.not a) := by
  intro sc nm e env A E s ρ as Y σ σ' v b hm hs hA hI he ht
  obtain ⟨⟨x, σ₁⟩, h1, h2⟩ := R.bind_inv he
  obtain ⟨c, h3, h4⟩ := R.bind_inv h2
  have h3' := ofO_inv h3
  cases h4
  cases ht
  cases hm.inv with
  | not hm =>
    refine PyProof.Rows.isTrue_not (wpAny_mono (ha _ _ _ env A E s ρ as Y σ _ x c hm hs hA hI h1 h3') (fun u s₁ p => ?_) fun _ _ y => y)
    obtain ⟨rfl, p⟩ := p
    exact ⟨rfl, p⟩

theorem sx_and {a b : X} (ha : SX C W Φ k a) (hb : SX C W Φ k b) : SX C W Φ k (.and a b) := by
  intro sc nm e env A E s ρ as Y σ σ' v hm hs hA hI he
  obtain ⟨⟨x, σ₁⟩, h1, h2⟩ := R.bind_inv he
  obtain ⟨c, h3, h4⟩ := R.bind_inv h2
  have h3 := truthy_inv (ofO_inv h3)
  dsimp only at h3 h4
  subst h3
  have key : ∀ l r rest pos, MX W sc nm a l → (∀ s₁ as₁, Step C as Y σ₁ as₁ s s₁ → c = true → wpAny (model C.prog C.w) A (eval (.BoolOp .And (r :: rest) pos) env) (PX C as₁ Y σ' v s₁) E s₁) →
      wpAny (model C.prog C.w) A (eval (.BoolOp .And (l :: r :: rest) pos) env) (PX C as Y σ' v s) E s := by
    intro l r rest pos hl hr
    refine PyProof.Rows.BoolOp_and (wpAny_mono (ha _ _ _ env A E s ρ as Y σ σ₁ _ hl hs hA hI h1) (fun u s₁ p => ?_) fun _ _ y => y)
    obtain ⟨as₁, p1, p2⟩ := p
    obtain rfl := DR.bool_inv p2
    refine wpAny_truthy_bool ?_
    cases c with
    | true => exact wpAny_mono (hr s₁ as₁ p1 rfl) (fun _ _ q => PX.trans p1 q) fun _ _ y => y
    | false => simp only [Bool.false_eq_true, if_false] at h4 ⊢; cases h4; exact ⟨as₁, p1, p2⟩
  cases hm.inv with
  | and2 m1 m2 =>
    refine key _ _ _ _ m1 fun s₁ as₁ p1 hc => PyProof.Rows.BoolOp_one ?_
    subst hc
    exact hb _ _ _ env A E s₁ ρ as₁ Y σ₁ σ' v m2 hs hA (hI.step p1) h4
  | and m1 m2 =>
    refine key _ _ _ _ m1 fun s₁ as₁ p1 hc => ?_
    subst hc
    exact hb _ _ _ env A E s₁ ρ as₁ Y σ₁ σ' v m2 hs hA (hI.step p1) h4
theorem sx_or {a b : X} (ha : SX C W Φ k a) (hb : SX C W Φ k b) : SX C W Φ k (.or a b) := by
  intro sc nm e env A E s ρ as Y σ σ' v hm hs hA hI he
  obtain ⟨⟨x, σ₁⟩, h1, h2⟩ := R.bind_inv he
  obtain ⟨c, h3, h4⟩ := R.bind_inv h2
  have h3 := truthy_inv (ofO_inv h3)
  dsimp only at h3 h4
  subst h3
  have key : ∀ l r rest pos, MX W sc nm a l → (∀ s₁ as₁, Step C as Y σ₁ as₁ s s₁ → c = false → wpAny (model C.prog C.w) A (eval (.BoolOp .Or (r :: rest) pos) env) (PX C as₁ Y σ' v s₁) E s₁) →
      wpAny (model C.prog C.w) A (eval (.BoolOp .Or (l :: r :: rest) pos) env) (PX C as Y σ' v s) E s := by
    intro l r rest pos hl hr
    refine PyProof.Rows.BoolOp_or (wpAny_mono (ha _ _ _ env A E s ρ as Y σ σ₁ _ hl hs hA hI h1) (fun u s₁ p => ?_) fun _ _ y => y)
    obtain ⟨as₁, p1, p2⟩ := p
    obtain rfl := DR.bool_inv p2
    refine wpAny_truthy_bool ?_
    cases c with
    | false => exact wpAny_mono (hr s₁ as₁ p1 rfl) (fun _ _ q => PX.trans p1 q) fun _ _ y => y
    | true => simp only [if_true] at h4 ⊢; cases h4; exact ⟨as₁, p1, p2⟩
  cases hm.inv with
  | or2 m1 m2 =>
    refine key _ _ _ _ m1 fun s₁ as₁ p1 hc => PyProof.Rows.BoolOp_one ?_
    subst hc
    exact hb _ _ _ env A E s₁ ρ as₁ Y σ₁ σ' v m2 hs hA (hI.step p1) h4
  | or m1 m2 =>
    refine key _ _ _ _ m1 fun s₁ as₁ p1 hc => ?_
    subst hc
    exact hb _ _ _ env A E s₁ ρ as₁ Y σ₁ σ' v m2 hs hA (hI.step p1) h4

theorem st_and {a b : X} (ha : ST C W Φ k a) (hb : ST C W Φ k b) : ST C W Φ k (.and a b) := by
  intro sc nm e env A E s ρ as Y σ σ' v bb hm hs hA hI he ht
  obtain ⟨⟨x, σ₁⟩, h1, h2⟩ := R.bind_inv he
  obtain ⟨c, h3, h4⟩ := R.bind_inv h2
  have h3t := ofO_inv h3
  clear h3
  dsimp only at h3t h4
  have key : ∀ l rest pos whole, MX W sc nm a l → (∀ s₁ as₁, Step C as Y σ₁ as₁ s s₁ → c = true → wpAny (model C.prog C.w) A (isTrue (.BoolOp .And rest pos) env whole) (fun c s' => c = bb ∧ ∃ as', Step C as₁ Y σ' as' s₁ s') E s₁) →
      wpAny (model C.prog C.w) A (isTrue (.BoolOp .And (l :: rest) pos) env whole) (fun c s' => c = bb ∧ ∃ as', Step C as Y σ' as' s s') E s := by
    intro l rest pos whole hl hr
    refine PyProof.Rows.isTrue_and (wpAny_mono (ha _ _ _ env A E s ρ as Y σ σ₁ _ c hl hs hA hI h1 h3t) (fun u s₁ p => ?_) fun _ _ y => y)
    obtain ⟨rfl, as₁, p1⟩ := p
    cases u with
    | true => exact wpAny_mono (hr s₁ as₁ p1 rfl) (fun _ _ q => ⟨q.1, let ⟨as', q⟩ := q.2; ⟨as', p1.trans q⟩⟩) fun _ _ y => y
    | false => simp only [Bool.false_eq_true, if_false] at h4 ⊢; cases h4; rw [h3t] at ht; cases ht; exact ⟨rfl, as₁, p1⟩
  cases hm.inv with
  | and2 m1 m2 =>
    refine key _ _ _ _ m1 fun s₁ as₁ p1 hc => ?_
    subst hc
    refine PyProof.Rows.isTrue_and (wpAny_mono (hb _ _ _ env A E s₁ ρ as₁ Y σ₁ σ' v bb m2 hs hA (hI.step p1) h4 ht) (fun u s₂ p => ?_) fun _ _ y => y)
    obtain ⟨rfl, p⟩ := p
    cases u with
    | true => exact PyProof.Rows.isTrue_and_nil ⟨rfl, p⟩
    | false => exact ⟨rfl, p⟩
  | and m1 m2 =>
    refine key _ _ _ _ m1 fun s₁ as₁ p1 hc => ?_
    subst hc
    exact hb _ _ _ env A E s₁ ρ as₁ Y σ₁ σ' v bb m2 hs hA (hI.step p1) h4 ht
theorem st_or {a b : X} (ha : ST C W Φ k a) (hb : ST C W Φ k b) : ST C W Φ k (.or a b) := by
  intro sc nm e env A E s ρ as Y σ σ' v bb hm hs hA hI he ht
  obtain ⟨⟨x, σ₁⟩, h1, h2⟩ := R.bind_inv he
  obtain ⟨c, h3, h4⟩ := R.bind_inv h2
  have h3t := ofO_inv h3
  clear h3
  dsimp only at h3t h4
  have key : ∀ l rest pos whole, MX W sc nm a l → (∀ s₁ as₁, Step C as Y σ₁ as₁ s s₁ → c = false → wpAny (model C.prog C.w) A (isTrue (.BoolOp .Or rest pos) env whole) (fun c s' => c = bb ∧ ∃ as', Step C as₁ Y σ' as' s₁ s') E s₁) →
      wpAny (model C.prog C.w) A (isTrue (.BoolOp .Or (l :: rest) pos) env whole) (fun c s' => c = bb ∧ ∃ as', Step C as Y σ' as' s s') E s := by
    intro l rest pos whole hl hr
    refine PyProof.Rows.isTrue_or (wpAny_mono (ha _ _ _ env A E s ρ as Y σ σ₁ _ c hl hs hA hI h1 h3t) (fun u s₁ p => ?_) fun _ _ y => y)
    obtain ⟨rfl, as₁, p1⟩ := p
    cases u with
    | false => exact wpAny_mono (hr s₁ as₁ p1 rfl) (fun _ _ q => ⟨q.1, let ⟨as', q⟩ := q.2; ⟨as', p1.trans q⟩⟩) fun _ _ y => y
    | true => simp only [if_true] at h4 ⊢; cases h4; rw [h3t] at ht; cases ht; exact ⟨rfl, as₁, p1⟩
  cases hm.inv with
  | or2 m1 m2 =>
    refine key _ _ _ _ m1 fun s₁ as₁ p1 hc => ?_
    subst hc
    refine PyProof.Rows.isTrue_or (wpAny_mono (hb _ _ _ env A E s₁ ρ as₁ Y σ₁ σ' v bb m2 hs hA (hI.step p1) h4 ht) (fun u s₂ p => ?_) fun _ _ y => y)
    obtain ⟨rfl, p⟩ := p
    cases u with
    | false => exact PyProof.Rows.isTrue_or_nil ⟨rfl, p⟩
    | true => exact ⟨rfl, p⟩
  | or m1 m2 =>
    refine key _ _ _ _ m1 fun s₁ as₁ p1 hc => ?_
    subst hc
    exact hb _ _ _ env A E s₁ ρ as₁ Y σ₁ σ' v bb m2 hs hA (hI.step p1) h4 ht
end
end Mine
end

section
/-! M6: the order of tuples and lists -/
namespace Mine
open PySem PySem.SeqAt
open AutoSeq1 (wpAny_loadPart')
open MeetsSeq MeetsSeq2 MeetsSeq3 SeqRoads2

noncomputable def gop (g : Bool) : CmpOp := if g then .Gt else .Lt
noncomputable def OrAt (g : Bool) (A : Around) (s : Shared) (y x : Value) (b : Bool) : Prop :=
  ∀ (prog : Program) (w : World) (E : Value → Shared → Prop) (Q : Value → Shared → Prop), Q (.bool b) s → wpAny (model prog w) A (richCompare (gop g) y x) Q E s

inductive Lex (g : Bool) (A : Around) (s : Shared) : List Value → List Value → Bool → Prop where
  | nil : Lex g A s [] [] false
  | nilL {w : Value} {ws : List Value} : Lex g A s [] (w :: ws) (!g)
  | nilR {v : Value} {vs : List Value} : Lex g A s (v :: vs) [] g
  | eq {v w : Value} {vs ws : List Value} {b : Bool} : EqAt A s v w true → Lex g A s vs ws b → Lex g A s (v :: vs) (w :: ws) b
  | ne {v w : Value} {vs ws : List Value} {b : Bool} : EqAt A s v w false → OrAt g A s v w b → Lex g A s (v :: vs) (w :: ws) b

theorem tuple_ltAt (l b : Addr) (items items2 : Array Value) (n n2 : Nat) (dd dd2 : Option Addr) (sl sl2 : Array (Option Value)) (c : Bool) :
    Meets (Builtin.«tuple.__lt__» ⟨[.ref l, .ref b], []⟩)
      (fun A R s => s.heap.get? l = some { cls := .type "tuple", dict := dd, data := .seq items n, slots := sl } ∧ s.heap.get? b = some { cls := .type "tuple", dict := dd2, data := .seq items2 n2, slots := sl2 } ∧
        Lex false A.in1 s items.toList items2.toList c ∧ R (.ok (.ret (.bool c))) s) :=
  .of_wp fun prog w A R s h => by
    obtain ⟨hp, g, d, tk, os⟩ := s; obtain ⟨hl, hb, he, h⟩ := h
    have f2 := AutoSeq1.sub_tuple_tuple
    wp_walk using wpAny_loadPart' hl, wpAny_loadPart' hb, wpAny_forIn_list _ (fun rest r s' => r.1 = none ∧ s' = ⟨hp, g, d, tk, os⟩ ∧ ∃ vs ws, rest = vs.zip ws ∧ Lex false A.in1 ⟨hp, g, d, tk, os⟩ vs ws c ∧ items.size + ws.length = items2.size + vs.length) _
    case turn =>
      rintro ⟨y, x⟩ rest r s' ⟨hr, rfl, vs, ws, hz, hL, hsz⟩
      cases hL with
      | nil => cases hz
      | nilL => cases hz
      | nilR => cases hz
      | eq he hL =>
        simp only [List.zip_cons_cons, List.cons.injEq, Prod.mk.injEq] at hz
        obtain ⟨⟨rfl, rfl⟩, rfl⟩ := hz
        refine wpAny_bind (he prog w _ _ ?_)
        wp_walk
        exact ⟨rfl, rfl, _, _, rfl, hL, by simp at hsz; omega⟩
      | ne he ho =>
        simp only [List.zip_cons_cons, List.cons.injEq, Prod.mk.injEq] at hz
        obtain ⟨⟨rfl, rfl⟩, rfl⟩ := hz
        have ho' : ∀ (E : Value → Shared → Prop) (Q : Value → Shared → Prop), Q (.bool c) _ → wpAny (model prog w) A.in1 (richCompare .Lt _ _) Q E _ := fun E Q => ho prog w E Q
        refine wpAny_bind (he prog w _ _ ?_)
        wp_walk using ho'
        exact ⟨_, rfl, h⟩
    case fin =>
      rintro ⟨b1, b2⟩ s' ⟨hr, rfl, vs, ws, hz, hL, hsz⟩
      simp only at hr
      subst hr
      wp_walk
      refine ⟨_, rfl, ?_⟩
      have e : Builtin.Tuple.tupleCompareSizes .Lt items.size items2.size = .bool c := by
        unfold Builtin.Tuple.tupleCompareSizes
        cases hL with
        | nil => simp at hsz ⊢; omega
        | nilL => simp at hsz ⊢; omega
        | nilR => simp at hsz ⊢; omega
        | eq => cases hz
        | ne => cases hz
      rw [e]; exact h
    case h => exact ⟨rfl, rfl, _, _, rfl, he, by simp; omega⟩
theorem tuple_gtAt (l b : Addr) (items items2 : Array Value) (n n2 : Nat) (dd dd2 : Option Addr) (sl sl2 : Array (Option Value)) (c : Bool) :
    Meets (Builtin.«tuple.__gt__» ⟨[.ref l, .ref b], []⟩)
      (fun A R s => s.heap.get? l = some { cls := .type "tuple", dict := dd, data := .seq items n, slots := sl } ∧ s.heap.get? b = some { cls := .type "tuple", dict := dd2, data := .seq items2 n2, slots := sl2 } ∧
        Lex true A.in1 s items.toList items2.toList c ∧ R (.ok (.ret (.bool c))) s) :=
  .of_wp fun prog w A R s h => by
    obtain ⟨hp, g, d, tk, os⟩ := s; obtain ⟨hl, hb, he, h⟩ := h
    have f2 := AutoSeq1.sub_tuple_tuple
    wp_walk using wpAny_loadPart' hl, wpAny_loadPart' hb, wpAny_forIn_list _ (fun rest r s' => r.1 = none ∧ s' = ⟨hp, g, d, tk, os⟩ ∧ ∃ vs ws, rest = vs.zip ws ∧ Lex true A.in1 ⟨hp, g, d, tk, os⟩ vs ws c ∧ items.size + ws.length = items2.size + vs.length) _
    case turn =>
      rintro ⟨y, x⟩ rest r s' ⟨hr, rfl, vs, ws, hz, hL, hsz⟩
      cases hL with
      | nil => cases hz
      | nilL => cases hz
      | nilR => cases hz
      | eq he hL =>
        simp only [List.zip_cons_cons, List.cons.injEq, Prod.mk.injEq] at hz
        obtain ⟨⟨rfl, rfl⟩, rfl⟩ := hz
        refine wpAny_bind (he prog w _ _ ?_)
        wp_walk
        exact ⟨rfl, rfl, _, _, rfl, hL, by simp at hsz; omega⟩
      | ne he ho =>
        simp only [List.zip_cons_cons, List.cons.injEq, Prod.mk.injEq] at hz
        obtain ⟨⟨rfl, rfl⟩, rfl⟩ := hz
        have ho' : ∀ (E : Value → Shared → Prop) (Q : Value → Shared → Prop), Q (.bool c) _ → wpAny (model prog w) A.in1 (richCompare .Gt _ _) Q E _ := fun E Q => ho prog w E Q
        refine wpAny_bind (he prog w _ _ ?_)
        wp_walk using ho'
        exact ⟨_, rfl, h⟩
    case fin =>
      rintro ⟨b1, b2⟩ s' ⟨hr, rfl, vs, ws, hz, hL, hsz⟩
      simp only at hr
      subst hr
      wp_walk
      refine ⟨_, rfl, ?_⟩
      have e : Builtin.Tuple.tupleCompareSizes .Gt items.size items2.size = .bool c := by
        unfold Builtin.Tuple.tupleCompareSizes
        cases hL with
        | nil => simp at hsz ⊢; omega
        | nilL => simp at hsz ⊢; omega
        | nilR => simp at hsz ⊢; omega
        | eq => cases hz
        | ne => cases hz
      rw [e]; exact h
    case h => exact ⟨rfl, rfl, _, _, rfl, he, by simp; omega⟩

theorem list_lt_loopAt (l b : Addr) (items items2 : Array Value) (n n2 : Nat) (dd dd2 : Option Addr) (sl sl2 : Array (Option Value)) (c : Bool) (k : Nat) :
    ∀ i : Nat, items.size - i = k → i ≤ items.size → i ≤ items2.size → Meets (Builtin.«list.__eq__.loop» ⟨[.ref l, .ref b, rawInt i, rawInt 0], []⟩)
      (fun A R s => s.heap.get? l = some { cls := .type "list", dict := dd, data := .seq items n, slots := sl } ∧ s.heap.get? b = some { cls := .type "list", dict := dd2, data := .seq items2 n2, slots := sl2 } ∧
        Lex false A.in1 s (items.toList.drop i) (items2.toList.drop i) c ∧ R (.ok (.ret (.bool c))) s) := by
  induction k with
  | zero =>
    intro i hk hi1 hi2 prog w A R s h
    obtain ⟨hp, g, d, tk, os⟩ := s; obtain ⟨hl, hb, he, h⟩ := h
    have e1 : i = items.size := by omega
    have d1 : items.toList.drop i = [] := by simp; omega
    rw [d1] at he
    wp_walk using wpAny_loadPart' hl, wpAny_loadPart' hb
    have hi1 : items[((i : Nat) : Int).toNat]? = none := by simp; omega
    rw [hi1]
    wp_walk using wpAny_loadPart' hl, wpAny_loadPart' hb
    show R (.ok (.ret (.bool (decide (items.size < items2.size))))) _
    have e : (decide (items.size < items2.size)) = c := by
      generalize hq : items2.toList.drop i = q at he
      have hl2 : q.length = items2.size - i := by rw [← hq]; simp
      cases he with
      | nil => simp at hl2 ⊢; omega
      | nilL => simp at hl2 ⊢; omega
    rw [e]; exact h
  | succ k ih =>
    intro i hk hi1 hi2 prog w A R s h
    obtain ⟨hp, g, d, tk, os⟩ := s; obtain ⟨hl, hb, he, h⟩ := h
    have hlt : i < items.size := by omega
    have hi1' : items[((i : Nat) : Int).toNat]? = some items[i] := by simp [hlt]
    have d1 : items.toList.drop i = items[i] :: items.toList.drop (i + 1) := by simp [List.drop_eq_getElem_cons, hlt]
    have hc : ((i : Int) + 1) = ((i + 1 : Nat) : Int) := by push_cast; rfl
    rw [d1] at he
    by_cases hlt2 : i < items2.size
    · have hi2' : items2[((i : Nat) : Int).toNat]? = some items2[i] := by simp [hlt2]
      have d2 : items2.toList.drop i = items2[i] :: items2.toList.drop (i + 1) := by simp [List.drop_eq_getElem_cons, hlt2]
      rw [d2] at he
      wp_walk using wpAny_loadPart' hl, wpAny_loadPart' hb
      rw [hi1', hi2']
      cases he with
      | eq he hL =>
        refine wpAny_bind (he prog w _ _ ?_)
        wp_walk
        rw [hc]
        exact ⟨plainId_quiet plain_eq_loop _, codeAny_builtin entry_eq_loop (by
          rw [Around.under_plainId plain_eq_loop _]
          exact ih (i + 1) (by omega) (by omega) (by omega) prog w A R _ ⟨hl, hb, hL, h⟩)⟩
      | ne he ho =>
        have ho' : ∀ (E : Value → Shared → Prop) (Q : Value → Shared → Prop), Q (.bool c) _ → wpAny (model prog w) A.in1 (richCompare .Lt _ _) Q E _ := fun E Q => ho prog w E Q
        refine wpAny_bind (he prog w _ _ ?_)
        wp_walk using wpAny_loadPart' hl, wpAny_loadPart' hb
        rw [hi1', hi2']
        wp_walk using ho'
        exact h
    · have hi2' : items2[((i : Nat) : Int).toNat]? = none := by simp; omega
      have d2 : items2.toList.drop i = [] := by simp; omega
      rw [d2] at he
      wp_walk using wpAny_loadPart' hl, wpAny_loadPart' hb
      rw [hi1', hi2']
      wp_walk using wpAny_loadPart' hl, wpAny_loadPart' hb
      show R (.ok (.ret (.bool (decide (items.size < items2.size))))) _
      have e : (decide (items.size < items2.size)) = c := by
        cases he with
        | nilR => simp; omega
      rw [e]; exact h
theorem list_ltAt (l b : Addr) (items items2 : Array Value) (n n2 : Nat) (dd dd2 : Option Addr) (sl sl2 : Array (Option Value)) (c : Bool) :
    Meets (Builtin.«list.__lt__» ⟨[.ref l, .ref b], []⟩)
      (fun A R s => s.heap.get? l = some { cls := .type "list", dict := dd, data := .seq items n, slots := sl } ∧ s.heap.get? b = some { cls := .type "list", dict := dd2, data := .seq items2 n2, slots := sl2 } ∧
        Lex false A.in1 s items.toList items2.toList c ∧ R (.ok (.ret (.bool c))) s) := by
  intro prog w A R s h
  obtain ⟨hp, g, d, tk, os⟩ := s; obtain ⟨hl, hb, he, h⟩ := h
  have f3 := AutoSeq1.sub_list_list
  wp_walk using wpAny_loadPart' hl, wpAny_loadPart' hb
  exact ⟨plainId_quiet plain_eq_loop _, codeAny_builtin entry_eq_loop (by
    rw [Around.under_plainId plain_eq_loop _]
    exact list_lt_loopAt l b items items2 n n2 dd dd2 sl sl2 c _ 0 rfl (Nat.zero_le _) (Nat.zero_le _) prog w A R _ ⟨hl, hb, by simpa using he, h⟩)⟩

theorem list_gt_loopAt (l b : Addr) (items items2 : Array Value) (n n2 : Nat) (dd dd2 : Option Addr) (sl sl2 : Array (Option Value)) (c : Bool) (k : Nat) :
    ∀ i : Nat, items.size - i = k → i ≤ items.size → i ≤ items2.size → Meets (Builtin.«list.__eq__.loop» ⟨[.ref l, .ref b, rawInt i, rawInt 4], []⟩)
      (fun A R s => s.heap.get? l = some { cls := .type "list", dict := dd, data := .seq items n, slots := sl } ∧ s.heap.get? b = some { cls := .type "list", dict := dd2, data := .seq items2 n2, slots := sl2 } ∧
        Lex true A.in1 s (items.toList.drop i) (items2.toList.drop i) c ∧ R (.ok (.ret (.bool c))) s) := by
  induction k with
  | zero =>
    intro i hk hi1 hi2 prog w A R s h
    obtain ⟨hp, g, d, tk, os⟩ := s; obtain ⟨hl, hb, he, h⟩ := h
    have e1 : i = items.size := by omega
    have d1 : items.toList.drop i = [] := by simp; omega
    rw [d1] at he
    wp_walk using wpAny_loadPart' hl, wpAny_loadPart' hb
    have hi1 : items[((i : Nat) : Int).toNat]? = none := by simp; omega
    rw [hi1]
    wp_walk using wpAny_loadPart' hl, wpAny_loadPart' hb
    show R (.ok (.ret (.bool (decide (items.size > items2.size))))) _
    have e : (decide (items.size > items2.size)) = c := by
      generalize hq : items2.toList.drop i = q at he
      have hl2 : q.length = items2.size - i := by rw [← hq]; simp
      cases he with
      | nil => simp at hl2 ⊢; omega
      | nilL => simp at hl2 ⊢; omega
    rw [e]; exact h
  | succ k ih =>
    intro i hk hi1 hi2 prog w A R s h
    obtain ⟨hp, g, d, tk, os⟩ := s; obtain ⟨hl, hb, he, h⟩ := h
    have hlt : i < items.size := by omega
    have hi1' : items[((i : Nat) : Int).toNat]? = some items[i] := by simp [hlt]
    have d1 : items.toList.drop i = items[i] :: items.toList.drop (i + 1) := by simp [List.drop_eq_getElem_cons, hlt]
    have hc : ((i : Int) + 1) = ((i + 1 : Nat) : Int) := by push_cast; rfl
    rw [d1] at he
    by_cases hlt2 : i < items2.size
    · have hi2' : items2[((i : Nat) : Int).toNat]? = some items2[i] := by simp [hlt2]
      have d2 : items2.toList.drop i = items2[i] :: items2.toList.drop (i + 1) := by simp [List.drop_eq_getElem_cons, hlt2]
      rw [d2] at he
      wp_walk using wpAny_loadPart' hl, wpAny_loadPart' hb
      rw [hi1', hi2']
      cases he with
      | eq he hL =>
        refine wpAny_bind (he prog w _ _ ?_)
        wp_walk
        rw [hc]
        exact ⟨plainId_quiet plain_eq_loop _, codeAny_builtin entry_eq_loop (by
          rw [Around.under_plainId plain_eq_loop _]
          exact ih (i + 1) (by omega) (by omega) (by omega) prog w A R _ ⟨hl, hb, hL, h⟩)⟩
      | ne he ho =>
        have ho' : ∀ (E : Value → Shared → Prop) (Q : Value → Shared → Prop), Q (.bool c) _ → wpAny (model prog w) A.in1 (richCompare .Gt _ _) Q E _ := fun E Q => ho prog w E Q
        refine wpAny_bind (he prog w _ _ ?_)
        wp_walk using wpAny_loadPart' hl, wpAny_loadPart' hb
        rw [hi1', hi2']
        wp_walk using ho'
        exact h
    · have hi2' : items2[((i : Nat) : Int).toNat]? = none := by simp; omega
      have d2 : items2.toList.drop i = [] := by simp; omega
      rw [d2] at he
      wp_walk using wpAny_loadPart' hl, wpAny_loadPart' hb
      rw [hi1', hi2']
      wp_walk using wpAny_loadPart' hl, wpAny_loadPart' hb
      show R (.ok (.ret (.bool (decide (items.size > items2.size))))) _
      have e : (decide (items.size > items2.size)) = c := by
        cases he with
        | nilR => simp; omega
      rw [e]; exact h
theorem list_gtAt (l b : Addr) (items items2 : Array Value) (n n2 : Nat) (dd dd2 : Option Addr) (sl sl2 : Array (Option Value)) (c : Bool) :
    Meets (Builtin.«list.__gt__» ⟨[.ref l, .ref b], []⟩)
      (fun A R s => s.heap.get? l = some { cls := .type "list", dict := dd, data := .seq items n, slots := sl } ∧ s.heap.get? b = some { cls := .type "list", dict := dd2, data := .seq items2 n2, slots := sl2 } ∧
        Lex true A.in1 s items.toList items2.toList c ∧ R (.ok (.ret (.bool c))) s) := by
  intro prog w A R s h
  obtain ⟨hp, g, d, tk, os⟩ := s; obtain ⟨hl, hb, he, h⟩ := h
  have f3 := AutoSeq1.sub_list_list
  wp_walk using wpAny_loadPart' hl, wpAny_loadPart' hb
  exact ⟨plainId_quiet plain_eq_loop _, codeAny_builtin entry_eq_loop (by
    rw [Around.under_plainId plain_eq_loop _]
    exact list_gt_loopAt l b items items2 n n2 dd dd2 sl sl2 c _ 0 rfl (Nat.zero_le _) (Nat.zero_le _) prog w A R _ ⟨hl, hb, by simpa using he, h⟩)⟩

theorem OrAt.tuples {g : Bool} {A : Around} {s : Shared} {l b : Addr} {items items2 : Array Value} {c : Bool} (hl : s.heap.IsTuple l items) (hb : s.heap.IsTuple b items2) (hu : A.units < cLine)
    (he : Lex g A.in1 s items.toList items2.toList c) : OrAt g A s (.ref l) (.ref b) c := fun prog w E Q h => by
  obtain ⟨⟨cls, dd, data, sl⟩, ho, hc, n, hd⟩ := id hl
  obtain ⟨⟨cls2, dd2, data2, sl2⟩, ho2, hc2, n2, hd2⟩ := id hb
  simp only at hc hd hc2 hd2
  subst hc hd hc2 hd2
  cases g with
  | false =>
    exact richCompare_meets_room (op := .Lt) ⟨_, ho, rfl⟩ ⟨_, ho2, rfl⟩ F.slot_tuple_lt F.entry_tuple_lt (F.args_tuple_lt_2 _ _) (tuple_ltAt l b items items2 n n2 dd dd2 sl sl2 c)
      ⟨ho, ho2, he, show Value.bool c ≠ Value.notImplemented ∧ Q (.bool c) s from ⟨(fun x => nomatch x), h⟩⟩ hu
  | true =>
    exact richCompare_meets_room (op := .Gt) ⟨_, ho, rfl⟩ ⟨_, ho2, rfl⟩ F.slot_tuple_gt F.entry_tuple_gt (F.args_tuple_gt_2 _ _) (tuple_gtAt l b items items2 n n2 dd dd2 sl sl2 c)
      ⟨ho, ho2, he, show Value.bool c ≠ Value.notImplemented ∧ Q (.bool c) s from ⟨(fun x => nomatch x), h⟩⟩ hu
theorem OrAt.lists {g : Bool} {A : Around} {s : Shared} {l b : Addr} {items items2 : Array Value} {c : Bool} (hl : s.heap.IsList l items) (hb : s.heap.IsList b items2) (hu : A.units < cLine)
    (he : Lex g A.in1 s items.toList items2.toList c) : OrAt g A s (.ref l) (.ref b) c := fun prog w E Q h => by
  obtain ⟨⟨cls, dd, data, sl⟩, ho, hc, n, hd⟩ := id hl
  obtain ⟨⟨cls2, dd2, data2, sl2⟩, ho2, hc2, n2, hd2⟩ := id hb
  simp only at hc hd hc2 hd2
  subst hc hd hc2 hd2
  cases g with
  | false =>
    exact richCompare_meets_room (op := .Lt) ⟨_, ho, rfl⟩ ⟨_, ho2, rfl⟩ F.slot_list_lt F.entry_list_lt (F.args_list_lt_2 _ _) (list_ltAt l b items items2 n n2 dd dd2 sl sl2 c)
      ⟨ho, ho2, he, show Value.bool c ≠ Value.notImplemented ∧ Q (.bool c) s from ⟨(fun x => nomatch x), h⟩⟩ hu
  | true =>
    exact richCompare_meets_room (op := .Gt) ⟨_, ho, rfl⟩ ⟨_, ho2, rfl⟩ F.slot_list_gt F.entry_list_gt (F.args_list_gt_2 _ _) (list_gtAt l b items items2 n n2 dd dd2 sl sl2 c)
      ⟨ho, ho2, he, show Value.bool c ≠ Value.notImplemented ∧ Q (.bool c) s from ⟨(fun x => nomatch x), h⟩⟩ hu

mutual
theorem ord_at : ∀ (x y : PyData) (g b : Bool) (A : Around) (s : Shared) (u v : Value) (fp fq : List Addr), ordD g x y = some b → Reads s.heap u x fp → Reads s.heap v y fq → x.canLay0 = true → y.canLay0 = true →
    A.units + min x.depth y.depth < cLine → OrAt g A s u v b
  | .int i, y, g, b, A, s, u, v, fp, fq, ho, ru, rv, _, _, hu => by
    cases y with
    | int j =>
      cases ru; cases rv
      rename_i t u
      intro prog w E Q h
      cases g with
      | false => simp only [ordD] at ho; cases ho; exact PyProof.Rows.lt_int h
      | true => simp only [ordD] at ho; cases ho; exact PyProof.Rows.gt_int h
    | _ => simp [ordD] at ho
  | .tuple xs, y, g, b, A, s, u, v, fp, fq, ho, ru, rv, hx, hy, hu => by
    cases y with
    | tuple ys =>
      simp only [ordD] at ho
      cases ru with
      | tuple e1 e2 e3 e4 =>
        cases rv with
        | tuple k1 k2 k3 k4 =>
          exact OrAt.tuples ⟨_, e1, e2, _, e3⟩ ⟨_, k1, k2, _, k3⟩ (room_here hu) (ords_at xs ys g b A.in1 s _ _ _ _ ho e4 k4 hx hy (room_in hu))
    | _ => simp [ordD] at ho
  | .list xs, y, g, b, A, s, u, v, fp, fq, ho, ru, rv, hx, hy, hu => by
    cases y with
    | list ys =>
      simp only [ordD] at ho
      cases ru with
      | list e1 e2 e3 e4 =>
        cases rv with
        | list k1 k2 k3 k4 =>
          exact OrAt.lists ⟨_, e1, e2, _, e3⟩ ⟨_, k1, k2, _, k3⟩ (room_here hu) (ords_at xs ys g b A.in1 s _ _ _ _ ho e4 k4 hx hy (room_in hu))
    | _ => simp [ordD] at ho
  | .none, y, g, b, A, s, u, v, fp, fq, ho, ru, rv, _, _, hu => by simp [ordD] at ho
  | .bool _, y, g, b, A, s, u, v, fp, fq, ho, ru, rv, _, _, hu => by simp [ordD] at ho
  | .str _, y, g, b, A, s, u, v, fp, fq, ho, ru, rv, _, _, hu => by simp [ordD] at ho
  | .dict _, y, g, b, A, s, u, v, fp, fq, ho, ru, rv, _, _, hu => by simp [ordD] at ho
theorem ords_at : ∀ (xs ys : List PyData) (g b : Bool) (A : Around) (s : Shared) (us vs : List Value) (fp fq : List Addr), ordDs g xs ys = some b → ReadsAll s.heap us xs fp → ReadsAll s.heap vs ys fq → PyData.canLayAll0 xs = true → PyData.canLayAll0 ys = true →
    A.units + min (PyData.depthAll xs) (PyData.depthAll ys) < cLine → Lex g A s us vs b
  | [], ys, g, b, A, s, us, vs, fp, fq, ho, ru, rv, _, _, hu => by
    cases ru
    cases ys with
    | nil => cases rv; simp only [ordDs] at ho; cases ho; exact .nil
    | cons y ys => cases rv; simp only [ordDs] at ho; cases ho; exact .nilL
  | x :: xs, ys, g, b, A, s, us, vs, fp, fq, ho, ru, rv, hx, hy, hu => by
    cases ru with
    | cons r1 r2 =>
      cases ys with
      | nil => cases rv; simp only [ordDs] at ho; cases ho; exact .nilR
      | cons y ys =>
        cases rv with
        | cons q1 q2 =>
          have hx' : x.canLay0 = true ∧ PyData.canLayAll0 xs = true := by simpa [PyData.canLayAll0] using hx
          have hy' : y.canLay0 = true ∧ PyData.canLayAll0 ys = true := by simpa [PyData.canLayAll0] using hy
          have he := eqAt_reads x y A s _ _ _ _ r1 q1 hx'.1 hy'.1 (room_head hu)
          simp only [ordDs] at ho
          split at ho
          · rename_i hq
            rw [hq] at he
            exact .eq he (ords_at xs ys g b A s _ _ _ _ ho r2 q2 hx'.2 hy'.2 (room_tail hu))
          · rename_i hq
            rw [Bool.eq_false_iff.mpr hq] at he
            exact .ne he (ord_at x y g b A s _ _ _ _ ho r1 q1 hx'.1 hy'.1 (room_head hu))
end
end Mine
end

section
/-! M7: reading through references; comparisons; arithmetic -/
namespace Mine
open PySem PySem.Spec PySem.SeqAt

theorem allO_inv {α β : Type} {f : α → Option β} : ∀ {l : List α} {m : List β}, allO f l = some m → All2 (fun a b => f a = some b) l m
  | [], m, h => by simp only [allO] at h; cases h; exact .nil
  | a :: r, m, h => by
    simp only [allO] at h
    split at h
    · rename_i b t h1 h2
      cases h
      exact .cons h1 (allO_inv h2)
    · cases h
theorem All2.comp {α β γ : Type} {P : α → β → Prop} {Q : α → γ → Prop} {T : β → γ → Prop} {l : List α} {m : List β} {n : List γ} (x : All2 P l m) (y : All2 Q l n) (h : ∀ a b c, a ∈ l → P a b → Q a c → T b c) : All2 T m n := by
  induction x generalizing n with
  | nil => cases y; exact .nil
  | cons p _ ih =>
    cases y with
    | cons q y => exact .cons (h _ _ _ (.head _) p q) (ih y fun a b c m => h a b c (.tail _ m))

/-- plain data, outside of X -/
noncomputable def DX (X : Addr → Prop) (h : Heap) (x : PyData) (u : Value) : Prop := noDict x = true ∧ ∃ fp, Reads h u x fp ∧ ∀ a ∈ fp, ¬ X a
theorem DR.dx {as : List Addr} {X : Addr → Prop} {h : Heap} {x : PyData} {u : Value} (r : DR as X h x u) : DX X h x u := let ⟨n, fp, r, f⟩ := r; ⟨n, fp, r, fun a m => (f a m).2⟩
theorem DX.all {X : Addr → Prop} {h : Heap} {xs : List PyData} {us : List Value} (r : All2 (DX X h) xs us) : noDicts xs = true ∧ ∃ fp, ReadsAll h us xs fp ∧ ∀ a ∈ fp, ¬ X a := by
  induction r with
  | nil => exact ⟨rfl, [], .nil, fun _ m => nomatch m⟩
  | cons p _ ih =>
    obtain ⟨n, fp, r, f⟩ := p
    obtain ⟨n', fp', r', f'⟩ := ih
    refine ⟨by simp [noDicts, n, n'], fp ++ fp', .cons r r', fun a m => ?_⟩
    rcases List.mem_append.mp m with m | m
    · exact f a m
    · exact f' a m
theorem DX.unall {X : Addr → Prop} {h : Heap} : ∀ {xs : List PyData} {us : List Value} {fp : List Addr}, ReadsAll h us xs fp → noDicts xs = true → (∀ a ∈ fp, ¬ X a) → All2 (DX X h) xs us
  | _, _, _, .nil, _, _ => .nil
  | _, _, _, .cons r t, n, f => by
    simp only [noDicts, Bool.and_eq_true] at n
    exact .cons ⟨n.1, _, r, fun a m => f a (List.mem_append_left _ m)⟩ (DX.unall t n.2 fun a m => f a (List.mem_append_right _ m))
theorem DR.all {as : List Addr} {X : Addr → Prop} {h : Heap} {xs : List PyData} {us : List Value} (r : All2 (DR as X h) xs us) : noDicts xs = true ∧ ∃ fp, ReadsAll h us xs fp ∧ ∀ a ∈ fp, a ∉ as ∧ ¬ X a := by
  induction r with
  | nil => exact ⟨rfl, [], .nil, fun _ m => nomatch m⟩
  | cons p _ ih =>
    obtain ⟨n, fp, r, f⟩ := p
    obtain ⟨n', fp', r', f'⟩ := ih
    refine ⟨by simp [noDicts, n, n'], fp ++ fp', .cons r r', fun a m => ?_⟩
    rcases List.mem_append.mp m with m | m
    · exact f a m
    · exact f' a m
theorem DR.unall {as : List Addr} {X : Addr → Prop} {h : Heap} : ∀ {xs : List PyData} {us : List Value} {fp : List Addr}, ReadsAll h us xs fp → noDicts xs = true → (∀ a ∈ fp, a ∉ as ∧ ¬ X a) → All2 (DR as X h) xs us
  | _, _, _, .nil, _, _ => .nil
  | _, _, _, .cons r t, n, f => by
    simp only [noDicts, Bool.and_eq_true] at n
    exact .cons ⟨n.1, _, r, fun a m => f a (List.mem_append_left _ m)⟩ (DR.unall t n.2 fun a m => f a (List.mem_append_right _ m))

theorem rv_reads {C : Cx} {as : List Addr} {X : Addr → Prop} {σ : St} {h : Heap} (r : SR C as X σ h) : ∀ (k : Nat) (v : V) (x : PyData) (u : Value), rv σ k v = some x → VR C as X h v u → stor v = true → DX X h x u
  | 0, v, x, u, e, hv, hs => by
    cases v with
    | d y => simp only [rv] at e; cases e; exact DR.dx hv
    | _ => simp [rv] at e
  | k + 1, v, x, u, e, hv, hs => by
    cases v with
    | d y => simp only [rv] at e; cases e; exact DR.dx hv
    | tmp y => simp [stor] at hs
    | ref n =>
      simp only [rv] at e
      obtain ⟨a, ha, rfl⟩ := hv
      split at e
      · rename_i xs hx
        obtain ⟨ds, hd, rfl⟩ := Option.map_eq_some_iff.mp e
        obtain ⟨vs, ⟨m, ho⟩, h2, h3⟩ := r.obj n _ a hx ha
        have := DX.all ((allO_inv hd).comp h2 (T := DX X h) fun v x u m e' hv => rv_reads r k v x u e' hv (List.all_eq_true.mp h3 v m))
        obtain ⟨n', fp, rr, f⟩ := this
        refine ⟨n', a :: fp, .list ho rfl rfl rr, fun b m => ?_⟩
        rcases List.mem_cons.mp m with rfl | m
        · exact (r.fresh b (List.mem_of_getElem? ha)).2
        · exact f b m
      · cases e
    | _ => simp [rv] at e
theorem res_reads {C : Cx} {as : List Addr} {X : Addr → Prop} {σ : St} {h : Heap} (r : SR C as X σ h) {v : V} {x : PyData} {u : Value} (e : res σ v = some x) (hv : VR C as X h v u) : noDict x = true ∧ ∃ fp, Reads h u x fp := by
  by_cases hs : stor v = true
  · obtain ⟨n, fp, r, _⟩ := rv_reads r 2 v x u e hv hs
    exact ⟨n, fp, r⟩
  · cases v with
    | tmp y => simp only [res, rv] at e; cases e; exact hv
    | undef => simp [res, rv] at e
    | _ => simp [stor] at hs

theorem okD_inv {x : PyData} (h : okD x = true) : x.canLay0 = true ∧ x.depth ≤ 60 := by
  simp only [okD, Bool.and_eq_true, decide_eq_true_eq] at h; exact h

section
variable {C : Cx} {W : Wd} {Φ : Fn} {k : Nat}

/-- items of a sequence and a sought thing: which are equal -/
theorem eq_fun (h : Heap) (y : PyData) : ∃ e : Value → Bool, ∀ x u fp, Reads h u x fp → e u = PyData.eqv x y := by
  classical
  refine ⟨fun u => decide (∃ x fp, Reads h u x fp ∧ PyData.eqv x y = true), fun x u fp r => ?_⟩
  rw [Bool.eq_iff_iff, decide_eq_true_eq]
  constructor
  · rintro ⟨x', fp', r', e⟩
    obtain ⟨rfl, _⟩ := r.unique _ _ r'
    exact e
  · exact fun e => ⟨x, fp, r, e⟩
theorem any_fun {h : Heap} {y : PyData} {e : Value → Bool} (he : ∀ x u fp, Reads h u x fp → e u = PyData.eqv x y) : ∀ {xs : List PyData} {us : List Value} {fp : List Addr}, ReadsAll h us xs fp → us.any e = xs.any fun x => PyData.eqv x y
  | _, _, _, .nil => rfl
  | _, _, _, .cons r t => by rw [List.any_cons, List.any_cons, he _ _ _ r, any_fun he t]
theorem mem_reads {h : Heap} : ∀ {xs : List PyData} {us : List Value} {fp : List Addr}, ReadsAll h us xs fp → ∀ u ∈ us, ∃ x ∈ xs, ∃ fp, Reads h u x fp
  | _, _, _, .nil, _, m => nomatch m
  | _, _, _, .cons r t, u, m => by
    rcases List.mem_cons.mp m with rfl | m
    · exact ⟨_, .head _, _, r⟩
    · obtain ⟨x, hx, q⟩ := mem_reads t u m; exact ⟨x, .tail _ hx, q⟩

theorem cmpD_sound {A : Around} {E : Value → Shared → Prop} {s : Shared} {op : Cop} {x y : PyData} {u v : Value} {fp fq : List Addr} {b : Bool} {Q : Value → Shared → Prop} (hA : AOk A k) (hx : Reads s.heap u x fp) (hy : Reads s.heap v y fq)
    (e : cmpD op x y = some b) (h : Q (.bool b) s) : wpAny (model C.prog C.w) A (compareOp (copOf op) u v) Q E s := by
  have hu := hA.un
  cases op with
  | eq =>
    simp only [cmpD, eqD] at e
    split at e
    · rename_i hk
      cases e
      simp only [Bool.and_eq_true] at hk
      exact compareEq_reads hx hy (okD_inv hk.1).1 (okD_inv hk.2).1 (by have := (okD_inv hk.1).2; omega) h
    · cases e
  | ne =>
    simp only [cmpD, eqD] at e
    split at e
    · rename_i hk
      simp only [Option.map_some, Option.some.injEq] at e
      subst e
      simp only [Bool.and_eq_true] at hk
      exact compareNe_reads hx hy (okD_inv hk.1).1 (okD_inv hk.2).1 (by have := (okD_inv hk.1).2; omega) h
    · cases e
  | lt =>
    simp only [cmpD, ltD] at e
    split at e
    · rename_i hk
      simp only [Bool.and_eq_true] at hk
      exact ord_at x y false b A s u v fp fq e hx hy (okD_inv hk.1).1 (okD_inv hk.2).1 (by have := (okD_inv hk.1).2; omega) C.prog C.w E Q h
    · cases e
  | gt =>
    simp only [cmpD, ltD] at e
    split at e
    · rename_i hk
      simp only [Bool.and_eq_true] at hk
      exact ord_at x y true b A s u v fp fq e hx hy (okD_inv hk.1).1 (okD_inv hk.2).1 (by have := (okD_inv hk.1).2; omega) C.prog C.w E Q h
    · cases e
  | le =>
    simp only [cmpD] at e
    split at e
    · cases e; cases hx; cases hy; exact PyProof.Rows.le_int h
    · cases e
  | ge =>
    simp only [cmpD] at e
    split at e
    · cases e; cases hx; cases hy; exact PyProof.Rows.ge_int h
    · cases e
  | isin =>
    simp only [cmpD] at e
    split at e
    · rename_i ys hs
      simp only [anyEq] at e
      split at e
      · rename_i hk
        cases e
        simp only [Bool.and_eq_true, List.all_eq_true] at hk
        obtain ⟨f, hf⟩ := eq_fun s.heap x
        have he : ∀ (us : List Value) fp, ReadsAll s.heap us ys fp → ∀ u', u' ∈ us → EqAt A.in1 s u' u (f u') := fun us fp r u' m => by
          obtain ⟨z, hz, fz, rz⟩ := mem_reads r u' m
          rw [hf z u' fz rz]
          exact eqAt_reads z x A.in1 s u' u fz _ rz hx (okD_inv (hk.2 z hz)).1 (okD_inv hk.1).1 (by have := (okD_inv hk.1).2; show A.units + 1 + _ < _; omega)
        cases y with
        | list zs =>
          simp only [seqD] at hs; cases hs
          cases hy with
          | list e1 e2 e3 e4 =>
            refine in_listAt f ⟨_, e1, e2, _, e3⟩ (fun u' m => he _ _ e4 u' (by simpa using m)) ?_
            rw [← Array.any_toList, any_fun hf e4]; exact h
        | tuple zs =>
          simp only [seqD] at hs; cases hs
          cases hy with
          | tuple e1 e2 e3 e4 =>
            refine in_tupleAt f ⟨_, e1, e2, _, e3⟩ (fun u' m => he _ _ e4 u' (by simpa using m)) ?_
            rw [← Array.any_toList, any_fun hf e4]; exact h
        | _ => simp [seqD] at hs
      · cases e
    · cases e
  | notin =>
    simp only [cmpD] at e
    split at e
    · rename_i ys hs
      simp only [anyEq] at e
      split at e
      · rename_i hk
        simp only [Option.map_some, Option.some.injEq] at e
        subst e
        simp only [Bool.and_eq_true, List.all_eq_true] at hk
        obtain ⟨f, hf⟩ := eq_fun s.heap x
        have he : ∀ (us : List Value) fp, ReadsAll s.heap us ys fp → ∀ u', u' ∈ us → EqAt A.in1 s u' u (f u') := fun us fp r u' m => by
          obtain ⟨z, hz, fz, rz⟩ := mem_reads r u' m
          rw [hf z u' fz rz]
          exact eqAt_reads z x A.in1 s u' u fz _ rz hx (okD_inv (hk.2 z hz)).1 (okD_inv hk.1).1 (by have := (okD_inv hk.1).2; show A.units + 1 + _ < _; omega)
        cases y with
        | list zs =>
          simp only [seqD] at hs; cases hs
          cases hy with
          | list e1 e2 e3 e4 =>
            refine notIn_listAt f ⟨_, e1, e2, _, e3⟩ (fun u' m => he _ _ e4 u' (by simpa using m)) ?_
            rw [← Array.any_toList, any_fun hf e4]; exact h
        | tuple zs =>
          simp only [seqD] at hs; cases hs
          cases hy with
          | tuple e1 e2 e3 e4 =>
            refine notIn_tupleAt f ⟨_, e1, e2, _, e3⟩ (fun u' m => he _ _ e4 u' (by simpa using m)) ?_
            rw [← Array.any_toList, any_fun hf e4]; exact h
        | _ => simp [seqD] at hs
      · cases e
    · cases e

open Classical in
theorem find_at {k : PyData} (hk : keyD k = true) : ∀ (xs : List (PyData × Addr × Value)) (m : Nat), (∀ x ∈ xs, keyD x.1 = true) →
    match findK k m (xs.map (·.1)) with
    | some j => ∃ i p, j = m + i ∧ xs[i]? = some (k, p) ∧ atKey xs k = some p
    | none => atKey xs k = none
  | [], m, _ => by simp [findK, atKey]
  | x :: r, m, h => by
    have h1 := h x (.head _)
    by_cases e : x.1 = k
    · have : PyData.eqv x.1 k = true := (eqv_key _ _ h1 hk).mpr e
      simp only [List.map_cons, findK, this, if_true]
      refine ⟨0, x.2, rfl, by simp [← e], by simp [atKey, e]⟩
    · have : ¬ PyData.eqv x.1 k = true := fun q => e ((eqv_key _ _ h1 hk).mp q)
      simp only [List.map_cons, findK, this]
      have ih := find_at hk r (m + 1) fun y hy => h y (.tail _ hy)
      simp only [Bool.false_eq_true, if_false]
      split at ih
      · rename_i j hj
        obtain ⟨i, p, e1, e2, e3⟩ := ih
        refine ⟨i + 1, p, by omega, by simpa using e2, ?_⟩
        simpa [atKey, List.find?_cons, e] using e3
      · rename_i hj
        simpa [atKey, List.find?_cons, e] using ih

theorem okKey_inv {x : PyData} (h : okKey x = true) : (∃ xs, x = .tuple xs) ∧ keyD x = true ∧ x.depth ≤ 6 := by
  simp only [okKey, Bool.and_eq_true, decide_eq_true_eq] at h
  refine ⟨?_, h.1.2, h.2⟩
  cases x <;> simp [isTup] at h
  exact ⟨_, rfl⟩

open Classical in
/-- a dict that a value is -/
theorem dictV_inv {as : List Addr} {X : Addr → Prop} {σ : St} {h : Heap} {v : V} {u : Value} {ks : List PyData} {vs : List V} (r : SR C as X σ h) (hv : VR C as X h v u) (e : dictV σ v = some (ks, vs)) :
    ∃ d xs, u = .ref d ∧ (d == sysModules) = false ∧ h.DictOfH (keyKind C.prog C.w) d xs ∧ xs.map (·.1) = ks ∧ All2 (VR C as X h) vs (xs.map (·.2.2)) := by
  cases v with
  | pd ks' vs' =>
    simp only [dictV] at e
    cases e
    obtain ⟨a, vals, rfl, h1, h2, h3, ⟨xs, h4, h5, h6⟩, h7⟩ := hv
    refine ⟨a, xs, rfl, h3, h4, h5, ?_⟩
    rw [h6]
    clear h4 h5 h6
    induction h7 with
    | nil => exact .nil
    | cons p _ ih => exact .cons p ih
  | ref n =>
    simp only [dictV] at e
    split at e
    · rename_i ks' vs' he
      cases e
      obtain ⟨a, ha, rfl⟩ := hv
      obtain ⟨vals, ⟨xs, h4, h5, h6⟩, h7, h8, h9⟩ := r.obj n _ a he ha
      exact ⟨a, xs, rfl, h9, h4, h5, by rw [h6]; exact h7⟩
    · cases e
  | _ => simp [dictV] at e

open Classical in
theorem key_is {as : List Addr} {X : Addr → Prop} {h : Heap} {x : PyData} {u : Value} (hx : okKey x = true) (hv : VR C as X h (.d x) u) : ∃ a, u = .ref a ∧ (keyKind C.prog C.w).is h x a := by
  obtain ⟨_, fp, r, _⟩ := hv
  obtain ⟨⟨xs, rfl⟩, _⟩ := okKey_inv hx
  cases r with
  | tuple e c d r => exact ⟨_, rfl, hx, fp, .tuple e c d r⟩

open Classical in
theorem cmpV_sound {A : Around} {E : Value → Shared → Prop} {s : Shared} {as : List Addr} {X : Addr → Prop} {σ : St} {op : Cop} {v w : V} {u y : Value} {b : Bool} (hA : AOk A k) (r : SR C as X σ s.heap) (hv : VR C as X s.heap v u) (hw : VR C as X s.heap w y)
    (e : cmpV op σ v w = some b) : wpAny (model C.prog C.w) A (compareOp (copOf op) u y) (PX C as X σ (.d (.bool b)) s) E s := by
  have hu := hA.un
  unfold cmpV at e
  split at e
  · rename_i ks vs hd
    obtain ⟨d, xs, rfl, h1, h2, h3, h4⟩ := dictV_inv r hw hd
    have hall : ∀ x ∈ xs, keyD x.1 = true := fun x hx => by
      obtain ⟨_, _, _, _, _, _, _, h5, _⟩ := h2
      exact (okKey_inv (h5 x hx).1).2.1
    have room : (keyKind C.prog C.w).room A.in1 := by show A.units + 1 + 16 < cLine; omega
    split at e
    · rename_i kk
      split at e
      · rename_i hk
        cases e
        obtain ⟨a, rfl, hkey⟩ := key_is (C := C) hk hv
        have hf := find_at (okKey_inv hk).2.1 xs 0 hall
        rw [h3] at hf
        refine wpAny_in_heap room hkey h1 h2 ?_
        have : (atKey xs kk).isSome = (findK kk 0 ks).isSome := by
          split at hf
          · rename_i j hj
            rw [hj]
            obtain ⟨i, p, _, _, e3⟩ := hf
            rw [e3]; rfl
          · rename_i hj
            rw [hj, hf]; rfl
        rw [this]
        exact PX.tok r (DR.bool _)
      · cases e
    · rename_i kk
      split at e
      · rename_i hk
        cases e
        obtain ⟨a, rfl, hkey⟩ := key_is (C := C) hk hv
        have hf := find_at (okKey_inv hk).2.1 xs 0 hall
        rw [h3] at hf
        have hin : wpAny (model C.prog C.w) A (contains (.ref d) (.ref a)) (fun c s' => c = (findK kk 0 ks).isSome ∧ ∃ t, s' = { s with toks := t }) E s := by
          have := wpAny_in_heap (E := E) (Q := fun v s' => v = .bool (findK kk 0 ks).isSome ∧ ∃ t, s' = { s with toks := t }) room hkey h1 h2 ⟨by
            split at hf
            · rename_i j hj
              rw [hj]
              obtain ⟨i, p, _, _, e3⟩ := hf
              rw [e3]; rfl
            · rename_i hj
              rw [hj, hf]; rfl, _, rfl⟩
          intro Γ p hΓ
          have q := this Γ p hΓ
          have e2 : compareOp .In (.ref a) (.ref d) = (do return Value.bool (← contains (.ref d) (.ref a))) := rfl
          rw [e2, Sem.wp_bind'] at q
          refine Sem.wp_mono _ _ _ (fun c p' s' h' => ?_) (fun _ _ _ h' => h') _ _ q
          obtain ⟨h1, h2⟩ := h'
          exact ⟨by injection h1, h2⟩
        show wpAny _ _ (do return Value.bool (!(← contains (.ref d) (.ref a)))) _ E s
        refine wpAny_bind (wpAny_mono hin (fun c s' h' => ?_) fun _ _ y => y)
        obtain ⟨rfl, t, rfl⟩ := h'
        refine wpAny_pure ?_
        have : (!(findK kk 0 ks).isSome) = (findK kk 0 ks).isNone := by cases findK kk 0 ks <;> rfl
        rw [this]
        exact PX.tok r (DR.bool _)
      · cases e
    · cases e
  · split at e
    · rename_i x z e1 e2
      obtain ⟨_, fp, r1⟩ := res_reads r e1 hv
      obtain ⟨_, fq, r2⟩ := res_reads r e2 hw
      exact cmpD_sound hA r1 r2 e (PX.same r (DR.bool _))
    · cases e

theorem notSet_marks {op : CmpOp} {r : Expr} (h : notSet r = true) : behindInMarks op r = false := by
  cases r <;> first | rfl | exact Bool.noConfusion (h : false = true)

theorem sx_cmp {op : Cop} {a b : X} (ha : SX C W Φ k a) (hb : SX C W Φ k b) : SX C W Φ k (.cmp op a b) := by
  intro sc nm e env A E s ρ as Y σ σ' v hm hs hA hI he
  obtain ⟨⟨x, σ₁⟩, h1, h2⟩ := R.bind_inv he
  obtain ⟨⟨y, σ₂⟩, h3, h4⟩ := R.bind_inv h2
  obtain ⟨z, h5, h6⟩ := R.bind_inv h4
  have h5 := ofO_inv h5
  cases h6
  dsimp only at h3 h5
  cases hm.inv with
  | cmp m1 m2 hn =>
    refine wpAny_Compare1 (wpAny_mono (ha _ _ _ env A E s ρ as Y σ σ₁ x m1 hs hA hI h1) (fun u s₁ p => ?_) fun _ _ y => y) (notSet_marks hn)
    obtain ⟨as₁, p1, p2⟩ := p
    refine wpAny_mono (hb _ _ _ env A E s₁ ρ as₁ Y σ₁ _ y m2 hs hA (hI.step p1) h3) (fun u' s₂ q => ?_) fun _ _ y => y
    obtain ⟨as₂, q1, q2⟩ := q
    exact wpAny_mono (cmpV_sound hA q1.sr (p2.grow q1.grow) q2 h5) (fun _ _ t => PX.trans (p1.trans q1) t) fun _ _ y => y
theorem st_cmp {op : Cop} {a b : X} (ha : SX C W Φ k a) (hb : SX C W Φ k b) : ST C W Φ k (.cmp op a b) := by
  intro sc nm e env A E s ρ as Y σ σ' v bb hm hs hA hI he ht
  obtain ⟨⟨x, σ₁⟩, h1, h2⟩ := R.bind_inv he
  obtain ⟨⟨y, σ₂⟩, h3, h4⟩ := R.bind_inv h2
  obtain ⟨z, h5, h6⟩ := R.bind_inv h4
  have h5 := ofO_inv h5
  cases h6
  cases ht
  dsimp only at h3 h5
  cases hm.inv with
  | cmp m1 m2 hn =>
    refine wpAny_isTrue_Compare1 (wpAny_mono (ha _ _ _ env A E s ρ as Y σ σ₁ x m1 hs hA hI h1) (fun u s₁ p => ?_) fun _ _ y => y) (notSet_marks hn)
    obtain ⟨as₁, p1, p2⟩ := p
    refine wpAny_mono (hb _ _ _ env A E s₁ ρ as₁ Y σ₁ _ y m2 hs hA (hI.step p1) h3) (fun u' s₂ q => ?_) fun _ _ y => y
    obtain ⟨as₂, q1, q2⟩ := q
    refine wpAny_mono (cmpV_sound hA q1.sr (p2.grow q1.grow) q2 h5) (fun c s₃ t => ?_) fun _ _ y => y
    obtain ⟨as₃, t1, t2⟩ := t
    obtain rfl := DR.bool_inv t2
    exact wpAny_truthy_bool ⟨rfl, as₃, (p1.trans q1).trans t1⟩
end
end Mine
end

section
/-! M8: chains, arithmetic, displays, items, slices -/
namespace Mine
open PySem PySem.Spec PySem.SeqAt

section
variable {C : Cx} {W : Wd} {Φ : Fn} {k : Nat}

theorem sx_chain {o1 o2 : Cop} {a b c : X} (ha : SX C W Φ k a) (hb : SX C W Φ k b) (hc : SX C W Φ k c) : SX C W Φ k (.chain o1 o2 a b c) := by
  intro sc nm e env A E s ρ as Y σ σ' v hm hs hA hI he
  obtain ⟨⟨x, σ₁⟩, h1, h2⟩ := R.bind_inv he
  obtain ⟨⟨y, σ₂⟩, h3, h4⟩ := R.bind_inv h2
  obtain ⟨z, h5, h6⟩ := R.bind_inv h4
  have h5 := ofO_inv h5
  dsimp only at h3 h5 h6
  cases hm.inv with
  | chain m1 m2 m3 hn =>
    refine PyProof.Rows.Compare_chain (rs := []) (ops := []) (wpAny_mono (ha _ _ _ env A E s ρ as Y σ σ₁ x m1 hs hA hI h1) (fun u s₁ p => ?_) fun _ _ y => y) (notSet_marks hn)
    obtain ⟨as₁, p1, p2⟩ := p
    refine PyProof.Rows.chain_link (wpAny_mono (hb _ _ _ env A E s₁ ρ as₁ Y σ₁ σ₂ y m2 hs hA (hI.step p1) h3) (fun u' s₂ q => ?_) fun _ _ y => y)
    obtain ⟨as₂, q1, q2⟩ := q
    refine wpAny_mono (cmpV_sound hA q1.sr (p2.grow q1.grow) q2 h5) (fun c' s₃ t => ?_) fun _ _ y => y
    obtain ⟨as₃, t1, t2⟩ := t
    obtain rfl := DR.bool_inv t2
    refine wpAny_truthy_bool ?_
    have st := (p1.trans q1).trans t1
    cases z with
    | false => simp only [Bool.false_eq_true, if_false] at h6 ⊢; cases h6; exact ⟨as₃, st, t2⟩
    | true =>
      simp only [if_true] at h6 ⊢
      obtain ⟨⟨w', σ₃⟩, h7, h8⟩ := R.bind_inv h6
      obtain ⟨d, h9, h10⟩ := R.bind_inv h8
      have h9 := ofO_inv h9
      cases h10
      dsimp only at h9
      refine PyProof.Rows.chain_last (wpAny_mono (hc _ _ _ env A E s₃ ρ as₃ Y σ₂ _ w' m3 hs hA (hI.step st) h7) (fun u'' s₄ r => ?_) fun _ _ y => y)
      obtain ⟨as₄, r1, r2⟩ := r
      exact wpAny_mono (cmpV_sound hA r1.sr ((q2.grow t1.grow).grow r1.grow) r2 h9) (fun _ _ t => PX.trans (st.trans r1) t) fun _ _ y => y
theorem st_chain {o1 o2 : Cop} {a b c : X} (ha : SX C W Φ k a) (hb : SX C W Φ k b) (hc : SX C W Φ k c) : ST C W Φ k (.chain o1 o2 a b c) := by
  intro sc nm e env A E s ρ as Y σ σ' v bb hm hs hA hI he ht
  obtain ⟨⟨x, σ₁⟩, h1, h2⟩ := R.bind_inv he
  obtain ⟨⟨y, σ₂⟩, h3, h4⟩ := R.bind_inv h2
  obtain ⟨z, h5, h6⟩ := R.bind_inv h4
  have h5 := ofO_inv h5
  dsimp only at h3 h5 h6
  cases hm.inv with
  | chain m1 m2 m3 hn =>
    refine PyProof.Rows.isTrue_chain (rs := []) (ops := []) (wpAny_mono (ha _ _ _ env A E s ρ as Y σ σ₁ x m1 hs hA hI h1) (fun u s₁ p => ?_) fun _ _ y => y) (notSet_marks hn)
    obtain ⟨as₁, p1, p2⟩ := p
    refine PyProof.Rows.test_link (wpAny_mono (hb _ _ _ env A E s₁ ρ as₁ Y σ₁ σ₂ y m2 hs hA (hI.step p1) h3) (fun u' s₂ q => ?_) fun _ _ y => y)
    obtain ⟨as₂, q1, q2⟩ := q
    refine wpAny_mono (cmpV_sound hA q1.sr (p2.grow q1.grow) q2 h5) (fun c' s₃ t => ?_) fun _ _ y => y
    obtain ⟨as₃, t1, t2⟩ := t
    obtain rfl := DR.bool_inv t2
    refine wpAny_truthy_bool ?_
    have st := (p1.trans q1).trans t1
    cases z with
    | false => simp only [Bool.false_eq_true, if_false] at h6 ⊢; cases h6; cases ht; exact ⟨rfl, as₃, st⟩
    | true =>
      simp only [if_true] at h6 ⊢
      obtain ⟨⟨w', σ₃⟩, h7, h8⟩ := R.bind_inv h6
      obtain ⟨d, h9, h10⟩ := R.bind_inv h8
      have h9 := ofO_inv h9
      cases h10
      cases ht
      dsimp only at h9
      refine PyProof.Rows.test_last (wpAny_mono (hc _ _ _ env A E s₃ ρ as₃ Y σ₂ _ w' m3 hs hA (hI.step st) h7) (fun u'' s₄ r => ?_) fun _ _ y => y)
      obtain ⟨as₄, r1, r2⟩ := r
      refine wpAny_mono (cmpV_sound hA r1.sr ((q2.grow t1.grow).grow r1.grow) r2 h9) (fun c'' s₅ t => ?_) fun _ _ y => y
      obtain ⟨as₅, t3, t4⟩ := t
      obtain rfl := DR.bool_inv t4
      exact wpAny_truthy_bool ⟨rfl, as₅, (st.trans r1).trans t3⟩

theorem sx_isNotTrue {a : X} (ha : SX C W Φ k a) : SX C W Φ k (.isNotTrue a) := by
  intro sc nm e env A E s ρ as Y σ σ' v hm hs hA hI he
  obtain ⟨⟨x, σ₁⟩, h1, h2⟩ := R.bind_inv he
  obtain ⟨b, h3, h4⟩ := R.bind_inv h2
  have h3 := truthy_inv (ofO_inv h3)
  dsimp only at h3 h4
  subst h3
  cases h4
  cases hm.inv with
  | isNotTrue m1 =>
    refine wpAny_Compare1 (wpAny_mono (ha _ _ _ env A E s ρ as Y σ _ _ m1 hs hA hI h1) (fun u s₁ p => ?_) fun _ _ y => y) rfl
    obtain ⟨as₁, p1, p2⟩ := p
    obtain rfl := DR.bool_inv p2
    refine PyProof.Rows.Constant_bool (PyProof.Rows.isnot_bool ?_)
    have : (b != true) = !b := by cases b <;> rfl
    rw [this]
    exact ⟨as₁, p1, DR.bool _⟩
theorem st_isNotTrue {a : X} (ha : SX C W Φ k a) : ST C W Φ k (.isNotTrue a) := by
  intro sc nm e env A E s ρ as Y σ σ' v bb hm hs hA hI he ht
  obtain ⟨⟨x, σ₁⟩, h1, h2⟩ := R.bind_inv he
  obtain ⟨b, h3, h4⟩ := R.bind_inv h2
  have h3 := truthy_inv (ofO_inv h3)
  dsimp only at h3 h4
  subst h3
  cases h4
  cases ht
  cases hm.inv with
  | isNotTrue m1 =>
    refine wpAny_isTrue_Compare1 (wpAny_mono (ha _ _ _ env A E s ρ as Y σ _ _ m1 hs hA hI h1) (fun u s₁ p => ?_) fun _ _ y => y) rfl
    obtain ⟨as₁, p1, p2⟩ := p
    obtain rfl := DR.bool_inv p2
    refine PyProof.Rows.Constant_bool (PyProof.Rows.isnot_bool (wpAny_truthy_bool ?_))
    exact ⟨by cases b <;> rfl, as₁, p1⟩

/-- a new plain list -/
theorem DR.newList {as : List Addr} {X : Addr → Prop} {σ : St} {h : Heap} {xs : List PyData} {us : List Value} (r : SR C as X σ h) (b : Kp C.H0 h) (hv : All2 (DR as X h) xs us) {o : Obj} (hc : o.cls = .type "list") {n : Nat} (hd : o.data = .seq us.toArray n) :
    DR as X (h.push o) (.list xs) (.ref h.objs.size) := by
  obtain ⟨nd, fp, rr, hf⟩ := DR.all hv
  have ho : o.isFreed = false := Obj.isFreed_of_seq hd
  have hout := r.out b (get?_size h)
  refine ⟨nd, h.objs.size :: fp, .list (Heap.get?_push_size _ ho) hc hd (by simpa using PyProof.Rows.ReadsAll.keeps (Kp.push h o) rr), fun a m => ?_⟩
  rcases List.mem_cons.mp m with rfl | m
  · exact ⟨hout.1, hout.2.1⟩
  · exact hf a m
theorem DR.newTuple {as : List Addr} {X : Addr → Prop} {h : Heap} {xs : List PyData} {us : List Value} (hv : All2 (DR as X h) xs us) {o : Obj} (hc : o.cls = .type "tuple") {n : Nat} (hd : o.data = .seq us.toArray n) :
    DR as X (h.push o) (.tuple xs) (.ref h.objs.size) := by
  obtain ⟨nd, fp, rr, hf⟩ := DR.all hv
  have ho : o.isFreed = false := Obj.isFreed_of_seq hd
  exact ⟨nd, fp, .tuple (Heap.get?_push_size _ ho) hc hd (by simpa using PyProof.Rows.ReadsAll.keeps (Kp.push h o) rr), hf⟩
/-- a list that is plain data -/
theorem DR.list_inv {as : List Addr} {X : Addr → Prop} {h : Heap} {xs : List PyData} {u : Value} (r : DR as X h (.list xs) u) : ∃ a us, u = .ref a ∧ h.IsList a us.toArray ∧ All2 (DR as X h) xs us := by
  obtain ⟨nd, fp, rr, hf⟩ := r
  cases rr with
  | @list a o vs n _ fp' e c d r => exact ⟨a, vs.toList, rfl, ⟨o, e, c, n, by simpa using d⟩, DR.unall r (by simpa [noDict] using nd) fun b m => hf b (.tail _ m)⟩
theorem DR.tuple_inv {as : List Addr} {X : Addr → Prop} {h : Heap} {xs : List PyData} {u : Value} (r : DR as X h (.tuple xs) u) : ∃ a us, u = .ref a ∧ h.IsTuple a us.toArray ∧ All2 (DR as X h) xs us := by
  obtain ⟨nd, fp, rr, hf⟩ := r
  cases rr with
  | @tuple a o vs n _ _ e c d r => exact ⟨a, vs.toList, rfl, ⟨o, e, c, n, by simpa using d⟩, DR.unall r (by simpa [noDict] using nd) hf⟩

theorem add_list {A : Around} {E : Value → Shared → Prop} {s : Shared} {l b : Addr} {vs ws : List Value} {Q : Value → Shared → Prop} (hl : s.heap.IsList l vs.toArray) (hb : s.heap.IsList b ws.toArray)
    (h : Q (.ref s.heap.objs.size) { s with heap := s.heap.push { cls := .type "list", data := .seq (vs ++ ws).toArray } }) (hsz : vs.length + ws.length ≤ sizeLine) :
    wpAny (model C.prog C.w) A (binaryOp .Add (.ref l) (.ref b)) Q E s := by
  obtain ⟨⟨cls, dd, data, sl⟩, ho, hc, n, hd⟩ := id hl
  obtain ⟨⟨cls2, dd2, data2, sl2⟩, ho2, hc2, n2, hd2⟩ := id hb
  simp only at hc hd hc2 hd2
  subst hc hd hc2 hd2
  have e : vs.toArray ++ ws.toArray = (vs ++ ws).toArray := by simp
  refine concat_meets ⟨_, ho, rfl⟩ ⟨_, ho2, rfl⟩ noFill_list_add seq_list_add PySem.F.slot_list_add PySem.F.entry_list_add (PySem.F.args_list_add_2 _ _) (PyProof.Rows.list_addW l b vs.toArray ws.toArray n n2 dd dd2 sl sl2 (by simpa using hsz)) ⟨ho, ho2, ?_⟩
  rw [e]
  exact h

theorem intMulOk {a b : Int} (h : a.natAbs < 2 ^ 64 ∨ b.natAbs < 2 ^ 64) : IntMulOk a b := by
  have key : ∀ x : Int, x.natAbs < 2 ^ 64 → Builtin.Int.intBits x ≤ 64 := fun x hx => by
    unfold Builtin.Int.intBits
    by_cases h0 : x = 0
    · simp [h0]
    · have hn : x.natAbs ≠ 0 := by omega
      have : x.natAbs.log2 < 64 := (Nat.log2_lt hn).mpr hx
      split <;> omega
  rcases h with h | h
  · exact .of_left (key a h)
  · exact .of_right (key b h)

theorem binD_sound {A : Around} {E : Value → Shared → Prop} {s : Shared} {as : List Addr} {X : Addr → Prop} {σ : St} {op : Bop} {p q z : PyData} {u v : Value} (hb : Kp C.H0 s.heap) (r : SR C as X σ s.heap) (hu : DR as X s.heap p u) (hv : DR as X s.heap q v)
    (e : binD op p q = some z) : wpAny (model C.prog C.w) A (binaryOp (opOf op) u v) (PX C as X σ (.d z) s) E s := by
  unfold binD at e
  split at e
  · cases e; obtain ⟨t, rfl⟩ := hu.int_inv; obtain ⟨t', rfl⟩ := hv.int_inv
    exact PyProof.Rows.add_int (PX.tok r (DR.int _ _))
  · split at e
    · rename_i hsz
      cases e
      obtain ⟨l, vs, rfl, hl, h1⟩ := hu.list_inv
      obtain ⟨l', ws, rfl, hl', h2⟩ := hv.list_inv
      refine add_list hl hl' ?_ (by rw [← h1.length, ← h2.length]; exact hsz)
      exact PX.plain (t := s.toks) r (Kp.push _ _) (DR.newList r hb (h1.append h2) rfl rfl)
    · cases e
  · cases e; obtain ⟨t, rfl⟩ := hu.int_inv; obtain ⟨t', rfl⟩ := hv.int_inv
    exact PyProof.Rows.sub_int (PX.tok r (DR.int _ _))
  · split at e
    · rename_i hsz
      cases e; obtain ⟨t, rfl⟩ := hu.int_inv; obtain ⟨t', rfl⟩ := hv.int_inv
      exact PyProof.Rows.mul_int (PX.tok r (DR.int _ _)) (intMulOk (by simpa using hsz))
    · cases e
  · split at e
    · cases e
    · rename_i h0
      cases e; obtain ⟨t, rfl⟩ := hu.int_inv; obtain ⟨t', rfl⟩ := hv.int_inv
      exact PyProof.Rows.mod_int' h0 (PX.tok r (DR.int _ _))
  · split at e
    · cases e
    · rename_i h0
      split at e
      · rename_i hsz
        cases e; obtain ⟨t, rfl⟩ := hu.int_inv; obtain ⟨t', rfl⟩ := hv.int_inv
        exact PyProof.Rows.floordiv_int h0 (PX.tok r (DR.int _ _)) (Or.inl (PyProof.noPylong_small hsz))
      · cases e
  · split at e
    · rename_i hk
      cases e; obtain ⟨t, rfl⟩ := hu.int_inv; obtain ⟨t', rfl⟩ := hv.int_inv
      simp only [Bool.and_eq_true, decide_eq_true_eq] at hk
      exact PyProof.Rows.pow_int_small hk.1.1 (by omega) hk.2 (PX.tok r (DR.int _ _))
    · cases e
  · cases e

theorem sx_bin {op : Bop} {a b : X} (ha : SX C W Φ k a) (hb : SX C W Φ k b) : SX C W Φ k (.bin op a b) := by
  intro sc nm e env A E s ρ as Y σ σ' v hm hs hA hI he
  obtain ⟨⟨x, σ₁⟩, h1, h2⟩ := R.bind_inv he
  obtain ⟨⟨y, σ₂⟩, h3, h4⟩ := R.bind_inv h2
  dsimp only at h3 h4
  split at h4
  · rename_i p q
    obtain ⟨z, h5, h6⟩ := R.bind_inv h4
    have h5 := ofO_inv h5
    cases h6
    cases hm.inv with
    | bin m1 m2 =>
      refine wpAny_BinOp (wpAny_mono (ha _ _ _ env A E s ρ as Y σ σ₁ _ m1 hs hA hI h1) (fun u s₁ p => ?_) fun _ _ y => y)
      obtain ⟨as₁, p1, p2⟩ := p
      refine wpAny_mono (hb _ _ _ env A E s₁ ρ as₁ Y σ₁ _ _ m2 hs hA (hI.step p1) h3) (fun u' s₂ q => ?_) fun _ _ y => y
      obtain ⟨as₂, q1, q2⟩ := q
      exact wpAny_mono (binD_sound ((hI.step p1).step q1).base q1.sr (VR.grow (v := .d _) p2 q1.grow) q2 h5) (fun _ _ t => PX.trans (p1.trans q1) t) fun _ _ y => y
  · cases h4
end
end Mine
end

section
/-! M9: displays, items, slices -/
namespace Mine
open PySem PySem.Spec PySem.SeqAt

section
variable (C : Cx) (W : Wd) (Φ : Fn)
noncomputable def SXs (k : Nat) (xs : List X) : Prop := ∀ (sc : Sc) (nm : Nm) (es : List Expr) (env : PySem.Env) (A : Around) (E : Value → Shared → Prop) (s : Shared) (ρ : Rho) (as : List Addr) (Y : Addr → Prop) (σ σ' : St) (vs : List V) (pos : Pos),
  MXs W sc nm xs es → env.scope.names = sc → AOk A k → Inv C env nm ρ as Y σ s → evs Φ xs ρ σ = .ok (vs, σ') →
  wpAny (model C.prog C.w) A (spliced (backTo pos (starEach es env))) (fun us s' => ∃ as', Step C as Y σ' as' s s' ∧ All2 (VR C as' Y s'.heap) vs us) E s
end

section
variable {C : Cx} {W : Wd} {Φ : Fn} {k : Nat}

theorem starEach_cons {e : Expr} {es : List Expr} {env : PySem.Env} (h : notStar e = true) : starEach (e :: es) env = (false, eval e env) :: starEach es env := by
  cases e <;> first | rfl | exact Bool.noConfusion (h : false = true)

theorem sxs_nil : SXs C W Φ k [] := by
  intro sc nm es env A E s ρ as Y σ σ' vs pos hm hs hA hI he
  cases hm.inv
  cases he
  exact Calls.spliced_nil ⟨as, Step.refl hI.sr, .nil⟩
theorem sxs_cons {x : X} {xs : List X} (hx : SX C W Φ k x) (hxs : SXs C W Φ k xs) : SXs C W Φ k (x :: xs) := by
  intro sc nm es env A E s ρ as Y σ σ' vs pos hm hs hA hI he
  obtain ⟨⟨v, σ₁⟩, h1, h2⟩ := R.bind_inv he
  obtain ⟨⟨r, σ₂⟩, h3, h4⟩ := R.bind_inv h2
  cases h4
  dsimp only at h3
  cases hm.inv with
  | cons m1 hn m2 =>
    rw [starEach_cons hn]
    refine Calls.spliced_cons (wpAny_mono (hx _ _ _ env A E s ρ as Y σ σ₁ v m1 hs hA hI h1) (fun u s₁ p => ?_) fun _ _ y => y)
    obtain ⟨as₁, p1, p2⟩ := p
    refine wpAny_mono (hxs _ _ _ env A E s₁ ρ as₁ Y σ₁ _ r pos m2 hs hA (hI.step p1) h3) (fun us s₂ q => ?_) fun _ _ y => y
    obtain ⟨as₂, q1, q2⟩ := q
    exact ⟨as₂, p1.trans q1, .cons (p2.grow q1.grow) q2⟩

theorem allD_inv {as : List Addr} {X : Addr → Prop} {h : Heap} {vs : List V} {ds : List PyData} {us : List Value} (e : allD vs = some ds) (hv : All2 (VR C as X h) vs us) : All2 (DR as X h) ds us := by
  refine (allO_inv e).comp hv fun v x u _ h1 h2 => ?_
  cases v with
  | d y => simp only [Option.some.injEq] at h1; subst h1; exact h2
  | _ => cases h1
theorem Step.alloc {as : List Addr} {X : Addr → Prop} {σ : St} {s : Shared} {o : Obj} {ob : O} (r : SR C as X σ s.heap) (b : Kp C.H0 s.heap) (ho : OR C (as ++ [s.heap.objs.size]) X (s.heap.push o) s.heap.objs.size ob) (t : Nat) :
    PX C as X (σ ++ [ob]) (.ref σ.length) s (.ref s.heap.objs.size) { s with heap := s.heap.push o, toks := t } := by
  have hout := r.out b (get?_size s.heap)
  refine ⟨as ++ [s.heap.objs.size], ⟨⟨_, _, rfl⟩, Kp.push _ _, ⟨[s.heap.objs.size], rfl, fun a m => by simp at m; subst m; exact get?_size _⟩, r.add (Kp.push _ _) (get?_size _) ho ⟨hout.2.2, hout.2.1⟩⟩, s.heap.objs.size, ?_, rfl⟩
  rw [← r.len, List.getElem?_append_right (Nat.le_refl _)]
  simp
theorem grow_new {as : List Addr} {X : Addr → Prop} {h : Heap} {o : Obj} : Grow as (as ++ [h.objs.size]) X X h (h.push o) :=
  ⟨Kp.push _ _, fun n b e => by rw [List.getElem?_append_left (List.getElem?_eq_some_iff.mp e).1]; exact e, fun b ob e h1 h2 => ⟨fun m => (by
    rcases List.mem_append.mp m with m | m
    · exact h1 m
    · simp at m; subst m; rw [get?_size] at e; cases e), h2⟩⟩

theorem mkL_sound {A : Around} {E : Value → Shared → Prop} {s : Shared} {as : List Addr} {X : Addr → Prop} {σ σ' : St} {m : Bool} {vs : List V} {us : List Value} {v : V} (hb : Kp C.H0 s.heap) (r : SR C as X σ s.heap) (hv : All2 (VR C as X s.heap) vs us)
    (hsz : vs.length ≤ sizeLine) (e : mkL m vs σ = .ok (v, σ')) : wpAny (model C.prog C.w) A (newList us) (PX C as X σ' v s) E s := by
  have hl := hv.length
  refine wpAny_newList ?_ (by omega)
  unfold mkL at e
  split at e
  · split at e
    · rename_i hst
      cases e
      refine Step.alloc (t := s.toks) r hb ?_
      exact ⟨us.toArray, ⟨0, Heap.get?_push_size _ rfl⟩, by simpa using hv.mono fun _ _ q => q.grow grow_new, hst⟩
    · cases e
  · split at e
    · rename_i ds hd
      cases e
      exact PX.plain (t := s.toks) r (Kp.push _ _) (DR.newList r hb (allD_inv hd hv) rfl rfl)
    · cases e

theorem evs_length {Φ : Fn} : ∀ {xs : List X} {ρ : Rho} {σ σ' : St} {vs : List V}, evs Φ xs ρ σ = .ok (vs, σ') → vs.length = xs.length
  | [], ρ, σ, σ', vs, h => by cases h; rfl
  | x :: xs, ρ, σ, σ', vs, h => by
    obtain ⟨⟨v, σ₁⟩, h1, h2⟩ := R.bind_inv h
    obtain ⟨⟨r, σ₂⟩, h3, h4⟩ := R.bind_inv h2
    cases h4
    simp [evs_length h3]

theorem sx_tup {es : List X} (ha : SXs C W Φ k es) : SX C W Φ k (.tup es) := by
  intro sc nm e env A E s ρ as Y σ σ' v hm hs hA hI he
  obtain ⟨⟨vs, σ₁⟩, h1, h2⟩ := R.bind_inv he
  obtain ⟨ds, h3, h4⟩ := R.bind_inv h2
  have h3 := ofO_inv h3
  cases h4
  dsimp only at h3
  cases hm.inv with
  | tup m1 hlen =>
    refine PyProof.Rows.Tuple_ (wpAny_mono (ha _ _ _ env A E s ρ as Y σ _ vs _ m1 hs hA hI h1) (fun us s₁ p => ?_) fun _ _ y => y)
    obtain ⟨as₁, p1, p2⟩ := p
    have hl := evs_length h1
    have hl2 := p2.length
    refine wpAny_newTuple ?_ (by rw [← hl2, hl]; exact Nat.le_trans hlen (by decide))
    exact PX.trans p1 (PX.plain (t := s₁.toks) p1.sr (Kp.push _ _) (DR.newTuple (allD_inv h3 p2) rfl rfl))
theorem sx_lst {m : Bool} {es : List X} (ha : SXs C W Φ k es) : SX C W Φ k (.lst m es) := by
  intro sc nm e env A E s ρ as Y σ σ' v hm hs hA hI he
  obtain ⟨⟨vs, σ₁⟩, h1, h2⟩ := R.bind_inv he
  dsimp only at h2
  cases hm.inv with
  | lst m1 hlen =>
    refine PyProof.Rows.List_ (wpAny_mono (ha _ _ _ env A E s ρ as Y σ _ vs _ m1 hs hA hI h1) (fun us s₁ p => ?_) fun _ _ y => y)
    obtain ⟨as₁, p1, p2⟩ := p
    exact wpAny_mono (mkL_sound (hI.step p1).base p1.sr p2 (by rw [evs_length h1]; exact Nat.le_trans hlen (by decide)) h2) (fun _ _ t => PX.trans p1 t) fun _ _ y => y

open Classical in
theorem sx_dct (O : Ok C W) : SX C W Φ k .dct := by
  intro sc nm e env A E s ρ as Y σ σ' v hm hs hA hI he
  cases he
  cases hm.inv with
  | dct =>
    refine wpAny_Dict_empty ?_
    refine Step.alloc (t := s.toks) hI.sr hI.base ?_
    have h3 : (3 : Nat) < s.heap.objs.size := (O.g.keeps hI.base).lt
    refine ⟨[], ⟨[], Heap.DictOfH.new _, rfl, rfl⟩, .nil, rfl, ?_⟩
    show (s.heap.objs.size == 1) = false
    simp; omega

/-- the items of a sequence -/
theorem seqV_inv {as : List Addr} {X : Addr → Prop} {σ : St} {h : Heap} {v : V} {u : Value} {xs : List V} (r : SR C as X σ h) (hv : VR C as X h v u) (e : seqV σ v = some xs) :
    ∃ a us, u = .ref a ∧ (h.IsList a us.toArray ∨ h.IsTuple a us.toArray) ∧ All2 (VR C as X h) xs us := by
  have lift : ∀ {ds : List PyData} {us : List Value}, All2 (DR as X h) ds us → All2 (VR C as X h) (ds.map V.d) us := fun q => by
    induction q with
    | nil => exact .nil
    | cons p _ ih => exact .cons p ih
  cases v with
  | d x =>
    simp only [seqV] at e
    cases x with
    | list ds =>
      simp only [seqD, Option.map_some, Option.some.injEq] at e
      subst e
      obtain ⟨a, us, rfl, h1, h2⟩ := DR.list_inv hv
      exact ⟨a, us, rfl, .inl h1, lift h2⟩
    | tuple ds =>
      simp only [seqD, Option.map_some, Option.some.injEq] at e
      subst e
      obtain ⟨a, us, rfl, h1, h2⟩ := DR.tuple_inv hv
      exact ⟨a, us, rfl, .inr h1, lift h2⟩
    | _ => simp [seqD] at e
  | ref n =>
    simp only [seqV] at e
    split at e
    · rename_i ys hy
      cases e
      obtain ⟨a, ha, rfl⟩ := hv
      obtain ⟨vs, ⟨m, ho⟩, h2, h3⟩ := r.obj n _ a hy ha
      exact ⟨a, vs.toList, rfl, .inl ⟨_, ho, rfl, m, rfl⟩, h2⟩
    · cases e
  | _ => simp [seqV] at e

open Classical in
theorem subV_sound {A : Around} {E : Value → Shared → Prop} {s : Shared} {as : List Addr} {X : Addr → Prop} {σ : St} {v i z : V} {u j : Value} {value slice : Expr} (hA : AOk A k) (r : SR C as X σ s.heap) (hv : VR C as X s.heap v u) (hi : VR C as X s.heap i j)
    (hn : notSlice slice = true) (e : subV σ v i = some z) : wpAny (model C.prog C.w) A (PyProof.Rows.subscriptTail value slice u j) (PX C as X σ z s) E s := by
  have hu := hA.un
  have hsub : ∀ o i, subscripted slice false o i = operate [o, i] (getItem o i) := fun o i => by
    cases slice <;> first | rfl | exact Bool.noConfusion (hn : false = true)
  unfold subV at e
  split at e
  · rename_i ks vs hd
    obtain ⟨d, xs, rfl, h1, h2, h3, h4⟩ := dictV_inv r hv hd
    have hall : ∀ x ∈ xs, keyD x.1 = true := fun x hx => by
      obtain ⟨_, _, _, _, _, _, _, h5, _⟩ := h2
      exact (okKey_inv (h5 x hx).1).2.1
    split at e
    · rename_i kk
      split at e
      · rename_i hk
        obtain ⟨a, rfl, hkey⟩ := key_is (C := C) hk hi
        have hf := find_at (okKey_inv hk).2.1 xs 0 hall
        rw [h3] at hf
        obtain ⟨n, hn', hz⟩ := Option.bind_eq_some_iff.mp e
        rw [hn'] at hf
        obtain ⟨i', p, e1, e2, e3⟩ := hf
        obtain rfl : n = i' := by omega
        refine PyProof.Rows.tail_any h2.typeIs slot_dict_getitem.lookup (wpAny_getItem_heap (by show A.units + 1 + 16 < cLine; omega) hkey h2 e3 ?_) (hsub _ _)
        obtain ⟨b, hb1, hb2⟩ := h4.get hz
        rw [List.getElem?_map, e2] at hb1
        simp at hb1
        subst hb1
        exact PX.tok r hb2
      · cases e
    · cases e
  · split at e
    · rename_i xs kk hs
      split at e
      · rename_i hk
        simp only [Bool.and_eq_true, decide_eq_true_eq] at hk
        obtain ⟨t, rfl⟩ := DR.int_inv hi
        obtain ⟨a, us, rfl, h1, h2⟩ := seqV_inv r hv hs
        have hl := h2.length
        unfold at? at e
        rcases h1 with h1 | h1
        · refine PyProof.Rows.tail_any h1.typeIs slot_list_getitem.lookup ?_ (hsub _ _)
          split at e
          · rename_i h0
            obtain ⟨b, hb1, hb2⟩ := h2.get e
            exact wpAny_getItem_list h1 h0 (by omega) (by simpa using hb1) (PX.same r hb2)
          · rename_i h0
            split at e
            · rename_i h0'
              obtain ⟨b, hb1, hb2⟩ := h2.get e
              refine wpAny_getItem_list_neg h1 (by omega) (by simp; omega) (by omega) (x := b) ?_ (PX.same r hb2)
              rw [hl] at hb1
              simpa using hb1
            · cases e
        · refine PyProof.Rows.tail_any h1.typeIs PySem.F.slot_tuple_getitem.lookup ?_ (hsub _ _)
          split at e
          · rename_i h0
            obtain ⟨b, hb1, hb2⟩ := h2.get e
            have hlt : kk.toNat < us.length := (List.getElem?_eq_some_iff.mp hb1).1
            exact PyProof.Rows.getItem_tuple h1 (by omega) (by omega) (seqIndex_of h0 (by simp; omega)) (by simpa using hb1) (PX.same r hb2)
          · rename_i h0
            split at e
            · rename_i h0'
              obtain ⟨b, hb1, hb2⟩ := h2.get e
              rw [hl] at hb1
              exact PyProof.Rows.getItem_tuple h1 (by omega) (by omega) (seqIndex_neg (by omega) (by simp; omega)) (by simpa using hb1) (PX.same r hb2)
            · cases e
      · cases e
    · cases e

theorem sx_sub {a i : X} (ha : SX C W Φ k a) (hi : SX C W Φ k i) : SX C W Φ k (.sub a i) := by
  intro sc nm e env A E s ρ as Y σ σ' v hm hs hA hI he
  obtain ⟨⟨x, σ₁⟩, h1, h2⟩ := R.bind_inv he
  obtain ⟨⟨y, σ₂⟩, h3, h4⟩ := R.bind_inv h2
  obtain ⟨z, h5, h6⟩ := R.bind_inv h4
  have h5 := ofO_inv h5
  cases h6
  dsimp only at h3 h5
  cases hm.inv with
  | sub m1 m2 hn =>
    refine PyProof.Rows.Subscript_ (wpAny_mono (ha _ _ _ env A E s ρ as Y σ σ₁ x m1 hs hA hI h1) (fun u s₁ p => ?_) fun _ _ y => y)
    obtain ⟨as₁, p1, p2⟩ := p
    refine wpAny_mono (hi _ _ _ env A E s₁ ρ as₁ Y σ₁ _ y m2 hs hA (hI.step p1) h3) (fun u' s₂ q => ?_) fun _ _ y => y
    obtain ⟨as₂, q1, q2⟩ := q
    exact wpAny_mono (subV_sound hA q1.sr (p2.grow q1.grow) q2 hn h5) (fun _ _ t => PX.trans (p1.trans q1) t) fun _ _ y => y
end
end Mine
end

section
/-! M10: the least and the greatest -/
namespace Mine
open PySem PySem.Spec PySem.SeqAt
set_option maxRecDepth 100000

/-- the first least of some, with its number -/
noncomputable def minP (g : Bool) (b : Nat × PyData) : List (Nat × PyData) → Option (Nat × PyData)
  | [] => some b
  | x :: r => match ltD g x.2 b.2 with
    | some true => minP g x r
    | some false => minP g b r
    | none => none

section
variable {prog : Program} {w : World} {A : Around} {R : Result → Shared → Prop} {I : Addr} {fp wr : List Addr} {n : Nat} {P : Nat → Value → Prop} {St : Nat → Heap → Prop}

theorem min_loop_at (W : Walks prog w A.in1 I fp wr n P St) (S : Addr) (hSf : S ∉ fp) (T : Nat × PyData → Value → Prop) (h₀ : Heap) (hT : ∀ p v, T p v → ∃ fp, Reads h₀ v p.2 fp) (us : List Value) (hP : ∀ i v, P i v → us[i]? = some v)
    (hu : A.units + 100 < cLine) (hbw : ∀ b ∈ wr, h₀.get? b = none) (hbS : h₀.get? S = none) (x : Nat × PyData) :
    ∀ (rest : List (Nat × PyData)) (j : Nat) (s : Shared) (b : Nat × PyData) (vb : Value) (c : Nat), j + rest.length = n → St j s.heap → Kp h₀ s.heap → All2 T rest (us.drop j) → T b vb → minP false b rest = some x →
    s.heap.get? S = some { cls := .type "list", dict := none, data := .seq #[vb, vb] c, slots := #[] } →
    (∀ v h' tk, T x v → (∀ b o, b ∉ wr → b ≠ S → s.heap.get? b = some o → h'.get? b = some o) → R (.ok (.ret v)) { s with heap := h', toks := tk }) →
    codeAny (model prog w) A (.builtin "min.loop" ⟨[.ref I, .none, .ref S], []⟩) R s := by
  have hSw : S ∉ wr := fun h => hSf (W.sub _ h)
  have hname : (toString "min" ++ toString ".loop" : String) = "min.loop" := by decide
  intro rest
  induction rest with
  | nil =>
    intro j s b vb c hj hst hk hA hb hm hS hR
    obtain rfl : j = n := by simpa using hj
    simp only [minP] at hm
    cases hm
    refine codeAny_builtin F.entry_min_loop ?_
    rw [Around.under_plainId F.plain_min_loop _]
    show wpAny _ A.in1 (seqItems? (.ref S) >>= _) _ _ s
    refine wpAny_bind (wpAny_seqItems hS rfl ?_)
    show wpAny _ A.in1 (tryCatch (pyNext (.ref I)) _ >>= _) _ _ s
    refine wpAny_bind (wpAny_tryCatch (W.done s _ _ hst fun h' tk hk' => ?_))
    have hS' := hk' S _ hSw hS
    show wpAny _ A.in1 (updateSeq S (fun _ => #[]) >>= _) _ _ _
    refine wpAny_bind ?_
    refine wpAny_updateSeq hS' rfl (wpAny_bind (wpAny_letGo (wpAny_pure ?_)))
    exact hR vb _ tk hb fun b o hbw hbS e => (Heap.get?_update_other _ _ (Ne.symm hbS)).trans (hk' b o hbw e)
  | cons p rest ih =>
    intro j s b vb c hj hst hk hA hb hm hS hR
    have hlt : j < n := by simp at hj; omega
    refine codeAny_builtin F.entry_min_loop ?_
    rw [Around.under_plainId F.plain_min_loop _]
    show wpAny _ A.in1 (seqItems? (.ref S) >>= _) _ _ s
    refine wpAny_bind (wpAny_seqItems hS rfl ?_)
    show wpAny _ A.in1 (tryCatch (pyNext (.ref I)) _ >>= _) _ _ s
    refine wpAny_bind (wpAny_tryCatch (W.item j s _ _ hlt hst fun v h' tk hPv hst' hk' => ?_))
    have hS' := hk' S _ hSw hS
    have hkp : Kp h₀ h' := fun b o e => hk' b o (fun m => by rw [hbw b m] at e; cases e) (hk b o e)
    have hus : us.drop j = v :: us.drop (j + 1) := by
      have := hP j v hPv
      obtain ⟨hl, e⟩ := List.getElem?_eq_some_iff.mp this
      rw [List.drop_eq_getElem_cons hl, e]
    rw [hus] at hA
    cases hA with
    | cons hp hA =>
      obtain ⟨f1, r1⟩ := hT p v hp
      obtain ⟨f2, r2⟩ := hT b vb hb
      have r1' := PyProof.Rows.Reads.keeps hkp r1
      have r2' := PyProof.Rows.Reads.keeps hkp r2
      simp only [minP] at hm
      show wpAny _ A.in1 (tryCatch (holding [v, v] (richCompare .Lt v vb >>= _)) _ >>= _) _ _ _
      cases hc : ltD false p.2 b.2 with
      | none => rw [hc] at hm; cases hm
      | some cc =>
        rw [hc] at hm
        have hc' := hc
        unfold ltD at hc'
        split at hc'
        · rename_i hok
          simp only [Bool.and_eq_true] at hok
          refine wpAny_bind (wpAny_tryCatch (wpAny_holding (wpAny_bind (ord_at p.2 b.2 false cc A.in1 _ v vb f1 f2 hc' r1' r2' (okD_inv hok.1).1 (okD_inv hok.2).1 (by have := (okD_inv hok.1).2; show A.units + 1 + _ < _; omega) prog w _ _ ?_))))
          refine wpAny_bind (wpAny_holding (wpAny_truthy_bool ?_))
          refine wpAny_bind (wpAny_letGo (wpAny_pure ?_))
          cases cc with
          | true =>
            simp only [if_true]
            refine wpAny_bind ?_
            refine wpAny_updateSeq hS' rfl (wpAny_bind (wpAny_letGo ?_))
            rw [hname]
            refine wpAny_pure ⟨plainId_quiet F.plain_min_loop _, ih (j + 1) _ p v _ (by simp at hj; omega) (W.frame _ _ _ hst' fun b hbf o e => ?_) (fun b o e => ?_) hA hp hm (Heap.get?_update_self _ hS' rfl)
              fun v' h'' tk'' hP' hk'' => ?_⟩
            · exact (Heap.get?_update_other _ _ (fun h : S = b => hSf (by rw [h]; exact hbf))).trans e
            · exact (Heap.get?_update_other _ _ (fun h : S = b => by rw [← h, hbS] at e; cases e)).trans (hkp b o e)
            · exact hR v' h'' tk'' hP' fun b o hbw hbS e => hk'' b o hbw hbS ((Heap.get?_update_other _ _ (Ne.symm hbS)).trans (hk' b o hbw e))
          | false =>
            simp only [Bool.false_eq_true, if_false]
            refine wpAny_bind (wpAny_letGo ?_)
            rw [hname]
            refine wpAny_pure ⟨plainId_quiet F.plain_min_loop _, ih (j + 1) _ b vb c (by simp at hj; omega) hst' hkp hA hb hm hS' fun v' h'' tk'' hP' hk'' => ?_⟩
            exact hR v' h'' tk'' hP' fun b o hbw hbS e => hk'' b o hbw hbS (hk' b o hbw e)
        · cases hc'

theorem min_first_at (W : Walks prog w A.in1 I fp wr n P St) (S : Addr) (hSf : S ∉ fp) (T : Nat × PyData → Value → Prop) (h₀ : Heap) (hT : ∀ p v, T p v → ∃ fp, Reads h₀ v p.2 fp) (us : List Value) (hP : ∀ i v, P i v → us[i]? = some v)
    (hu : A.units + 100 < cLine) (hbw : ∀ b ∈ wr, h₀.get? b = none) (hbS : h₀.get? S = none) (x p : Nat × PyData) (rest : List (Nat × PyData)) (s : Shared) (c : Nat) (hn : rest.length + 1 = n) (hst : St 0 s.heap) (hk : Kp h₀ s.heap) (hA : All2 T (p :: rest) us) (hm : minP false p rest = some x)
    (hS : s.heap.get? S = some { cls := .type "list", dict := none, data := .seq #[] c, slots := #[] })
    (hR : ∀ v h' tk, T x v → (∀ b o, b ∉ wr → b ≠ S → s.heap.get? b = some o → h'.get? b = some o) → R (.ok (.ret v)) { s with heap := h', toks := tk }) :
    codeAny (model prog w) A (.builtin "min.loop" ⟨[.ref I, .none, .ref S], []⟩) R s := by
  have hSw : S ∉ wr := fun h => hSf (W.sub _ h)
  have hname : (toString "min" ++ toString ".loop" : String) = "min.loop" := by decide
  refine codeAny_builtin F.entry_min_loop ?_
  rw [Around.under_plainId F.plain_min_loop _]
  show wpAny _ A.in1 (seqItems? (.ref S) >>= _) _ _ s
  refine wpAny_bind (wpAny_seqItems hS rfl ?_)
  show wpAny _ A.in1 (tryCatch (pyNext (.ref I)) _ >>= _) _ _ s
  refine wpAny_bind (wpAny_tryCatch (W.item 0 s _ _ (by omega) hst fun v h' tk hPv hst' hk' => ?_))
  have hS' := hk' S _ hSw hS
  have hkp : Kp h₀ h' := fun b o e => hk' b o (fun m => by rw [hbw b m] at e; cases e) (hk b o e)
  cases hA with
  | @cons _ u _ us' hp hA =>
    have hv := hP 0 v hPv
    simp at hv
    subst hv
    show wpAny _ A.in1 (updateSeq S (fun _ => #[u, u]) >>= _) _ _ _
    refine wpAny_bind ?_
    refine wpAny_updateSeq hS' rfl ?_
    rw [hname]
    refine wpAny_pure ⟨plainId_quiet F.plain_min_loop _, min_loop_at W S hSf T h₀ hT (u :: us') hP hu hbw hbS x rest 1 _ p u _ (by omega) (W.frame _ _ _ hst' fun b hbf o e => ?_) (fun b o e => ?_) (by simpa using hA) hp hm (Heap.get?_update_self _ hS' rfl) fun v' h'' tk'' hP' hk'' => ?_⟩
    · exact (Heap.get?_update_other _ _ (fun h : S = b => hSf (by rw [h]; exact hbf))).trans e
    · exact (Heap.get?_update_other _ _ (fun h : S = b => by rw [← h, hbS] at e; cases e)).trans (hkp b o e)
    · exact hR v' h'' tk'' hP' fun b o hbw hbS e => hk'' b o hbw hbS ((Heap.get?_update_other _ _ (Ne.symm hbS)).trans (hk' b o hbw e))

theorem call_min_two_at {a b : Value} {Q : Value → Shared → Prop} {E : Value → Shared → Prop} {s : Shared} (T : Nat × PyData → Value → Prop) (hT : ∀ p v, T p v → ∃ fp, Reads s.heap v p.2 fp) (hu : A.units + 100 < cLine) (z p q : Nat × PyData) (ha : T p a) (hb : T q b) (hm : minP false p [q] = some z)
    (h : wpAny (model prog w) A.in1 (pyIter (.ref s.heap.objs.size)) (fun it s₂ => ∃ I fp wr n P St, it = .ref I ∧ Walks prog w A.in1 I fp wr n P St ∧ St 0 s₂.heap ∧ (∀ b ∈ fp, b < s₂.heap.objs.size) ∧ 2 = n ∧ (∀ i v, P i v → [a, b][i]? = some v) ∧ (∀ b ∈ wr, s.heap.get? b = none) ∧ Kp s.heap s₂.heap ∧
      ∀ v h' tk, T z v → (∀ b o, b ∉ wr → s₂.heap.get? b = some o → h'.get? b = some o) → Q v { s₂ with heap := h', toks := tk }) E { s with heap := s.heap.push { cls := .type "tuple", data := .seq #[a, b] } }) :
    wpAny (model prog w) A (call (.builtin "min") [a, b]) Q E s := by
  have hname : (toString "min" ++ toString ".loop" : String) = "min.loop" := by decide
  refine call_function_tree F.kind_min F.plain_min F.entry_min (F.args_min2 _ _) ?_
  show wpAny _ A.in1 (Builtin.Builtins.bindParams "min" ["key", "default"] 0 ⟨[], []⟩ >>= _) _ _ s
  refine wpAny_bind (wpAny_of_eq (show Builtin.Builtins.bindParams "min" ["key", "default"] 0 ⟨[], []⟩ = pure [none, none] from rfl) ?_)
  show wpAny _ A.in1 (newTuple [a, b] >>= _) _ _ s
  refine wpAny_bind (wpAny_newObj_type ?_)
  refine wpAny_bind (wpAny_mono h (fun it s₂ h₂ => ?_) fun _ _ e => e)
  obtain ⟨I, fp, wr, n, P, St, rfl, W, hst, hfp, hn, hP, hw, hk, hQ⟩ := h₂
  refine wpAny_bind (wpAny_newObj_type ?_)
  have hSf : s₂.heap.objs.size ∉ fp := fun hm => Nat.lt_irrefl _ (hfp _ hm)
  have hSn : s.heap.get? s₂.heap.objs.size = none := by
    cases e : s.heap.get? s₂.heap.objs.size with
    | none => rfl
    | some o => have := hk _ _ e; rw [get?_size] at this; cases this
  rw [hname]
  refine wpAny_pure ⟨plainId_quiet F.plain_min_loop _, min_first_at W s₂.heap.objs.size hSf T s.heap hT [a, b] hP hu hw hSn z p [q] _ _ (by simpa using hn) (W.frame _ _ _ hst fun b _ o e => Heap.get?_push_of_some _ e) (hk.trans (Kp.push _ _)) (.cons ha (.cons hb .nil)) hm (Heap.get?_push_size _ rfl) fun v h' tk hTv hk' => ?_⟩
  exact hQ v h' tk hTv fun b o hbw e => hk' b o hbw (Nat.ne_of_lt (Heap.lt_size e)) (Heap.get?_push_of_some _ e)

theorem max_loop_at (W : Walks prog w A.in1 I fp wr n P St) (S : Addr) (hSf : S ∉ fp) (T : Nat × PyData → Value → Prop) (h₀ : Heap) (hT : ∀ p v, T p v → ∃ fp, Reads h₀ v p.2 fp) (us : List Value) (hP : ∀ i v, P i v → us[i]? = some v)
    (hu : A.units + 100 < cLine) (hbw : ∀ b ∈ wr, h₀.get? b = none) (hbS : h₀.get? S = none) (x : Nat × PyData) :
    ∀ (rest : List (Nat × PyData)) (j : Nat) (s : Shared) (b : Nat × PyData) (vb : Value) (c : Nat), j + rest.length = n → St j s.heap → Kp h₀ s.heap → All2 T rest (us.drop j) → T b vb → minP true b rest = some x →
    s.heap.get? S = some { cls := .type "list", dict := none, data := .seq #[vb, vb] c, slots := #[] } →
    (∀ v h' tk, T x v → (∀ b o, b ∉ wr → b ≠ S → s.heap.get? b = some o → h'.get? b = some o) → R (.ok (.ret v)) { s with heap := h', toks := tk }) →
    codeAny (model prog w) A (.builtin "max.loop" ⟨[.ref I, .none, .ref S], []⟩) R s := by
  have hSw : S ∉ wr := fun h => hSf (W.sub _ h)
  have hname : (toString "max" ++ toString ".loop" : String) = "max.loop" := by decide
  intro rest
  induction rest with
  | nil =>
    intro j s b vb c hj hst hk hA hb hm hS hR
    obtain rfl : j = n := by simpa using hj
    simp only [minP] at hm
    cases hm
    refine codeAny_builtin F.entry_max_loop ?_
    rw [Around.under_plainId F.plain_max_loop _]
    show wpAny _ A.in1 (seqItems? (.ref S) >>= _) _ _ s
    refine wpAny_bind (wpAny_seqItems hS rfl ?_)
    show wpAny _ A.in1 (tryCatch (pyNext (.ref I)) _ >>= _) _ _ s
    refine wpAny_bind (wpAny_tryCatch (W.done s _ _ hst fun h' tk hk' => ?_))
    have hS' := hk' S _ hSw hS
    show wpAny _ A.in1 (updateSeq S (fun _ => #[]) >>= _) _ _ _
    refine wpAny_bind ?_
    refine wpAny_updateSeq hS' rfl (wpAny_bind (wpAny_letGo (wpAny_pure ?_)))
    exact hR vb _ tk hb fun b o hbw hbS e => (Heap.get?_update_other _ _ (Ne.symm hbS)).trans (hk' b o hbw e)
  | cons p rest ih =>
    intro j s b vb c hj hst hk hA hb hm hS hR
    have hlt : j < n := by simp at hj; omega
    refine codeAny_builtin F.entry_max_loop ?_
    rw [Around.under_plainId F.plain_max_loop _]
    show wpAny _ A.in1 (seqItems? (.ref S) >>= _) _ _ s
    refine wpAny_bind (wpAny_seqItems hS rfl ?_)
    show wpAny _ A.in1 (tryCatch (pyNext (.ref I)) _ >>= _) _ _ s
    refine wpAny_bind (wpAny_tryCatch (W.item j s _ _ hlt hst fun v h' tk hPv hst' hk' => ?_))
    have hS' := hk' S _ hSw hS
    have hkp : Kp h₀ h' := fun b o e => hk' b o (fun m => by rw [hbw b m] at e; cases e) (hk b o e)
    have hus : us.drop j = v :: us.drop (j + 1) := by
      have := hP j v hPv
      obtain ⟨hl, e⟩ := List.getElem?_eq_some_iff.mp this
      rw [List.drop_eq_getElem_cons hl, e]
    rw [hus] at hA
    cases hA with
    | cons hp hA =>
      obtain ⟨f1, r1⟩ := hT p v hp
      obtain ⟨f2, r2⟩ := hT b vb hb
      have r1' := PyProof.Rows.Reads.keeps hkp r1
      have r2' := PyProof.Rows.Reads.keeps hkp r2
      simp only [minP] at hm
      show wpAny _ A.in1 (tryCatch (holding [v, v] (richCompare .Gt v vb >>= _)) _ >>= _) _ _ _
      cases hc : ltD true p.2 b.2 with
      | none => rw [hc] at hm; cases hm
      | some cc =>
        rw [hc] at hm
        have hc' := hc
        unfold ltD at hc'
        split at hc'
        · rename_i hok
          simp only [Bool.and_eq_true] at hok
          refine wpAny_bind (wpAny_tryCatch (wpAny_holding (wpAny_bind (ord_at p.2 b.2 true cc A.in1 _ v vb f1 f2 hc' r1' r2' (okD_inv hok.1).1 (okD_inv hok.2).1 (by have := (okD_inv hok.1).2; show A.units + 1 + _ < _; omega) prog w _ _ ?_))))
          refine wpAny_bind (wpAny_holding (wpAny_truthy_bool ?_))
          refine wpAny_bind (wpAny_letGo (wpAny_pure ?_))
          cases cc with
          | true =>
            simp only [if_true]
            refine wpAny_bind ?_
            refine wpAny_updateSeq hS' rfl (wpAny_bind (wpAny_letGo ?_))
            rw [hname]
            refine wpAny_pure ⟨plainId_quiet F.plain_max_loop _, ih (j + 1) _ p v _ (by simp at hj; omega) (W.frame _ _ _ hst' fun b hbf o e => ?_) (fun b o e => ?_) hA hp hm (Heap.get?_update_self _ hS' rfl)
              fun v' h'' tk'' hP' hk'' => ?_⟩
            · exact (Heap.get?_update_other _ _ (fun h : S = b => hSf (by rw [h]; exact hbf))).trans e
            · exact (Heap.get?_update_other _ _ (fun h : S = b => by rw [← h, hbS] at e; cases e)).trans (hkp b o e)
            · exact hR v' h'' tk'' hP' fun b o hbw hbS e => hk'' b o hbw hbS ((Heap.get?_update_other _ _ (Ne.symm hbS)).trans (hk' b o hbw e))
          | false =>
            simp only [Bool.false_eq_true, if_false]
            refine wpAny_bind (wpAny_letGo ?_)
            rw [hname]
            refine wpAny_pure ⟨plainId_quiet F.plain_max_loop _, ih (j + 1) _ b vb c (by simp at hj; omega) hst' hkp hA hb hm hS' fun v' h'' tk'' hP' hk'' => ?_⟩
            exact hR v' h'' tk'' hP' fun b o hbw hbS e => hk'' b o hbw hbS (hk' b o hbw e)
        · cases hc'

theorem max_first_at (W : Walks prog w A.in1 I fp wr n P St) (S : Addr) (hSf : S ∉ fp) (T : Nat × PyData → Value → Prop) (h₀ : Heap) (hT : ∀ p v, T p v → ∃ fp, Reads h₀ v p.2 fp) (us : List Value) (hP : ∀ i v, P i v → us[i]? = some v)
    (hu : A.units + 100 < cLine) (hbw : ∀ b ∈ wr, h₀.get? b = none) (hbS : h₀.get? S = none) (x p : Nat × PyData) (rest : List (Nat × PyData)) (s : Shared) (c : Nat) (hn : rest.length + 1 = n) (hst : St 0 s.heap) (hk : Kp h₀ s.heap) (hA : All2 T (p :: rest) us) (hm : minP true p rest = some x)
    (hS : s.heap.get? S = some { cls := .type "list", dict := none, data := .seq #[] c, slots := #[] })
    (hR : ∀ v h' tk, T x v → (∀ b o, b ∉ wr → b ≠ S → s.heap.get? b = some o → h'.get? b = some o) → R (.ok (.ret v)) { s with heap := h', toks := tk }) :
    codeAny (model prog w) A (.builtin "max.loop" ⟨[.ref I, .none, .ref S], []⟩) R s := by
  have hSw : S ∉ wr := fun h => hSf (W.sub _ h)
  have hname : (toString "max" ++ toString ".loop" : String) = "max.loop" := by decide
  refine codeAny_builtin F.entry_max_loop ?_
  rw [Around.under_plainId F.plain_max_loop _]
  show wpAny _ A.in1 (seqItems? (.ref S) >>= _) _ _ s
  refine wpAny_bind (wpAny_seqItems hS rfl ?_)
  show wpAny _ A.in1 (tryCatch (pyNext (.ref I)) _ >>= _) _ _ s
  refine wpAny_bind (wpAny_tryCatch (W.item 0 s _ _ (by omega) hst fun v h' tk hPv hst' hk' => ?_))
  have hS' := hk' S _ hSw hS
  have hkp : Kp h₀ h' := fun b o e => hk' b o (fun m => by rw [hbw b m] at e; cases e) (hk b o e)
  cases hA with
  | @cons _ u _ us' hp hA =>
    have hv := hP 0 v hPv
    simp at hv
    subst hv
    show wpAny _ A.in1 (updateSeq S (fun _ => #[u, u]) >>= _) _ _ _
    refine wpAny_bind ?_
    refine wpAny_updateSeq hS' rfl ?_
    rw [hname]
    refine wpAny_pure ⟨plainId_quiet F.plain_max_loop _, max_loop_at W S hSf T h₀ hT (u :: us') hP hu hbw hbS x rest 1 _ p u _ (by omega) (W.frame _ _ _ hst' fun b hbf o e => ?_) (fun b o e => ?_) (by simpa using hA) hp hm (Heap.get?_update_self _ hS' rfl) fun v' h'' tk'' hP' hk'' => ?_⟩
    · exact (Heap.get?_update_other _ _ (fun h : S = b => hSf (by rw [h]; exact hbf))).trans e
    · exact (Heap.get?_update_other _ _ (fun h : S = b => by rw [← h, hbS] at e; cases e)).trans (hkp b o e)
    · exact hR v' h'' tk'' hP' fun b o hbw hbS e => hk'' b o hbw hbS ((Heap.get?_update_other _ _ (Ne.symm hbS)).trans (hk' b o hbw e))

theorem call_max_two_at {a b : Value} {Q : Value → Shared → Prop} {E : Value → Shared → Prop} {s : Shared} (T : Nat × PyData → Value → Prop) (hT : ∀ p v, T p v → ∃ fp, Reads s.heap v p.2 fp) (hu : A.units + 100 < cLine) (z p q : Nat × PyData) (ha : T p a) (hb : T q b) (hm : minP true p [q] = some z)
    (h : wpAny (model prog w) A.in1 (pyIter (.ref s.heap.objs.size)) (fun it s₂ => ∃ I fp wr n P St, it = .ref I ∧ Walks prog w A.in1 I fp wr n P St ∧ St 0 s₂.heap ∧ (∀ b ∈ fp, b < s₂.heap.objs.size) ∧ 2 = n ∧ (∀ i v, P i v → [a, b][i]? = some v) ∧ (∀ b ∈ wr, s.heap.get? b = none) ∧ Kp s.heap s₂.heap ∧
      ∀ v h' tk, T z v → (∀ b o, b ∉ wr → s₂.heap.get? b = some o → h'.get? b = some o) → Q v { s₂ with heap := h', toks := tk }) E { s with heap := s.heap.push { cls := .type "tuple", data := .seq #[a, b] } }) :
    wpAny (model prog w) A (call (.builtin "max") [a, b]) Q E s := by
  have hname : (toString "max" ++ toString ".loop" : String) = "max.loop" := by decide
  refine call_function_tree F.kind_max F.plain_max F.entry_max (F.args_max2 _ _) ?_
  show wpAny _ A.in1 (Builtin.Builtins.bindParams "max" ["key", "default"] 0 ⟨[], []⟩ >>= _) _ _ s
  refine wpAny_bind (wpAny_of_eq (show Builtin.Builtins.bindParams "max" ["key", "default"] 0 ⟨[], []⟩ = pure [none, none] from rfl) ?_)
  show wpAny _ A.in1 (newTuple [a, b] >>= _) _ _ s
  refine wpAny_bind (wpAny_newObj_type ?_)
  refine wpAny_bind (wpAny_mono h (fun it s₂ h₂ => ?_) fun _ _ e => e)
  obtain ⟨I, fp, wr, n, P, St, rfl, W, hst, hfp, hn, hP, hw, hk, hQ⟩ := h₂
  refine wpAny_bind (wpAny_newObj_type ?_)
  have hSf : s₂.heap.objs.size ∉ fp := fun hm => Nat.lt_irrefl _ (hfp _ hm)
  have hSn : s.heap.get? s₂.heap.objs.size = none := by
    cases e : s.heap.get? s₂.heap.objs.size with
    | none => rfl
    | some o => have := hk _ _ e; rw [get?_size] at this; cases this
  rw [hname]
  refine wpAny_pure ⟨plainId_quiet F.plain_max_loop _, max_first_at W s₂.heap.objs.size hSf T s.heap hT [a, b] hP hu hw hSn z p [q] _ _ (by simpa using hn) (W.frame _ _ _ hst fun b _ o e => Heap.get?_push_of_some _ e) (hk.trans (Kp.push _ _)) (.cons ha (.cons hb .nil)) hm (Heap.get?_push_size _ rfl) fun v h' tk hTv hk' => ?_⟩
  exact hQ v h' tk hTv fun b o hbw e => hk' b o hbw (Nat.ne_of_lt (Heap.lt_size e)) (Heap.get?_push_of_some _ e)
end
end Mine
end

section
/-! M11: builtins called, slices -/
namespace Mine
open PySem PySem.Spec PySem.SeqAt
set_option maxRecDepth 100000

section
variable {C : Cx} {W : Wd} {Φ : Fn} {k : Nat}

theorem AOk.hd1 {A : Around} (h : AOk A k) : A.in1.handled = none := h.hd
/-- a walk over a list or tuple begins -/
theorem seq_iter {A : Around} {E : Value → Shared → Prop} {s : Shared} {a : Addr} {us : List Value} {Q : Value → Shared → Prop} (hh : A.handled = none) (hl : s.heap.IsList a us.toArray ∨ s.heap.IsTuple a us.toArray)
    (h : ∀ I fp wr P St h', Walks C.prog C.w A I fp wr us.length P St → St 0 h' → (∀ i v, P i v → us[i]? = some v) → (∀ b ∈ wr, s.heap.get? b = none) → (∀ b ∈ fp, b < h'.objs.size) → Kp s.heap h' → Q (.ref I) { s with heap := h' }) :
    wpAny (model C.prog C.w) A (pyIter (.ref a)) Q E s := by
  rcases hl with hl | hl
  · have ha : a < s.heap.objs.size := by obtain ⟨o, e, _⟩ := hl; exact Heap.lt_size e
    have hne : a ≠ s.heap.objs.size := Nat.ne_of_lt ha
    refine wpAny_pyIter_list hl (h s.heap.objs.size [s.heap.objs.size, a] [s.heap.objs.size] (fun i v => us.toArray[i]? = some v) (fun i h => h.IsListIter s.heap.objs.size a i ∧ h.IsList a us.toArray) _ (by simpa using Walks.list hh s.heap.objs.size a hne us.toArray) ⟨⟨_, Heap.get?_push_size _ rfl, rfl, rfl⟩, hl.at fun o e => Heap.get?_push_of_some _ e⟩ (fun i v p => by simpa using p) (fun b m => ?_) (fun b m => ?_) (Kp.push _ _))
    · simp at m; subst m; exact get?_size _
    · rw [PyProof.Rows.size_push']
      simp at m
      rcases m with rfl | rfl
      · exact Nat.lt_succ_self _
      · exact Nat.lt_succ_of_lt ha
  · have ha : a < s.heap.objs.size := by obtain ⟨o, e, _⟩ := hl; exact Heap.lt_size e
    have hne : a ≠ s.heap.objs.size := Nat.ne_of_lt ha
    refine wpAny_pyIter_tuple hl (h s.heap.objs.size [s.heap.objs.size, a] [s.heap.objs.size] (fun i v => us.toArray[i]? = some v) (fun i h => h.IsTupleIter s.heap.objs.size a i ∧ h.IsTuple a us.toArray) _ (by simpa using Walks.tuple hh s.heap.objs.size a hne us.toArray) ⟨⟨_, Heap.get?_push_size _ rfl, rfl, rfl⟩, hl.at fun o e => Heap.get?_push_of_some _ e⟩ (fun i v p => by simpa using p) (fun b m => ?_) (fun b m => ?_) (Kp.push _ _))
    · simp at m; subst m; exact get?_size _
    · rw [PyProof.Rows.size_push']
      simp at m
      rcases m with rfl | rfl
      · exact Nat.lt_succ_self _
      · exact Nat.lt_succ_of_lt ha

theorem boolsD_inv {h : Heap} {xs : List PyData} {us : List Value} {bs : List Bool} (e : boolsD xs = some bs) (hv : All2 (fun x u => ∃ fp, Reads h u x fp) xs us) : us = bs.map Value.bool := by
  have := (allO_inv e).comp hv (T := fun b u => u = Value.bool b) fun x b u _ h1 h2 => by
    cases x with
    | bool c => simp only [Option.some.injEq] at h1; subst h1; obtain ⟨fp, r⟩ := h2; cases r; rfl
    | _ => cases h1
  clear e hv
  induction this with
  | nil => rfl
  | cons p _ ih => rw [p, ih]; rfl
theorem truth_bools {A : Around} {bs : List Bool} {P : Nat → Value → Prop} (hP : ∀ i v, P i v → (bs.map Value.bool)[i]? = some v) : TruthOf C.prog C.w A P (fun i => bs.getD i false) := by
  intro i v s Q E p q
  have := hP i v p
  rw [List.getElem?_map] at this
  cases e : bs[i]? with
  | none => rw [e] at this; cases this
  | some b =>
    rw [e] at this
    simp at this
    subst this
    refine wpAny_truthy_bool ?_
    simpa [List.getD, e] using q
theorem range_all (bs : List Bool) : (List.range bs.length).all (fun i => bs.getD i false) = bs.all id := by
  induction bs with
  | nil => rfl
  | cons b r ih => rw [List.length_cons, List.range_succ_eq_map, List.all_cons, List.all_map, List.all_cons, ← ih]; rfl
theorem range_any (bs : List Bool) : (List.range bs.length).any (fun i => bs.getD i false) = bs.any id := by
  induction bs with
  | nil => rfl
  | cons b r ih => rw [List.length_cons, List.range_succ_eq_map, List.any_cons, List.any_map, List.any_cons, ← ih]; rfl

theorem kp_of_wr {h h₂ h' : Heap} {wr : List Addr} (k : Kp h h₂) (hw : ∀ b ∈ wr, h.get? b = none) (k' : ∀ b o, b ∉ wr → h₂.get? b = some o → h'.get? b = some o) : Kp h h' := fun b o e =>
  k' b o (fun m => by rw [hw b m] at e; cases e) (k b o e)

noncomputable def tyName' : Ty → String
  | .tuple => "tuple" | .list => "list" | .int => "int" | .bool => "bool"
noncomputable def b1Val : B1 → Value
  | .int => .type "int" | .list => .type "list" | .tuple => .type "tuple" | .str => .type "str"
  | .len => .builtin "len" | .abs => .builtin "abs" | .all => .builtin "all" | .any => .builtin "any" | .min => .builtin "min" | .max => .builtin "max" | .sorted => .builtin "sorted"

theorem ReadsAll.two {h : Heap} : ∀ {xs : List PyData} {us : List Value} {fp : List Addr}, ReadsAll h us xs fp → All2 (fun x u => ∃ fp, Reads h u x fp) xs us
  | [], _, _, .nil => .nil
  | _ :: _, _, _, .cons r t => .cons ⟨_, r⟩ (ReadsAll.two t)
/-- a list read as data -/
theorem reads_list {h : Heap} {u : Value} {xs : List PyData} {fp : List Addr} (r : Reads h u (.list xs) fp) : ∃ a us, u = .ref a ∧ h.IsList a us.toArray ∧ All2 (fun x u => ∃ fp, Reads h u x fp) xs us := by
  cases r with
  | @list a o vs n _ fp' e c d r =>
    refine ⟨a, vs.toList, rfl, ⟨o, e, c, n, by simpa using d⟩, ?_⟩
    generalize vs.toList = l at r
    exact ReadsAll.two r

theorem b1D_sound {A : Around} {E : Value → Shared → Prop} {s : Shared} {as : List Addr} {X : Addr → Prop} {σ : St} {b : B1} {x y : PyData} {u : Value} {fp : List Addr} (hA : AOk A k) (r : SR C as X σ s.heap) (hx : Reads s.heap u x fp) (hok : okB1 b = true) (e : b1D b x = some y) : wpAny (model C.prog C.w) A (call (b1Val b) [u]) (PX C as X σ (.d y) s) E s := by
  unfold b1D at e
  cases b with
  | int =>
    dsimp only at e
    split at e
    · cases e; cases hx
      refine call_int_bool (PX.tok r ?_)
      exact DR.int _ _
    · cases e
  | abs =>
    dsimp only at e
    split at e
    · cases e; cases hx
      exact PyProof.Rows.call_abs_int fun u tk => PX.tok r (DR.int _ _)
    · cases e
  | all =>
    dsimp only at e
    split at e
    · rename_i xs
      obtain ⟨bb, e1, rfl⟩ := Option.map_eq_some_iff.mp e
      obtain ⟨bs, e2, rfl⟩ := Option.map_eq_some_iff.mp e1
      obtain ⟨a, us, rfl, hl, h2⟩ := reads_list hx
      obtain rfl := boolsD_inv e2 h2
      refine call_all_walk (seq_iter hA.hd1 (.inl hl) fun I fp wr P St h' W h0 hP hw _ hk => ⟨I, fp, wr, _, P, St, _, rfl, W, h0, truth_bools hP, fun h'' tk k' => ?_⟩)
      rw [List.length_map, range_all]
      exact PX.plain r (kp_of_wr hk hw k') (DR.bool _)
    · cases e
  | any =>
    dsimp only at e
    split at e
    · rename_i xs
      obtain ⟨bb, e1, rfl⟩ := Option.map_eq_some_iff.mp e
      obtain ⟨bs, e2, rfl⟩ := Option.map_eq_some_iff.mp e1
      obtain ⟨a, us, rfl, hl, h2⟩ := reads_list hx
      obtain rfl := boolsD_inv e2 h2
      refine call_any_walk (seq_iter hA.hd1 (.inl hl) fun I fp wr P St h' W h0 hP hw _ hk => ⟨I, fp, wr, _, P, St, _, rfl, W, h0, truth_bools hP, fun h'' tk k' => ?_⟩)
      rw [List.length_map, range_any]
      exact PX.plain r (kp_of_wr hk hw k') (DR.bool _)
    · cases e
  | _ => first | (simp [okB1] at hok; done) | (dsimp only at e; cases e)

theorem newList_at {s : Shared} {as : List Addr} {X : Addr → Prop} {σ σ' : St} {m : Bool} {vs : List V} {us : List Value} {v : V} {h' : Heap} {c : Nat} (hb : Kp C.H0 s.heap) (r : SR C as X σ s.heap) (hv : All2 (VR C as X s.heap) vs us)
    (hk : Kp s.heap h') (ho : h'.get? s.heap.objs.size = some { cls := .type "list", dict := none, data := .seq us.toArray c, slots := #[] }) (t : Nat) (e : mkL m vs σ = .ok (v, σ')) : PX C as X σ' v s (.ref s.heap.objs.size) { s with heap := h', toks := t } := by
  have hout := r.out hb (get?_size s.heap)
  have g : Grow as (as ++ [s.heap.objs.size]) X X s.heap h' := ⟨hk, fun n b e => by rw [List.getElem?_append_left (List.getElem?_eq_some_iff.mp e).1]; exact e, fun b ob e h1 h2 => ⟨fun m => (by
    rcases List.mem_append.mp m with m | m
    · exact h1 m
    · simp at m; subst m; rw [get?_size] at e; cases e), h2⟩⟩
  unfold mkL at e
  split at e
  · split at e
    · rename_i hst
      cases e
      refine ⟨as ++ [s.heap.objs.size], ⟨⟨_, _, rfl⟩, hk, ⟨[s.heap.objs.size], rfl, fun a m => by simp at m; subst m; exact get?_size _⟩, r.add hk (get?_size _) ⟨us.toArray, ⟨c, ho⟩, by simpa using hv.mono fun _ _ q => q.grow g, hst⟩ ⟨hout.2.2, hout.2.1⟩⟩, s.heap.objs.size, ?_, rfl⟩
      rw [← r.len, List.getElem?_append_right (Nat.le_refl _)]
      simp
    · cases e
  · split at e
    · rename_i ds hd
      cases e
      obtain ⟨nd, fp, rr, hf⟩ := DR.all (allD_inv hd hv)
      refine PX.plain (t := t) r hk ⟨nd, s.heap.objs.size :: fp, .list ho rfl rfl (by simpa using PyProof.Rows.ReadsAll.keeps hk rr), fun a m => ?_⟩
      rcases List.mem_cons.mp m with rfl | m
      · exact ⟨hout.1, hout.2.1⟩
      · exact hf a m
    · cases e

theorem b1V_sound {A : Around} {E : Value → Shared → Prop} {s : Shared} {as : List Addr} {X : Addr → Prop} {σ σ' : St} {m : Bool} {b : B1} {x v : V} {u : Value} (hA : AOk A k) (hb : Kp C.H0 s.heap) (r : SR C as X σ s.heap) (hx : VR C as X s.heap x u)
    (hok : okB1 b = true) (e : b1V m b x σ = .ok (v, σ')) : wpAny (model C.prog C.w) A (call (b1Val b) [u]) (PX C as X σ' v s) E s := by
  cases b with
  | len =>
    simp only [b1V] at e
    split at e
    · rename_i xs hs
      split at e
      · rename_i hsz
        cases e
        obtain ⟨a, us, rfl, h1, h2⟩ := seqV_inv r hx hs
        have hl := h2.length
        have hz : us.toArray.size = xs.length := by simp [hl]
        have hf : ((us.toArray.size : Nat) : Int) < 2 ^ 63 := by rw [hz]; omega
        rcases h1 with h1 | h1
        · refine PyProof.Rows.len_list h1 hf (PX.tok r ?_)
          rw [hz]; exact DR.int _ _
        · refine PyProof.Rows.len_tuple h1 hf (PX.tok r ?_)
          rw [hz]; exact DR.int _ _
      · cases e
    · cases e
  | list =>
    have key : ∀ xs, seqV σ x = some xs → xs.length ≤ 100000 → mkL m xs σ = .ok (v, σ') → wpAny (model C.prog C.w) A (call (b1Val .list) [u]) (PX C as X σ' v s) E s := by
      intro xs hs hsz hm
      obtain ⟨a, us, rfl, h1, h2⟩ := seqV_inv r hx hs
      have hl := h2.length
      have hz : us.toArray.size ≤ sizeLine := by simp [sizeLine_eq]; omega
      rcases h1 with ⟨o, ho, hc, n, hd⟩ | ⟨o, ho, hc, n, hd⟩
      · exact call_list_seq a (.inl rfl) ho hc hd (fun h' c' hk ho' => newList_at (t := s.toks) hb r h2 hk ho' hm) hz
      · exact call_list_seq a (.inr rfl) ho hc hd (fun h' c' hk ho' => newList_at (t := s.toks) hb r h2 hk ho' hm) hz
    simp only [b1V] at e
    split at e
    · split at e
      · rename_i hs
        split at e
        · rename_i hsz; exact key _ hs hsz e
        · cases e
      · cases e
    · split at e
      · rename_i hs
        split at e
        · rename_i hsz; exact key _ hs hsz e
        · cases e
      · cases e
    · cases e
  | int | abs | all | any =>
    simp only [b1V] at e
    split at e
    · rename_i y hr
      split at e
      · rename_i z hz
        cases e
        obtain ⟨nd, fp, rr⟩ := res_reads r hr hx
        exact b1D_sound hA r rr rfl hz
      · cases e
    · cases e
  | _ => simp [okB1] at hok

theorem b1_tab {b : B1} (h : okB1 b = true) : (b1Name b, b1Val b) ∈ biTab := by
  cases b <;> simp [okB1] at h <;> simp [b1Name, b1Val, biTab]
/-- a builtin of one argument -/
theorem call1 {sc : Sc} {nm : Nm} {env : PySem.Env} {A : Around} {E : Value → Shared → Prop} {s : Shared} {ρ : Rho} {as : List Addr} {Y : Addr → Prop} {σ : St} {x : Str} {f : Value} {l : Expr} {p pos : Pos} {Q : Value → Shared → Prop}
    (O : Ok C W) (hI : Inv C env nm ρ as Y σ s) (hs : env.scope.names = sc) (hg : isGlob sc x = true) (hv : (x, f) ∈ biTab) (hf : (∃ id, f = .builtin id) ∨ ∃ T, f = .type T) (hn : notStar l = true)
    (h : wpAny (model C.prog C.w) A (eval l env) (fun v s₁ => wpAny (model C.prog C.w) A (call f [v]) Q E s₁) E s) : wpAny (model C.prog C.w) A (eval (.Call (.Name x p) [l] [] pos) env) Q E s := by
  refine PyProof.Rows.Call_Name1 (name_bi O hI hs hg hv ?_) (starEach_cons hn)
  rcases hf with ⟨id, rfl⟩ | ⟨T, rfl⟩
  · exact callWith_builtin1 h
  · exact callWith_type1 h

theorem sx_b1 (O : Ok C W) {m : Bool} {b : B1} {a : X} (ha : SX C W Φ k a) : SX C W Φ k (.b1 m b a) := by
  intro sc nm e env A E s ρ as Y σ σ' v hm hs hA hI he
  obtain ⟨⟨x, σ₁⟩, h1, h2⟩ := R.bind_inv he
  dsimp only at h2
  cases hm.inv with
  | b1 hok hg m1 hn =>
    refine call1 O hI hs hg (b1_tab hok) (by cases b <;> first | exact .inl ⟨_, rfl⟩ | exact .inr ⟨_, rfl⟩) hn (wpAny_mono (ha _ _ _ env A E s ρ as Y σ σ₁ x m1 hs hA hI h1) (fun u s₁ p => ?_) fun _ _ y => y)
    obtain ⟨as₁, p1, p2⟩ := p
    exact wpAny_mono (b1V_sound hA (hI.step p1).base p1.sr p2 hok h2) (fun _ _ t => PX.trans p1 t) fun _ _ y => y

theorem isinst_sound {A : Around} {E : Value → Shared → Prop} {s : Shared} {as : List Addr} {X : Addr → Prop} {σ : St} {t : Ty} {p : PyData} {u : Value} (r : SR C as X σ s.heap) (hx : DR as X s.heap p u) :
    wpAny (model C.prog C.w) A (call (.builtin "isinstance") [u, .type (tyName' t)]) (PX C as X σ (.d (.bool (isTy t p))) s) E s := by
  obtain ⟨nd, fp, rr, _⟩ := hx
  have yes : PX C as X σ (.d (.bool true)) s (.bool true) s := PX.same r (DR.bool _)
  have no : PX C as X σ (.d (.bool false)) s (.bool false) { s with toks := s.toks + 1 } := PX.tok r (DR.bool _)
  cases rr with
  | none => cases t <;> first | exact IsiPair.NoneType_tuple no | exact IsiPair.NoneType_list no | exact IsiPair.NoneType_int no | exact IsiPair.NoneType_bool no
  | bool b => cases t <;> first | exact IsiPair.bool_tuple no | exact IsiPair.bool_list no | exact IsiPair.bool_int yes | exact IsiPair.bool_bool yes
  | int i tk => cases t <;> first | exact IsiPair.int_tuple no | exact IsiPair.int_list no | exact IsiPair.int_int yes | exact IsiPair.int_bool no
  | str i tk => cases t <;> first | exact IsiPair.str_tuple no | exact IsiPair.str_list no | exact IsiPair.str_int no | exact IsiPair.str_bool no
  | list e c d _ => cases t <;> first | exact IsiPair.list_tuple e c no | exact IsiPair.list_list e c yes | exact IsiPair.list_int e c no | exact IsiPair.list_bool e c no
  | tuple e c d _ => cases t <;> first | exact IsiPair.tuple_tuple e c yes | exact IsiPair.tuple_list e c no | exact IsiPair.tuple_int e c no | exact IsiPair.tuple_bool e c no
  | dict => simp [noDict] at nd
end
end Mine
end

section
/-! M12: builtins of two arguments, slices, lists joined -/
namespace Mine
open PySem PySem.Spec PySem.SeqAt
set_option maxRecDepth 100000

section
variable {C : Cx} {W : Wd} {Φ : Fn} {k : Nat}

noncomputable def b2Id : B2 → String
  | .min => "min" | .max => "max"
theorem call2 {sc : Sc} {nm : Nm} {env : PySem.Env} {A : Around} {E : Value → Shared → Prop} {s : Shared} {ρ : Rho} {as : List Addr} {Y : Addr → Prop} {σ : St} {x : Str} {id : String} {l r : Expr} {p pos : Pos} {Q : Value → Shared → Prop}
    (O : Ok C W) (hI : Inv C env nm ρ as Y σ s) (hs : env.scope.names = sc) (hg : isGlob sc x = true) (hv : (x, Value.builtin id) ∈ biTab) (hl : notStar l = true) (hr : notStar r = true)
    (h : wpAny (model C.prog C.w) A (eval l env) (fun v s₁ => wpAny (model C.prog C.w) A (eval r env) (fun u s₂ => wpAny (model C.prog C.w) A (call (.builtin id) [v, u]) Q E s₂) E s₁) E s) : wpAny (model C.prog C.w) A (eval (.Call (.Name x p) [l, r] [] pos) env) Q E s := by
  have ht : backTo pos (starEach [l, r] env) = backTo pos [(false, eval l env), (false, eval r env)] := by rw [starEach_cons hl, starEach_cons hr]; rfl
  refine PyProof.Rows.Call_Name ht (name_bi O hI hs hg hv ?_)
  refine Calls.callWith_builtin rfl (Calls.evalArgs_plain (Calls.spliced_cons (wpAny_mono h (fun v s₁ h₁ => ?_) fun _ _ e => e)))
  exact Calls.spliced_cons (wpAny_mono h₁ (fun u s₂ h₂ => Calls.spliced_nil h₂) fun _ _ e => e)

theorem minP_of {g : Bool} : ∀ {l : List (Nat × PyData)} {b : Nat × PyData} {z : PyData}, minGo g b.2 (l.map (·.2)) = some z → ∃ i, minP g b l = some (i, z)
  | [], b, z, h => by simp only [List.map_nil, minGo, Option.some.injEq] at h; subst h; exact ⟨b.1, rfl⟩
  | x :: r, b, z, h => by
    simp only [List.map_cons, minGo] at h
    simp only [minP]
    cases e : ltD g x.2 b.2 with
    | none => rw [e] at h; cases h
    | some c =>
      cases c
      · rw [e] at h; exact minP_of h
      · rw [e] at h; exact minP_of h

theorem two_sound {A : Around} {E : Value → Shared → Prop} {s : Shared} {as : List Addr} {X : Addr → Prop} {σ : St} {g : B2} {p q z : PyData} {u v : Value} (hA : AOk A k) (r : SR C as X σ s.heap) (hu : DR as X s.heap p u) (hv : DR as X s.heap q v)
    (e : minD (g == .max) [p, q] = some z) : wpAny (model C.prog C.w) A (call (.builtin (b2Id g)) [u, v]) (PX C as X σ (.d z) s) E s := by
  have hun := hA.un
  obtain ⟨i, hm⟩ := minP_of (b := (0, p)) (l := [(1, q)]) e
  have fin : ∀ {E : Value → Shared → Prop}, wpAny (model C.prog C.w) A.in1 (pyIter (.ref s.heap.objs.size)) (fun it s₂ => ∃ I fp wr n P St, it = .ref I ∧ Walks C.prog C.w A.in1 I fp wr n P St ∧ St 0 s₂.heap ∧ (∀ b ∈ fp, b < s₂.heap.objs.size) ∧ 2 = n ∧ (∀ i w, P i w → [u, v][i]? = some w) ∧ (∀ b ∈ wr, s.heap.get? b = none) ∧ Kp s.heap s₂.heap ∧
      ∀ w h' tk, DR as X s.heap z w → (∀ b o, b ∉ wr → s₂.heap.get? b = some o → h'.get? b = some o) → PX C as X σ (.d z) s w { s₂ with heap := h', toks := tk }) E { s with heap := s.heap.push { cls := .type "tuple", data := .seq #[u, v] } } := by
    intro E
    refine seq_iter (us := [u, v]) hA.hd1 (.inr ⟨_, Heap.get?_push_size _ rfl, rfl, 0, rfl⟩) fun I fp wr P St h' W h0 hP hw hf hk => ?_
    have hw' : ∀ b ∈ wr, s.heap.get? b = none := fun b m => by
      cases e : s.heap.get? b with
      | none => rfl
      | some o => have := hw b m; rw [show ({ s with heap := s.heap.push { cls := .type "tuple", data := .seq #[u, v] } } : Shared).heap.get? b = some o from Heap.get?_push_of_some _ e] at this; cases this
    have hk' : Kp s.heap h' := (Kp.push _ _).trans hk
    exact ⟨I, fp, wr, 2, P, St, rfl, W, h0, hf, rfl, hP, hw', hk', fun w h'' tk hd k' => PX.plain r (kp_of_wr hk' hw' k') (DR.kp hd (kp_of_wr hk' hw' k') fun _ _ _ p q => ⟨p, q⟩)⟩
  cases g with
  | min => exact call_min_two_at (fun p v => DR as X s.heap p.2 v) (fun p v ⟨_, fp, r, _⟩ => ⟨fp, r⟩) (by omega) (i, z) (0, p) (1, q) hu hv hm fin
  | max => exact call_max_two_at (fun p v => DR as X s.heap p.2 v) (fun p v ⟨_, fp, r, _⟩ => ⟨fp, r⟩) (by omega) (i, z) (0, p) (1, q) hu hv hm fin

theorem sx_b2 (O : Ok C W) {b : B2} {a c : X} (ha : SX C W Φ k a) (hc : SX C W Φ k c) : SX C W Φ k (.b2 b a c) := by
  intro sc nm e env A E s ρ as Y σ σ' v hm hs hA hI he
  obtain ⟨⟨x, σ₁⟩, h1, h2⟩ := R.bind_inv he
  obtain ⟨⟨y, σ₂⟩, h3, h4⟩ := R.bind_inv h2
  dsimp only at h3 h4
  split at h4
  · rename_i p q
    obtain ⟨z, h5, h6⟩ := R.bind_inv h4
    have h5 := ofO_inv h5
    cases h6
    cases hm.inv with
    | b2 hg m1 m2 n1 n2 =>
      refine call2 (id := b2Id b) O hI hs hg (by cases b <;> simp [b2Name, b2Id, biTab]) n1 n2 (wpAny_mono (ha _ _ _ env A E s ρ as Y σ σ₁ _ m1 hs hA hI h1) (fun u s₁ p => ?_) fun _ _ y => y)
      obtain ⟨as₁, p1, p2⟩ := p
      refine wpAny_mono (hc _ _ _ env A E s₁ ρ as₁ Y σ₁ _ _ m2 hs hA (hI.step p1) h3) (fun u' s₂ q => ?_) fun _ _ y => y
      obtain ⟨as₂, q1, q2⟩ := q
      exact wpAny_mono (two_sound hA q1.sr (VR.grow (v := .d _) p2 q1.grow) q2 h5) (fun _ _ t => PX.trans (p1.trans q1) t) fun _ _ y => y
  · cases h4

theorem sx_isin (O : Ok C W) {t : Ty} {a : X} (ha : SX C W Φ k a) : SX C W Φ k (.isin t a) := by
  intro sc nm e env A E s ρ as Y σ σ' v hm hs hA hI he
  obtain ⟨⟨x, σ₁⟩, h1, h2⟩ := R.bind_inv he
  dsimp only at h2
  cases hm.inv with
  | isin hg ht m1 hn =>
    refine call2 (id := "isinstance") O hI hs hg (by simp [biTab]) hn rfl (wpAny_mono (ha _ _ _ env A E s ρ as Y σ σ₁ _ m1 hs hA hI h1) (fun u s₁ p => ?_) fun _ _ y => y)
    obtain ⟨as₁, p1, p2⟩ := p
    refine name_bi O (hI.step p1) hs ht (v := .type (tyName' t)) (by cases t <;> simp [tyName, tyName', biTab]) ?_
    split at h2
    · cases h2
      exact wpAny_mono (isinst_sound p1.sr p2) (fun _ _ t => PX.trans p1 t) fun _ _ y => y
    · rename_i n
      split at h2
      · rename_i xs hx
        cases h2
        obtain ⟨a', ha', rfl⟩ := p2
        obtain ⟨vs, ⟨m, ho⟩, _, _⟩ := p1.sr.obj n _ a' hx ha'
        have yes : PX C as Y σ' (.d (.bool true)) s (.bool true) s₁ := PX.trans p1 (PX.same p1.sr (DR.bool _))
        have no : PX C as Y σ' (.d (.bool false)) s (.bool false) { s₁ with toks := s₁.toks + 1 } := PX.trans p1 (PX.tok p1.sr (DR.bool _))
        cases t <;> first | exact IsiPair.list_tuple ho rfl no | exact IsiPair.list_list ho rfl yes | exact IsiPair.list_int ho rfl no | exact IsiPair.list_bool ho rfl no
      · cases h2
    · cases h2

theorem lstD_inv {as : List Addr} {X : Addr → Prop} {σ : St} {h : Heap} {v : V} {u : Value} {xs : List PyData} (r : SR C as X σ h) (hv : VR C as X h v u) (e : lstD σ v = some xs) :
    ∃ a us, u = .ref a ∧ h.IsList a us.toArray ∧ All2 (DR as X h) xs us ∧ xs.length ≤ 100000 := by
  cases v with
  | d x =>
    cases x with
    | list ds =>
      simp only [lstD] at e
      split at e
      · rename_i hsz
        cases e
        obtain ⟨a, us, rfl, h1, h2⟩ := DR.list_inv hv
        exact ⟨a, us, rfl, h1, h2, hsz⟩
      · cases e
    | _ => simp [lstD] at e
  | ref n =>
    simp only [lstD] at e
    split at e
    · rename_i ys hy
      split at e
      · rename_i hsz
        obtain ⟨a, ha, rfl⟩ := hv
        obtain ⟨vs, ⟨m, ho⟩, h2, h3⟩ := r.obj n _ a hy ha
        have h4 := allD_inv e h2
        have := h4.length
        have := h2.length
        exact ⟨a, vs.toList, rfl, ⟨_, ho, rfl, m, rfl⟩, h4, by omega⟩
      · cases e
    · cases e
  | _ => simp [lstD] at e

theorem clip_eq (n : Nat) (i : Int) : clipAt n i = clampI n i := by
  unfold clipAt clampI
  split <;> omega

noncomputable def SXo (C : Cx) (W : Wd) (Φ : Fn) (k : Nat) : Option X → Prop
  | none => True
  | some x => SX C W Φ k x
theorem sxo_sound {o : Option X} (h : SXo C W Φ k o) {sc : Sc} {nm : Nm} {p : Option Expr} {env : PySem.Env} {A : Around} {E : Value → Shared → Prop} {s : Shared} {ρ : Rho} {as : List Addr} {Y : Addr → Prop} {σ σ' : St} {v : Option V} {b : Option Int}
    (hm : MXo W sc nm o p) (hs : env.scope.names = sc) (hA : AOk A k) (hI : Inv C env nm ρ as Y σ s) (he : evo Φ o ρ σ = .ok (v, σ')) (hb : boundO v = some b) :
    wpAny (model C.prog C.w) A (evalPart p env) (fun u s' => IsPart u b ∧ ∃ as', Step C as Y σ' as' s s') E s := by
  cases hm.inv with
  | none =>
    cases he
    simp only [boundO, Option.some.injEq] at hb
    subst hb
    rw [evalPart_none]
    exact wpAny_pure ⟨.none, as, Step.refl hI.sr⟩
  | some m1 =>
    obtain ⟨⟨x, σ₁⟩, h1, h2⟩ := R.bind_inv he
    cases h2
    rw [evalPart_some]
    refine wpAny_mono (h _ _ _ env A E s ρ as Y σ σ₁ x m1 hs hA hI h1) (fun u s₁ p => ?_) fun _ _ y => y
    obtain ⟨as₁, p1, p2⟩ := p
    cases x with
    | d x =>
      cases x with
      | int i =>
        simp only [boundO] at hb
        split at hb
        · cases hb
          obtain ⟨t, rfl⟩ := DR.int_inv p2
          exact ⟨.int _ _, as₁, p1⟩
        · cases hb
      | _ => simp [boundO] at hb
    | _ => simp [boundO] at hb

theorem sx_slc {a : X} {lo hi : Option X} (ha : SX C W Φ k a) (hl : SXo C W Φ k lo) (hh : SXo C W Φ k hi) : SX C W Φ k (.slc a lo hi) := by
  intro sc nm e env A E s ρ as Y σ σ' v hm hs hA hI he
  obtain ⟨⟨x, σ₁⟩, h1, h2⟩ := R.bind_inv he
  obtain ⟨⟨y, σ₂⟩, h3, h4⟩ := R.bind_inv h2
  obtain ⟨⟨z, σ₃⟩, h5, h6⟩ := R.bind_inv h4
  dsimp only at h3 h5 h6
  unfold sliceV at h6
  split at h6
  · rename_i xs p q hxs hp hq
    cases h6
    cases hm.inv with
    | slc m1 m2 m3 =>
      refine PyProof.Rows.Subscript_ (wpAny_mono (ha _ _ _ env A E s ρ as Y σ σ₁ x m1 hs hA hI h1) (fun u s₁ p => ?_) fun _ _ y => y)
      obtain ⟨as₁, p1, p2⟩ := p
      refine wpAny_Slice (wpAny_mono (sxo_sound hl m2 hs hA (hI.step p1) h3 hp) (fun u₁ s₂ q => ?_) fun _ _ y => y)
      obtain ⟨q1, as₂, q2⟩ := q
      refine wpAny_mono (sxo_sound hh m3 hs hA ((hI.step p1).step q2) h5 hq) (fun u₂ s₃ t => ?_) fun _ _ y => y
      obtain ⟨t1, as₃, t2⟩ := t
      rw [evalPart_none]
      refine wpAny_pure ?_
      have st := (p1.trans q2).trans t2
      obtain ⟨l, us, rfl, hL, hd, hsz⟩ := lstD_inv t2.sr ((p2.grow q2.grow).grow t2.grow) hxs
      have hlen := hd.length
      have hL' : (s₃.heap.push { cls := .type "slice", data := .fields #[u₁, u₂, .none] }).IsList l us.toArray := hL.at fun o e => Heap.get?_push_of_some _ e
      refine PyProof.Rows.tail_any (ops := [.ref s₃.heap.objs.size, .ref l]) hL'.typeIs slot_list_getitem.lookup (wpAny_getItem_list_slice hL' ⟨_, Heap.get?_push_size _ rfl, rfl, rfl⟩ q1 t1 .none (by simp) ?_ (by simp [sizeLine_eq]; omega)) rfl
      have kp : Kp s₃.heap (s₃.heap.push { cls := .type "slice", data := .fields #[u₁, u₂, .none] }) := Kp.push _ _
      have r' := t2.sr.grow kp
      have hb' : Kp C.H0 s₃.heap := (hI.step st).base
      refine PX.trans st (PX.plain (t := s₃.toks) t2.sr (kp.trans (Kp.push _ _)) ?_)
      refine DR.newList r' (hb'.trans kp) (us := (us.drop (p.elim 0 (clipAt us.length))).take (q.elim us.length (clipAt us.length) - p.elim 0 (clipAt us.length))) ?_ rfl (n := 0) (by simp [slicePick_plain])
      have e1 : sliceL xs p q = (xs.drop (p.elim 0 (clipAt us.length))).take (q.elim us.length (clipAt us.length) - p.elim 0 (clipAt us.length)) := by
        unfold sliceL
        cases p <;> cases q <;> simp [clip_eq, hlen]
      rw [e1]
      exact ((hd.mono fun _ _ r => DR.kp r kp fun _ _ _ p q => ⟨p, q⟩).drop _).take _
  · cases h6

theorem sx_rev {a : X} (ha : SX C W Φ k a) : SX C W Φ k (.rev a) := by
  intro sc nm e env A E s ρ as Y σ σ' v hm hs hA hI he
  obtain ⟨⟨x, σ₁⟩, h1, h2⟩ := R.bind_inv he
  dsimp only at h2
  unfold revV at h2
  split at h2
  · rename_i xs hxs
    cases h2
    cases hm.inv with
    | rev m1 =>
      refine PyProof.Rows.Subscript_ (wpAny_mono (ha _ _ _ env A E s ρ as Y σ _ x m1 hs hA hI h1) (fun u s₁ p => ?_) fun _ _ y => y)
      obtain ⟨as₁, p1, p2⟩ := p
      refine wpAny_Slice ?_
      rw [evalPart_none]
      refine wpAny_pure (wpAny_pure ?_)
      rw [evalPart_some]
      refine PyProof.Rows.UnaryOp_ (wpAny_Constant_int (PyProof.Rows.neg_int ?_))
      obtain ⟨l, us, rfl, hL, hd, hsz⟩ := lstD_inv p1.sr p2 hxs
      have hlen := hd.length
      generalize hs₂ : ({ s₁ with toks := _ } : Shared) = s₂
      have e0 : s₂.heap = s₁.heap := by subst hs₂; rfl
      have hL' : (s₂.heap.push { cls := .type "slice", data := .fields #[.none, .none, .int (-1) (s₁.toks + 1)] }).IsList l us.toArray := by rw [e0]; exact hL.at fun o e => Heap.get?_push_of_some _ e
      refine PyProof.Rows.tail_any (ops := [.ref l, .ref s₂.heap.objs.size]) hL'.typeIs slot_list_getitem.lookup (wpAny_getItem_list_slice hL' ⟨_, Heap.get?_push_size _ rfl, rfl, rfl⟩ .none .none (.int _ _) (by simp) ?_ (by simp [sizeLine_eq]; omega)) rfl
      have kp : Kp s₁.heap (s₂.heap.push { cls := .type "slice", data := .fields #[.none, .none, .int (-1) (s₁.toks + 1)] }) := by rw [e0]; exact Kp.push _ _
      have r' := p1.sr.grow kp
      have hb' : Kp C.H0 s₁.heap := (hI.step p1).base
      subst hs₂
      refine PX.trans p1 (PX.plain (t := _) p1.sr (kp.trans (Kp.push _ _)) ?_)
      refine DR.newList r' (hb'.trans kp) (us := us.reverse) ?_ rfl (n := 0) (by simp [PySem.W.krv_pick])
      exact (hd.mono fun _ _ r => DR.kp r kp fun _ _ _ p q => ⟨p, q⟩).reverse
  · cases h2

theorem sx_cat {a b : X} (ha : SX C W Φ k a) (hb : SX C W Φ k b) : SX C W Φ k (.cat a b) := by
  intro sc nm e env A E s ρ as Y σ σ' v hm hs hA hI he
  obtain ⟨⟨x, σ₁⟩, h1, h2⟩ := R.bind_inv he
  obtain ⟨⟨y, σ₂⟩, h3, h4⟩ := R.bind_inv h2
  dsimp only at h3 h4
  cases hm.inv with
  | cat m1 m2 =>
    refine wpAny_BinOp (wpAny_mono (ha _ _ _ env A E s ρ as Y σ σ₁ _ m1 hs hA hI h1) (fun u s₁ p => ?_) fun _ _ y => y)
    obtain ⟨as₁, p1, p2⟩ := p
    refine wpAny_mono (hb _ _ _ env A E s₁ ρ as₁ Y σ₁ _ _ m2 hs hA (hI.step p1) h3) (fun u' s₂ q => ?_) fun _ _ y => y
    obtain ⟨as₂, q1, q2⟩ := q
    have p2' := p2.grow q1.grow
    have st := p1.trans q1
    have nt : ∀ {v : V} {w : Value} {a : Addr} {us : List Value}, (∀ ds, v ≠ .d (.tuple ds)) → VR C as₂ Y s₂.heap v (.ref a) → (s₂.heap.IsList a us.toArray ∨ s₂.heap.IsTuple a us.toArray) → (∃ xs, seqV σ₂ v = some xs) → s₂.heap.IsList a us.toArray := by
      intro v w a us hnt hv hl hsq
      rcases hl with hl | hl
      · exact hl
      · exfalso
        obtain ⟨o, ho, hc, _⟩ := hl
        obtain ⟨xs, hsq⟩ := hsq
        cases v with
        | d z =>
          obtain ⟨_, fp, rr, _⟩ := hv
          cases z with
          | tuple ds => exact hnt ds rfl
          | list ds =>
            cases rr with
            | list e c _ _ => rw [ho] at e; cases e; rw [hc] at c; simp at c
          | _ => simp [seqV, seqD] at hsq
        | ref n =>
          simp only [seqV] at hsq
          split at hsq
          · rename_i ys hy
            obtain ⟨a', ha', e'⟩ := hv
            cases e'
            obtain ⟨vs, ⟨m, ho'⟩, _, _⟩ := q1.sr.obj n _ _ hy ha'
            rw [ho] at ho'
            cases ho'
            simp at hc
          · cases hsq
        | _ => simp [seqV] at hsq
    unfold catV at h4
    split at h4
    · cases h4
    · cases h4
    · rename_i n1 n2
      split at h4
      · rename_i xs ys hx hy
        split at h4
        · rename_i hsz
          obtain ⟨l, us, rfl, hl, h7⟩ := seqV_inv q1.sr p2' hx
          obtain ⟨l', ws, rfl, hl', h8⟩ := seqV_inv q1.sr q2 hy
          have e1 := h7.length
          have e2 := h8.length
          refine add_list (nt (w := .none) (fun ds => n1 ds) p2' hl ⟨_, hx⟩) (nt (w := .none) (fun ds => n2 ds) q2 hl' ⟨_, hy⟩) ?_ (by rw [← e1, ← e2, sizeLine_eq]; omega)
          exact PX.trans st (newList_at (t := s₂.toks) (c := 0) (hI.step st).base q1.sr (h7.append h8) (Kp.push _ _) (Heap.get?_push_size _ rfl) h4)
        · cases h4
      · cases h4
end
end Mine
end

section
/-! M13: writes to a frame; walks -/
namespace Mine
open PySem PySem.Spec PySem.SeqAt
set_option maxRecDepth 100000

/-- what is written lies apart from what is read -/
structure Wr (P X : Addr → Prop) (h h' : Heap) : Prop where
  sub : ∀ b, P b → X b
  keep : ∀ b o, ¬ P b → h.get? b = some o → h'.get? b = some o
  tup : ∀ b o vs n, P b → h.get? b = some o → o.data = .seq vs n → o.cls ≠ .type "tuple"

theorem Wr.one {X : Addr → Prop} {h h' : Heap} {a : Addr} {o : Obj} (hX : X a) (ho : h.get? a = some o) (hd : ∀ vs n, o.data ≠ .seq vs n) (hs : ∀ b o, b ≠ a → h.get? b = some o → h'.get? b = some o) : Wr (fun b => b = a) X h h' :=
  ⟨fun b e => e ▸ hX, fun b o n e => hs b o n e, fun b ob vs n e e1 e2 => by subst e; rw [ho] at e1; cases e1; exact absurd e2 (hd vs n)⟩

section
variable {C : Cx} {as : List Addr} {X P : Addr → Prop} {h h' : Heap}

theorem DR.but {x : PyData} {u : Value} (r : DR as X h x u) (w : Wr P X h h') : DR as X h' x u := by
  obtain ⟨nd, fp, r, hf⟩ := r
  exact ⟨nd, fp, reads_out w.keep r nd fun b o vs n p e d => ⟨w.tup b o vs n p e d, fun m => (hf b m).2 (w.sub b p)⟩, hf⟩
theorem VR.but {v : V} {u : Value} (r : VR C as X h v u) (w : Wr P X h h') (hs : ∀ x, v ≠ .tmp x) : VR C as X h' v u := by
  cases v with
  | d x => exact DR.but r w
  | ref n => exact r
  | fn f => exact r
  | pd ks vs =>
    obtain ⟨a, vals, rfl, h1, h2, h3, h4, h5⟩ := r
    exact ⟨a, vals, rfl, h1, h2, h3, h4.keepP w.keep w.tup fun p => h2 (w.sub a p), h5.mono fun _ _ r => r.but w⟩
  | ex c =>
    obtain ⟨e, o, rfl, h1, h2, h3, h4⟩ := r
    exact ⟨e, o, rfl, w.keep _ _ (fun p => h4 (w.sub _ p)) h1, h2, h3, h4⟩
  | tmp x => exact absurd rfl (hs x)
  | undef => trivial
theorem stor_tmp {v : V} (h : stor v = true) (x : PyData) : v ≠ .tmp x := fun e => by subst e; cases h
theorem All2.vrBut {vs : List V} {us : List Value} (r : All2 (VR C as X h) vs us) (w : Wr P X h h') (hs : vs.all stor = true) : All2 (VR C as X h') vs us := by
  induction r with
  | nil => exact .nil
  | cons p _ ih =>
    simp only [List.all_cons, Bool.and_eq_true] at hs
    exact .cons (p.but w (stor_tmp hs.1)) (ih hs.2)
theorem OR.but {a : Addr} {o : O} (r : OR C as X h a o) (w : Wr P X h h') (ha : ¬ X a) : OR C as X h' a o := by
  cases o with
  | list xs =>
    obtain ⟨vs, ⟨n, e⟩, h2, h3⟩ := r
    exact ⟨vs, ⟨n, w.keep _ _ (fun p => ha (w.sub _ p)) e⟩, h2.vrBut w h3, h3⟩
  | dict ks vs =>
    obtain ⟨vals, h1, h2, h3, h4⟩ := r
    exact ⟨vals, h1.keepP w.keep w.tup fun p => ha (w.sub a p), h2.vrBut w h3, h3, h4⟩
theorem SR.but {σ : St} (r : SR C as X σ h) (w : Wr P X h h') (still : ∀ b, P b → ∃ o, h'.get? b = some o) : SR C as X σ h' :=
  ⟨r.len, r.nodup, fun n o a e1 e2 => (r.obj n o a e1 e2).but w (r.fresh a (List.mem_of_getElem? e2)).2, r.fresh, fun a x => by
    by_cases p : P a
    · exact still a p
    · obtain ⟨o, e⟩ := r.xd a x; exact ⟨o, w.keep a o p e⟩⟩
theorem SR.wider {X' : Addr → Prop} {σ : St} (r : SR C as X' σ h) (hx : ∀ a, X a → X' a) : SR C as X σ h :=
  have g : Grow as as X' X h h := ⟨Kp.refl _, fun _ _ e => e, fun a o _ h1 h2 => ⟨h1, fun x => h2 (hx a x)⟩⟩
  ⟨r.len, r.nodup, fun n o a e1 e2 => (r.obj n o a e1 e2).grow g, fun a m => ⟨(r.fresh a m).1, fun x => (r.fresh a m).2 (hx a x)⟩, fun a x => r.xd a (hx a x)⟩
theorem SR.drop {X' : Addr → Prop} {σ : St} (r : SR C as X σ h) (w : Wr P X h h') (hx : ∀ a, X' a → X a) (hd : ∀ a, X' a → ∃ o, h'.get? a = some o) : SR C as X' σ h' :=
  have g : Grow as as X X' h' h' := ⟨Kp.refl _, fun _ _ e => e, fun a o _ h1 h2 => ⟨h1, fun x => h2 (hx a x)⟩⟩
  ⟨r.len, r.nodup, fun n o a e1 e2 => ((r.obj n o a e1 e2).but w (r.fresh a (List.mem_of_getElem? e2)).2).grow g, fun a m => ⟨(r.fresh a m).1, fun x => (r.fresh a m).2 (hx a x)⟩, hd⟩
/-- more is fenced off, all of it new -/
theorem SR.fence {X' : Addr → Prop} {σ : St} (r : SR C as X σ h) (k : Kp h h') (hx : ∀ a, X' a → X a ∨ h.get? a = none) (hd : ∀ a, X' a → ∃ o, h'.get? a = some o) : SR C as X' σ h' := by
  have g : Grow as as X X' h h' := ⟨k, fun _ _ e => e, fun a o e h1 h2 => ⟨h1, fun x => by
    rcases hx a x with q | q
    · exact h2 q
    · rw [q] at e; cases e⟩⟩
  exact ⟨r.len, r.nodup, fun n o a e1 e2 => (r.obj n o a e1 e2).grow g, fun a m => ⟨(r.fresh a m).1, fun x => by
    rcases hx a x with q | q
    · exact (r.fresh a m).2 q
    · obtain ⟨o, e, _⟩ := r.asOk a m; rw [q] at e; cases e⟩, hd⟩
theorem VR.fence {X' : Addr → Prop} {v : V} {u : Value} (r : VR C as X h v u) (k : Kp h h') (hx : ∀ a, X' a → X a ∨ h.get? a = none) : VR C as X' h' v u :=
  r.grow ⟨k, fun _ _ e => e, fun a o e h1 h2 => ⟨h1, fun x => by
    rcases hx a x with q | q
    · exact h2 q
    · rw [q] at e; cases e⟩⟩
theorem VR.wider {X' : Addr → Prop} {v : V} {u : Value} (r : VR C as X' h v u) (hx : ∀ a, X a → X' a) : VR C as X h v u :=
  r.grow ⟨Kp.refl _, fun _ _ e => e, fun a o _ h1 h2 => ⟨h1, fun x => h2 (hx a x)⟩⟩
end

/-- what a statement does -/
structure StepS (env : PySem.Env) (as as' : List Addr) (s s' : Shared) : Prop where
  same : ∃ h tk, s' = { s with heap := h, toks := tk }
  keep : ∀ b o, b ∉ as → b ≠ env.locals → (∀ x c, env.cells.lookup x = some c → b ≠ c) → s.heap.get? b = some o → s'.heap.get? b = some o
  new : ∃ new, as' = as ++ new ∧ ∀ a ∈ new, s.heap.get? a = none
  still : ∀ b o, s.heap.get? b = some o → ∃ o', s'.heap.get? b = some o'
theorem StepS.trans {env : PySem.Env} {as as₁ as₂ : List Addr} {s s₁ s₂ : Shared} (a : StepS env as as₁ s s₁) (b : StepS env as₁ as₂ s₁ s₂) : StepS env as as₂ s s₂ := by
  obtain ⟨h1, t1, rfl⟩ := a.same
  obtain ⟨h2, t2, rfl⟩ := b.same
  obtain ⟨n1, rfl, f1⟩ := a.new
  obtain ⟨n2, rfl, f2⟩ := b.new
  refine ⟨⟨h2, t2, rfl⟩, fun b' o p1 p2 p3 e => b.keep b' o (fun m => ?_) p2 p3 (a.keep b' o p1 p2 p3 e), ⟨n1 ++ n2, by simp, fun x m => ?_⟩, fun b' o e => ?_⟩
  · rcases List.mem_append.mp m with m | m
    · exact p1 m
    · rw [f1 b' m] at e; cases e
  · rcases List.mem_append.mp m with m | m
    · exact f1 x m
    · cases e : s.heap.get? x with
      | none => rfl
      | some o => obtain ⟨o', e'⟩ := a.still x o e; rw [f2 x m] at e'; cases e'
  · obtain ⟨o', e'⟩ := a.still b' o e; exact b.still b' o' e'
theorem StepS.refl {env : PySem.Env} {as : List Addr} {s : Shared} : StepS env as as s s := ⟨⟨_, _, rfl⟩, fun _ _ _ _ _ e => e, ⟨[], by simp, fun _ m => nomatch m⟩, fun _ o e => ⟨o, e⟩⟩
theorem Step.toS {C : Cx} {env : PySem.Env} {as as' : List Addr} {X : Addr → Prop} {σ' : St} {s s' : Shared} (r : Step C as X σ' as' s s') : StepS env as as' s s' := ⟨r.same, fun b o _ _ _ e => r.kp b o e, r.new, fun b o e => ⟨o, r.kp b o e⟩⟩

section
variable {C : Cx} {W : Wd} {Φ : Fn} {k : Nat}

theorem base_but {P X : Addr → Prop} {h h' : Heap} (b : Kp C.H0 h) (w : Wr P X h h') (hp : ∀ a, P a → C.H0.get? a = none) : Kp C.H0 h' := fun a o e => w.keep a o (fun p => by rw [hp a p] at e; cases e) (b a o e)

/-- a write to the frame alone -/
noncomputable def Wf (F : Addr → Prop) (Y : Addr → Prop) (h h' : Heap) : Prop := ∃ P, Wr P Y h h' ∧ (∀ b, P b → F b) ∧ ∀ b, P b → ∃ o, h'.get? b = some o
/-- the frame of an activation -/
noncomputable def envF (env : PySem.Env) (b : Addr) : Prop := b = env.locals ∨ ∃ y c, env.cells.lookup y = some c ∧ b = c
/-- where a name's value is kept -/
noncomputable def FrOk (env : PySem.Env) (F : Addr → Prop) (x : Str) : Prop := (env.kindOf x = some .local → F env.locals) ∧ ∀ c, env.kindOf x = some .cell → env.cells.lookup x = some c → F c
theorem frOk_env (env : PySem.Env) (x : Str) : FrOk env (envF env) x := ⟨fun _ => .inl rfl, fun c _ e => .inr ⟨x, c, e, rfl⟩⟩
theorem Wf.stepS {env : PySem.Env} {Y : Addr → Prop} {as : List Addr} {s : Shared} {h' : Heap} {t : Nat} (w : Wf (envF env) Y s.heap h') : StepS env as as s { s with heap := h', toks := t } := by
  obtain ⟨P, w, hp, hst⟩ := w
  refine ⟨⟨_, _, rfl⟩, fun b o _ h1 h2 e => w.keep b o (fun p => ?_) e, ⟨[], by simp, fun _ m => nomatch m⟩, fun b o e => ?_⟩
  · rcases hp b p with q | ⟨y, c, q, r⟩
    · exact h1 q
    · exact h2 y c q r
  · by_cases p : P b
    · exact hst b p
    · exact ⟨o, w.keep b o p e⟩
theorem Wf.kp {F : Addr → Prop} {Y : Addr → Prop} {h h' : Heap} (k : Kp h h') : Wf F Y h h' := ⟨fun _ => False, ⟨fun _ p => p.elim, fun b o _ e => k b o e, fun _ _ _ _ p => p.elim⟩, fun _ p => p.elim, fun _ p => p.elim⟩
theorem Wf.trans {F : Addr → Prop} {Y : Addr → Prop} {h h₁ h₂ : Heap} (a : Wf F Y h h₁) (b : Wf F Y h₁ h₂) : Wf F Y h h₂ := by
  obtain ⟨P, w, hp, hs⟩ := a
  obtain ⟨P', w', hp', hs'⟩ := b
  refine ⟨fun x => P x ∨ P' x, ⟨fun x q => q.elim (w.sub x) (w'.sub x), fun x o n e => w'.keep x o (fun q => n (.inr q)) (w.keep x o (fun q => n (.inl q)) e), fun x o vs n q e d => ?_⟩, fun x q => q.elim (hp x) (hp' x), fun x q => ?_⟩
  · by_cases hx : P x
    · exact w.tup x o vs n hx e d
    · exact q.elim (fun q => absurd q hx) fun q => w'.tup x o vs n q (w.keep x o hx e) d
  · by_cases hx : P' x
    · exact hs' x hx
    · rcases q with q | q
      · obtain ⟨o, e⟩ := hs x q; exact ⟨o, w'.keep x o hx e⟩
      · exact absurd q hx
/-- a name is stored -/
theorem store_sound {A : Around} {E : Value → Shared → Prop} {s : Shared} {nm : Nm} {env : PySem.Env} {ρ : Rho} {as : List Addr} {Y : Addr → Prop} {σ : St} {x : Str} {i : Nat} {v : V} {u : Value} {Q : Unit → Shared → Prop}
    {F : Addr → Prop} (hI : Inv C env nm ρ as Y σ s) (hx : nm.lookup x = some i) (hv : VR C as Y s.heap v u) (hst : stor v = true) (hF : FrOk env F x)
    (h : ∀ h' tk, Inv C env nm (ρ.set i v) as Y σ { s with heap := h', toks := tk } → Wf F Y s.heap h' → Q () { s with heap := h', toks := tk }) :
    wpAny (model C.prog C.w) A (storeName env x u) Q E s := by
  obtain ⟨m, hn, hm⟩ := hI.fr.ns
  have same : ∀ y j w, nm.lookup y = some j → (ρ.set i v)[j]? = some w → (y = x ∧ j = i ∧ w = v) ∨ (j ≠ i ∧ ρ[j]? = some w) := by
    intro y j w hy hw
    by_cases hji : j = i
    · subst hji
      have hyx := hI.fr.inj y x j hy hx
      rw [List.getElem?_set_self' ] at hw
      cases hρ : ρ[j]? with
      | none => rw [hρ] at hw; simp at hw
      | some z => rw [hρ] at hw; simp at hw; exact .inl ⟨hyx, rfl, hw.symm⟩
    · rw [List.getElem?_set_ne (Ne.symm hji)] at hw
      exact .inr ⟨hji, hw⟩
  rcases hI.fr.known x i hx with hl | hl
  · refine wpAny_storeName_local hl hn (fun h' hn' hs' => ?_) (by rw [hI.fr.kind]; rfl)
    obtain ⟨o, es, ep, ho, hd, _⟩ := id hn
    obtain ⟨o', es', ep', ho', _⟩ := id hn'
    have w : Wr (fun b => b = env.locals) Y s.heap h' := Wr.one hI.fr.locX ho (by intro vs n e; rw [hd] at e; cases e) hs'.extBut
    refine h h' _ ⟨base_but hI.base w fun a e => e ▸ hI.fr.base.1, ⟨hI.fr.kind, hI.fr.glob, hI.fr.blt, ⟨_, hn', fun y j w' hy hk hw hs => ?_⟩, fun y j hy hk => ?_, hI.fr.known, hI.fr.locX, hI.fr.cellX, hI.fr.apart, hI.fr.base, hI.fr.inj, fun y c e => let ⟨u, q⟩ := hI.fr.cellO y c e; ⟨u, q.sameBut hs' (hI.fr.cellX y c e).2⟩⟩, hI.sr.but w fun b e => ⟨_, e ▸ ho'⟩⟩
      ⟨_, w, fun b e => e ▸ hF.1 hl, fun b e => ⟨_, e ▸ ho'⟩⟩
    · rcases same y j w' hy hw with ⟨rfl, rfl, rfl⟩ | ⟨hj, hw⟩
      · exact ⟨u, if_pos rfl, hv.but w (stor_tmp hst)⟩
      · obtain ⟨z, e1, e2⟩ := hm y j w' hy hk hw hs
        have hyx : y ≠ x := fun e => hj (by rw [e, hx] at hy; cases hy; rfl)
        exact ⟨z, by rw [if_neg hyx]; exact e1, e2.but w (stor_tmp hs)⟩
    · obtain ⟨c, z, e1, e2, e3⟩ := hI.fr.cell y j hy hk
      have hc := (hI.fr.cellX y c e1).2
      refine ⟨c, z, e1, e2.sameBut hs' hc, fun w' hw hs => ?_⟩
      rcases same y j w' hy hw with ⟨rfl, rfl, rfl⟩ | ⟨hj, hw⟩
      · rw [hl] at hk; cases hk
      · obtain ⟨z', e4, e5⟩ := e3 w' hw hs
        exact ⟨z', e4, e5.but w (stor_tmp hs)⟩
  · obtain ⟨c, z, e1, e2, e3⟩ := hI.fr.cell x i hx hl
    refine wpAny_storeName_cell hI.fr.kind hl e1 e2 fun h' hc' hs' => ?_
    obtain ⟨o, ho, hd⟩ := id e2
    obtain ⟨o', ho', hd'⟩ := id hc'
    have hcX := hI.fr.cellX x c e1
    have w : Wr (fun b => b = c) Y s.heap h' := Wr.one hcX.1 ho (by intro vs n e; rw [hd] at e; cases e) hs'.extBut
    refine h h' s.toks ⟨base_but hI.base w fun a e => e ▸ hI.fr.base.2 x c e1, ⟨hI.fr.kind, hI.fr.glob, hI.fr.blt, ⟨m, hn.sameBut hs' (Ne.symm hcX.2), fun y j w' hy hk hw hs => ?_⟩, fun y j hy hk => ?_, hI.fr.known, hI.fr.locX, hI.fr.cellX, hI.fr.apart, hI.fr.base, hI.fr.inj, fun y c' e => by
      by_cases hcc : c' = c
      · subst hcc; exact ⟨_, hc'⟩
      · obtain ⟨u, q⟩ := hI.fr.cellO y c' e; exact ⟨u, q.sameBut hs' hcc⟩⟩, hI.sr.but w fun b e => ⟨_, e ▸ ho'⟩⟩
      ⟨_, w, fun b e => e ▸ hF.2 c hl e1, fun b e => ⟨_, e ▸ ho'⟩⟩
    · rcases same y j w' hy hw with ⟨rfl, rfl, rfl⟩ | ⟨hj, hw⟩
      · rw [hl] at hk; cases hk
      · obtain ⟨z, e1, e2⟩ := hm y j w' hy hk hw hs
        exact ⟨z, e1, e2.but w (stor_tmp hs)⟩
    · by_cases hyx : y = x
      · subst hyx
        refine ⟨c, some u, e1, hc', fun w' hw hs => ?_⟩
        rcases same y j w' hy hw with ⟨_, rfl, rfl⟩ | ⟨hj, hw⟩
        · exact ⟨u, rfl, hv.but w (stor_tmp hst)⟩
        · rw [hx] at hy; cases hy; exact absurd rfl hj
      · obtain ⟨c', z', f1, f2, f3⟩ := hI.fr.cell y j hy hk
        have hcc : c' ≠ c := fun e => hyx (hI.fr.apart y x c (e ▸ f1) e1)
        refine ⟨c', z', f1, f2.sameBut hs' hcc, fun w' hw hs => ?_⟩
        rcases same y j w' hy hw with ⟨rfl, _, _⟩ | ⟨hj, hw⟩
        · exact absurd rfl hyx
        · obtain ⟨z'', e4, e5⟩ := f3 w' hw hs
          exact ⟨z'', e4, e5.but w (stor_tmp hs)⟩
end
end Mine
end

section
/-! M14: targets, walks -/
namespace Mine
open PySem PySem.Spec PySem.SeqAt
set_option maxRecDepth 100000

/-- names by their slots -/
noncomputable def tgtsN : List Expr → List Nat → Option Nm
  | [], [] => some []
  | .Name x _ :: es, i :: is => (tgtsN es is).map ((x, i) :: ·)
  | _, _ => none

section
variable {C : Cx} {W : Wd} {Φ : Fn} {k : Nat}

theorem Inv.toks {nm : Nm} {env : PySem.Env} {ρ : Rho} {as : List Addr} {Y : Addr → Prop} {σ : St} {s : Shared} (hI : Inv C env nm ρ as Y σ s) {t : Nat} : Inv C env nm ρ as Y σ { s with toks := t } := ⟨hI.base, hI.fr, hI.sr⟩
/-- the heap has grown -/
theorem Inv.kp {nm : Nm} {env : PySem.Env} {ρ : Rho} {as : List Addr} {Y : Addr → Prop} {σ : St} {s : Shared} (hI : Inv C env nm ρ as Y σ s) {h' : Heap} {t : Nat} (k : Kp s.heap h') : Inv C env nm ρ as Y σ { s with heap := h', toks := t } :=
  hI.step (Step.heap hI.sr k t)

theorem names_sound {A : Around} {E : Value → Shared → Prop} {nm : Nm} {env : PySem.Env} {as : List Addr} {Y : Addr → Prop} {σ : St} {F : Addr → Prop} {Q : Unit → Shared → Prop} : ∀ {elts : List Expr} {is : List Nat} {ts : Nm} {ds : List PyData} {us : List Value} {ρ ρ' : Rho} {s : Shared},
    tgtsN elts is = some ts → (∀ t ∈ ts, nm.lookup t.1 = some t.2 ∧ FrOk env F t.1) → setAll is ds ρ = some ρ' → Inv C env nm ρ as Y σ s → All2 (DR as Y s.heap) ds us →
    (∀ h' tk, Inv C env nm ρ' as Y σ { s with heap := h', toks := tk } → Wf F Y s.heap h' → Q () { s with heap := h', toks := tk }) → wpAny (model C.prog C.w) A (assignInOrder ((assignEach elts env).map (·.2)) us) Q E s
  | [], is, ts, ds, us, ρ, ρ', s, ht, hn, ha, hI, hv, h => by
    cases is with
    | nil =>
      cases ds with
      | nil => cases hv; simp only [setAll, Option.some.injEq] at ha; subst ha; exact PyProof.Rows.assignInOrder_nil (h s.heap s.toks hI (Wf.kp (Kp.refl _)))
      | cons => simp [setAll] at ha
    | cons => simp [tgtsN] at ht
  | .Name x p :: es, is, ts, ds, us, ρ, ρ', s, ht, hn, ha, hI, hv, h => by
    cases is with
    | nil => simp [tgtsN] at ht
    | cons i is =>
      simp only [tgtsN] at ht
      obtain ⟨ts', ht', rfl⟩ := Option.map_eq_some_iff.mp ht
      cases hv with
      | nil => simp [setAll] at ha
      | @cons d u ds us h1 h2 =>
        simp only [setAll] at ha
        split at ha
        · refine PyProof.Rows.assignInOrder_cons (wpAny_assign_Name (store_sound (v := .d d) hI (hn (x, i) (.head _)).1 h1 rfl (hn (x, i) (.head _)).2 fun h' tk hI' hw => ?_))
          obtain ⟨P, w, _⟩ := id hw
          exact names_sound ht' (fun t m => hn t (.tail _ m)) ha hI' (h2.mono fun a b r => r.but w) fun h'' tk' hI'' hw' => h h'' tk' hI'' (hw.trans hw')
        · cases ha
  | e :: es, is, ts, ds, us, ρ, ρ', s, ht, hn, ha, hI, hv, h => by
    cases e with
    | Name x p =>
      cases is with
      | nil => simp [tgtsN] at ht
      | cons i is =>
        simp only [tgtsN] at ht
        obtain ⟨ts', ht', rfl⟩ := Option.map_eq_some_iff.mp ht
        cases hv with
        | nil => simp [setAll] at ha
        | @cons d u ds us h1 h2 =>
          simp only [setAll] at ha
          split at ha
          · refine PyProof.Rows.assignInOrder_cons (wpAny_assign_Name (store_sound (v := .d d) hI (hn (x, i) (.head _)).1 h1 rfl (hn (x, i) (.head _)).2 fun h' tk hI' hw => ?_))
            obtain ⟨P, w, _⟩ := id hw
            exact names_sound ht' (fun t m => hn t (.tail _ m)) ha hI' (h2.mono fun a b r => r.but w) fun h'' tk' hI'' hw' => h h'' tk' hI'' (hw.trans hw')
          · cases ha
    | _ => simp [tgtsN] at ht

theorem assignEach_length {env : PySem.Env} : ∀ {elts : List Expr} {is : List Nat} {ts : Nm}, tgtsN elts is = some ts → (assignEach elts env).length = is.length ∧ (assignEach elts env).findIdx? (·.1) = none
  | [], is, ts, ht => by
    cases is with
    | nil => exact ⟨rfl, rfl⟩
    | cons => simp [tgtsN] at ht
  | e :: es, is, ts, ht => by
    cases e with
    | Name x p =>
      cases is with
      | nil => simp [tgtsN] at ht
      | cons i is =>
        simp only [tgtsN] at ht
        obtain ⟨ts', ht', rfl⟩ := Option.map_eq_some_iff.mp ht
        obtain ⟨h1, h2⟩ := assignEach_length (env := env) ht'
        have e : assignEach (.Name x p :: es) env = (false, assign (.Name x p) env) :: assignEach es env := rfl
        rw [e]
        exact ⟨by simp [h1], by simp [List.findIdx?_cons, h2]⟩
    | _ => simp [tgtsN] at ht
theorem setAll_length : ∀ {is : List Nat} {ds : List PyData} {ρ ρ' : Rho}, setAll is ds ρ = some ρ' → is.length = ds.length
  | [], ds, ρ, ρ', h => by cases ds with | nil => rfl | cons => simp [setAll] at h
  | i :: is, ds, ρ, ρ', h => by
    cases ds with
    | nil => simp [setAll] at h
    | cons d ds =>
      simp only [setAll] at h
      split at h
      · simp [setAll_length h]
      · cases h

/-- a tuple of names -/
theorem tuple_sound {A : Around} {E : Value → Shared → Prop} {nm : Nm} {env : PySem.Env} {as : List Addr} {Y : Addr → Prop} {σ : St} {F : Addr → Prop} {Q : Unit → Shared → Prop} {elts : List Expr} {x1} {pos : Pos} {is : List Nat} {ts : Nm} {ds : List PyData} {u : Value} {ρ ρ' : Rho} {s : Shared}
    (hh : A.handled = none) (ht : tgtsN elts is = some ts) (hn : ∀ t ∈ ts, nm.lookup t.1 = some t.2 ∧ FrOk env F t.1) (ha : setAll is ds ρ = some ρ') (hI : Inv C env nm ρ as Y σ s) (hv : DR as Y s.heap (.tuple ds) u)
    (h : ∀ h' tk, Inv C env nm ρ' as Y σ { s with heap := h', toks := tk } → Wf F Y s.heap h' → Q () { s with heap := h', toks := tk }) : wpAny (model C.prog C.w) A (assign (.Tuple elts x1 pos) env u) Q E s := by
  obtain ⟨a, us, rfl, h1, h2⟩ := DR.tuple_inv hv
  obtain ⟨l1, l2⟩ := assignEach_length (env := env) ht
  have l3 := setAll_length ha
  have l4 := h2.length
  refine wpAny_assign_Tuple hh h1 (by simp; omega) l2 fun h' hk => ?_
  have kp : Kp s.heap h' := fun b o e => hk b o (Nat.ne_of_lt (Heap.lt_size e)) e
  have st := Step.heap hI.sr kp s.toks
  refine names_sound ht hn ha (hI.step st) (by simpa using h2.mono fun _ _ r => DR.kp r kp fun _ _ _ p q => ⟨p, q⟩) fun h'' tk' hI' hw => h h'' tk' hI' ((Wf.kp kp).trans hw)

/-- a loop's target -/
theorem bind_sound {A : Around} {E : Value → Shared → Prop} {nm : Nm} {env : PySem.Env} {as : List Addr} {Y : Addr → Prop} {σ : St} {F : Addr → Prop} {Q : Unit → Shared → Prop} {target : Expr} {slots : List Nat} {ts : Nm} {v : V} {u : Value} {ρ ρ' : Rho} {s : Shared}
    (hh : A.handled = none) (ht : tgts target slots = some ts) (hn : ∀ t ∈ ts, nm.lookup t.1 = some t.2 ∧ FrOk env F t.1) (ha : bindV slots v ρ = some ρ') (hI : Inv C env nm ρ as Y σ s) (hv : VR C as Y s.heap v u) (hst : stor v = true)
    (h : ∀ h' tk, Inv C env nm ρ' as Y σ { s with heap := h', toks := tk } → Wf F Y s.heap h' → Q () { s with heap := h', toks := tk }) : wpAny (model C.prog C.w) A (assign target env u) Q E s := by
  rcases tgts_inv ht with ⟨x, p, i, rfl, rfl, rfl⟩ | ⟨x, p1, y, p2, k, pos, i, j, rfl, rfl, rfl⟩
  · simp only [bindV] at ha
    split at ha
    · cases ha
      exact wpAny_assign_Name (store_sound hI (hn _ (.head _)).1 hv hst (hn _ (.head _)).2 fun h' tk hI' hw => h h' tk hI' hw)
    · cases ha
  · simp only [bindV] at ha
    split at ha
    · rename_i a b
      split at ha
      · rename_i hc
        cases ha
        simp only [Bool.and_eq_true, decide_eq_true_eq] at hc
        exact tuple_sound hh (elts := [.Name x p1, .Name y p2]) (is := [i, j]) (ts := [(x, i), (y, j)]) rfl hn (by simp [setAll, hc.1.1, hc.1.2]) hI hv h
      · cases ha
    · cases ha

/-! walks -/
noncomputable def isTupV : V → Bool
  | .d (.tuple _) => true
  | _ => false
theorem seqV_kind {as : List Addr} {X : Addr → Prop} {σ : St} {h : Heap} {v : V} {u : Value} {xs : List V} (r : SR C as X σ h) (hv : VR C as X h v u) (e : seqV σ v = some xs) :
    ∃ a us, u = .ref a ∧ (if isTupV v then h.IsTuple a us.toArray else h.IsList a us.toArray) ∧ All2 (VR C as X h) xs us := by
  obtain ⟨a, us, rfl, h1, h2⟩ := seqV_inv r hv e
  refine ⟨a, us, rfl, ?_, h2⟩
  cases v with
  | d x =>
    obtain ⟨_, fp, rr, _⟩ := hv
    cases rr with
    | list e1 c _ _ =>
      rcases h1 with h1 | ⟨o, ho, hc, _⟩
      · exact h1
      · rw [e1] at ho; cases ho; rw [c] at hc; simp at hc
    | tuple e1 c _ _ =>
      rcases h1 with ⟨o, ho, hc, _⟩ | h1
      · rw [e1] at ho; cases ho; rw [c] at hc; simp at hc
      · exact h1
    | dict => simp [seqV, seqD] at e
  | ref n =>
    simp only [seqV] at e
    split at e
    · rename_i ys hy
      obtain ⟨a', ha', e'⟩ := hv
      cases e'
      obtain ⟨vs, ⟨m, ho'⟩, _, _⟩ := r.obj n _ _ hy ha'
      rcases h1 with h1 | ⟨o, ho, hc, _⟩
      · exact h1
      · rw [ho] at ho'; cases ho'; simp at hc
    · cases e
  | _ => simp [seqV] at e

/-- a walk over v stands at i -/
inductive ItSt (C : Cx) (as : List Addr) (X : Addr → Prop) (h : Heap) (I : Addr) : SrcK → V → Nat → Prop where
  | list {a : Addr} {v : V} {i : Nat} : h.IsListIter I a i → VR C as X h v (.ref a) → isTupV v = false → (∀ x, v ≠ .tmp x) → ItSt C as X h I .seq v i
  | tuple {a : Addr} {v : V} {i : Nat} : h.IsTupleIter I a i → VR C as X h v (.ref a) → isTupV v = true → (∀ x, v ≠ .tmp x) → ItSt C as X h I .seq v i
  | range {n : Int} {i : Nat} : IsRangeIter h I i (n.toNat - i : Int) 1 → ItSt C as X h I .range (.d (.int n)) i

theorem ItSt.here {as : List Addr} {X : Addr → Prop} {h : Heap} {I : Addr} {k : SrcK} {v : V} {i : Nat} (t : ItSt C as X h I k v i) : ∃ o, h.get? I = some o ∧ ∀ vs n, o.data ≠ .seq vs n := by
  cases t with
  | list h1 => obtain ⟨o, ho, _, hd⟩ := h1; exact ⟨o, ho, fun vs n e => by rw [hd] at e; cases e⟩
  | tuple h1 => obtain ⟨o, ho, _, hd⟩ := h1; exact ⟨o, ho, fun vs n e => by rw [hd] at e; cases e⟩
  | range h1 => exact ⟨_, h1, fun vs n e => by cases e⟩
theorem ItSt.moved {as as' : List Addr} {X X' : Addr → Prop} {h h' : Heap} {I : Addr} {k : SrcK} {v : V} {i : Nat} (t : ItSt C as X h I k v i) (hI : ∀ o, h.get? I = some o → h'.get? I = some o) (hv : ∀ u, VR C as X h v u → (∀ x, v ≠ .tmp x) → VR C as' X' h' v u) : ItSt C as' X' h' I k v i := by
  cases t with
  | list h1 h2 h3 h4 => exact .list (h1.at hI) (hv _ h2 h4) h3 h4
  | tuple h1 h2 h3 h4 => exact .tuple (h1.at hI) (hv _ h2 h4) h3 h4
  | range h1 => exact .range (hI _ h1)

theorem srcV_stor {as : List Addr} {X : Addr → Prop} {σ : St} {h : Heap} {k : SrcK} {v : V} {xs : List V} (r : SR C as X σ h) (e : srcV k σ v = some xs) : ∀ x ∈ xs, stor x = true := by
  have dd : ∀ l : List PyData, ∀ x ∈ l.map V.d, stor x = true := fun l x m => by
    obtain ⟨y, _, rfl⟩ := List.mem_map.mp m; rfl
  cases k with
  | seq =>
    simp only [srcV] at e
    cases v with
    | d x =>
      simp only [seqV] at e
      obtain ⟨l, _, rfl⟩ := Option.map_eq_some_iff.mp e
      exact dd l
    | ref n =>
      simp only [seqV] at e
      split at e
      · rename_i ys hy
        cases e
        have hn : n < as.length := by rw [r.len]; exact (List.getElem?_eq_some_iff.mp hy).1
        obtain ⟨vs, _, _, h3⟩ := r.obj n _ as[n] hy (List.getElem?_eq_getElem hn)
        simpa using h3
      · cases e
    | _ => simp [seqV] at e
  | range =>
    simp only [srcV] at e
    split at e
    · split at e
      · cases e
        intro x m
        obtain ⟨y, _, rfl⟩ := List.mem_map.mp m; rfl
      · cases e
    · cases e
  | enum =>
    simp only [srcV] at e
    split at e
    · cases e
      intro x m
      obtain ⟨y, _, rfl⟩ := List.mem_map.mp m; rfl
    · cases e
  | keys =>
    simp only [srcV] at e
    obtain ⟨p, _, rfl⟩ := Option.map_eq_some_iff.mp e
    exact dd _

theorem it_next {A : Around} {E : Value → Shared → Prop} {as : List Addr} {X : Addr → Prop} {σ : St} {s : Shared} {I : Addr} {k : SrcK} {v : V} {i : Nat} {xs : List V} {x : V} {Q : Option Value → Shared → Prop} (t : ItSt C as X s.heap I k v i) (r : SR C as X σ s.heap) (hX : X I)
    (e : srcV k σ v = some xs) (hx : xs[i]? = some x)
    (h : ∀ u h' tk, VR C as X h' x u → ItSt C as X h' I k v (i + 1) → Wr (fun b => b = I) X s.heap h' → Q (some u) { s with heap := h', toks := tk }) : wpAny (model C.prog C.w) A (pyNext (.ref I)) Q E s := by
  have hst : stor x = true := srcV_stor r e x (List.mem_of_getElem? hx)
  cases t with
  | @list a _ _ h1 h2 h3 h4 =>
    obtain ⟨a', us, e', q1, q2⟩ := seqV_kind r h2 e
    cases e'
    rw [h3] at q1
    obtain ⟨u, hu, hr⟩ := q2.get hx
    refine wpAny_pyNext_list_item h1 q1 (x := u) (by simpa using hu) fun h' hit hs => ?_
    obtain ⟨o, ho, _, hd⟩ := id h1
    have w : Wr (fun b => b = I) X s.heap h' := Wr.one hX ho (by intro vs n e; rw [hd] at e; cases e) hs.extBut
    exact h u h' s.toks (hr.but w (stor_tmp hst)) (.list hit (h2.but w h4) h3 h4) w
  | @tuple a _ _ h1 h2 h3 h4 =>
    obtain ⟨a', us, e', q1, q2⟩ := seqV_kind r h2 e
    cases e'
    rw [h3] at q1
    obtain ⟨u, hu, hr⟩ := q2.get hx
    refine wpAny_pyNext_tuple_item h1 q1 (x := u) (by simpa using hu) fun h' hit hs => ?_
    obtain ⟨o, ho, _, hd⟩ := id h1
    have w : Wr (fun b => b = I) X s.heap h' := Wr.one hX ho (by intro vs n e; rw [hd] at e; cases e) hs.extBut
    exact h u h' s.toks (hr.but w (stor_tmp hst)) (.tuple hit (h2.but w h4) h3 h4) w
  | @range n _ h1 =>
    simp only [srcV] at e
    split at e
    · cases e
      have hlt : i < n.toNat := by have := (List.getElem?_eq_some_iff.mp hx).1; simpa using this
      refine wpAny_pyNext_range_item h1 (by omega) fun h' hit hs => ?_
      have w : Wr (fun b => b = I) X s.heap h' := Wr.one hX h1 (by intro vs n e; cases e) hs.extBut
      have ex : x = .d (.int i) := by
        rw [List.getElem?_map, List.getElem?_range hlt] at hx
        simpa using hx.symm
      subst ex
      refine h _ h' _ (DR.int _ _) (.range ?_) w
      have e1 : ((i + 1 : Nat) : Int) = (i : Int) + 1 := by omega
      have e2 : ((n.toNat : Int) - ((i + 1 : Nat) : Int)) = (n.toNat : Int) - (i : Int) - 1 := by omega
      rw [e1]
      rw [e1] at e2
      rw [e2]
      exact hit
    · cases e
theorem it_done {A : Around} {E : Value → Shared → Prop} {as : List Addr} {X : Addr → Prop} {σ : St} {s : Shared} {I : Addr} {k : SrcK} {v : V} {i : Nat} {xs : List V} {Q : Option Value → Shared → Prop} (hh : A.handled = none) (t : ItSt C as X s.heap I k v i) (r : SR C as X σ s.heap)
    (e : srcV k σ v = some xs) (hx : xs.length = i)
    (h : ∀ h' tk, (∀ b o, b ≠ I → s.heap.get? b = some o → h'.get? b = some o) → Q none { s with heap := h', toks := tk }) : wpAny (model C.prog C.w) A (pyNext (.ref I)) Q E s := by
  cases t with
  | @list a _ _ h1 h2 h3 h4 =>
    obtain ⟨a', us, e', q1, q2⟩ := seqV_kind r h2 e
    cases e'
    rw [h3] at q1
    have := q2.length
    exact wpAny_pyNext_list_end hh h1 q1 (by simp; omega) fun h' hs => h h' s.toks fun b o hb e => hs b o hb e
  | @tuple a _ _ h1 h2 h3 h4 =>
    obtain ⟨a', us, e', q1, q2⟩ := seqV_kind r h2 e
    cases e'
    rw [h3] at q1
    have := q2.length
    exact wpAny_pyNext_tuple_end hh h1 q1 (by simp; omega) fun h' hs => h h' s.toks fun b o hb e => hs b o hb e
  | @range n _ h1 =>
    simp only [srcV] at e
    split at e
    · cases e
      simp at hx
      exact wpAny_pyNext_range_end hh h1 (by omega) fun h' hs => h h' s.toks fun b o hb e => hs b o hb e
    · cases e
theorem it_self {A : Around} {E : Value → Shared → Prop} {as : List Addr} {X : Addr → Prop} {s : Shared} {I : Addr} {k : SrcK} {v : V} {i : Nat} {Q : Value → Shared → Prop} (t : ItSt C as X s.heap I k v i) (h : Q (.ref I) s) : wpAny (model C.prog C.w) A (pyIter (.ref I)) Q E s := by
  cases t with
  | list h1 => exact wpAny_pyIter_listiter h1 h
  | tuple h1 => exact wpAny_pyIter_tupleiter h1 h
  | range h1 => exact wpAny_pyIter_rangeiter h1 h
theorem it_go {A : Around} {E : Value → Shared → Prop} {as : List Addr} {X : Addr → Prop} {s : Shared} {I : Addr} {k : SrcK} {v : V} {i : Nat} {Q : Unit → Shared → Prop} {target : Expr} {slots : List Nat} {ts : Nm} {u : Value} (t : ItSt C as X s.heap I k v i) (ht : tgts target slots = some ts) (h : Q () s) :
    wpAny (model C.prog C.w) A (letOwnedTupleGo target (.ref I) u) Q E s := by
  rcases tgts_inv ht with ⟨x, p, i, rfl, rfl, rfl⟩ | ⟨x, p1, y, p2, k, pos, i, j, rfl, rfl, rfl⟩
  · exact wpAny_pure h
  · cases u with
    | ref T =>
      have key : ∀ (elts : List Expr) (x1) (pos : Pos) (o : Obj) (n : String) (vs : Array Value), s.heap.get? I = some o → o.cls = .type n → o.data = .fields vs → (["enumerate", "zip", "dict_itemiterator", "dict_reverseitemiterator", "odict_iterator", "itertools.zip_longest", "itertools.pairwise"].contains n) = false →
          wpAny (model C.prog C.w) A (letOwnedTupleGo (.Tuple elts x1 pos) (.ref I) (.ref T)) Q E s := by
        intro elts x1 pos o n vs ho hc hd hn
        unfold letOwnedTupleGo
        refine wpAny_bind (wpAny_load ho ?_)
        rw [hc, hd]
        dsimp only
        rw [hn, Bool.false_and]
        exact wpAny_pure h
      cases t with
      | list h1 => obtain ⟨o, ho, hc, hd⟩ := h1; exact key _ _ _ o _ _ ho hc hd (by decide)
      | tuple h1 => obtain ⟨o, ho, hc, hd⟩ := h1; exact key _ _ _ o _ _ ho hc hd (by decide)
      | range h1 => exact key _ _ _ _ _ _ h1 rfl rfl (by decide)
    | _ => exact wpAny_pure h
end
end Mine
end

section
/-! M15: comprehensions -/
namespace Mine
open PySem PySem.Spec PySem.SeqAt
set_option maxRecDepth 100000

/-- the cells that a comprehension sees -/
noncomputable def clOf (env : PySem.Env) : List (Str × NameKind) → List (Str × Addr) → List (Str × Addr)
  | [], acc => acc
  | (n, k) :: r, acc => if k == .free then clOf env r ((n, (env.cells.lookup n).getD 0) :: acc) else clOf env r acc
theorem clOf_mem {env : PySem.Env} : ∀ {names : List (Str × NameKind)} {acc : List (Str × Addr)} {x : Str} {c : Addr}, (x, c) ∈ clOf env names acc → (x, c) ∈ acc ∨ ((x, NameKind.free) ∈ names ∧ c = (env.cells.lookup x).getD 0)
  | [], acc, x, c, h => .inl h
  | (n, k) :: r, acc, x, c, h => by
    unfold clOf at h
    split at h
    · rename_i hk
      have hk : k = .free := by simpa using hk
      subst hk
      rcases clOf_mem h with h | h
      · rcases List.mem_cons.mp h with h | h
        · cases h; exact .inr ⟨.head _, rfl⟩
        · exact .inl h
      · exact .inr ⟨.tail _ h.1, h.2⟩
    · rcases clOf_mem h with h | h
      · exact .inl h
      · exact .inr ⟨.tail _ h.1, h.2⟩
theorem clOf_has {env : PySem.Env} : ∀ {names : List (Str × NameKind)} {acc : List (Str × Addr)} {x : Str}, (x, NameKind.free) ∈ names ∨ (∃ c, (x, c) ∈ acc) → ∃ c, (x, c) ∈ clOf env names acc
  | [], acc, x, h => by
    rcases h with h | h
    · cases h
    · exact h
  | (n, k) :: r, acc, x, h => by
    unfold clOf
    split
    · rename_i hk
      rcases h with h | ⟨c, h⟩
      · rcases List.mem_cons.mp h with h | h
        · cases h; exact clOf_has (.inr ⟨_, .head _⟩)
        · exact clOf_has (.inl h)
      · exact clOf_has (.inr ⟨c, .tail _ h⟩)
    · rename_i hk
      rcases h with h | h
      · rcases List.mem_cons.mp h with h | h
        · cases h; exact absurd rfl hk
        · exact clOf_has (.inl h)
      · exact clOf_has (.inr h)
theorem lookup_of_mem {α : Type} {x : Str} : ∀ {l : List (Str × α)}, (∃ c, (x, c) ∈ l) → ∃ c, l.lookup x = some c
  | [], ⟨c, h⟩ => by cases h
  | (n, d) :: r, ⟨c, h⟩ => by
    rw [List.lookup_cons]
    cases hb : x == n with
    | true => exact ⟨d, rfl⟩
    | false =>
      rcases List.mem_cons.mp h with e | h
      · cases e; simp at hb
      · exact lookup_of_mem ⟨c, h⟩

theorem closure_eq {env : PySem.Env} {scope : Scope} (hf : ∀ y ∈ scope.names, y.2 = .free → ∃ c, env.cells.lookup y.1 = some c) : closureFor scope env = pure (clOf env scope.names []) := by
  unfold closureFor
  generalize scope.names = names at hf
  have key : ∀ (names : List (Str × NameKind)) (acc : List (Str × Addr)) (f : Str × NameKind → List (Str × Addr) → Sem (ForInStep (List (Str × Addr)))),
      (∀ n k acc, f (n, k) acc = if k == .free then (cellOf env n >>= fun c => pure (.yield ((n, c) :: acc))) else pure (.yield acc)) → (∀ y ∈ names, y.2 = .free → ∃ c, env.cells.lookup y.1 = some c) →
      forIn names acc f = pure (clOf env names acc) := by
    intro names
    induction names with
    | nil => intro acc f _ _; rfl
    | cons y r ih =>
      obtain ⟨n, k⟩ := y
      intro acc f hf' hc
      rw [List.forIn_cons, hf']
      unfold clOf
      split
      · rename_i hk
        have hk' : k = .free := by simpa using hk
        obtain ⟨c, hc'⟩ := hc (n, k) (.head _) hk'
        have e1 : cellOf env n = pure c := by unfold cellOf; rw [hc']
        rw [e1, pure_bind, pure_bind]
        dsimp only
        rw [ih _ f hf' fun y m => hc y (.tail _ m), hc']
        rfl
      · rw [pure_bind]
        exact ih _ f hf' fun y m => hc y (.tail _ m)
  show (forIn names ([] : List (Str × Addr)) _ >>= fun cs => pure cs) = _
  rw [key names [] _ (fun n k acc => by cases hk : k == NameKind.free <;> simp [hk]) hf, pure_bind]

/-- the slots of a comprehension's own names, emptied -/
noncomputable def clear (slots : List Nat) (ρ : Rho) : Rho := slots.foldl (fun ρ i => ρ.set i .undef) ρ
theorem clear_get : ∀ {slots : List Nat} {ρ : Rho} {i : Nat} {v : V}, (clear slots ρ)[i]? = some v → v = .undef ∨ (i ∉ slots ∧ ρ[i]? = some v)
  | [], ρ, i, v, h => .inr ⟨nofun, h⟩
  | j :: r, ρ, i, v, h => by
    rcases clear_get (slots := r) (ρ := ρ.set j .undef) h with h | ⟨h1, h2⟩
    · exact .inl h
    · by_cases hij : j = i
      · subst hij
        rw [List.getElem?_set_self'] at h2
        cases e : ρ[j]? with
        | none => rw [e] at h2; simp at h2
        | some z => rw [e] at h2; simp at h2; exact .inl h2.symm
      · rw [List.getElem?_set_ne hij] at h2
        refine .inr ⟨fun m => ?_, h2⟩
        rcases List.mem_cons.mp m with m | m
        · exact hij m.symm
        · exact h1 m
theorem clear_get' : ∀ {slots : List Nat} {ρ : Rho} {i : Nat}, i ∈ slots → ∀ v, (clear slots ρ)[i]? = some v → v = .undef
  | slots, ρ, i, m, v, h => by
    rcases clear_get h with h | ⟨h, _⟩
    · exact h
    · exact absurd m h
theorem bind_clear {slots : List Nat} {v : V} {ρ : Rho} : bindV slots v (clear slots ρ) = bindV slots v ρ := by
  unfold bindV
  split
  · simp [clear]
  · rename_i i j
    split
    · have e : (((ρ.set i .undef).set j .undef).length) = ρ.length := by simp
      simp only [clear, List.foldl_cons, List.foldl_nil, e]
      split
      · congr 1
        rename_i a b hc
        apply List.ext_getElem?
        intro n
        simp only [List.getElem?_set, List.length_set]
        split
        · rfl
        · split
          · rfl
          · rename_i h1 h2
            simp [h1, h2]
      · rfl
    · rfl
  · rfl

section
variable {prog : Program} {w : World} {A : Around} {E : Value → Shared → Prop} {R : Result → Shared → Prop} {s : Shared}
theorem compLoop_any {elt target iter : Expr} {ifs : List Expr} {scope : Scope} {pos : Pos} {it acc : Value} {env : PySem.Env} (I : Nat → Shared → Prop)
    (turn : ∀ n s, I n s → wpAny (model prog w) A (pyNext it) (fun r s₁ => match r with
      | none => R (.ok .next) s₁
      | some v => wpAny (model prog w) A (letOwnedTupleGo target it v) (fun _ s₁' => wpAny (model prog w) A (assign target env v) (fun _ s₂ =>
          wpAny (model prog w) A (forIn ifs true fun c r => if r = true then do let ok ← isTrue c env (eval c env); pure (ForInStep.yield ok) else pure (ForInStep.yield r)) (fun ok s₃ =>
            if ok = true then wpAny (model prog w) A (eval elt env) (fun x s₄ =>
              wpAny (model prog w) A (call (.builtin "list.append") [acc, x]) (fun _ s₅ => ∃ m, m < n ∧ I m s₅) (notedBy (model prog w) A env fun e s' => R (.error e) s') s₄) (notedBy (model prog w) A env fun e s' => R (.error e) s') s₃
            else ∃ m, m < n ∧ I m s₃) (notedBy (model prog w) A env fun e s' => R (.error e) s') s₂) (notedBy (model prog w) A env fun e s' => R (.error e) s') s₁') (notedBy (model prog w) A env fun e s' => R (.error e) s') s₁) (notedBy (model prog w) A env fun e s' => R (.error e) s') s)
    (n : Nat) (h : I n s) :
    codeAny (model prog w) A (.compLoop (.ListComp elt [⟨target, iter, ifs, 0⟩] scope pos) 0 it acc env) R s := by
  refine codeAny_loop rfl I (fun n s hI => ?_) n h
  show wpAny _ A ((compTurn (.ListComp elt [⟨target, iter, ifs, 0⟩] scope pos) 0 it acc env).onRaise (fun x => do noteFrame x env; theTreesLotGoes x)) _ _ s
  refine wpAny_noted ?_
  rw [compTurn_list]
  refine wpAny_bind (wpAny_standAt (wpAny_bind (wpAny_mono (turn n s hI) (fun r s₁ h₁ => ?_) fun _ _ h' => h')))
  cases r with
  | none => exact wpAny_pure h₁
  | some v =>
    refine wpAny_bind (wpAny_mono h₁ (fun _ s₁' h₁' => ?_) fun _ _ h' => h')
    refine wpAny_bind (wpAny_mono h₁' (fun _ s₂ h₂ => wpAny_bind (wpAny_mono h₂ (fun ok s₃ h₃ => ?_) fun _ _ h' => h')) fun _ _ h' => h')
    cases ok with
    | false => exact wpAny_pure ⟨rfl, h₃⟩
    | true =>
      exact wpAny_bind (wpAny_bind (wpAny_mono h₃ (fun x s₄ h₄ => wpAny_bind (wpAny_mono h₄ (fun _ s₅ h₅ => wpAny_pure (wpAny_pure ⟨rfl, h₅⟩)) fun _ _ h' => h')) fun _ _ h' => h'))
end

section
variable {C : Cx} {W : Wd} {Φ : Fn} {k : Nat}

theorem Step.but {as as' : List Addr} {X P : Addr → Prop} {σ' : St} {s s₁ : Shared} {h' : Heap} {t : Nat} (r : Step C as X σ' as' s s₁) (w : Wr P X s₁.heap h') (hp : ∀ b, P b → s.heap.get? b = none) (still : ∀ b, P b → ∃ o, h'.get? b = some o) : Step C as X σ' as' s { s₁ with heap := h', toks := t } := by
  obtain ⟨h1, t1, rfl⟩ := r.same
  exact ⟨⟨_, _, rfl⟩, fun b o e => w.keep b o (fun p => by rw [hp b p] at e; cases e) (r.kp b o e), r.new, r.sr.but w still⟩

theorem Step.drop {as as' : List Addr} {X X' P : Addr → Prop} {σ' : St} {s s₁ : Shared} {h' : Heap} {t : Nat} (r : Step C as X σ' as' s s₁) (w : Wr P X s₁.heap h') (hp : ∀ b, P b → s.heap.get? b = none) (hx : ∀ a, X' a → X a) (hd : ∀ a, X' a → ∃ o, h'.get? a = some o) : Step C as X' σ' as' s { s₁ with heap := h', toks := t } := by
  obtain ⟨h1, t1, rfl⟩ := r.same
  exact ⟨⟨_, _, rfl⟩, fun b o e => w.keep b o (fun p => by rw [hp b p] at e; cases e) (r.kp b o e), r.new, r.sr.drop w hx hd⟩
/-- an own list is taken in -/
theorem SR.adopt {as : List Addr} {X X' : Addr → Prop} {σ : St} {h : Heap} {D : Addr} {o : O} (r : SR C as X' σ h) (hD : X' D) (hY : ∀ a, X a → X' a ∧ a ≠ D) (ho : OR C (as ++ [D]) X h D o) (h0 : C.H0.get? D = none) : SR C (as ++ [D]) X (σ ++ [o]) h := by
  have hDa : D ∉ as := fun m => (r.fresh D m).2 hD
  have g : Grow as (as ++ [D]) X' X h h := ⟨Kp.refl _, fun n b e => by rw [List.getElem?_append_left (List.getElem?_eq_some_iff.mp e).1]; exact e, fun b ob e h1 h2 => ⟨fun m => (by
    rcases List.mem_append.mp m with m | m
    · exact h1 m
    · simp at m; subst m; exact h2 hD), fun x => h2 (hY b x).1⟩⟩
  refine ⟨by simp [r.len], ?_, fun n o' a' e1 e2 => ?_, fun b m => ?_, fun b x => r.xd b (hY b x).1⟩
  · rw [List.nodup_append]
    exact ⟨r.nodup, by simp, fun x hx y hy => by simp at hy; subst hy; exact fun e => hDa (e ▸ hx)⟩
  · by_cases hlt : n < σ.length
    · rw [List.getElem?_append_left hlt] at e1
      rw [List.getElem?_append_left (by rw [r.len]; exact hlt)] at e2
      exact (r.obj n o' a' e1 e2).grow g
    · have h1 : n = σ.length := by
        have := (List.getElem?_eq_some_iff.mp e1).1
        simp at this; omega
      subst h1
      rw [List.getElem?_append_right (by omega)] at e1
      rw [List.getElem?_append_right (by rw [r.len]; omega), r.len] at e2
      simp at e1 e2
      subst e1 e2
      exact ho
  · rcases List.mem_append.mp m with m | m
    · exact ⟨(r.fresh b m).1, fun x => (r.fresh b m).2 (hY b x).1⟩
    · simp at m; subst m; exact ⟨h0, fun x => (hY _ x).2 rfl⟩

/-- a list that was built apart -/
theorem mkL_at {as as' : List Addr} {X X' : Addr → Prop} {σ σ' : St} {s s₁ : Shared} {D : Addr} {m : Bool} {vs : List V} {us : Array Value} {v : V} (st : Step C as X' σ as' s s₁) (hD : X' D) (hY : ∀ a, X a → X' a ∧ a ≠ D) (hl : s₁.heap.PlainList D us) (hv : All2 (VR C as' X' s₁.heap) vs us.toList)
    (h0 : C.H0.get? D = none) (hs : s.heap.get? D = none) (e : mkL m vs σ = .ok (v, σ')) : PX C as X σ' v s (.ref D) s₁ := by
  have hDa : D ∉ as' := fun q => (st.sr.fresh D q).2 hD
  have g : Grow as' (as' ++ [D]) X' X s₁.heap s₁.heap := ⟨Kp.refl _, fun n b e => by rw [List.getElem?_append_left (List.getElem?_eq_some_iff.mp e).1]; exact e, fun b ob e h1 h2 => ⟨fun m => (by
    rcases List.mem_append.mp m with m | m
    · exact h1 m
    · simp at m; subst m; exact h2 hD), fun x => h2 (hY b x).1⟩⟩
  unfold mkL at e
  split at e
  · split at e
    · rename_i hst
      cases e
      obtain ⟨new, rfl, hn⟩ := st.new
      refine ⟨as ++ new ++ [D], ⟨st.same, st.kp, ⟨new ++ [D], by simp, fun a m => ?_⟩, st.sr.adopt hD hY ⟨us, hl, hv.mono fun _ _ q => q.grow g, hst⟩ h0⟩, D, ?_, rfl⟩
      · rcases List.mem_append.mp m with m | m
        · exact hn a m
        · simp at m; subst m; exact hs
      · rw [← st.sr.len, List.getElem?_append_right (Nat.le_refl _)]
        simp
    · cases e
  · split at e
    · rename_i ds hd
      cases e
      obtain ⟨nd, fp, rr, hf⟩ := DR.all (allD_inv hd hv)
      obtain ⟨n, hl⟩ := hl
      refine ⟨as', ⟨st.same, st.kp, st.new, st.sr.wider fun a x => (hY a x).1⟩, nd, D :: fp, .list hl rfl rfl (by simpa using rr), fun a m => ?_⟩
      rcases List.mem_cons.mp m with rfl | m
      · exact ⟨hDa, fun x => (hY _ x).2 rfl⟩
      · exact ⟨(hf a m).1, fun x => (hf a m).2 (hY a x).1⟩
    · cases e

theorem mkL_stor {m : Bool} {vs : List V} {σ σ' : St} {v : V} (e : mkL m vs σ = .ok (v, σ')) : vs.all stor = true := by
  unfold mkL at e
  split at e
  · split at e
    · assumption
    · cases e
  · split at e
    · rename_i ds hd
      have := allO_inv hd
      clear hd e
      induction this with
      | nil => rfl
      | @cons a b _ _ p _ ih =>
        rw [List.all_cons, ih, Bool.and_true]
        cases a <;> first | rfl | cases p
    · cases e

theorem srcOk_inv {k : SrcK} {σ σ' : St} {v : V} {xs : List V} (h : srcV k σ v = some xs) (ok : srcOk k σ' v xs = true) : srcV k σ' v = some xs := by
  unfold srcOk at ok
  split at ok
  · split at ok
    · rename_i ys hy
      rw [hy, sameVs_eq ok]
    · cases ok
  · rename_i hn
    cases v with
    | ref n => exact absurd rfl (hn n)
    | _ => cases k <;> exact h

/-- what is walked over is made ready -/
theorem src_sound (O : Ok C W) {src : X} (ha : SX C W Φ k src) {kk : SrcK} {sc : Sc} {nm : Nm} {e iter : Expr} {env : PySem.Env} {A : Around} {E : Value → Shared → Prop} {s : Shared} {ρ : Rho} {as : List Addr} {Y : Addr → Prop} {σ σ₁ : St} {v : V} {xs : List V}
    (hm : MX W sc nm src e) (hsrc : MSrc sc kk e iter) (hs : env.scope.names = sc) (hA : AOk A k) (hI : Inv C env nm ρ as Y σ s) (he : ev Φ src ρ σ = .ok (v, σ₁)) (hxs : srcV kk σ₁ v = some xs) {Q : Value → Shared → Prop}
    (h : ∀ I as₁ s₂, Step C as (fun a => Y a ∨ a = I) σ₁ as₁ s s₂ → ItSt C as₁ (fun a => Y a ∨ a = I) s₂.heap I kk v 0 → s.heap.get? I = none → C.H0.get? I = none → Q (.ref I) s₂) :
    wpAny (model C.prog C.w) A (eval iter env) (fun xv s₁ => wpAny (model C.prog C.w) A (pyIter xv) Q E s₁) E s := by
  have none_of : ∀ {h h' : Heap} {a : Addr}, Kp h h' → h'.get? a = none → h.get? a = none := fun {h h' a} k e => by
    cases q : h.get? a with
    | none => rfl
    | some o => have := k a o q; rw [e] at this; cases this
  cases hsrc with
  | seq hn =>
    refine wpAny_mono (ha _ _ _ env A E s ρ as Y σ σ₁ v hm hs hA hI he) (fun u s₁ p => ?_) fun _ _ y => y
    obtain ⟨as₁, p1, p2⟩ := p
    have hst : ∀ x, v ≠ .tmp x := fun x e => by subst e; simp [srcV, seqV] at hxs
    obtain ⟨a, us, rfl, q1, q2⟩ := seqV_kind p1.sr p2 hxs
    have hbase := (hI.step p1).base
    cases ht : isTupV v with
    | true =>
      rw [ht] at q1
      refine wpAny_pyIter_tuple q1 ?_
      have hx : ∀ b, (Y b ∨ b = s₁.heap.objs.size) → Y b ∨ s₁.heap.get? b = none := fun b x => x.elim .inl fun e => .inr (e ▸ get?_size _)
      have hd : ∀ b, (Y b ∨ b = s₁.heap.objs.size) → ∃ o, (s₁.heap.push { cls := .type "tuple_iterator", data := .fields #[.ref a, .int 0 0] }).get? b = some o := fun b x => by
        rcases x with x | rfl
        · obtain ⟨o, e⟩ := p1.sr.xd b x; exact ⟨o, Heap.get?_push_of_some _ e⟩
        · exact ⟨_, Heap.get?_push_size _ rfl⟩
      obtain ⟨h1, t1, rfl⟩ := p1.same
      exact h _ as₁ _ ⟨⟨_, _, rfl⟩, p1.kp.trans (Kp.push _ _), p1.new, p1.sr.fence (Kp.push _ _) hx hd⟩ (.tuple ⟨_, Heap.get?_push_size _ rfl, rfl, rfl⟩ (p2.fence (Kp.push _ _) hx) ht hst) (none_of p1.kp (get?_size _)) (none_of hbase (get?_size _))
    | false =>
      rw [ht] at q1
      refine wpAny_pyIter_list q1 ?_
      have hx : ∀ b, (Y b ∨ b = s₁.heap.objs.size) → Y b ∨ s₁.heap.get? b = none := fun b x => x.elim .inl fun e => .inr (e ▸ get?_size _)
      have hd : ∀ b, (Y b ∨ b = s₁.heap.objs.size) → ∃ o, (s₁.heap.push { cls := .type "list_iterator", data := .fields #[.ref a, .int 0 0] }).get? b = some o := fun b x => by
        rcases x with x | rfl
        · obtain ⟨o, e⟩ := p1.sr.xd b x; exact ⟨o, Heap.get?_push_of_some _ e⟩
        · exact ⟨_, Heap.get?_push_size _ rfl⟩
      obtain ⟨h1, t1, rfl⟩ := p1.same
      exact h _ as₁ _ ⟨⟨_, _, rfl⟩, p1.kp.trans (Kp.push _ _), p1.new, p1.sr.fence (Kp.push _ _) hx hd⟩ (.list ⟨_, Heap.get?_push_size _ rfl, rfl, rfl⟩ (p2.fence (Kp.push _ _) hx) ht hst) (none_of p1.kp (get?_size _)) (none_of hbase (get?_size _))
  | range hg hn =>
    simp only [srcV] at hxs
    split at hxs
    · rename_i n
      split at hxs
      · rename_i hb
        simp only [Bool.and_eq_true, decide_eq_true_eq] at hb
        refine call1 O hI hs hg (f := .type "range") (by simp [biTab]) (.inr ⟨_, rfl⟩) hn (wpAny_mono (ha _ _ _ env A E s ρ as Y σ σ₁ _ hm hs hA hI he) (fun u s₁ p => ?_) fun _ _ y => y)
        obtain ⟨as₁, p1, p2⟩ := p
        obtain ⟨t, rfl⟩ := DR.int_inv p2
        refine call_range_1 (wpAny_pyIter_range (Heap.get?_push_size _ rfl) (small_one (by omega) (by omega) (by omega) (by omega)) ?_)
        have hbase := (hI.step p1).base
        dsimp only
        generalize hh₂ : s₁.heap.push { cls := .type "range", data := .fields #[.int 0 s₁.toks, .int n t, .int 1 (s₁.toks + 1)] } = h₂
        have k1 : Kp s₁.heap h₂ := hh₂ ▸ Kp.push _ _
        have hx : ∀ b, (Y b ∨ b = h₂.objs.size) → Y b ∨ s₁.heap.get? b = none := fun b x => x.elim .inl fun e => .inr (none_of k1 (e ▸ get?_size _))
        have e0 : Builtin.Range.rangeSize 0 n 1 = n.toNat := by rw [rangeSize_one]; split <;> omega
        rw [e0]
        have hd : ∀ b, (Y b ∨ b = h₂.objs.size) → ∃ o, (h₂.push { cls := .type "range_iterator", data := .fields #[rawInt 0, rawInt (n.toNat : Int), rawInt 1] }).get? b = some o := fun b x => by
          rcases x with x | rfl
          · obtain ⟨o, e⟩ := p1.sr.xd b x; exact ⟨o, Heap.get?_push_of_some _ (k1 b o e)⟩
          · exact ⟨_, Heap.get?_push_size _ rfl⟩
        obtain ⟨h1, t1, rfl⟩ := p1.same
        refine h _ as₁ _ ⟨⟨_, _, rfl⟩, p1.kp.trans (k1.trans (Kp.push _ _)), p1.new, p1.sr.fence (k1.trans (Kp.push _ _)) hx hd⟩ (.range ?_) (none_of (p1.kp.trans k1) (get?_size _)) (none_of (hbase.trans k1) (get?_size _))
        have : ((n.toNat : Int) - ((0 : Nat) : Int)) = (n.toNat : Int) := by omega
        rw [this]
        exact Heap.get?_push_size _ rfl
      · cases hxs
    · cases hxs
end
end Mine
end

section
/-! M16: comprehensions, the loop -/
namespace Mine
open PySem PySem.Spec PySem.SeqAt
set_option maxRecDepth 100000

theorem FR.grow' {C : Cx} {env : PySem.Env} {nm : List (Str × Nat)} {ρ : Rho} {as as' : List Addr} {X X' : Addr → Prop} {h h' : Heap} (r : FR C env nm ρ as X h) (g : Grow as as' X X' h h') (hx : ∀ a, X a → X' a) : FR C env nm ρ as' X' h' where
  kind := r.kind
  glob := r.glob
  blt := r.blt
  ns := by
    obtain ⟨m, h1, h2⟩ := r.ns
    exact ⟨m, h1.keeps g.kp, fun x i v a b c d => by obtain ⟨u, e1, e2⟩ := h2 x i v a b c d; exact ⟨u, e1, e2.grow g⟩⟩
  cell := fun x i a b => by
    obtain ⟨c, u, e1, e2, e3⟩ := r.cell x i a b
    exact ⟨c, u, e1, e2.keeps g.kp, fun v p q => by obtain ⟨y, e4, e5⟩ := e3 v p q; exact ⟨y, e4, e5.grow g⟩⟩
  known := r.known
  locX := hx _ r.locX
  cellX := fun x c e => ⟨hx _ (r.cellX x c e).1, (r.cellX x c e).2⟩
  apart := r.apart
  base := r.base
  inj := r.inj
  cellO := fun x c e => let ⟨u, q⟩ := r.cellO x c e; ⟨u, q.keeps g.kp⟩

theorem lookup_nodup {α : Type} {x : Str} {k : α} : ∀ {l : List (Str × α)}, (l.map (·.1)).Nodup → (x, k) ∈ l → l.lookup x = some k
  | [], _, h => by cases h
  | (n, d) :: r, hn, h => by
    rw [List.map_cons, List.nodup_cons] at hn
    rw [List.lookup_cons]
    rcases List.mem_cons.mp h with e | h'
    · cases e; simp
    · have : (x == n) = false := by
        apply Bool.eq_false_iff.mpr
        intro e
        have e := beq_iff_eq.mp e
        subst e
        exact hn.1 (List.mem_map.mpr ⟨_, h', rfl⟩)
      rw [this]
      exact lookup_nodup hn.2 h'

theorem mem_slots {α β : Type} {l : List (α × β)} (hn : (l.map (·.2)).Nodup) {x y : α} {i : β} (hx : (x, i) ∈ l) (hy : (y, i) ∈ l) : x = y := by
  induction l with
  | nil => cases hx
  | cons p r ih =>
    rw [List.map_cons, List.nodup_cons] at hn
    rcases List.mem_cons.mp hx with e | hx' <;> rcases List.mem_cons.mp hy with e' | hy'
    · rw [← e] at e'; exact (Prod.mk.inj e'.symm).1
    · rw [← e] at hn; exact absurd (List.mem_map.mpr ⟨_, hy', rfl⟩) hn.1
    · rw [← e'] at hn; exact absurd (List.mem_map.mpr ⟨_, hx', rfl⟩) hn.1
    · exact ih hn.2 hx' hy'

theorem relabel_names {scope : Scope} {env : PySem.Env} {sc : Sc} (hs : env.scope.names = sc) (hk : env.scope.kind = .function) : (relabel scope env).names = compSc sc scope.names := by
  unfold relabel compSc
  apply List.map_congr_left
  intro y _
  obtain ⟨n, k⟩ := y
  have e : env.kindOf n = sc.lookup n := by unfold Env.kindOf; rw [hs]
  have e2 : (env.scope.kind == ScopeKind.function) = true := by rw [hk]; rfl
  simp only [e, e2, Bool.and_true]

structure CompOk (sc : Sc) (nm : Nm) (scope : Scope) (ts : Nm) : Prop where
  kind : scope.kind = .function
  nocell : ∀ y ∈ scope.names, y.2 ≠ .cell
  loc : ∀ y ∈ scope.names, y.2 = .local → scope.names.lookup y.1 = some .local
  tl : ∀ t ∈ ts, scope.names.lookup t.1 = some .local
  free : ∀ y ∈ scope.names, y.2 = .free → sc.lookup y.1 = some .cell ∧ ∃ i, nm.lookup y.1 = some i
  nodup : (scope.names.map (·.1)).Nodup
  tsd : (ts.map (·.1)).Nodup
  slots : ((compNm nm scope.names ts).map (·.2)).Nodup
theorem compOk_inv {sc : Sc} {nm : Nm} {scope : Scope} {ts : Nm} (h : compOk sc nm scope ts = true) : CompOk sc nm scope ts := by
  unfold compOk at h
  simp only [Bool.and_eq_true, decide_eq_true_eq, List.all_eq_true, Bool.or_eq_true, bne_iff_ne, beq_iff_eq, ne_eq] at h
  obtain ⟨⟨⟨⟨⟨⟨⟨h1, h2⟩, h3⟩, h4⟩, h5⟩, h6⟩, h7⟩, h8⟩ := h
  refine ⟨h1, h2, fun y m e => ?_, fun t m => (h4 t m).1, fun y m e => ?_, h6, h7, h8⟩
  · rcases h3 y m with q | q
    · exact absurd e q
    · exact q
  · rcases h5 y m with q | q
    · exact absurd e q
    · exact ⟨q.1.1, Option.isSome_iff_exists.mp q.1.2⟩

theorem tgts_slots {target : Expr} {slots : List Nat} {ts : Nm} (h : tgts target slots = some ts) : ts.map (·.2) = slots := by
  rcases tgts_inv h with ⟨x, p, i, rfl, rfl, rfl⟩ | ⟨x, p1, y, p2, k, pos, i, j, rfl, rfl, rfl⟩
  · rfl
  · rfl

theorem compNm_inv {nm : Nm} {names : Sc} {ts : Nm} {x : Str} {i : Nat} (h : (compNm nm names ts).lookup x = some i) : (x, i) ∈ ts ∨ ((x, NameKind.free) ∈ names ∧ nm.lookup x = some i) := by
  have hm := mem_of_lookup h
  unfold compNm at hm
  rcases List.mem_append.mp hm with m | m
  · exact .inl m
  · obtain ⟨⟨n, k⟩, m1, m2⟩ := List.mem_filterMap.mp m
    dsimp only at m2
    split at m2
    · rename_i hk
      have hk : k = .free := by simpa using hk
      subst hk
      obtain ⟨j, e1, e2⟩ := Option.map_eq_some_iff.mp m2
      cases e2
      exact .inr ⟨m1, e1⟩
    · cases m2

theorem kind_free {sc names : Sc} {x : Str} (hn : (names.map (·.1)).Nodup) (hm : (x, NameKind.free) ∈ names) (hc : sc.lookup x = some .cell) : (compSc sc names).lookup x = some .cell := by
  have e : (compSc sc names).map (·.1) = names.map (·.1) := by
    unfold compSc
    rw [List.map_map]
    apply List.map_congr_left
    intro y _
    obtain ⟨n, k⟩ := y
    dsimp only [Function.comp]
    split <;> rfl
  refine lookup_nodup (by rw [e]; exact hn) ?_
  unfold compSc
  refine List.mem_map.mpr ⟨(x, .free), hm, ?_⟩
  simp [hc]

section
variable {C : Cx} {W : Wd} {Φ : Fn} {k : Nat}

theorem comp_fr {env cenv : PySem.Env} {nm : Nm} {sc : Sc} {ρ : Rho} {as : List Addr} {X : Addr → Prop} {h : Heap} {scope : Scope} {target : Expr} {slots : List Nat} {ts : Nm} {L : Addr} {m : Str → Option Value} (hf : FR C env nm ρ as X h) (hs : env.scope.names = sc) (hok : CompOk sc nm scope ts)
    (ht : tgts target slots = some ts) (hn : h.Ns L m) (hL : X L) (hLc : ∀ x c, env.cells.lookup x = some c → c ≠ L) (h0 : C.H0.get? L = none)
    (c1 : cenv.scope = relabel scope env) (c2 : cenv.locals = L) (c3 : cenv.globals = env.globals) (c4 : cenv.cells = clOf env scope.names []) (c5 : cenv.builtins = env.builtins) : FR C cenv (compNm nm scope.names ts) (clear slots ρ) as X h := by
  have hnames : cenv.scope.names = compSc sc scope.names := by rw [c1]; exact relabel_names hs hf.kind
  have kof : ∀ x, cenv.kindOf x = (compSc sc scope.names).lookup x := fun x => by unfold Env.kindOf; rw [hnames]
  have kts : ∀ x i, (x, i) ∈ ts → cenv.kindOf x = some .local := fun x i m => by
    have := lookup_relabel_local (env := env) (hok.tl _ m)
    unfold Env.kindOf
    rw [c1]
    exact this
  have kfree : ∀ x, (x, NameKind.free) ∈ scope.names → cenv.kindOf x = some .cell := fun x m => by
    rw [kof]; exact kind_free hok.nodup m (hok.free _ m rfl).1
  have cls : ∀ x c, cenv.cells.lookup x = some c → (x, NameKind.free) ∈ scope.names ∧ env.cells.lookup x = some c := fun x c e => by
    rw [c4] at e
    rcases clOf_mem (mem_of_lookup e) with h | ⟨h1, h2⟩
    · cases h
    · obtain ⟨q1, i, q2⟩ := hok.free _ h1 rfl
      obtain ⟨c', u, e1, _⟩ := hf.cell x i q2 (by unfold Env.kindOf; rw [hs]; exact q1)
      rw [e1] at h2
      simp at h2
      subst h2
      exact ⟨h1, e1⟩
  refine ⟨by rw [c1]; exact hok.kind, by rw [c3]; exact hf.glob, by rw [c5]; exact hf.blt, ⟨m, by rw [c2]; exact hn, fun x i v hx hk hv hst => ?_⟩, fun x i hx hk => ?_, fun x i hx => ?_, by rw [c2]; exact hL, fun x c e => ?_, fun x y c e1 e2 => hf.apart x y c (cls x c e1).2 (cls y c e2).2, ⟨by rw [c2]; exact h0, fun x c e => hf.base.2 x c (cls x c e).2⟩, fun x y i hx hy => mem_slots hok.slots (mem_of_lookup hx) (mem_of_lookup hy), fun x c e => hf.cellO x c (cls x c e).2⟩
  · rcases compNm_inv hx with q | ⟨q, _⟩
    · have : i ∈ slots := by rw [← tgts_slots ht]; exact List.mem_map.mpr ⟨_, q, rfl⟩
      rw [clear_get' this v hv] at hst
      cases hst
    · rw [kfree x q] at hk; cases hk
  · rcases compNm_inv hx with q | ⟨q, hi⟩
    · rw [kts x i q] at hk; cases hk
    · obtain ⟨c, u, e1, e2, e3⟩ := hf.cell x i hi (by unfold Env.kindOf; rw [hs]; exact (hok.free _ q rfl).1)
      obtain ⟨c', hc'⟩ := lookup_of_mem (clOf_has (env := env) (acc := []) (.inl q))
      rw [← c4] at hc'
      have := (cls x c' hc').2
      rw [e1] at this
      cases this
      refine ⟨c, u, hc', e2, fun v hv hst => ?_⟩
      rcases clear_get hv with rfl | ⟨_, hv⟩
      · cases hst
      · exact e3 v hv hst
  · rcases compNm_inv hx with q | ⟨q, _⟩
    · exact .inl (kts x i q)
    · exact .inr (kfree x q)
  · obtain ⟨q1, q2⟩ := cls x c e
    rw [c2]
    exact ⟨(hf.cellX x c q2).1, hLc x c q2⟩

theorem folded {e : Expr} (h : notSet e = true) (env : PySem.Env) (x : Value) : foldedSetIterable e env x = pure x := by
  cases e <;> first | rfl | exact Bool.noConfusion (h : false = true)
theorem msrc_folded {sc : Sc} {kk : SrcK} {e iter : Expr} (h : MSrc sc kk e iter) (env : PySem.Env) (x : Value) : foldedSetIterable iter env x = pure x := by
  cases h with
  | seq hn => exact folded hn env x
  | range => rfl

theorem compGo_length {test elt : Rho → St → R (V × St)} {slots : List Nat} {ok : St → Bool} {ρ : Rho} : ∀ {xs : List V} {σ σ' : St} {vs : List V}, compGo test elt slots ok ρ xs σ = .ok (vs, σ') → vs.length ≤ xs.length
  | [], σ, σ', vs, h => by simp only [compGo] at h; cases h; exact Nat.le_refl _
  | x :: xs, σ, σ', vs, h => by
    simp only [compGo] at h
    split at h
    · cases h
    · obtain ⟨⟨t, σ₁⟩, h1, h2⟩ := R.bind_inv h
      dsimp only at h2
      split at h2
      · cases h2
      · split at h2
        · have := compGo_length h2; simp; omega
        · cases h2
      · obtain ⟨⟨e, σ₂⟩, h3, h4⟩ := R.bind_inv h2
        dsimp only at h4
        split at h4
        · obtain ⟨⟨r, σ₃⟩, h5, h6⟩ := R.bind_inv h4
          cases h6
          have := compGo_length h5; simp; omega
        · cases h4

noncomputable def testFor (ifs : List Expr) (env : PySem.Env) : Sem Bool := forIn ifs true fun c r => if r = true then do let ok ← isTrue c env (eval c env); pure (ForInStep.yield ok) else pure (ForInStep.yield r)

theorem mkL_tmp {m : Bool} {vs : List V} {σ σ' : St} {v : V} (e : mkL m vs σ = .ok (v, σ')) : ∀ x, v ≠ .tmp x := fun x q => by
  subst q
  unfold mkL at e
  split at e
  · split at e <;> cases e
  · split at e <;> cases e
/-- the frame of a comprehension goes -/
theorem PX.drop {as : List Addr} {Y : Addr → Prop} {σ' : St} {v : V} {s s' : Shared} {u : Value} {L : Addr} {m : Str → Option Value} {h' : Heap} (p : PX C as (fun a => Y a ∨ a = L) σ' v s u s') (hn : s'.heap.Ns L m) (hL : s.heap.get? L = none) (hv : ∀ x, v ≠ .tmp x) (hY : ∀ a, Y a → ∃ o, s.heap.get? a = some o)
    (hs : Heap.SameBut L s'.heap h') : PX C as Y σ' v s u { s' with heap := h' } := by
  obtain ⟨as', st, hu⟩ := p
  obtain ⟨o, _, _, e, hd, _⟩ := hn
  have w : Wr (fun b => b = L) (fun a => Y a ∨ a = L) s'.heap h' := Wr.one (.inr rfl) e (fun vs n q => by rw [hd] at q; cases q) hs.extBut
  refine ⟨as', st.drop (t := s'.toks) w (fun b q => q ▸ hL) (fun a y => .inl y) fun a y => ?_, (hu.but w hv).wider fun a y => .inl y⟩
  obtain ⟨o, e⟩ := hY a y
  exact ⟨o, w.keep a o (fun q => by rw [q, hL] at e; cases e) (st.kp a o e)⟩

theorem at_end {α : Type} {xs : List α} {n i : Nat} (hn : n + i = xs.length) (hx : xs[i]? = none) : xs.length = i := by
  have := List.getElem?_eq_none_iff.mp hx
  omega
theorem turn_lt {α : Type} {xs : List α} {n i : Nat} {x : α} (hn : n + i = xs.length) (hx : xs[i]? = some x) : n - 1 < n := by
  have := (List.getElem?_eq_some_iff.mp hx).1
  omega
theorem turn_eq {α : Type} {xs : List α} {n i : Nat} {x : α} (hn : n + i = xs.length) (hx : xs[i]? = some x) : n - 1 + (i + 1) = xs.length := by
  have := (List.getElem?_eq_some_iff.mp hx).1
  omega
theorem comp_core (O : Ok C W) {src elt : X} {cond : Option X} (ha : SX C W Φ k src) (he : SX C W Φ k elt) {m : Bool} {kk : SrcK} {slots : List Nat} {sc : Sc} {nm : Nm} {target iter e l : Expr} {ifs : List Expr} {scope : Scope} {pos : Pos} {ts : Nm} {env : PySem.Env} {A : Around} {E : Value → Shared → Prop} {s : Shared} {ρ : Rho}
    {as : List Addr} {Y : Addr → Prop} {σ σ' : St} {v : V} {use : Option (Value → Sem Unit)} {Q : Value → Shared → Prop} {cpos : Pos}
    (hend : ∀ D L s' m', PX C as (fun a => Y a ∨ a = L) σ' v s (.ref D) s' → s'.heap.Ns L m' → s.heap.get? L = none → (∀ x, v ≠ .tmp x) → compPost (model C.prog C.w) A E use Q (.ref D) L (.ok .next) s')
    (htest : ∀ (cenv : PySem.Env) (E : Value → Shared → Prop) (s : Shared) (ρ' : Rho) (as : List Addr) (Y : Addr → Prop) (σ σ' : St) (t : V) (b : Bool), cenv.scope.names = compSc sc scope.names → Inv C cenv (compNm nm scope.names ts) ρ' as Y σ s → evt Φ cond ρ' σ = .ok (t, σ') → truthyV t = some b →
      wpAny (model C.prog C.w) A (testFor ifs cenv) (fun ok s' => ok = b ∧ ∃ as', Step C as Y σ' as' s s') E s)
    (hm : MX W sc nm src e) (hsrc : MSrc sc kk e iter) (ht : tgts target slots = some ts) (hok : compOk sc nm scope ts = true) (hl : MX W (compSc sc scope.names) (compNm nm scope.names ts) elt l)
    (hs : env.scope.names = sc) (hA : AOk A k) (hI : Inv C env nm ρ as Y σ s) (hev : ev Φ (.comp m kk src slots cond elt) ρ σ = .ok (v, σ')) :
    wpAny (model C.prog C.w) A (comprehension (.ListComp l [⟨target, iter, ifs, 0⟩] scope pos) scope env cpos (newList []) false (eval iter env) use) Q E s := by
  have hok := compOk_inv hok
  obtain ⟨⟨sv, σ₁⟩, h1, h2⟩ := R.bind_inv hev
  dsimp only at h2
  split at h2
  · cases h2
  rename_i xs hxs
  split at h2
  · cases h2
  rename_i hlen
  have hlen : xs.length ≤ 100000 := by omega
  obtain ⟨⟨all, σe⟩, h3, h4⟩ := R.bind_inv h2
  dsimp only at h4
  have hallst := mkL_stor h4
  have hcl : closureFor scope env = pure (clOf env scope.names []) := closure_eq fun y hy hf => by
    obtain ⟨q1, i, q2⟩ := hok.free y hy hf
    obtain ⟨c, u, e1, _⟩ := hI.fr.cell y.1 i q2 (by unfold Env.kindOf; rw [hs]; exact q1)
    exact ⟨c, e1⟩
  refine wpAny_comprehension_free (use := use) rfl (fun x => msrc_folded hsrc env x) hcl hok.kind hok.loc (src_sound O ha hm hsrc hs hA hI h1 hxs fun I as₁ s₂ st1 hit hI0 hIH => ?_)
  refine wpAny_newObj_type (wpAny_newFunctionEnv hok.nocell (by intro y hy; simp at hy) (fun h₁ hns₁ hsb₁ => ?_) hok.kind)
  dsimp only at hns₁ hsb₁ ⊢
  generalize hH2 : s₂.heap.push { cls := .type "list", dict := none, data := .seq ([] : List Value).toArray } = H2 at hns₁ hsb₁ ⊢
  have hDL : s₂.heap.objs.size ≠ H2.objs.size := by rw [← hH2, Heap.size_push]; exact Nat.ne_of_lt (Nat.lt_succ_self _)
  have hID : I ≠ s₂.heap.objs.size := fun e => by
    obtain ⟨o, ho, _⟩ := hit.here
    rw [e, get?_size] at ho; cases ho
  have k0 : Kp s₂.heap H2 := hH2 ▸ Kp.push _ _
  have k1 : Kp s₂.heap h₁ := fun b o e => hsb₁.extBut b o (Nat.ne_of_lt (Heap.lt_size (k0 b o e))) (Heap.get?_push_of_some _ (k0 b o e))
  have hIL : I ≠ H2.objs.size := fun e => by
    obtain ⟨o, ho, _⟩ := hit.here
    have := k0 I o ho
    rw [e, get?_size] at this; cases this
  have nof : ∀ {h h' : Heap} {a : Addr}, Kp h h' → h'.get? a = none → h.get? a = none := fun {h h' a} k e => by
    cases q : h.get? a with
    | none => rfl
    | some o => have := k a o q; rw [e] at this; cases this
  have kb : Kp C.H0 s₂.heap := hI.base.trans st1.kp
  have hD0 : s.heap.get? s₂.heap.objs.size = none := nof st1.kp (get?_size _)
  have hL2 : s₂.heap.get? H2.objs.size = none := nof k0 (get?_size _)
  have hL0 : s.heap.get? H2.objs.size = none := nof st1.kp hL2
  have hDH : C.H0.get? s₂.heap.objs.size = none := nof kb (get?_size _)
  have hLH : C.H0.get? H2.objs.size = none := nof kb hL2
  have hacc : h₁.PlainList s₂.heap.objs.size #[] := ⟨0, hsb₁.extBut _ _ hDL (Heap.get?_push_of_some _ (hH2 ▸ Heap.get?_push_size _ rfl))⟩
  have hLo : ∃ o, h₁.get? H2.objs.size = some o := by obtain ⟨o, _, _, e, _⟩ := hns₁; exact ⟨o, e⟩
  -- what is fenced off
  let X' : Addr → Prop := fun a => (Y a ∨ a = I) ∨ a = s₂.heap.objs.size ∨ a = H2.objs.size
  have hX1 : ∀ a, X' a → (Y a ∨ a = I) ∨ s₂.heap.get? a = none := fun a x => by
    rcases x with x | rfl | rfl
    · exact .inl x
    · exact .inr (get?_size _)
    · exact .inr hL2
  have hXd : ∀ a, X' a → ∃ o, h₁.get? a = some o := fun a x => by
    rcases x with x | rfl | rfl
    · obtain ⟨o, e⟩ := st1.sr.xd a x; exact ⟨o, k1 a o e⟩
    · obtain ⟨n, e⟩ := hacc; exact ⟨_, e⟩
    · exact hLo
  have hit' : ItSt C as₁ X' h₁ I kk sv 0 := hit.moved (fun o e => k1 I o e) fun u r _ => r.fence k1 hX1
  have st0 : Step C as X' σ₁ as₁ s { s₂ with heap := h₁, toks := s₂.toks + ([] : List (Str × Value)).length } := by
    obtain ⟨h', t', rfl⟩ := st1.same
    exact ⟨⟨_, _, rfl⟩, st1.kp.trans k1, st1.new, st1.sr.fence k1 hX1 hXd⟩
  have hYX : ∀ a, Y a → X' a := fun a y => .inl (.inl y)
  have hX0 : ∀ a o, s.heap.get? a = some o → ¬ Y a → ¬ X' a := fun a o e hy x => by
    rcases x with (x | rfl) | rfl | rfl
    · exact hy x
    · rw [hI0] at e; cases e
    · rw [hD0] at e; cases e
    · rw [hL0] at e; cases e
  have hYL : ∀ x c, env.cells.lookup x = some c → c ≠ H2.objs.size := fun x c e q => by
    obtain ⟨o, e'⟩ := hI.sr.xd c (hI.fr.cellX x c e).1
    rw [q, hL0] at e'; cases e'
  generalize hcenv : ({ newEnv scope H2.objs.size env.globals (clOf env scope.names []) env.qual none Value.none (some env) builtinsNs with scope := relabel scope env } : PySem.Env) = cenv
  have cfr : ∀ (as' : List Addr) (σ₂ : St) (s' : Shared) (m' : Str → Option Value), Step C as X' σ₂ as' s s' → s'.heap.Ns H2.objs.size m' → Inv C cenv (compNm nm scope.names ts) (clear slots ρ) as' X' σ₂ s' := fun as' σ₂ s' m' st hn => by
    have g : Grow as as' Y X' s.heap s'.heap := ⟨st.kp, st.grow.old, fun a o e p q => ⟨(by
      obtain ⟨new, rfl, hn⟩ := st.new
      intro m
      rcases List.mem_append.mp m with m | m
      · exact p m
      · rw [hn a m] at e; cases e), hX0 a o e q⟩⟩
    exact ⟨hI.base.trans st.kp, comp_fr (hI.fr.grow' g hYX) hs hok ht hn (.inr (.inr rfl)) hYL hLH (by subst hcenv; rfl) (by subst hcenv; rfl) (by subst hcenv; rfl) (by subst hcenv; rfl) (by subst hcenv; rfl), st.sr⟩
  have cnames : cenv.scope.names = compSc sc scope.names := by subst hcenv; exact relabel_names hs hI.fr.kind
  have cloc : cenv.locals = H2.objs.size := by subst hcenv; rfl
  have ccell : ∀ x c, cenv.cells.lookup x = some c → Y c := fun x c e => by
    have : cenv.cells = clOf env scope.names [] := by subst hcenv; rfl
    rw [this] at e
    rcases clOf_mem (mem_of_lookup e) with h | ⟨q1, q2⟩
    · cases h
    · obtain ⟨q3, i, q4⟩ := hok.free _ q1 rfl
      obtain ⟨c', u, e1, _⟩ := hI.fr.cell x i q4 (by unfold Env.kindOf; rw [hs]; exact q3)
      rw [e1] at q2
      simp at q2
      subst q2
      exact (hI.fr.cellX x c e1).1
  -- the loop
  let J : Nat → Shared → Prop := fun n s' => ∃ i as' σ₂ done rest us m', n + i = xs.length ∧ compGo (evt Φ cond) (ev Φ elt) slots (fun σ' => srcOk kk σ' sv xs) ρ (xs.drop i) σ₂ = .ok (rest, σe) ∧ done ++ rest = all ∧ done.length ≤ i ∧
    Step C as X' σ₂ as' s s' ∧ ItSt C as' X' s'.heap I kk sv i ∧ srcV kk σ₂ sv = some xs ∧ s'.heap.PlainList s₂.heap.objs.size us ∧ All2 (VR C as' X' s'.heap) done us.toList ∧ s'.heap.Ns H2.objs.size m'
  have loop : ∀ n s', J n s' → codeAny (model C.prog C.w) A (.compLoop (.ListComp l [⟨target, iter, ifs, 0⟩] scope pos) 0 (.ref I) (.ref s₂.heap.objs.size) cenv) (compPost (model C.prog C.w) A E use Q (.ref s₂.heap.objs.size) H2.objs.size) s' := by
    intro n s' hJ
    refine compLoop_any J (fun n s' hJ => ?_) n hJ
    obtain ⟨i, as', σ₂, done, rest, us, m', hn, hgo, hall, hdl, st, hit, hsv, hpl, hd, hns⟩ := hJ
    have hdst : done.all stor = true := by
      rw [← hall, List.all_append, Bool.and_eq_true] at hallst
      exact hallst.1
    cases hx : xs[i]? with
    | none =>
      have hi : xs.length = i := at_end hn hx
      refine it_done hA.hd hit st.sr hsv hi fun h' tk hk => ?_
      have hdrop : xs.drop i = [] := List.drop_eq_nil_iff.mpr (Nat.le_of_eq hi)
      rw [hdrop] at hgo
      simp only [compGo] at hgo
      cases hgo
      rw [List.append_nil] at hall
      subst hall
      have hnsk : h'.Ns H2.objs.size m' := hns.at' fun o e => hk _ o (Ne.symm hIL) e
      obtain ⟨oI, eI, dI⟩ := hit.here
      have w : Wr (fun b => b = I) X' s'.heap h' := Wr.one (.inl (.inr rfl)) eI dI fun b o n e => hk b o n e
      have hpl' : h'.PlainList s₂.heap.objs.size us := hpl.at fun o e => w.keep _ o (fun q => hID q.symm) e
      let Z : Addr → Prop := fun a => (Y a ∨ a = H2.objs.size) ∨ a = s₂.heap.objs.size
      have hZ : ∀ a, Z a → X' a := fun a z => z.elim (fun z => z.elim (fun y => hYX a y) fun e => .inr (.inr e)) fun e => .inr (.inl e)
      have hYD : ∀ a, (Y a ∨ a = H2.objs.size) → a ≠ s₂.heap.objs.size := fun a y e => by
        rcases y with y | y
        · subst e
          obtain ⟨o, e⟩ := hI.sr.xd _ y
          rw [hD0] at e; cases e
        · exact hDL (e.symm.trans y)
      have st' : Step C as Z σe as' s { s' with heap := h', toks := tk } := st.drop w (fun b e => by subst e; assumption) hZ fun a z => by
        rcases z with (y | rfl) | rfl
        · obtain ⟨o, e⟩ := hI.sr.xd a y
          refine ⟨o, w.keep a o (fun q => ?_) (st.kp a o e)⟩
          subst q
          rw [hI0] at e; cases e
        · obtain ⟨o, _, _, e, _⟩ := id hnsk; exact ⟨_, e⟩
        · obtain ⟨n, e⟩ := hpl'; exact ⟨_, e⟩
      exact hend _ _ _ m' (mkL_at st' (.inr rfl) (fun a y => ⟨.inl y, hYD a y⟩) hpl' ((hd.vrBut w hdst).mono fun _ _ r => r.wider hZ) hDH hD0 h4) hnsk hL0 (mkL_tmp h4)
    | some x =>
      have hlt : i < xs.length := (List.getElem?_eq_some_iff.mp hx).1
      have hdrop : xs.drop i = x :: xs.drop (i + 1) := by
        rw [List.drop_eq_getElem_cons hlt]
        rw [(List.getElem?_eq_some_iff.mp hx).2]
      rw [hdrop] at hgo
      simp only [compGo] at hgo
      split at hgo
      · cases hgo
      rename_i ρ' hbind
      obtain ⟨⟨t, σ₃⟩, g1, g2⟩ := R.bind_inv hgo
      dsimp only at g2
      refine it_next hit st.sr (.inl (.inr rfl)) hsv hx fun u h' tk hu hit' w1 => ?_
      have st1' : Step C as X' σ₂ as' s { s' with heap := h', toks := tk } := st.but w1 (fun b e => by subst e; exact hI0) fun b e => by subst e; obtain ⟨o, ho, _⟩ := hit'.here; exact ⟨o, ho⟩
      have hns1 : h'.Ns H2.objs.size m' := hns.at' fun o e => w1.keep _ o (fun q => hIL q.symm) e
      have hpl1 : h'.PlainList s₂.heap.objs.size us := hpl.at fun o e => w1.keep _ o (fun q => hID q.symm) e
      have hd1 : All2 (VR C as' X' h') done us.toList := hd.vrBut w1 hdst
      refine it_go hit' ht ?_
      have inv1 := cfr as' σ₂ _ m' st1' hns1
      have hxst : stor x = true := srcV_stor st.sr hsv x (List.mem_of_getElem? hx)
      have hnm : ∀ t ∈ ts, (compNm nm scope.names ts).lookup t.1 = some t.2 ∧ FrOk cenv (fun b => b = H2.objs.size) t.1 := fun t m => by
        refine ⟨?_, fun _ => cloc, fun c hk _ => ?_⟩
        · have h1 := lookup_nodup hok.tsd m
          unfold compNm
          rw [List.lookup_append, h1]
          rfl
        · have : cenv.kindOf t.1 = some .local := by
            have := lookup_relabel_local (env := env) (hok.tl _ m)
            unfold Env.kindOf
            subst hcenv
            exact this
          rw [this] at hk; cases hk
      refine bind_sound hA.hd ht hnm (bind_clear.trans hbind) inv1 hu hxst fun h₂ tk₂ inv2 hw2 => ?_
      obtain ⟨P2, w2, hp2, hs2⟩ := id hw2
      have st2 : Step C as X' σ₂ as' s { s' with heap := h₂, toks := tk₂ } := st1'.but w2 (fun b p => by rw [hp2 b p]; exact hL0) hs2
      have hit2 : ItSt C as' X' h₂ I kk sv (i + 1) := hit'.moved (fun o e => w2.keep I o (fun p => hIL (hp2 I p)) e) fun u r n => r.but w2 n
      have hpl2 : h₂.PlainList s₂.heap.objs.size us := hpl1.at fun o e => w2.keep _ o (fun p => hDL (hp2 _ p)) e
      have hd2 : All2 (VR C as' X' h₂) done us.toList := hd1.vrBut w2 hdst
      obtain ⟨m2, hns2, _⟩ := id inv2.fr.ns
      rw [cloc] at hns2
      have finish : ∀ (σ₄ : St) (as₄ : List Addr) (done' rest' : List V) (us' : Array Value) (s₄ : Shared), compGo (evt Φ cond) (ev Φ elt) slots (fun σ' => srcOk kk σ' sv xs) ρ (xs.drop (i + 1)) σ₄ = .ok (rest', σe) → done' ++ rest' = all → done'.length ≤ i + 1 → Step C as X' σ₄ as₄ s s₄ → ItSt C as₄ X' s₄.heap I kk sv (i + 1) →
          srcV kk σ₄ sv = some xs → s₄.heap.PlainList s₂.heap.objs.size us' → All2 (VR C as₄ X' s₄.heap) done' us'.toList → s₄.heap.Ns H2.objs.size m2 → ∃ m, m < n ∧ J m s₄ := fun σ₄ as₄ done' rest' us' s₄ q1 q2 q3 q4 q5 q6 q7 q8 q9 => ⟨n - 1, turn_lt hn hx, i + 1, as₄, σ₄, done', rest', us', m2, turn_eq hn hx, q1, q2, q3, q4, q5, q6, q7, q8, q9⟩
      split at g2
      · cases g2
      · rename_i htr
        split at g2
        · rename_i hok2
          refine wpAny_mono (htest cenv _ _ ρ' as' X' σ₂ σ₃ t false cnames inv2 g1 htr) (fun ok s₃ q => ?_) fun _ _ y => y
          obtain ⟨rfl, as₃, q⟩ := q
          simp only [Bool.false_eq_true, if_false]
          exact finish σ₃ as₃ done rest us s₃ g2 hall (Nat.le_succ_of_le hdl) (st2.trans q) (hit2.moved (fun o e => q.kp I o e) fun u r _ => r.grow q.grow) (srcOk_inv hsv hok2) (hpl2.at fun o e => q.kp _ o e) (hd2.mono fun _ _ r => r.grow q.grow) (hns2.keeps q.kp)
        · cases g2
      · rename_i htr
        obtain ⟨⟨ee, σ₄⟩, g3, g4⟩ := R.bind_inv g2
        dsimp only at g4
        split at g4
        · rename_i hok2
          obtain ⟨⟨rr, σ₅⟩, g5, g6⟩ := R.bind_inv g4
          cases g6
          refine wpAny_mono (htest cenv _ _ ρ' as' X' σ₂ σ₃ t true cnames inv2 g1 htr) (fun ok s₃ q => ?_) fun _ _ y => y
          obtain ⟨rfl, as₃, q⟩ := q
          simp only [if_true]
          refine wpAny_mono (he _ _ _ cenv A _ s₃ ρ' as₃ X' σ₃ σ₄ ee hl cnames hA (inv2.step q) g3) (fun ue s₄ p => ?_) fun _ _ y => y
          obtain ⟨as₄, p1, p2⟩ := p
          have qp := q.trans p1
          have hpl4 : s₄.heap.PlainList s₂.heap.objs.size us := hpl2.at fun o e => qp.kp _ o e
          have hus := hd2.length
          refine wpAny_list_append_plain hpl4 (fun h₅ hpl5 hs5 => ?_) (by
            rw [sizeLine_eq]
            have : us.size = us.toList.length := by simp
            omega)
          obtain ⟨n4, e4⟩ := id hpl4
          obtain ⟨n5, e5⟩ := id hpl5
          have w5 : Wr (fun b => b = s₂.heap.objs.size) X' s₄.heap h₅ := ⟨fun b e => .inr (.inl e), fun b o n e => hs5.extBut b o n e, fun b o vs n e e1 e2 => by subst e; rw [e4] at e1; cases e1; simp⟩
          have st4 := st2.trans qp
          have st5 : Step C as X' σ₄ as₄ s { s₄ with heap := h₅, toks := s₄.toks } := st4.but w5 (fun b e => by subst e; exact hD0) fun b e => by subst e; exact ⟨_, e5⟩
          have hes : stor ee = true := by
            rw [← hall, List.all_append, Bool.and_eq_true, List.all_cons, Bool.and_eq_true] at hallst
            exact hallst.2.1
          refine finish σ₄ as₄ (done ++ [ee]) rr (us.push ue) _ g5 (by rw [← hall]; simp) (by simp; omega) st5 ?_ (srcOk_inv hsv hok2) hpl5 ?_ ?_
          · exact (hit2.moved (fun o e => qp.kp I o e) fun u r _ => r.grow qp.grow).moved (fun o e => w5.keep I o (fun q => hID q) e) fun u r n => r.but w5 n
          · rw [Array.toList_push]
            exact ((hd2.mono fun _ _ r => r.grow qp.grow).append (.cons p2 .nil)).vrBut w5 (by rw [List.all_append, hdst]; simp [hes])
          · exact (hns2.keeps qp.kp).at' fun o e => w5.keep _ o (fun q => hDL q.symm) e
        · cases g4
  exact codeAny_compStart_list (loop xs.length _ ⟨0, as₁, σ₁, [], all, #[], _, by simp, by simpa using h3, rfl, Nat.le_refl _, st0, hit', hxs, hacc, .nil, hns₁⟩) (it_self hit' (loop xs.length _ ⟨0, as₁, σ₁, [], all, #[], _, by simp, by simpa using h3, rfl, Nat.le_refl _, st0, hit', hxs, hacc, .nil, hns₁⟩))
end
end Mine
end

section
/-! M17: calls of defs, all expressions -/
namespace Mine
open PySem PySem.Spec PySem.SeqAt
set_option maxRecDepth 100000

theorem fm_congr {α β : Type} {f g : α → Option β} : ∀ {l : List α}, (∀ x ∈ l, f x = g x) → l.filterMap f = l.filterMap g
  | [], _ => rfl
  | x :: l, h => by rw [List.filterMap_cons, List.filterMap_cons, h x (.head _), fm_congr fun y m => h y (.tail _ m)]
theorem zip_lookup {α : Type} {x : Str} : ∀ {ns : List Str} {vs : List α}, ns.Nodup → ns.length = vs.length → x ∈ ns → ∃ v, (ns.zip vs).lookup x = some v
  | [], _, _, _, h => by cases h
  | n :: ns, [], _, hl, _ => by simp at hl
  | n :: ns, v :: vs, hn, hl, h => by
    rw [List.zip_cons_cons, List.lookup_cons]
    cases hb : x == n with
    | true => exact ⟨v, rfl⟩
    | false =>
      rcases List.mem_cons.mp h with e | h
      · subst e; simp at hb
      · exact zip_lookup (List.nodup_cons.mp hn).2 (by simpa using hl) h
theorem zip_filterMap {α : Type} : ∀ {ns : List Str} {vs : List α}, ns.Nodup → ns.length = vs.length → ns.filterMap (fun n => ((ns.zip vs).lookup n).map (n, ·)) = ns.zip vs
  | [], vs, _, hl => by simp
  | n :: ns, [], _, hl => by simp at hl
  | n :: ns, v :: vs, hn, hl => by
    rw [List.zip_cons_cons, List.filterMap_cons]
    simp only [List.lookup_cons, beq_self_eq_true, Option.map_some]
    congr 1
    rw [← zip_filterMap (List.nodup_cons.mp hn).2 (by simpa using hl)]
    refine fm_congr fun x hx => ?_
    have : (x == n) = false := by
      apply Bool.eq_false_iff.mpr
      intro e
      rw [beq_iff_eq.mp e] at hx
      exact (List.nodup_cons.mp hn).1 hx
    rw [zip_filterMap (List.nodup_cons.mp hn).2 (by simpa using hl)]
    simp [this]

theorem bind_plain {fd : FuncData} {vals : List Value} (h1 : fd.params.posonlyargs = []) (h2 : fd.params.kwonlyargs = []) (h3 : fd.params.vararg = none) (h4 : fd.params.kwarg = none) (h5 : fd.defaults = .none) (hn : (fd.params.args.map (·.arg)).Nodup) (hl : vals.length = fd.params.args.length) :
    bindArgs fd ⟨vals, []⟩ = pure ((fd.params.args.map (·.arg)).zip vals) := by
  unfold bindArgs
  have hs : seqItems? Value.none = pure none := rfl
  have hlen : (fd.params.args.map (·.arg)).length = vals.length := by simp [hl]
  have hmiss : ((fd.params.args.map (·.arg)).filter fun n => (((fd.params.args.map (·.arg)).zip vals).lookup n).isNone) = [] := by
    rw [List.filter_eq_nil_iff]
    intro x hx
    obtain ⟨v, e⟩ := zip_lookup hn hlen hx
    simp [e]
  have htake : (List.map (fun x => x.arg) fd.params.args).take fd.params.args.length = List.map (fun x => x.arg) fd.params.args := List.take_of_length_le (by simp)
  simp only [h1, h2, h3, h4, h5, hs, List.map_nil, List.nil_append, List.forIn_nil, pure_bind, Option.getD_none, List.drop_nil, List.length_nil, Nat.sub_zero, List.zip_nil_right, List.append_nil, List.isEmpty_nil, Bool.not_true, Bool.false_eq_true, if_false, List.length_map, hl, gt_iff_lt, Nat.lt_irrefl, decide_false, Bool.false_and, htake, hmiss, zip_filterMap hn hlen]

/-- what a def does -/
noncomputable def SF (C : Cx) (Φ : Fn) (k : Nat) (f : Nat) : Prop := ∀ (A : Around) (E : Value → Shared → Prop) (s : Shared) (X : Addr → Prop) (us : List Value) (vs : List V) (r : V) (σr : St),
  AOk A k → Kp C.H0 s.heap → (∀ a, X a → ∃ o, s.heap.get? a = some o) → All2 (VR C [] X s.heap) vs us → Φ f vs = .ok (r, σr) → wpAny (model C.prog C.w) A (call (.ref (C.fa f)) us) (PX C [] X σr r s) E s

mutual
theorem flat_fp {h : Heap} : ∀ {v : Value} {x : PyData} {fp : List Addr}, Reads h v x fp → flat x = true → fp = []
  | _, _, _, .none, _ => rfl
  | _, _, _, .bool _, _ => rfl
  | _, _, _, .int _ _, _ => rfl
  | _, _, _, .str _ _, _ => rfl
  | _, _, _, .list .., f => by simp [flat] at f
  | _, _, _, .dict .., f => by simp [flat] at f
  | _, _, _, .tuple _ _ _ r, f => flats_fp r (by simpa [flat] using f)
theorem flats_fp {h : Heap} : ∀ {vs : List Value} {xs : List PyData} {fp : List Addr}, ReadsAll h vs xs fp → flats xs = true → fp = []
  | _, _, _, .nil, _ => rfl
  | _, _, _, .cons r t, f => by
    simp only [flats, Bool.and_eq_true] at f
    rw [flat_fp r f.1, flats_fp t f.2]; rfl
end

section
variable {C : Cx} {W : Wd} {Φ : Fn} {k : Nat}

theorem DR.to {as as' : List Addr} {X X' : Addr → Prop} {h : Heap} {x : PyData} {u : Value} (r : DR as X h x u) (hx : ∀ a, a ∉ as → ¬ X a → a ∉ as' ∧ ¬ X' a) : DR as' X' h x u := by
  obtain ⟨n, fp, r, f⟩ := r
  exact ⟨n, fp, r, fun a m => hx a (f a m).1 (f a m).2⟩

/-- arguments without own lists -/
theorem args_plain {as : List Addr} {Y : Addr → Prop} {σ : St} {h : Heap} {vs avs : List V} {us : List Value} (e : allO (argV σ) vs = some avs) (hr : vs.any isRef = false) (hv : All2 (VR C as Y h) vs us) : All2 (VR C [] (fun a => Y a ∨ a ∈ as) h) avs us := by
  have hx : ∀ a, a ∉ as → ¬ Y a → a ∉ ([] : List Addr) ∧ ¬ (Y a ∨ a ∈ as) := fun a p q => ⟨nofun, fun o => o.elim q p⟩
  refine (allO_inv e).comp hv fun v av u hm h1 h2 => ?_
  have hnr : isRef v = false := by
    cases q : isRef v with
    | false => rfl
    | true => rw [List.any_eq_true.mpr ⟨v, hm, q⟩] at hr; cases hr
  cases v with
  | d x => simp only [argV, Option.some.injEq] at h1; subst h1; exact DR.to h2 hx
  | fn f => simp only [argV, Option.some.injEq] at h1; subst h1; exact h2
  | pd ks l =>
    simp only [argV, Option.some.injEq] at h1; subst h1
    obtain ⟨a, vals, rfl, q1, q2, q3, q4, q5⟩ := h2
    exact ⟨a, vals, rfl, (hx a q1 q2).1, (hx a q1 q2).2, q3, q4, q5.mono fun _ _ r => DR.to r hx⟩
  | ref n => simp [isRef] at hnr
  | tmp x => simp [isRef] at hnr
  | ex c => simp [argV] at h1
  | undef => simp [argV] at h1

theorem DX.dr {X : Addr → Prop} {h : Heap} {x : PyData} {u : Value} (r : DX X h x u) : DR [] (fun _ => False) h x u := let ⟨n, fp, r, _⟩ := r; ⟨n, fp, r, fun _ _ => ⟨nofun, nofun⟩⟩
/-- arguments, any -/
theorem args_any {as : List Addr} {Y : Addr → Prop} {σ : St} {h : Heap} {vs avs : List V} {us : List Value} (r : SR C as Y σ h) (e : allO (argV σ) vs = some avs) (hv : All2 (VR C as Y h) vs us) : All2 (VR C [] (fun _ => False) h) avs us := by
  have hx : ∀ a, a ∉ as → ¬ Y a → a ∉ ([] : List Addr) ∧ ¬ False := fun a p q => ⟨nofun, nofun⟩
  refine (allO_inv e).comp hv fun v av u hm h1 h2 => ?_
  cases v with
  | d x => simp only [argV, Option.some.injEq] at h1; subst h1; exact DR.to h2 hx
  | tmp x =>
    simp only [argV, Option.some.injEq] at h1; subst h1
    obtain ⟨n, fp, r⟩ := h2
    exact ⟨n, fp, r, fun _ _ => ⟨nofun, nofun⟩⟩
  | fn f => simp only [argV, Option.some.injEq] at h1; subst h1; exact h2
  | pd ks l =>
    simp only [argV, Option.some.injEq] at h1; subst h1
    obtain ⟨a, vals, rfl, q1, q2, q3, q4, q5⟩ := h2
    exact ⟨a, vals, rfl, nofun, nofun, q3, q4, q5.mono fun _ _ r => DR.to r hx⟩
  | ref n =>
    simp only [argV] at h1
    split at h1
    · rename_i xs hxs
      obtain ⟨l, e1, rfl⟩ := Option.map_eq_some_iff.mp h1
      exact (rv_reads r 3 (.ref n) (.list l) u (by
        have q : rv σ 3 (.ref n) = (match σ[n]? with | some (.list xs) => (allO (rv σ 2) xs).map .list | _ => none) := rfl
        rw [q, hxs]
        dsimp only
        rw [e1]
        rfl) h2 rfl).dr
    · rename_i ks ws hxs
      obtain ⟨l, e1, rfl⟩ := Option.map_eq_some_iff.mp h1
      obtain ⟨a, ha, rfl⟩ := h2
      obtain ⟨vals, q1, q2, q3, q4⟩ := r.obj n _ a hxs ha
      refine ⟨a, vals, rfl, nofun, nofun, q4, q1, ?_⟩
      refine (allO_inv e1).comp q2 fun v x u hm h1 h2 => (rv_reads r 2 v x u h1 h2 ?_).dr
      exact List.all_eq_true.mp q3 v hm
    · cases h1
  | ex c => simp [argV] at h1
  | undef => simp [argV] at h1

theorem VR.shift {as as' : List Addr} {Y : Addr → Prop} {h : Heap} {v : V} {u : Value} (r : VR C as' (fun a => Y a ∨ a ∈ as) h v u) : VR C (as ++ as') Y h (shiftV as.length v) u := by
  have hx : ∀ a, a ∉ as' → ¬ (Y a ∨ a ∈ as) → a ∉ as ++ as' ∧ ¬ Y a := fun a p q => ⟨fun m => (List.mem_append.mp m).elim (fun m => q (.inr m)) p, fun y => q (.inl y)⟩
  cases v with
  | d x => exact DR.to r hx
  | ref n =>
    obtain ⟨a, e, rfl⟩ := r
    refine ⟨a, ?_, rfl⟩
    rw [List.getElem?_append_right (by omega)]
    simpa using e
  | fn f => exact r
  | pd ks l =>
    obtain ⟨a, vals, rfl, q1, q2, q3, q4, q5⟩ := r
    exact ⟨a, vals, rfl, (hx a q1 q2).1, (hx a q1 q2).2, q3, q4, q5.mono fun _ _ r => DR.to r hx⟩
  | ex c =>
    obtain ⟨e, o, rfl, q1, q2, q3, q4⟩ := r
    exact ⟨e, o, rfl, q1, q2, (hx e q3 q4).1, (hx e q3 q4).2⟩
  | tmp x => exact r
  | undef => trivial
theorem stor_shift (n : Nat) (v : V) : stor (shiftV n v) = stor v := by cases v <;> rfl
theorem All2.shift {as as' : List Addr} {Y : Addr → Prop} {h : Heap} {vs : List V} {us : List Value} (r : All2 (VR C as' (fun a => Y a ∨ a ∈ as) h) vs us) : All2 (VR C (as ++ as') Y h) (vs.map (shiftV as.length)) us := by
  induction r with
  | nil => exact .nil
  | cons p _ ih => exact .cons p.shift ih
theorem OR.shift {as as' : List Addr} {Y : Addr → Prop} {h : Heap} {a : Addr} {o : O} (r : OR C as' (fun a => Y a ∨ a ∈ as) h a o) : OR C (as ++ as') Y h a (shiftO as.length o) := by
  have hst : ∀ l : List V, l.all stor = true → (l.map (shiftV as.length)).all stor = true := fun l e => by
    rw [List.all_map]
    have : stor ∘ shiftV as.length = stor := by funext v; exact stor_shift _ v
    rw [this]; exact e
  cases o with
  | list xs => obtain ⟨vs, q1, q2, q3⟩ := r; exact ⟨vs, q1, q2.shift, hst _ q3⟩
  | dict ks vs => obtain ⟨vals, q1, q2, q3, q4⟩ := r; exact ⟨vals, q1, q2.shift, hst _ q3, q4⟩

/-- the callee's own lists become the caller's -/
theorem Step.bring {as as' : List Addr} {Y : Addr → Prop} {σ σr : St} {s s' : Shared} (r : SR C as Y σ s.heap) (st : Step C [] (fun a => Y a ∨ a ∈ as) σr as' s s') : Step C as Y (σ ++ σr.map (shiftO σ.length)) (as ++ as') s s' := by
  obtain ⟨new, e, hn⟩ := st.new
  rw [List.nil_append] at e
  subst e
  have g : Grow as (as ++ as') Y Y s.heap s'.heap := ⟨st.kp, fun n a e => by rw [List.getElem?_append_left (List.getElem?_eq_some_iff.mp e).1]; exact e, fun a o e h1 h2 => ⟨fun m => (by
    rcases List.mem_append.mp m with m | m
    · exact h1 m
    · rw [hn a m] at e; cases e), h2⟩⟩
  refine ⟨st.same, st.kp, ⟨as', rfl, hn⟩, ⟨by simp [r.len, st.sr.len], ?_, fun n o a e1 e2 => ?_, fun a m => ?_, fun a y => ?_⟩⟩
  · rw [List.nodup_append]
    exact ⟨r.nodup, st.sr.nodup, fun x hx y hy e => by
      subst e
      obtain ⟨o, e, _⟩ := r.asOk x hx
      rw [hn x hy] at e; cases e⟩
  · by_cases hlt : n < σ.length
    · rw [List.getElem?_append_left hlt] at e1
      rw [List.getElem?_append_left (by rw [r.len]; exact hlt)] at e2
      exact (r.obj n o a e1 e2).grow g
    · rw [List.getElem?_append_right (by omega), List.getElem?_map] at e1
      rw [List.getElem?_append_right (by rw [r.len]; omega), r.len] at e2
      obtain ⟨o', e3, rfl⟩ := Option.map_eq_some_iff.mp e1
      have := (st.sr.obj _ o' a e3 e2).shift
      rw [r.len] at this
      exact this
  · rcases List.mem_append.mp m with m | m
    · exact r.fresh a m
    · exact ⟨(st.sr.fresh a m).1, fun y => (st.sr.fresh a m).2 (.inl y)⟩
  · obtain ⟨o, e⟩ := r.xd a y; exact ⟨o, st.kp a o e⟩

theorem callV_sound (hf : ∀ f, SF C Φ k f) {A : Around} {E : Value → Shared → Prop} {s : Shared} {as : List Addr} {Y : Addr → Prop} {σ σ' : St} {m : Bool} {f : Nat} {vs : List V} {us : List Value} {v : V} (hA : AOk A k) (hb : Kp C.H0 s.heap) (r : SR C as Y σ s.heap) (hv : All2 (VR C as Y s.heap) vs us)
    (e : callV Φ m f vs σ = .ok (v, σ')) : wpAny (model C.prog C.w) A (call (.ref (C.fa f)) us) (PX C as Y σ' v s) E s := by
  unfold callV at e
  split at e
  · rename_i avs ha
    obtain ⟨⟨rv', σr⟩, h1, h2⟩ := R.bind_inv e
    cases hr : vs.any isRef with
    | false =>
      rw [hr] at h2
      refine wpAny_mono (hf f A E s (fun a => Y a ∨ a ∈ as) us avs rv' σr hA hb (fun a x => x.elim (r.xd a) fun m => let ⟨o, e, _⟩ := r.asOk a m; ⟨o, e⟩) (args_plain ha hr hv) h1) (fun u s' p => ?_) fun _ _ y => y
      obtain ⟨as', st, hu⟩ := p
      cases m with
      | true =>
        simp only [backV, if_true, Bool.false_eq_true, if_false] at h2
        cases h2
        rw [← r.len]
        have := Step.bring r st
        rw [← r.len] at this
        exact ⟨as ++ as', this, hu.shift⟩
      | false =>
        simp only [backV, Bool.false_eq_true, if_false, Bool.false_and] at h2
        split at h2
        · rename_i x hx
          split at h2
          · rename_i hst
            cases h2
            obtain ⟨n, fp, rr, hf'⟩ := rv_reads st.sr 2 rv' x u hx hu hst
            exact ⟨as, ⟨st.same, st.kp, ⟨[], by simp, fun _ m => nomatch m⟩, r.grow st.kp⟩, n, fp, rr, fun a m => ⟨fun q => hf' a m (.inr q), fun y => hf' a m (.inl y)⟩⟩
          · cases h2
        · cases h2
    | true =>
      rw [hr] at h2
      refine wpAny_mono (hf f A E s (fun _ => False) us avs rv' σr hA hb (fun a x => x.elim) (args_any r ha hv) h1) (fun u s' p => ?_) fun _ _ y => y
      obtain ⟨as', st, hu⟩ := p
      have st' : Step C as Y σ as s s' := ⟨st.same, st.kp, ⟨[], by simp, fun _ m => nomatch m⟩, r.grow st.kp⟩
      cases m with
      | true => simp [backV] at h2
      | false =>
        simp only [backV, Bool.false_eq_true, if_false, Bool.true_and] at h2
        split at h2
        · rename_i x hx
          split at h2
          · rename_i hst
            obtain ⟨n, fp, rr, hf'⟩ := rv_reads st.sr 2 rv' x u hx hu hst
            split at h2
            · cases h2; exact ⟨as, st', n, fp, rr⟩
            · rename_i hfl
              cases h2
              have := flat_fp rr (by simpa using hfl)
              subst this
              exact ⟨as, st', n, [], rr, fun _ m => nomatch m⟩
          · cases h2
        · cases h2
  · cases e

theorem sx_call (O : Ok C W) (hf : ∀ f, SF C Φ k f) {f : Nat} {m : Bool} {es : List X} (ha : SXs C W Φ k es) : SX C W Φ k (.call f m es) := by
  intro sc nm e env A E s ρ as Y σ σ' v hm hs hA hI he
  obtain ⟨⟨vs, σ₁⟩, h1, h2⟩ := R.bind_inv he
  dsimp only at h2
  cases hm.inv with
  | @call x p ls pos hg hx m1 hlen =>
    obtain ⟨o, fd, ho, hd⟩ := O.fo f x hx
    refine PyProof.Rows.Call_Name rfl (name_glob O hI hs hg (O.fn f x hx) (Calls.callWith_function (o := o) (fd := fd) ?_))
    have fin : ∀ us s₁, (∃ as', Step C as Y σ₁ as' s s₁ ∧ All2 (VR C as' Y s₁.heap) vs us) → (s₁.heap.get? (C.fa f) = some o ∧ o.data = .func fd) ∧ wpAny (model C.prog C.w) A (call (.ref (C.fa f)) ([] ++ us) []) (PX C as Y σ' v s) E s₁ := fun us s₁ p => by
      obtain ⟨as₁, p1, p2⟩ := p
      have hI1 := hI.step p1
      exact ⟨⟨hI1.base _ _ ho, hd⟩, wpAny_mono (callV_sound hf hA hI1.base p1.sr p2 h2) (fun _ _ t => PX.trans p1 t) fun _ _ y => y⟩
    cases m1.inv with
    | nil =>
      cases h1
      exact PyProof.Rows.evalArgs_nil3 (fin [] s ⟨as, Step.refl hI.sr, .nil⟩)
    | cons q1 hn q2 =>
      have := ha _ _ _ env A E s ρ as Y σ σ₁ vs pos (MXs.cons q1 hn q2) hs hA hI h1
      rw [starEach_cons hn] at this ⊢
      exact Calls.evalArgs_plain (wpAny_mono this (fun us s₁ p => fin us s₁ p) fun _ _ y => y)

noncomputable def STo (C : Cx) (W : Wd) (Φ : Fn) (k : Nat) : Option X → Prop
  | none => True
  | some x => ST C W Φ k x
theorem sx_comp (O : Ok C W) {m : Bool} {kk : SrcK} {src elt : X} {slots : List Nat} {cond : Option X} (ha : SX C W Φ k src) (hc : STo C W Φ k cond) (he : SX C W Φ k elt) : SX C W Φ k (.comp m kk src slots cond elt) := by
  intro sc nm e env A E s ρ as Y σ σ' v hm hs hA hI hev
  have hend : ∀ D L s' m', PX C as (fun a => Y a ∨ a = L) σ' v s (.ref D) s' → s'.heap.Ns L m' → s.heap.get? L = none → (∀ x, v ≠ .tmp x) → compPost (model C.prog C.w) A E none (PX C as Y σ' v s) (.ref D) L (.ok .next) s' :=
    fun D L s' m' p hn hL hv => ⟨m', hn, fun h' hs' => p.drop hn hL hv hI.sr.xd hs'⟩
  cases hm.inv with
  | comp0 m1 m2 m3 m4 m5 =>
    rw [eval_ListComp]
    refine comp_core O ha he hend (fun cenv E s ρ' as Y σ σ' t b hs hI he ht => ?_) m1 m2 m3 m4 m5 hs hA hI hev
    cases he
    cases ht
    exact wpAny_tests_nil ⟨rfl, as, Step.refl hI.sr⟩
  | comp1 m1 m2 m3 m4 m5 m6 =>
    rw [eval_ListComp]
    refine comp_core O ha he hend (fun cenv E s ρ' as Y σ σ' t b hs hI he ht => ?_) m1 m2 m3 m4 m6 hs hA hI hev
    exact wpAny_tests_one (hc _ _ _ cenv A E s ρ' as Y σ σ' t b m5 hs hA hI he ht)

theorem sx_all (O : Ok C W) (hf : ∀ f, SF C Φ k f) (x : X) : SX C W Φ k x ∧ ST C W Φ k x :=
  X.rec (motive_1 := fun x => SX C W Φ k x ∧ ST C W Φ k x) (motive_2 := fun xs => SXs C W Φ k xs) (motive_3 := fun o => SXo C W Φ k o ∧ STo C W Φ k o)
    (fun i => have h := sx_var i; ⟨h, st_plain h fun _ _ _ m => by cases m.inv; rfl⟩)
    (fun x => have h := sx_lit x; ⟨h, st_plain h fun _ _ _ m => by cases m.inv <;> rfl⟩)
    (fun g x => have h := sx_glob O g x; ⟨h, st_plain h fun _ _ _ m => by cases m.inv; rfl⟩)
    (fun f => have h := sx_fnv O f; ⟨h, st_plain h fun _ _ _ m => by cases m.inv; rfl⟩)
    (fun op a b ha hb => have h := sx_bin (op := op) ha.1 hb.1; ⟨h, st_plain h fun _ _ _ m => by cases m.inv; rfl⟩)
    (fun a ha => have h := sx_neg ha.1; ⟨h, st_plain h fun _ _ _ m => by cases m.inv; rfl⟩)
    (fun a ha => ⟨sx_not ha.1, st_not ha.2⟩)
    (fun a b ha hb => ⟨sx_and ha.1 hb.1, st_and ha.2 hb.2⟩)
    (fun a b ha hb => ⟨sx_or ha.1 hb.1, st_or ha.2 hb.2⟩)
    (fun op a b ha hb => ⟨sx_cmp ha.1 hb.1, st_cmp ha.1 hb.1⟩)
    (fun o1 o2 a b c ha hb hc => ⟨sx_chain ha.1 hb.1 hc.1, st_chain ha.1 hb.1 hc.1⟩)
    (fun a ha => ⟨sx_isNotTrue ha.1, st_isNotTrue ha.1⟩)
    (fun es hes => have h := sx_tup hes; ⟨h, st_plain h fun _ _ _ m => by cases m.inv; rfl⟩)
    (fun m es hes => have h := sx_lst (m := m) hes; ⟨h, st_plain h fun _ _ _ m => by cases m.inv; rfl⟩)
    (have h := sx_dct O; ⟨h, st_plain h fun _ _ _ m => by cases m.inv; rfl⟩)
    (fun a i ha hi => have h := sx_sub ha.1 hi.1; ⟨h, st_plain h fun _ _ _ m => by cases m.inv; rfl⟩)
    (fun a lo hi ha hlo hhi => have h := sx_slc ha.1 hlo.1 hhi.1; ⟨h, st_plain h fun _ _ _ m => by cases m.inv; rfl⟩)
    (fun a ha => have h := sx_rev ha.1; ⟨h, st_plain h fun _ _ _ m => by cases m.inv; rfl⟩)
    (fun a b ha hb => have h := sx_cat ha.1 hb.1; ⟨h, st_plain h fun _ _ _ m => by cases m.inv; rfl⟩)
    (fun f m es hes => have h := sx_call O hf (f := f) (m := m) hes; ⟨h, st_plain h fun _ _ _ m => by cases m.inv; rfl⟩)
    (fun f es hf hes => ⟨(fun _ _ _ _ _ _ _ _ _ _ _ _ _ m => (Bool.noConfusion (m : false = true))), (fun _ _ _ _ _ _ _ _ _ _ _ _ _ _ m => (Bool.noConfusion (m : false = true)))⟩)
    (fun m b a ha => have h := sx_b1 O (m := m) (b := b) ha.1; ⟨h, st_plain h fun _ _ _ m => by cases m.inv; rfl⟩)
    (fun b a c ha hc => have h := sx_b2 O (b := b) ha.1 hc.1; ⟨h, st_plain h fun _ _ _ m => by cases m.inv; rfl⟩)
    (fun t a ha => have h := sx_isin O (t := t) ha.1; ⟨h, st_plain h fun _ _ _ m => by cases m.inv; rfl⟩)
    (fun c a ha => ⟨(fun _ _ _ _ _ _ _ _ _ _ _ _ _ m => (Bool.noConfusion (m : false = true))), (fun _ _ _ _ _ _ _ _ _ _ _ _ _ _ m => (Bool.noConfusion (m : false = true)))⟩)
    (fun a x ha hx => ⟨(fun _ _ _ _ _ _ _ _ _ _ _ _ _ m => (Bool.noConfusion (m : false = true))), (fun _ _ _ _ _ _ _ _ _ _ _ _ _ _ m => (Bool.noConfusion (m : false = true)))⟩)
    (fun m kk src slots cond elt hsrc hcond helt => have h := sx_comp O (m := m) (kk := kk) (slots := slots) hsrc.1 hcond.2 helt.1; ⟨h, st_plain h fun _ _ _ m => by cases m.inv <;> rfl⟩)
    sxs_nil
    (fun _ _ h1 h2 => sxs_cons h1.1 h2)
    ⟨trivial, trivial⟩
    (fun _ h => ⟨h.1, h.2⟩) x
theorem sxs_all (O : Ok C W) (hf : ∀ f, SF C Φ k f) (xs : List X) : SXs C W Φ k xs := by
  induction xs with
  | nil => exact sxs_nil
  | cons x xs ih => exact sxs_cons (sx_all O hf x).1 ih
end
end Mine
end

section
/-! M18: statements -/
namespace Mine
open PySem PySem.Spec PySem.SeqAt
set_option maxRecDepth 100000

/-- what an activation changes of its own -/
structure Wa (as as' : List Addr) (P X : Addr → Prop) (h h' : Heap) : Prop where
  sub : ∀ b, P b → b ∈ as ∨ X b
  keep : ∀ b o, ¬ P b → h.get? b = some o → h'.get? b = some o
  tup : ∀ b o vs n, P b → h.get? b = some o → o.data = .seq vs n → o.cls ≠ .type "tuple"
  old : ∀ (n : Nat) (a : Addr), as[n]? = some a → as'[n]? = some a
  out : ∀ a o, h.get? a = some o → a ∉ as → a ∉ as'

section
variable {C : Cx} {as as' : List Addr} {X P : Addr → Prop} {h h' : Heap}

theorem DR.wa {x : PyData} {u : Value} (r : DR as X h x u) (w : Wa as as' P X h h') : DR as' X h' x u := by
  obtain ⟨nd, fp, r, hf⟩ := r
  refine ⟨nd, fp, reads_out w.keep r nd fun b o vs n p e d => ⟨w.tup b o vs n p e d, fun m => (w.sub b p).elim (hf b m).1 (hf b m).2⟩, fun a m => ?_⟩
  obtain ⟨o, e⟩ := reads_mem r a m
  exact ⟨w.out a o e (hf a m).1, (hf a m).2⟩
theorem VR.wa {v : V} {u : Value} (r : VR C as X h v u) (w : Wa as as' P X h h') (hs : ∀ x, v ≠ .tmp x) : VR C as' X h' v u := by
  cases v with
  | d x => exact DR.wa r w
  | ref n => obtain ⟨a, e, rfl⟩ := r; exact ⟨a, w.old n a e, rfl⟩
  | fn f => exact r
  | pd ks vs =>
    obtain ⟨a, vals, rfl, h1, h2, h3, h4, h5⟩ := r
    have hd := h4
    obtain ⟨_, ⟨o, _, _, e, _⟩, _⟩ := hd
    exact ⟨a, vals, rfl, w.out a o e h1, h2, h3, h4.keepP w.keep w.tup fun p => (w.sub a p).elim h1 h2, h5.mono fun _ _ r => r.wa w⟩
  | ex c =>
    obtain ⟨e, o, rfl, h1, h2, h3, h4⟩ := r
    exact ⟨e, o, rfl, w.keep _ _ (fun p => (w.sub _ p).elim h3 h4) h1, h2, w.out e o h1 h3, h4⟩
  | tmp x => exact absurd rfl (hs x)
  | undef => trivial
theorem All2.vrWa {vs : List V} {us : List Value} (r : All2 (VR C as X h) vs us) (w : Wa as as' P X h h') (hs : vs.all stor = true) : All2 (VR C as' X h') vs us := by
  induction r with
  | nil => exact .nil
  | cons p _ ih =>
    simp only [List.all_cons, Bool.and_eq_true] at hs
    exact .cons (p.wa w (stor_tmp hs.1)) (ih hs.2)
theorem OR.wa {a : Addr} {o : O} (r : OR C as X h a o) (w : Wa as as' P X h h') (ha : ¬ P a) : OR C as' X h' a o := by
  cases o with
  | list xs =>
    obtain ⟨vs, ⟨n, e⟩, h2, h3⟩ := r
    exact ⟨vs, ⟨n, w.keep _ _ ha e⟩, h2.vrWa w h3, h3⟩
  | dict ks vs =>
    obtain ⟨vals, h1, h2, h3, h4⟩ := r
    exact ⟨vals, h1.keepP w.keep w.tup ha, h2.vrWa w h3, h3, h4⟩

/-- an own object is changed -/
theorem SR.put {σ : St} {n : Nat} {a : Addr} {o o' : O} (r : SR C as X σ h) (hn : σ[n]? = some o) (ha : as[n]? = some a) (hk : ∀ b ob, b ≠ a → h.get? b = some ob → h'.get? b = some ob) (ho : OR C as X h' a o') : Wa as as (fun b => b = a) X h h' ∧ SR C as X (σ.set n o') h' := by
  have ham : a ∈ as := List.mem_of_getElem? ha
  have w : Wa as as (fun b => b = a) X h h' := ⟨fun b e => .inl (e ▸ ham), fun b o n e => hk b o n e, fun b ob vs m e e1 e2 => by
    subst e
    obtain ⟨ob', e', hc⟩ := r.asOk b ham
    rw [e1] at e'; cases e'; exact hc, fun _ _ e => e, fun _ _ _ p => p⟩
  refine ⟨w, by simp [r.len], r.nodup, fun m q b e1 e2 => ?_, r.fresh, fun b x => ?_⟩
  · by_cases hmn : m = n
    · subst hmn
      rw [List.getElem?_set_self (List.getElem?_eq_some_iff.mp hn).1] at e1
      cases e1
      rw [ha] at e2; cases e2
      exact ho
    · rw [List.getElem?_set_ne (Ne.symm hmn)] at e1
      have hba : b ≠ a := fun e => by
        subst e
        exact hmn ((List.getElem?_inj (List.getElem?_eq_some_iff.mp e2).1 r.nodup).mp (e2.trans ha.symm))
      exact (r.obj m q b e1 e2).wa w hba
  · obtain ⟨o, e⟩ := r.xd b x
    exact ⟨o, hk b o (fun q => (r.fresh a ham).2 (q ▸ x)) e⟩
end

section
variable {C : Cx} {W : Wd} {Φ : Fn} {k : Nat}

/-- a frame, its own objects changed -/
theorem FR.wa {env : PySem.Env} {nm : Nm} {ρ : Rho} {as as' : List Addr} {X P : Addr → Prop} {h h' : Heap} (r : FR C env nm ρ as X h) (w : Wa as as' P X h h') (hp : ∀ b, P b → ¬ X b) : FR C env nm ρ as' X h' where
  kind := r.kind
  glob := r.glob
  blt := r.blt
  ns := by
    obtain ⟨m, h1, h2⟩ := r.ns
    exact ⟨m, h1.at' fun o e => w.keep _ o (fun p => hp _ p r.locX) e, fun x i v a b c d => by obtain ⟨u, e1, e2⟩ := h2 x i v a b c d; exact ⟨u, e1, e2.wa w (stor_tmp d)⟩⟩
  cell := fun x i a b => by
    obtain ⟨c, u, e1, e2, e3⟩ := r.cell x i a b
    obtain ⟨o, e4, e5⟩ := e2
    exact ⟨c, u, e1, ⟨o, w.keep _ o (fun p => hp _ p (r.cellX x c e1).1) e4, e5⟩, fun v p q => by obtain ⟨y, e4, e5⟩ := e3 v p q; exact ⟨y, e4, e5.wa w (stor_tmp q)⟩⟩
  known := r.known
  locX := r.locX
  cellX := r.cellX
  apart := r.apart
  base := r.base
  inj := r.inj
  cellO := fun x c e => by
    obtain ⟨u, o, e4, e5⟩ := r.cellO x c e
    exact ⟨u, o, w.keep _ o (fun p => hp _ p (r.cellX x c e).1) e4, e5⟩

/-- an own object changed, all told -/
theorem Inv.put {env : PySem.Env} {nm : Nm} {ρ : Rho} {as : List Addr} {Y : Addr → Prop} {σ : St} {s : Shared} {n : Nat} {a : Addr} {o o' : O} {h' : Heap} {t : Nat} (hI : Inv C env nm ρ as Y σ s) (hn : σ[n]? = some o) (ha : as[n]? = some a)
    (hk : ∀ b ob, b ≠ a → s.heap.get? b = some ob → h'.get? b = some ob) (ho : OR C as Y h' a o') : Inv C env nm ρ as Y (σ.set n o') { s with heap := h', toks := t } ∧ StepS env as as s { s with heap := h', toks := t } := by
  have ham : a ∈ as := List.mem_of_getElem? ha
  obtain ⟨w, sr⟩ := hI.sr.put hn ha hk ho
  obtain ⟨ob, eo, _⟩ := ho.obj
  refine ⟨⟨fun b o e => hk b o (fun q => by rw [q, (hI.sr.fresh a ham).1] at e; cases e) (hI.base b o e), hI.fr.wa w fun b e => e ▸ (hI.sr.fresh a ham).2, sr⟩, ⟨_, _, rfl⟩, fun b o n _ _ e => hk b o (fun q => n (q ▸ ham)) e, ⟨[], by simp, fun _ m => nomatch m⟩, fun b o e => ?_⟩
  by_cases hb : b = a
  · exact ⟨ob, hb ▸ eo⟩
  · exact ⟨o, hk b o hb e⟩

/-- what a statement changed -/
theorem StepS.wa {env : PySem.Env} {nm : Nm} {ρ : Rho} {as as' : List Addr} {Y : Addr → Prop} {σ : St} {s s' : Shared} (hI : Inv C env nm ρ as Y σ s) (st : StepS env as as' s s') : Wa as as' (fun b => b ∈ as ∨ envF env b) Y s.heap s'.heap := by
  obtain ⟨new, rfl, hn⟩ := st.new
  refine ⟨fun b p => ?_, fun b o n e => st.keep b o (fun q => n (.inl q)) (fun q => n (.inr (.inl q))) (fun x c q r => n (.inr (.inr ⟨x, c, q, r⟩))) e, fun b o vs m p e d => ?_, fun n a e => by rw [List.getElem?_append_left (List.getElem?_eq_some_iff.mp e).1]; exact e, fun a o e p q => ?_⟩
  · rcases p with p | rfl | ⟨x, c, e, rfl⟩
    · exact .inl p
    · exact .inr hI.fr.locX
    · exact .inr (hI.fr.cellX x b e).1
  · rcases p with p | rfl | ⟨x, c, q, rfl⟩
    · obtain ⟨o', e', hc⟩ := hI.sr.asOk b p
      rw [e] at e'; cases e'; exact hc
    · obtain ⟨m, ⟨o', _, _, e', hd, _⟩, _⟩ := hI.fr.ns
      rw [e] at e'; cases e'; rw [hd] at d; cases d
    · obtain ⟨u, o', e', hd⟩ := hI.fr.cellO x b q
      rw [e] at e'; cases e'; rw [hd] at d; cases d
  · rcases List.mem_append.mp q with q | q
    · exact p q
    · rw [hn a q] at e; cases e
end
end Mine
end

section
/-! M19: statements, one by one -/
namespace Mine
open PySem PySem.Spec PySem.SeqAt
set_option maxRecDepth 100000

noncomputable def notTuple : Expr → Bool
  | .Tuple .. => false
  | _ => true
noncomputable def notComp : Expr → Bool
  | .ListComp .. => false
  | .SetComp .. => false
  | .DictComp .. => false
  | _ => true

noncomputable def isCompX : X → Bool
  | .comp .. => true
  | _ => false
theorem isComp_eq {e : X} (h : isCompX e = true) : ∃ m k src slots cond elt, e = .comp m k src slots cond elt := by
  cases e with
  | comp m k src slots cond elt => exact ⟨_, _, _, _, _, _, rfl⟩
  | _ => exact Bool.noConfusion (h : false = true)
mutual
noncomputable def chkS (W : Wd) : S → Sc → Nm → Stmt → Bool
  | .assign i e, sc, nm, t => (match t with | .Assign [.Name x _] l _ => nm.lookup x == some i && (notComp l || isCompX e) && chkX W e sc nm l | _ => false)
  | .unpack is e, sc, nm, t => (match t with
    | .Assign [.Tuple elts _ _] l _ => (match tgtsN elts is with
      | some ts => ts.all (fun t => nm.lookup t.1 == some t.2) && chkX W e sc nm l && notTuple l && notComp l
      | none => false)
    | _ => false)
  | .append a v, sc, nm, t => (match t with
    | .Expr (.Call (.Attribute (.Name x q) y apos) [elt] [] pos) _ => y == ("append" : Str) && chkX W a sc nm (.Name x q) && chkX W v sc nm elt && notStar elt && (apos.endLine == pos.line)
    | _ => false)
  | .expr e, sc, nm, t => (match t with | .Expr l _ => chkX W e sc nm l && notComp l | _ => false)
  | .ite c a b, sc, nm, t => (match t with | .If l body orelse _ => chkX W c sc nm l && chkSs W a sc nm body && chkSs W b sc nm orelse | _ => false)
  | .forS k src slots body, sc, nm, t => (match t with
    | .For target iter b [] _ => (match chkSrc sc k iter, tgts target slots with
      | some e, some ts => chkX W src sc nm e && ts.all (fun t => nm.lookup t.1 == some t.2) && chkSs W body sc nm b
      | _, _ => false)
    | _ => false)
  | .whileS _ c body, sc, nm, t => (match t with | .While l b [] _ => chkX W c sc nm l && chkSs W body sc nm b | _ => false)
  | .ret e, sc, nm, t => (match t with | .Return (some l) _ => chkX W e sc nm l | _ => false)
  | .raise _, _, _, _ => true
  | .setitem .., _, _, _ => false
  | .extend a v, sc, nm, t => (match t with
    | .Expr (.Call (.Attribute (.Name x q) y apos) [elt] [] pos) _ => y == ("extend" : Str) && chkX W a sc nm (.Name x q) && chkX W v sc nm elt && notStar elt && (apos.endLine == pos.line)
    | _ => false)
  | .insert .., _, _, _ => false
  | .sdapp .., _, _, _ => false
  | .tryS .., _, _, _ => false
noncomputable def chkSs (W : Wd) : List S → Sc → Nm → List Stmt → Bool
  | [], _, _, ts => ts.isEmpty
  | x :: xs, sc, nm, ts => (match ts with
    | t :: ts => chkS W x sc nm t && chkSs W xs sc nm ts
    | [] => false)
end
noncomputable def MS (W : Wd) (sc : Sc) (nm : Nm) (x : S) (t : Stmt) : Prop := chkS W x sc nm t = true
noncomputable def MSs (W : Wd) (sc : Sc) (nm : Nm) (x : List S) (t : List Stmt) : Prop := chkSs W x sc nm t = true

section
variable (W : Wd) (sc : Sc) (nm : Nm)
inductive Sassign (i : Nat) (e : X) : Stmt → Prop where
  | assign {x p l pos} : nm.lookup x = some i → (notComp l || isCompX e) = true → MX W sc nm e l → Sassign i e (.Assign [.Name x p] l pos)
inductive Sunpack (is : List Nat) (e : X) : Stmt → Prop where
  | unpack {elts kk p l pos ts} : tgtsN elts is = some ts → (∀ t ∈ ts, nm.lookup t.1 = some t.2) → MX W sc nm e l → notTuple l = true → notComp l = true → Sunpack is e (.Assign [.Tuple elts kk p] l pos)
inductive Sappend (a v : X) : Stmt → Prop where
  | append {x q apos elt pos epos} : MX W sc nm a (.Name x q) → MX W sc nm v elt → notStar elt = true → (apos.endLine == pos.line) = true → Sappend a v (.Expr (.Call (.Attribute (.Name x q) "append" apos) [elt] [] pos) epos)
inductive Sextend (a v : X) : Stmt → Prop where
  | extend {x q apos elt pos epos} : MX W sc nm a (.Name x q) → MX W sc nm v elt → notStar elt = true → (apos.endLine == pos.line) = true → Sextend a v (.Expr (.Call (.Attribute (.Name x q) "extend" apos) [elt] [] pos) epos)
inductive Sexpr (e : X) : Stmt → Prop where
  | expr {l pos} : MX W sc nm e l → notComp l = true → Sexpr e (.Expr l pos)
inductive Site (c : X) (t e : List S) : Stmt → Prop where
  | ite {l body orelse pos} : MX W sc nm c l → MSs W sc nm t body → MSs W sc nm e orelse → Site c t e (.If l body orelse pos)
inductive Sfor (kk : SrcK) (src : X) (slots : List Nat) (body : List S) : Stmt → Prop where
  | forS {e iter target ts b pos} : MX W sc nm src e → MSrc sc kk e iter → tgts target slots = some ts → (∀ t ∈ ts, nm.lookup t.1 = some t.2) → MSs W sc nm body b → Sfor kk src slots body (.For target iter b [] pos)
inductive Swhile (c : X) (body : List S) : Stmt → Prop where
  | whileS {l b pos} : MX W sc nm c l → MSs W sc nm body b → Swhile c body (.While l b [] pos)
inductive Sret (e : X) : Stmt → Prop where
  | ret {l pos} : MX W sc nm e l → Sret e (.Return (some l) pos)
inductive Sss : List S → List Stmt → Prop where
  | nil : Sss [] []
  | cons {s st ss sts} : MS W sc nm s st → MSs W sc nm ss sts → Sss (s :: ss) (st :: sts)
noncomputable def SI : S → Stmt → Prop
  | .assign i e => Sassign W sc nm i e
  | .unpack is e => Sunpack W sc nm is e
  | .append a v => Sappend W sc nm a v
  | .expr e => Sexpr W sc nm e
  | .ite c t e => Site W sc nm c t e
  | .forS k src slots body => Sfor W sc nm k src slots body
  | .whileS _ c body => Swhile W sc nm c body
  | .ret e => Sret W sc nm e
  | .raise _ => fun _ => True
  | .setitem .. => fun _ => False
  | .extend a v => Sextend W sc nm a v
  | .insert .. => fun _ => False
  | .sdapp .. => fun _ => False
  | .tryS .. => fun _ => False
end
theorem all_lookup {nm ts : Nm} (h : ts.all (fun t => nm.lookup t.1 == some t.2) = true) : ∀ t ∈ ts, nm.lookup t.1 = some t.2 := fun t m => beq_iff_eq.mp (List.all_eq_true.mp h t m)
section
variable {W : Wd} {sc : Sc} {nm : Nm} {t : Stmt}
theorem sinv_assign {i : Nat} {e : X} (h : MS W sc nm (.assign i e) t) : Sassign W sc nm i e t := by
  cases t with
  | Assign ts l p =>
    rcases ts with _ | ⟨y, ys⟩
    · exact Bool.noConfusion (h : false = true)
    · cases y with
      | Name x q => cases ys with
        | nil =>
          have h : (nm.lookup x == some i && (notComp l || isCompX e) && chkX W e sc nm l) = true := h
          exact .assign (beq_iff_eq.mp (and1 (and1 h))) (and2 (and1 h)) (and2 h)
        | cons _ _ => exact Bool.noConfusion (h : false = true)
      | _ => exact Bool.noConfusion (h : false = true)
  | _ => exact Bool.noConfusion (h : false = true)
theorem sinv_unpack {is : List Nat} {e : X} (h : MS W sc nm (.unpack is e) t) : Sunpack W sc nm is e t := by
  cases t with
  | Assign ts l p =>
    rcases ts with _ | ⟨y, ys⟩
    · exact Bool.noConfusion (h : false = true)
    · cases y with
      | Tuple elts kk q => cases ys with
        | nil =>
          have h : (match tgtsN elts is with
            | some ts => ts.all (fun t => nm.lookup t.1 == some t.2) && chkX W e sc nm l && notTuple l && notComp l
            | none => false) = true := h
          cases h1 : tgtsN elts is with
          | none => rw [h1] at h; exact Bool.noConfusion (h : false = true)
          | some ts =>
            rw [h1] at h
            have h : (ts.all (fun t => nm.lookup t.1 == some t.2) && chkX W e sc nm l && notTuple l && notComp l) = true := h
            exact .unpack h1 (all_lookup (and1 (and1 (and1 h)))) (and2 (and1 (and1 h))) (and2 (and1 h)) (and2 h)
        | cons _ _ => exact Bool.noConfusion (h : false = true)
      | _ => exact Bool.noConfusion (h : false = true)
  | _ => exact Bool.noConfusion (h : false = true)
theorem sinv_append {a v : X} (h : MS W sc nm (.append a v) t) : Sappend W sc nm a v t := by
  cases t with
  | Expr l p =>
    cases l with
    | Call g ls ks pos =>
      cases g with
      | Attribute o y apos =>
        cases o with
        | Name x q =>
          rcases ls with _ | ⟨elt, _ | ⟨_, _⟩⟩ <;> cases ks <;> try exact Bool.noConfusion (h : false = true)
          have h : (y == ("append" : Str) && chkX W a sc nm (.Name x q) && chkX W v sc nm elt && notStar elt && (apos.endLine == pos.line)) = true := h
          have h1 := and1 (and1 (and1 h))
          rw [beq_iff_eq.mp (and1 h1)]
          exact .append (and2 h1) (and2 (and1 (and1 h))) (and2 (and1 h)) (and2 h)
        | _ => exact Bool.noConfusion (h : false = true)
      | _ => exact Bool.noConfusion (h : false = true)
    | _ => exact Bool.noConfusion (h : false = true)
  | _ => exact Bool.noConfusion (h : false = true)
theorem sinv_extend {a v : X} (h : MS W sc nm (.extend a v) t) : Sextend W sc nm a v t := by
  cases t with
  | Expr l p =>
    cases l with
    | Call g ls ks pos =>
      cases g with
      | Attribute o y apos =>
        cases o with
        | Name x q =>
          rcases ls with _ | ⟨elt, _ | ⟨_, _⟩⟩ <;> cases ks <;> try exact Bool.noConfusion (h : false = true)
          have h : (y == ("extend" : Str) && chkX W a sc nm (.Name x q) && chkX W v sc nm elt && notStar elt && (apos.endLine == pos.line)) = true := h
          have h1 := and1 (and1 (and1 h))
          rw [beq_iff_eq.mp (and1 h1)]
          exact .extend (and2 h1) (and2 (and1 (and1 h))) (and2 (and1 h)) (and2 h)
        | _ => exact Bool.noConfusion (h : false = true)
      | _ => exact Bool.noConfusion (h : false = true)
    | _ => exact Bool.noConfusion (h : false = true)
  | _ => exact Bool.noConfusion (h : false = true)
theorem sinv_expr {e : X} (h : MS W sc nm (.expr e) t) : Sexpr W sc nm e t := by
  cases t with
  | Expr l p =>
    have h : (chkX W e sc nm l && notComp l) = true := h
    exact .expr (and1 h) (and2 h)
  | _ => exact Bool.noConfusion (h : false = true)
theorem sinv_ite {c : X} {a b : List S} (h : MS W sc nm (.ite c a b) t) : Site W sc nm c a b t := by
  cases t with
  | If l x y p =>
    have h : (chkX W c sc nm l && chkSs W a sc nm x && chkSs W b sc nm y) = true := h
    exact .ite (and1 (and1 h)) (and2 (and1 h)) (and2 h)
  | _ => exact Bool.noConfusion (h : false = true)
theorem sinv_for {k : SrcK} {src : X} {slots : List Nat} {body : List S} (h : MS W sc nm (.forS k src slots body) t) : Sfor W sc nm k src slots body t := by
  cases t with
  | For target iter b els p =>
    cases els with
    | cons _ _ => exact Bool.noConfusion (h : false = true)
    | nil =>
      have h : (match chkSrc sc k iter, tgts target slots with
        | some e, some ts => chkX W src sc nm e && ts.all (fun t => nm.lookup t.1 == some t.2) && chkSs W body sc nm b
        | _, _ => false) = true := h
      cases h1 : chkSrc sc k iter with
      | none => rw [h1] at h; exact Bool.noConfusion (h : false = true)
      | some e' => cases h2 : tgts target slots with
        | none => rw [h1, h2] at h; exact Bool.noConfusion (h : false = true)
        | some ts =>
          rw [h1, h2] at h
          have h : (chkX W src sc nm e' && ts.all (fun t => nm.lookup t.1 == some t.2) && chkSs W body sc nm b) = true := h
          exact .forS (and1 (and1 h)) (chkSrc_ok h1) h2 (all_lookup (and2 (and1 h))) (and2 h)
  | _ => exact Bool.noConfusion (h : false = true)
theorem sinv_while {n : Nat} {c : X} {body : List S} (h : MS W sc nm (.whileS n c body) t) : Swhile W sc nm c body t := by
  cases t with
  | While l b els p =>
    cases els with
    | cons _ _ => exact Bool.noConfusion (h : false = true)
    | nil =>
      have h : (chkX W c sc nm l && chkSs W body sc nm b) = true := h
      exact .whileS (and1 h) (and2 h)
  | _ => exact Bool.noConfusion (h : false = true)
theorem sinv_ret {e : X} (h : MS W sc nm (.ret e) t) : Sret W sc nm e t := by
  cases t with
  | Return l p => cases l with
    | some l => exact .ret h
    | none => exact Bool.noConfusion (h : false = true)
  | _ => exact Bool.noConfusion (h : false = true)
theorem MS.inv {x : S} (h : MS W sc nm x t) : SI W sc nm x t := by
  cases x with
  | assign => exact sinv_assign h
  | unpack => exact sinv_unpack h
  | append => exact sinv_append h
  | extend => exact sinv_extend h
  | expr => exact sinv_expr h
  | ite => exact sinv_ite h
  | forS => exact sinv_for h
  | whileS => exact sinv_while h
  | ret => exact sinv_ret h
  | raise => exact trivial
  | _ => exact Bool.noConfusion (h : false = true)
theorem MSs.inv {xs : List S} {ts : List Stmt} (h : MSs W sc nm xs ts) : Sss W sc nm xs ts := by
  cases xs with
  | nil => cases ts with
    | nil => exact .nil
    | cons _ _ => exact Bool.noConfusion (h : false = true)
  | cons x xs => cases ts with
    | nil => exact Bool.noConfusion (h : false = true)
    | cons t ts =>
      have h : (chkS W x sc nm t && chkSs W xs sc nm ts) = true := h
      exact .cons (and1 h) (and2 h)
end

noncomputable def FlowR (C : Cx) (as : List Addr) (Y : Addr → Prop) (h : Heap) : Flo → Flow → Prop
  | .next, .next => True
  | .ret v, .ret u => VR C as Y h v u ∧ stor v = true
  | _, _ => False
noncomputable def PS (C : Cx) (env : PySem.Env) (nm : Nm) (ρ' : Rho) (as : List Addr) (Y : Addr → Prop) (σ' : St) (fl : Flo) (s : Shared) (f : Flow) (s' : Shared) : Prop :=
  ∃ as', StepS env as as' s s' ∧ Inv C env nm ρ' as' Y σ' s' ∧ FlowR C as' Y s'.heap fl f

section
variable (C : Cx) (W : Wd) (Φ : Fn)
noncomputable def SS (k : Nat) (st : S) : Prop := ∀ (sc : Sc) (nm : Nm) (t : Stmt) (env : PySem.Env) (A : Around) (E : Value → Shared → Prop) (s : Shared) (ρ ρ' : Rho) (as : List Addr) (Y : Addr → Prop) (σ σ' : St) (fl : Flo),
  MS W sc nm st t → env.scope.names = sc → AOk A k → Inv C env nm ρ as Y σ s → ex Φ st ρ σ = .ok (fl, ρ', σ') → wpAny (model C.prog C.w) A (exec t env) (PS C env nm ρ' as Y σ' fl s) E s
noncomputable def SSs (k : Nat) (ss : List S) : Prop := ∀ (sc : Sc) (nm : Nm) (ts : List Stmt) (env : PySem.Env) (A : Around) (E : Value → Shared → Prop) (s : Shared) (ρ ρ' : Rho) (as : List Addr) (Y : Addr → Prop) (σ σ' : St) (fl : Flo),
  MSs W sc nm ss ts → env.scope.names = sc → AOk A k → Inv C env nm ρ as Y σ s → exs Φ ss ρ σ = .ok (fl, ρ', σ') → wpAny (model C.prog C.w) A (execs ts env) (PS C env nm ρ' as Y σ' fl s) E s
end

section
variable {C : Cx} {W : Wd} {Φ : Fn} {k : Nat}

theorem PS.trans {env : PySem.Env} {nm : Nm} {ρ' : Rho} {as as₁ : List Addr} {Y : Addr → Prop} {σ' : St} {fl : Flo} {s s₁ s' : Shared} {f : Flow} (a : StepS env as as₁ s s₁) (b : PS C env nm ρ' as₁ Y σ' fl s₁ f s') : PS C env nm ρ' as Y σ' fl s f s' :=
  let ⟨as', h1, h2, h3⟩ := b; ⟨as', a.trans h1, h2, h3⟩

theorem FR.drop {env : PySem.Env} {nm : Nm} {ρ : Rho} {as : List Addr} {X X' : Addr → Prop} {h h' : Heap} {L : Addr} (r : FR C env nm ρ as X' h) (w : Wr (fun b => b = L) X' h h') (hx : ∀ a, X a → X' a) (hl : env.locals ≠ L) (hc : ∀ x c, env.cells.lookup x = some c → c ≠ L) (hX : X env.locals) (hXc : ∀ x c, env.cells.lookup x = some c → X c) : FR C env nm ρ as X h' where
  kind := r.kind
  glob := r.glob
  blt := r.blt
  ns := by
    obtain ⟨m, h1, h2⟩ := r.ns
    exact ⟨m, h1.at' fun o e => w.keep _ o hl e, fun x i v a b c d => by obtain ⟨u, e1, e2⟩ := h2 x i v a b c d; exact ⟨u, e1, (e2.but w (stor_tmp d)).wider hx⟩⟩
  cell := fun x i a b => by
    obtain ⟨c, u, e1, e2, e3⟩ := r.cell x i a b
    obtain ⟨o, e4, e5⟩ := e2
    exact ⟨c, u, e1, ⟨o, w.keep _ o (hc x c e1) e4, e5⟩, fun v p q => by obtain ⟨y, e4, e5⟩ := e3 v p q; exact ⟨y, e4, (e5.but w (stor_tmp q)).wider hx⟩⟩
  known := r.known
  locX := hX
  cellX := fun x c e => ⟨hXc x c e, (r.cellX x c e).2⟩
  apart := r.apart
  base := r.base
  inj := r.inj
  cellO := fun x c e => by
    obtain ⟨u, o, e4, e5⟩ := r.cellO x c e
    exact ⟨u, o, w.keep _ o (hc x c e) e4, e5⟩

theorem swaps_false {l : Expr} (h : notComp l = true) (t : Option Expr) (n : Nat) (env : PySem.Env) : swapsWith l t n env = pure false := by
  cases l <;> first | rfl | exact Bool.noConfusion (h : false = true)
theorem swapsSole_false {t l : Expr} {n : Nat} {env : PySem.Env} (h : notComp l = true) : swapsWithSole [t] l n env = pure false := by
  unfold swapsWithSole
  exact swaps_false h _ _ _
theorem swappedStores_none {elts : List Expr} {kk} {p : Pos} {l : Expr} (h : notTuple l = true) (env : PySem.Env) : swappedStores [.Tuple elts kk p] l env = pure none := by
  cases l <;> first | rfl | exact Bool.noConfusion (h : false = true)

theorem ss_ret {e : X} (he : SX C W Φ k e) : SS C W Φ k (.ret e) := by
  intro sc nm t env A E s ρ ρ' as Y σ σ' fl hm hs hA hI hex
  obtain ⟨⟨v, σ₁⟩, h1, h2⟩ := R.bind_inv hex
  dsimp only at h2
  split at h2
  · rename_i hst
    cases h2
    cases hm.inv with
    | ret m1 =>
      refine wpAny_Return_some (wpAny_mono (he _ _ _ env A E s ρ as Y σ _ v m1 hs hA hI h1) (fun u s₁ p => ?_) fun _ _ y => y)
      obtain ⟨as₁, p1, p2⟩ := p
      exact ⟨as₁, p1.toS, hI.step p1, p2, hst⟩
  · cases h2

theorem ss_expr {e : X} (he : SX C W Φ k e) : SS C W Φ k (.expr e) := by
  intro sc nm t env A E s ρ ρ' as Y σ σ' fl hm hs hA hI hex
  obtain ⟨⟨v, σ₁⟩, h1, h2⟩ := R.bind_inv hex
  dsimp only at h2
  cases hm.inv with
  | expr m1 hn =>
    refine wpAny_Expr (wpAny_mono (he _ _ _ env A E s ρ as Y σ σ₁ v m1 hs hA hI h1) (fun u s₁ p => ?_) fun _ _ y => y) (by unfold interactive; rw [hI.fr.kind]; rfl) (swaps_false hn _ _ _)
    obtain ⟨as₁, p1, p2⟩ := p
    split at h2
    · cases h2
      obtain ⟨_, _, rr, _⟩ := p2
      cases rr
      exact ⟨as₁, p1.toS, hI.step p1, trivial⟩
    · cases h2
      obtain rfl := DR.bool_inv p2
      exact ⟨as₁, p1.toS, hI.step p1, trivial⟩
    · cases h2

theorem ss_unpack {is : List Nat} {e : X} (he : SX C W Φ k e) : SS C W Φ k (.unpack is e) := by
  intro sc nm t env A E s ρ ρ' as Y σ σ' fl hm hs hA hI hex
  obtain ⟨⟨v, σ₁⟩, h1, h2⟩ := R.bind_inv hex
  dsimp only at h2
  cases hm.inv with
  | unpack m1 m2 m3 m4 m5 =>
    split at h2
    · rename_i ds
      obtain ⟨ρ₁, h3, h4⟩ := R.bind_inv h2
      have h3 := ofO_inv h3
      cases h4
      refine PyProof.Rows.Assign_Tuple (wpAny_mono (he _ _ _ env A E s ρ as Y σ _ _ m3 hs hA hI h1) (fun u s₁ p => ?_) fun _ _ y => y) (swapsSole_false m5) (swappedStores_none m4 env)
      obtain ⟨as₁, p1, p2⟩ := p
      exact tuple_sound (F := envF env) hA.hd m1 (fun t m => ⟨m2 t m, frOk_env env t.1⟩) h3 (hI.step p1) p2 fun h' tk hI' hw => ⟨as₁, p1.toS.trans hw.stepS, hI', trivial⟩
    · cases h2

theorem ss_append {a v : X} (ha : SX C W Φ k a) (hv : SX C W Φ k v) : SS C W Φ k (.append a v) := by
  intro sc nm t env A E s ρ ρ' as Y σ σ' fl hm hs hA hI hex
  obtain ⟨⟨x, σ₁⟩, h1, h2⟩ := R.bind_inv hex
  obtain ⟨⟨y, σ₂⟩, h3, h4⟩ := R.bind_inv h2
  dsimp only at h3 h4
  split at h4
  · rename_i hst
    simp only [Bool.and_eq_true] at hst
    obtain ⟨hst, hisL⟩ := hst
    obtain ⟨σ₃, h5, h6⟩ := R.bind_inv h4
    have h5 := ofO_inv h5
    cases h6
    unfold updL at h5
    split at h5
    · rename_i n
      split at h5
      · rename_i xs hxs
        obtain ⟨ys, h6, rfl⟩ := Option.map_eq_some_iff.mp h5
        unfold appendF at h6
        split at h6
        · rename_i hlen
          cases h6
          cases hm.inv with
          | append m1 m2 hn hl =>
            refine wpAny_Expr (wpAny_Call_append rfl (by rw [starEach_cons hn]; rfl) hl (by rw [starEach_cons hn]; rfl) (wpAny_mono (ha _ _ _ env A E s ρ as Y σ σ₁ _ m1 hs hA hI h1) (fun u s₁ p => ?_) fun _ _ y => y)) (by unfold interactive; rw [hI.fr.kind]; rfl) rfl
            obtain ⟨as₁, p1, p2⟩ := p
            obtain ⟨b, hb, rfl⟩ := p2
            have hI1 := hI.step p1
            have hpl : ∃ its, s₁.heap.PlainList b its := by
              unfold isL at hisL
              dsimp only at hisL
              split at hisL
              · rename_i zs hz
                obtain ⟨vs, hp, _⟩ := p1.sr.obj _ _ b hz hb
                exact ⟨vs, hp⟩
              · cases hisL
            obtain ⟨its, mm, hpl⟩ := hpl
            refine ⟨b, its, rfl, ⟨_, mm, hpl, rfl, rfl, rfl⟩, wpAny_mono (hv _ _ _ env A E s₁ ρ as₁ Y σ₁ σ₂ y m2 hs hA hI1 h3) (fun w' s₂ q => ?_) fun _ _ y => y⟩
            obtain ⟨as₂, q1, q2⟩ := q
            have hI2 := hI1.step q1
            have hb2 := q1.grow.old _ _ hb
            obtain ⟨vs, hp, hall, hst'⟩ := q1.sr.obj _ _ b hxs hb2
            have hlv := hall.length
            refine wpAny_list_append_plain hp (fun h' hp' hs' => ?_) (by
              rw [sizeLine_eq]
              have : vs.size = vs.toList.length := by simp
              omega)
            have w : Wa as₂ as₂ (fun c => c = b) Y s₂.heap h' := ⟨fun c e => .inl (e ▸ List.mem_of_getElem? hb2), fun c o n e => hs'.extBut c o n e, fun c o vs' m' e e1 e2 => by
              subst e
              obtain ⟨ob', e', hc⟩ := q1.sr.asOk c (List.mem_of_getElem? hb2)
              rw [e1] at e'; cases e'; exact hc, fun _ _ e => e, fun _ _ _ p => p⟩
            have ho : OR C as₂ Y h' b (.list (xs ++ [y])) := ⟨vs.push w', hp', by
              rw [Array.toList_push]
              exact (hall.vrWa w hst').append (.cons (q2.wa w (stor_tmp hst)) .nil), by simp [hst', hst]⟩
            obtain ⟨i1, i2⟩ := hI2.put (t := s₂.toks) hxs hb2 (fun c o n e => hs'.extBut c o n e) ho
            exact ⟨as₂, (p1.toS.trans q1.toS).trans i2, i1, trivial⟩
        · cases h6
      · cases h5
    · cases h5
  · cases h4

/-- list.extend with a list whose object is known but for its dict and slots -/
theorem list_extendW (l b : Addr) (items items2 : Array Value) (n n2 : Nat) (dd : Option Addr) (sl : Array (Option Value)) (hc0 : ¬(!items.isEmpty && Builtin.List.listTooLong (items.size + items2.size)) = true) (hc1 : items.size ≤ sizeLine) (hs2 : items.size + items2.size ≤ sizeLine + 1) :
    Meets (Builtin.«list.extend» ⟨[.ref l, .ref b], []⟩) (fun _ R s => s.heap.get? l = some { cls := .type "list", dict := none, data := .seq items n, slots := #[] } ∧ s.heap.get? b = some { cls := .type "list", dict := dd, data := .seq items2 n2, slots := sl } ∧ R (.ok (.ret Value.none)) { s with heap := s.heap.update l (Obj.mapSeq fun x => x ++ items2), toks := s.toks }) :=
  .of_wp fun prog w A R s h => by
    obtain ⟨hp, g, d, tk, os⟩ := s
    obtain ⟨hl, hb, h⟩ := h
    have f1 := AutoSeq1.idx_int
    have f2 := AutoSeq1.sub_tuple_tuple
    have f3 := AutoSeq1.sub_list_list
    have f4 := AutoSeq1.sub_tuple_list
    have f5 := AutoSeq1.sub_list_tuple
    have hz' : (items ++ items2).size ≤ sizeLine + 1 := by rw [Array.size_append]; exact hs2
    wp_walk using (wpAny_updateSeq hl rfl (hz := hc1) (_hz' := hz')), AutoSeq1.wpAny_loadPart' hl, AutoSeq1.wpAny_loadPart' hb
    exact ⟨_, rfl, h⟩
theorem All2.ofD {as : List Addr} {Y : Addr → Prop} {h : Heap} {ys : List PyData} {us : List Value} (r : All2 (DR as Y h) ys us) : All2 (VR C as Y h) (ys.map .d) us := by
  induction r with
  | nil => exact .nil
  | cons p _ ih => exact .cons p ih
theorem ss_extend {a v : X} (ha : SX C W Φ k a) (hv : SX C W Φ k v) : SS C W Φ k (.extend a v) := by
  intro sc nm t env A E s ρ ρ' as Y σ σ' fl hm hs hA hI hex
  obtain ⟨⟨x, σ₁⟩, h1, h2⟩ := R.bind_inv hex
  obtain ⟨⟨y, σ₂⟩, h3, h4⟩ := R.bind_inv h2
  dsimp only at h3 h4
  split at h4
  · rename_i ys
    split at h4
    · rename_i hisL
      obtain ⟨σ₃, h5, h6⟩ := R.bind_inv h4
      have h5 := ofO_inv h5
      cases h6
      unfold updL at h5
      split at h5
      · rename_i n
        split at h5
        · rename_i xs hxs
          obtain ⟨zs, h6, rfl⟩ := Option.map_eq_some_iff.mp h5
          unfold extendF at h6
          split at h6
          · rename_i hlen
            cases h6
            cases hm.inv with
            | extend m1 m2 hn hl =>
              refine wpAny_Expr (wpAny_Call_method rfl (by rw [starEach_cons hn]; rfl) hl PySem.F.plainAttrs_list PySem.F.slot_list_extend PySem.F.type_list_extend (wpAny_mono (ha _ _ _ env A E s ρ as Y σ σ₁ _ m1 hs hA hI h1) (fun u s₁ p => ?_) fun _ _ y => y)) (by unfold interactive; rw [hI.fr.kind]; rfl) rfl
              obtain ⟨as₁, p1, p2⟩ := p
              obtain ⟨b, hb, rfl⟩ := p2
              have hI1 := hI.step p1
              have hpl : ∃ its, s₁.heap.PlainList b its := by
                unfold isL at hisL
                dsimp only at hisL
                split at hisL
                · rename_i zs hz
                  obtain ⟨vs, hp, _⟩ := p1.sr.obj _ _ b hz hb
                  exact ⟨vs, hp⟩
                · cases hisL
              obtain ⟨its, mm, hpl⟩ := hpl
              refine ⟨⟨_, hpl, rfl⟩, fun a e => by cases e; exact ⟨_, hpl, rfl⟩, ?_⟩
              rw [starEach_cons hn]
              refine Calls.callWith_builtin rfl (Calls.evalArgs_plain (Calls.spliced_cons (wpAny_mono (hv _ _ _ env A E s₁ ρ as₁ Y σ₁ σ₂ _ m2 hs hA hI1 h3) (fun w' s₂ q => Calls.spliced_nil ?_) fun _ _ y => y)))
              obtain ⟨as₂, q1, q2⟩ := q
              have hI2 := hI1.step q1
              have hb2 := q1.grow.old _ _ hb
              obtain ⟨vs, ⟨n1, hp⟩, hall, hst'⟩ := q1.sr.obj _ _ b hxs hb2
              have hlv := hall.length
              obtain ⟨nd, fp, rr, hfp⟩ := q2
              cases rr with
              | @list b2 o vs2 n2 _ fp' e c d rr =>
                obtain ⟨oc, od, odt, osl⟩ := o
                dsimp only at c d
                subst c d
                have hnb : b2 ≠ b := fun q => (hfp b2 (.head _)).1 (q ▸ List.mem_of_getElem? hb2)
                have hys := DR.unall rr (by simpa [noDict] using nd) fun a m => hfp a (.tail _ m)
                have hl2 := hys.length
                have sz : vs.size + vs2.size ≤ 100000 := by
                  have e1 : vs.size = vs.toList.length := by simp
                  have e2 : vs2.size = vs2.toList.length := by simp
                  simp only [List.length_map] at hlen
                  omega
                have sz' : vs.size + vs2.size ≤ sizeLine := by rw [sizeLine_eq]; omega
                refine call_meets PySem.F.slot_list_extend ⟨_, hp, rfl⟩ PySem.F.entry_list_extend (PySem.F.args_list_extend_2 _ _) (list_extendW b b2 vs vs2 n1 n2 od osl (PyProof.Rows.extend_door sz') (Nat.le_trans (Nat.le_add_right _ _) sz') (Nat.le_succ_of_le sz')) ⟨hp, e, ?_⟩
                have hs' := Heap.SameBut.update s₂.heap b (Obj.mapSeq fun x => x ++ vs2)
                have hp' : (s₂.heap.update b (Obj.mapSeq fun x => x ++ vs2)).PlainList b (vs ++ vs2) := ⟨_, by rw [Heap.get?_update_self _ hp (by rw [PyProof.Rows.mapSeq_app]; rfl), PyProof.Rows.mapSeq_app]⟩
                have w : Wa as₂ as₂ (fun c => c = b) Y s₂.heap (s₂.heap.update b (Obj.mapSeq fun x => x ++ vs2)) := ⟨fun c e => .inl (e ▸ List.mem_of_getElem? hb2), fun c o n e => hs'.extBut c o n e, fun c o vs' m' e e1 e2 => by
                  subst e
                  obtain ⟨ob', e', hc⟩ := q1.sr.asOk c (List.mem_of_getElem? hb2)
                  rw [e1] at e'; cases e'; exact hc, fun _ _ e => e, fun _ _ _ p => p⟩
                have hsd : (ys.map V.d).all stor = true := List.all_eq_true.mpr fun x m => by
                  obtain ⟨y, _, rfl⟩ := List.mem_map.mp m
                  rfl
                have ho : OR C as₂ Y (s₂.heap.update b (Obj.mapSeq fun x => x ++ vs2)) b (.list (xs ++ ys.map .d)) := ⟨vs ++ vs2, hp', by
                  rw [Array.toList_append]
                  exact (hall.vrWa w hst').append (hys.ofD.vrWa w hsd), by rw [List.all_append, hst', hsd]; rfl⟩
                obtain ⟨i1, i2⟩ := hI2.put (t := s₂.toks) hxs hb2 (fun c o n e => hs'.extBut c o n e) ho
                exact ⟨as₂, (p1.toS.trans q1.toS).trans i2, i1, trivial⟩
          · cases h6
        · cases h5
      · cases h5
    · cases h4
  · cases h4

theorem ss_assign (O : Ok C W) (hf : ∀ f, SF C Φ k f) {i : Nat} {e : X} : SS C W Φ k (.assign i e) := by
  intro sc nm t env A E s ρ ρ' as Y σ σ' fl hm hs hA hI hex
  obtain ⟨⟨v, σ₁⟩, h1, h2⟩ := R.bind_inv hex
  dsimp only at h2
  split at h2
  · rename_i hc
    simp only [Bool.and_eq_true, decide_eq_true_eq] at hc
    cases h2
    cases hm.inv with
    | @assign x p l pos hx hcc m1 =>
      have he := (sx_all O hf e).1
      have plain : swapsWith l (some (.Name x p)) pos.line env = pure false → wpAny (model C.prog C.w) A (exec (.Assign [.Name x p] l pos) env) (PS C env nm (ρ.set i v) as Y σ' .next s) E s := fun hsw => by
        refine wpAny_Assign_Name (wpAny_mono (he _ _ _ env A E s ρ as Y σ _ v m1 hs hA hI h1) (fun u s₁ p => ?_) fun _ _ y => y) hsw
        obtain ⟨as₁, p1, p2⟩ := p
        exact store_sound (F := envF env) (hI.step p1) hx p2 hc.2 (frOk_env env x) fun h' tk hI' hw => ⟨as₁, p1.toS.trans hw.stepS, hI', trivial⟩
      have used : ∀ l' target iter ifs scope cpos, l = .ListComp l' [⟨target, iter, ifs, 0⟩] scope cpos → swapsWith l (some (.Name x p)) pos.line env = pure true →
          (∀ Q, (∀ D L s' m', PX C as (fun a => Y a ∨ a = L) σ' v s (.ref D) s' → s'.heap.Ns L m' → s.heap.get? L = none → (∀ x, v ≠ .tmp x) → compPost (model C.prog C.w) A E (some (assign (.Name x p) env)) Q (.ref D) L (.ok .next) s') →
            wpAny (model C.prog C.w) A (comprehension l scope env (firstIterPos [⟨target, iter, ifs, 0⟩] cpos) (newList []) false (eval iter env) (some (assign (.Name x p) env))) Q E s) →
          wpAny (model C.prog C.w) A (exec (.Assign [.Name x p] l pos) env) (PS C env nm (ρ.set i v) as Y σ' .next s) E s := by
        intro l' target iter ifs scope cpos hl hsw hcomp
        subst hl
        rw [exec_Assign_Name_used _ _ _ _ hsw]
        refine wpAny_bind (wpAny_standAt (wpAny_bind ?_))
        show wpAny _ A (do let _ ← comprehension (.ListComp l' [⟨target, iter, ifs, 0⟩] scope cpos) scope env _ (newList []) false (eval iter env) (some (assign (.Name x p) env))) _ _ s
        refine wpAny_bind (wpAny_mono (hcomp (fun _ s' => PS C env nm (ρ.set i v) as Y σ' .next s .next s') fun D L s' m' px hn hL hv => ?_) (fun _ s' hq => wpAny_pure (wpAny_pure hq)) fun _ _ e => e)
        obtain ⟨as', st, hu⟩ := px
        show wpAny _ A (assign (.Name x p) env (.ref D)) _ _ _
        have hLY : ∀ a, Y a → a ≠ L := fun a y q => by
          obtain ⟨o, e⟩ := hI.sr.xd a y
          rw [q, hL] at e; cases e
        have g : Grow as as' Y (fun a => Y a ∨ a = L) s.heap s'.heap := ⟨st.kp, st.grow.old, fun a o e p q => ⟨(by
          obtain ⟨new, rfl, hn⟩ := st.new
          intro m
          rcases List.mem_append.mp m with m | m
          · exact p m
          · rw [hn a m] at e; cases e), fun r => r.elim q fun r => by rw [r, hL] at e; cases e⟩⟩
        have hI' : Inv C env nm ρ as' (fun a => Y a ∨ a = L) σ' s' := ⟨hI.base.trans st.kp, hI.fr.grow' g fun a y => .inl y, st.sr⟩
        refine wpAny_assign_Name (store_sound (F := envF env) hI' hx hu hc.2 (frOk_env env x) fun h' tk hI2 hw => ?_)
        obtain ⟨P, w, hp, hst⟩ := id hw
        have hLP : ¬ P L := fun q => by
          rcases hp L q with r | ⟨y, c, e, r⟩
          · exact hLY _ hI.fr.locX r.symm
          · exact hLY _ (hI.fr.cellX y c e).1 r.symm
        have hn' : h'.Ns L m' := hn.at' fun o e => w.keep L o hLP e
        refine ⟨m', hn', fun h'' hs'' => ?_⟩
        obtain ⟨o, _, _, eL, hd, _⟩ := id hn'
        have w2 : Wr (fun b => b = L) (fun a => Y a ∨ a = L) h' h'' := Wr.one (.inr rfl) eL (fun vs n q => by rw [hd] at q; cases q) hs''.extBut
        have hYd : ∀ a, Y a → ∃ o, h''.get? a = some o := fun a y => by
          obtain ⟨o, e⟩ := hI2.sr.xd a (.inl y)
          exact ⟨o, hs''.extBut a o (hLY a y) e⟩
        have hst0 : StepS env as as' s { s' with heap := h', toks := tk } := st.toS.trans hw.stepS
        obtain ⟨hs0, ts0, es0⟩ := hst0.same
        refine ⟨as', ⟨⟨h'', _, by rw [es0]⟩, fun b o p1 p2 p3 e => hs''.extBut b o (fun q => by rw [q, hL] at e; cases e) (hst0.keep b o p1 p2 p3 e), hst0.new, fun b o e => ?_⟩, ⟨base_but hI2.base w2 fun a e => ?_, hI2.fr.drop w2 (fun a y => .inl y) (hLY _ hI.fr.locX) (fun y c e => hLY _ (hI.fr.cellX y c e).1) hI.fr.locX fun y c e => (hI.fr.cellX y c e).1, hI2.sr.drop w2 (fun a y => .inl y) hYd⟩, trivial⟩
        · obtain ⟨o', e'⟩ := hst0.still b o e
          exact ⟨o', hs''.extBut b o' (fun q => by rw [q, hL] at e; cases e) e'⟩
        · subst e
          cases q : C.H0.get? a with
          | none => rfl
          | some o => have := hI.base a o q; rw [hL] at this; cases this
      cases hnc : notComp l with
      | true => exact plain (swaps_false hnc _ _ _)
      | false =>
      rw [hnc, Bool.false_or] at hcc
      obtain ⟨m, kk, src, slots, cond, elt, rfl⟩ := isComp_eq hcc
      cases m1.inv with
      | @comp0 _ target iter e' l' scope cpos ts q1 q2 q3 q4 q5 =>
        cases hb : (env.blockKind == .function && env.kindOf x == some .local && p.line == cpos.line && !(scope.names.any fun (n, k) => n == x && (k == .local || k == .cell))) with
        | false => exact plain (by show (pure _ : Sem Bool) = _; exact congrArg pure hb)
        | true =>
          refine used l' target iter [] scope cpos rfl (by show (pure _ : Sem Bool) = _; exact congrArg pure hb) fun Q hend => ?_
          refine comp_core O (sx_all O hf src).1 (sx_all O hf elt).1 hend (fun cenv E s ρ' as Y σ σ₀ t b hs hI he ht => ?_) q1 q2 q3 q4 q5 hs hA hI h1
          cases he
          cases ht
          exact wpAny_tests_nil ⟨rfl, as, Step.refl hI.sr⟩
      | @comp1 c _ target iter e' t l' scope cpos ts q1 q2 q3 q4 q5 q6 =>
        cases hb : (env.blockKind == .function && env.kindOf x == some .local && p.line == cpos.line && !(scope.names.any fun (n, k) => n == x && (k == .local || k == .cell))) with
        | false => exact plain (by show (pure _ : Sem Bool) = _; exact congrArg pure hb)
        | true =>
          refine used l' target iter [t] scope cpos rfl (by show (pure _ : Sem Bool) = _; exact congrArg pure hb) fun Q hend => ?_
          refine comp_core O (sx_all O hf src).1 (sx_all O hf elt).1 hend (fun cenv E s ρ' as Y σ σ₀ t b hs hI he ht => ?_) q1 q2 q3 q4 q6 hs hA hI h1
          exact wpAny_tests_one ((sx_all O hf c).2 _ _ _ cenv A E s ρ' as Y σ σ₀ t b q5 hs hA hI he ht)
  · cases h2

theorem ss_ite {c : X} {t e : List S} (hc : ST C W Φ k c) (ht : SSs C W Φ k t) (he : SSs C W Φ k e) : SS C W Φ k (.ite c t e) := by
  intro sc nm st env A E s ρ ρ' as Y σ σ' fl hm hs hA hI hex
  obtain ⟨⟨v, σ₁⟩, h1, h2⟩ := R.bind_inv hex
  dsimp only at h2
  cases hm.inv with
  | ite m1 m2 m3 =>
    split at h2
    · rename_i hv
      refine wpAny_If (wpAny_mono (hc _ _ _ env A E s ρ as Y σ σ₁ v true m1 hs hA hI h1 hv) (fun b s₁ p => ?_) fun _ _ y => y)
      obtain ⟨rfl, as₁, p1⟩ := p
      exact wpAny_mono (ht _ _ _ env A E s₁ ρ ρ' as₁ Y σ₁ σ' fl m2 hs hA (hI.step p1) h2) (fun _ _ q => PS.trans p1.toS q) fun _ _ y => y
    · rename_i hv
      refine wpAny_If (wpAny_mono (hc _ _ _ env A E s ρ as Y σ σ₁ v false m1 hs hA hI h1 hv) (fun b s₁ p => ?_) fun _ _ y => y)
      obtain ⟨rfl, as₁, p1⟩ := p
      exact wpAny_mono (he _ _ _ env A E s₁ ρ ρ' as₁ Y σ₁ σ' fl m3 hs hA (hI.step p1) h2) (fun _ _ q => PS.trans p1.toS q) fun _ _ y => y
    · cases h2
end
end Mine
end

section
/-! M20: loops, blocks, all statements -/
namespace Mine
open PySem PySem.Spec PySem.SeqAt
set_option maxRecDepth 100000

section
variable {C : Cx} {W : Wd} {Φ : Fn} {k : Nat}

/-- a walk is over: its iterator goes -/
theorem Inv.drop {env : PySem.Env} {nm : Nm} {ρ : Rho} {as : List Addr} {Y : Addr → Prop} {σ : St} {s : Shared} {I : Addr} {h' : Heap} {t : Nat} (hI : Inv C env nm ρ as (fun a => Y a ∨ a = I) σ s) (w : Wr (fun b => b = I) (fun a => Y a ∨ a = I) s.heap h') (hYI : ∀ a, Y a → a ≠ I)
    (hl : Y env.locals) (hc : ∀ x c, env.cells.lookup x = some c → Y c) (h0 : C.H0.get? I = none) : Inv C env nm ρ as Y σ { s with heap := h', toks := t } :=
  ⟨base_but hI.base w fun a e => e ▸ h0, hI.fr.drop w (fun a y => .inl y) (hYI _ hl) (fun x c e => hYI _ (hc x c e)) hl hc, hI.sr.drop w (fun a y => .inl y) fun a y => by
    obtain ⟨o, e⟩ := hI.sr.xd a (.inl y)
    exact ⟨o, w.keep a o (hYI a y) e⟩⟩
theorem StepS.wr {env : PySem.Env} {as as' : List Addr} {X : Addr → Prop} {s s₁ : Shared} {I : Addr} {h' : Heap} {t : Nat} (st : StepS env as as' s s₁) (w : Wr (fun b => b = I) X s₁.heap h') (hI : s.heap.get? I = none) : StepS env as as' s { s₁ with heap := h', toks := t } := by
  obtain ⟨h1, t1, rfl⟩ := st.same
  exact ⟨⟨_, _, rfl⟩, fun b o p1 p2 p3 e => w.keep b o (fun q => by rw [q, hI] at e; cases e) (st.keep b o p1 p2 p3 e), st.new, fun b o e => by
    obtain ⟨o', e'⟩ := st.still b o e
    exact ⟨o', w.keep b o' (fun q => by rw [q, hI] at e; cases e) e'⟩⟩
theorem Inv.but {env : PySem.Env} {nm : Nm} {ρ : Rho} {as : List Addr} {Y : Addr → Prop} {σ : St} {s : Shared} {I : Addr} {h' : Heap} {t : Nat} (hI : Inv C env nm ρ as Y σ s) (w : Wr (fun b => b = I) Y s.heap h') (still : ∃ o, h'.get? I = some o) (hl : env.locals ≠ I) (hc : ∀ x c, env.cells.lookup x = some c → c ≠ I) (h0 : C.H0.get? I = none) :
    Inv C env nm ρ as Y σ { s with heap := h', toks := t } :=
  ⟨base_but hI.base w fun a e => e ▸ h0, hI.fr.drop w (fun a y => y) hl hc hI.fr.locX (fun x c e => (hI.fr.cellX x c e).1), hI.sr.but w fun b e => e ▸ still⟩

theorem ss_for (O : Ok C W) {kk : SrcK} {src : X} {slots : List Nat} {body : List S} (ha : SX C W Φ k src) (hb : SSs C W Φ k body) : SS C W Φ k (.forS kk src slots body) := by
  intro sc nm t env A E s ρ ρ' as Y σ σ' fl hm hs hA hI hex
  obtain ⟨⟨v, σ₁⟩, h1, h2⟩ := R.bind_inv hex
  dsimp only at h2
  split at h2
  · cases h2
  rename_i xs hxs
  cases hm.inv with
  | @forS e iter target ts b pos m1 m2 m3 m4 m5 =>
    refine wpAny_For (src_sound O ha m1 m2 hs hA hI h1 hxs fun I as₁ s₂ st1 hit hI0 hIH => ?_) (fun x => msrc_folded m2 env x)
    have hYI : ∀ a, Y a → a ≠ I := fun a y q => by
      obtain ⟨o, e⟩ := hI.sr.xd a y
      rw [q, hI0] at e; cases e
    have hlI : env.locals ≠ I := hYI _ hI.fr.locX
    have hcI : ∀ x c, env.cells.lookup x = some c → c ≠ I := fun x c e => hYI _ (hI.fr.cellX x c e).1
    have g : Grow as as₁ Y (fun a => Y a ∨ a = I) s.heap s₂.heap := ⟨st1.kp, st1.grow.old, fun a o e p q => ⟨(by
      obtain ⟨new, rfl, hn⟩ := st1.new
      intro m
      rcases List.mem_append.mp m with m | m
      · exact p m
      · rw [hn a m] at e; cases e), fun r => r.elim q fun r => by rw [r, hI0] at e; cases e⟩⟩
    have hI1 : Inv C env nm ρ as₁ (fun a => Y a ∨ a = I) σ₁ s₂ := ⟨hI.base.trans st1.kp, hI.fr.grow' g fun a y => .inl y, st1.sr⟩
    let J : Nat → Shared → Prop := fun n s' => ∃ i as' ρ₂ σ₂, n + i = xs.length ∧ forGo (exs Φ body) slots (fun σ' => srcOk kk σ' v xs) (xs.drop i) ρ₂ σ₂ = .ok (fl, ρ', σ') ∧
      StepS env as as' s s' ∧ Inv C env nm ρ₂ as' (fun a => Y a ∨ a = I) σ₂ s' ∧ ItSt C as' (fun a => Y a ∨ a = I) s'.heap I kk v i ∧ srcV kk σ₂ v = some xs
    refine codeAny_forLoop_any J (fun n s' hJ => ?_) xs.length ⟨0, as₁, ρ, σ₁, by simp, by simpa using h2, st1.toS, hI1, hit, hxs⟩
    obtain ⟨i, as', ρ₂, σ₂, hn, hgo, st, hInv, hit, hsv⟩ := hJ
    cases hx : xs[i]? with
    | none =>
      have hi : xs.length = i := at_end hn hx
      refine it_done hA.hd hit hInv.sr hsv hi fun h' tk hk => ?_
      have hdrop : xs.drop i = [] := List.drop_eq_nil_iff.mpr (Nat.le_of_eq hi)
      rw [hdrop] at hgo
      simp only [forGo] at hgo
      cases hgo
      obtain ⟨oI, eI, dI⟩ := hit.here
      have w : Wr (fun b => b = I) (fun a => Y a ∨ a = I) s'.heap h' := Wr.one (.inr rfl) eI dI fun b o n e => hk b o n e
      refine wpAny_execs_nil ⟨as', st.wr w hI0, hInv.drop w hYI hI.fr.locX (fun x c e => (hI.fr.cellX x c e).1) hIH, trivial⟩
    | some x =>
      have hlt : i < xs.length := (List.getElem?_eq_some_iff.mp hx).1
      have hdrop : xs.drop i = x :: xs.drop (i + 1) := by
        rw [List.drop_eq_getElem_cons hlt, (List.getElem?_eq_some_iff.mp hx).2]
      rw [hdrop] at hgo
      simp only [forGo] at hgo
      split at hgo
      · cases hgo
      rename_i ρ₃ hbind
      obtain ⟨⟨fl', ρ₄, σ₄⟩, g1, g2⟩ := R.bind_inv hgo
      dsimp only at g2
      have hxst : stor x = true := srcV_stor hInv.sr hsv x (List.mem_of_getElem? hx)
      refine it_next hit hInv.sr (.inr rfl) hsv hx fun u h' tk hu hit' w1 => ?_
      have still1 : ∃ o, h'.get? I = some o := by obtain ⟨o, ho, _⟩ := hit'.here; exact ⟨o, ho⟩
      have inv1 : Inv C env nm ρ₂ as' (fun a => Y a ∨ a = I) σ₂ { s' with heap := h', toks := tk } := hInv.but w1 still1 hlI hcI hIH
      have st1' := st.wr (t := tk) w1 hI0
      refine it_go hit' m3 ?_
      refine bind_sound (F := envF env) hA.hd m3 (fun t m => ⟨m4 t m, frOk_env env t.1⟩) hbind inv1 hu hxst fun h₂ tk₂ inv2 hw2 => ?_
      obtain ⟨P2, w2, hp2, hs2⟩ := id hw2
      have hP2I : ¬ P2 I := fun p => by
        rcases hp2 I p with q | ⟨y, c, e, q⟩
        · exact hlI q.symm
        · exact hcI y c e q.symm
      have hit2 : ItSt C as' (fun a => Y a ∨ a = I) h₂ I kk v (i + 1) := hit'.moved (fun o e => w2.keep I o hP2I e) fun u r n => r.but w2 n
      have st2 := st1'.trans (hw2.stepS (as := as') (s := { s' with heap := h', toks := tk }) (t := tk₂))
      refine wpAny_mono (hb _ _ _ env A _ _ ρ₃ ρ₄ as' (fun a => Y a ∨ a = I) σ₂ σ₄ fl' m5 hs hA inv2 g1) (fun f s₃ q => ?_) fun _ _ y => y
      obtain ⟨as₃, q1, q2, q3⟩ := q
      have hIas : I ∉ as' := fun m => (inv2.sr.fresh I m).2 (.inr rfl)
      cases fl' with
      | next =>
        cases f with
        | next =>
          dsimp only at g2
          split at g2
          · rename_i hok2
            have hit3 : ItSt C as₃ (fun a => Y a ∨ a = I) s₃.heap I kk v (i + 1) := hit2.moved (fun o e => q1.keep I o hIas (Ne.symm hlI) (fun y c e => Ne.symm (hcI y c e)) e) fun u r n => r.wa (q1.wa inv2) n
            exact ⟨n - 1, turn_lt hn hx, i + 1, as₃, ρ₄, σ₄, turn_eq hn hx, g2, st2.trans q1, q2, hit3, srcOk_inv hsv hok2⟩
          · cases g2
        | _ => exact q3.elim
      | ret vr =>
        cases f with
        | ret ur =>
          dsimp only at g2
          cases g2
          have w0 : Wr (fun b => b = I) (fun a => Y a ∨ a = I) s₃.heap s₃.heap := by
            obtain ⟨oI, eI, dI⟩ := hit2.here
            have eI3 := q1.keep I oI hIas (Ne.symm hlI) (fun y c e => Ne.symm (hcI y c e)) eI
            exact Wr.one (.inr rfl) eI3 dI fun b o _ e => e
          exact ⟨as₃, st2.trans q1, q2.drop (t := s₃.toks) w0 hYI hI.fr.locX (fun x c e => (hI.fr.cellX x c e).1) hIH, q3.1.wider fun a y => .inl y, q3.2⟩
        | _ => exact q3.elim

theorem ss_while {n : Nat} {c : X} {body : List S} (hc : ST C W Φ k c) (hb : SSs C W Φ k body) : SS C W Φ k (.whileS n c body) := by
  intro sc nm t env A E s ρ ρ' as Y σ σ' fl hm hs hA hI hex
  cases hm.inv with
  | whileS m1 m2 =>
    refine wpAny_While ?_
    let J : Nat → Shared → Prop := fun n s' => ∃ as' ρ₂ σ₂, whileGo (ev Φ c) (exs Φ body) n ρ₂ σ₂ = .ok (fl, ρ', σ') ∧ StepS env as as' s s' ∧ Inv C env nm ρ₂ as' Y σ₂ s'
    refine codeAny_whileLoop J (fun n s' hJ => ?_) n ⟨as, ρ, σ, hex, StepS.refl, hI⟩
    obtain ⟨as', ρ₂, σ₂, hgo, st, hInv⟩ := hJ
    cases n with
    | zero => simp only [whileGo] at hgo; cases hgo
    | succ n =>
      simp only [whileGo] at hgo
      obtain ⟨⟨t, σ₃⟩, g1, g2⟩ := R.bind_inv hgo
      dsimp only at g2
      split at g2
      · cases g2
      · rename_i htr
        cases g2
        refine wpAny_mono (hc _ _ _ env A _ s' _ as' Y σ₂ _ t false m1 hs hA hInv g1 htr) (fun b s₁ p => ?_) fun _ _ y => y
        obtain ⟨rfl, as₁, p1⟩ := p
        simp only [Bool.false_eq_true, if_false]
        exact wpAny_execs_nil ⟨as₁, st.trans p1.toS, hInv.step p1, trivial⟩
      · rename_i htr
        obtain ⟨⟨fl', ρ₄, σ₄⟩, g3, g4⟩ := R.bind_inv g2
        dsimp only at g4
        refine wpAny_mono (hc _ _ _ env A _ s' ρ₂ as' Y σ₂ σ₃ t true m1 hs hA hInv g1 htr) (fun b s₁ p => ?_) fun _ _ y => y
        obtain ⟨rfl, as₁, p1⟩ := p
        simp only [if_true]
        refine wpAny_mono (hb _ _ _ env A _ s₁ ρ₂ ρ₄ as₁ Y σ₃ σ₄ fl' m2 hs hA (hInv.step p1) g3) (fun f s₃ q => ?_) fun _ _ y => y
        obtain ⟨as₃, q1, q2, q3⟩ := q
        have st3 := (st.trans p1.toS).trans q1
        cases fl' with
        | next =>
          cases f with
          | next => exact ⟨n, Nat.lt_succ_self n, as₃, ρ₄, σ₄, g4, st3, q2⟩
          | _ => exact q3.elim
        | ret vr =>
          cases f with
          | ret ur => cases g4; exact ⟨as₃, st3, q2, q3⟩
          | _ => exact q3.elim

theorem sss_nil : SSs C W Φ k [] := by
  intro sc nm ts env A E s ρ ρ' as Y σ σ' fl hm hs hA hI hex
  cases hm.inv
  cases hex
  exact wpAny_execs_nil ⟨as, StepS.refl, hI, trivial⟩
theorem sss_cons {x : S} {xs : List S} (hx : SS C W Φ k x) (hxs : SSs C W Φ k xs) : SSs C W Φ k (x :: xs) := by
  intro sc nm ts env A E s ρ ρ' as Y σ σ' fl hm hs hA hI hex
  cases hm.inv with
  | cons m1 m2 =>
    obtain ⟨⟨fl', ρ₁, σ₁⟩, h1, h2⟩ := R.bind_inv hex
    dsimp only at h2
    refine wpAny_execs_cons (wpAny_mono (hx _ _ _ env A E s ρ ρ₁ as Y σ σ₁ fl' m1 hs hA hI h1) (fun f s₁ q => ?_) fun _ _ y => y)
    obtain ⟨as₁, q1, q2, q3⟩ := q
    cases fl' with
    | next =>
      cases f with
      | next => exact wpAny_mono (hxs _ _ _ env A E s₁ ρ₁ ρ' as₁ Y σ₁ σ' fl m2 hs hA q2 h2) (fun _ _ q => PS.trans q1 q) fun _ _ y => y
      | _ => exact q3.elim
    | ret v =>
      cases f with
      | ret u => cases h2; exact ⟨as₁, q1, q2, q3⟩
      | _ => exact q3.elim

theorem ss_all (O : Ok C W) (hf : ∀ f, SF C Φ k f) (x : S) : SS C W Φ k x :=
  S.rec (motive_1 := fun x => SS C W Φ k x) (motive_2 := fun xs => SSs C W Φ k xs)
    (fun i e => ss_assign O hf)
    (fun is e => ss_unpack (sx_all O hf e).1)
    (fun d kx v _ _ _ _ _ _ _ _ _ _ _ _ _ _ m => Bool.noConfusion (m : false = true))
    (fun l v => ss_append (sx_all O hf l).1 (sx_all O hf v).1)
    (fun l v => ss_extend (sx_all O hf l).1 (sx_all O hf v).1)
    (fun l i v _ _ _ _ _ _ _ _ _ _ _ _ _ _ m => Bool.noConfusion (m : false = true))
    (fun d kx v _ _ _ _ _ _ _ _ _ _ _ _ _ _ m => Bool.noConfusion (m : false = true))
    (fun e => ss_expr (sx_all O hf e).1)
    (fun c t e ht he => ss_ite (sx_all O hf c).2 ht he)
    (fun kk src slots body hb => ss_for O (sx_all O hf src).1 hb)
    (fun n c body hb => ss_while (sx_all O hf c).2 hb)
    (fun e => ss_ret (sx_all O hf e).1)
    (fun c _ _ _ _ _ _ _ _ _ _ _ _ _ _ _ _ _ _ h => nomatch (h : R.exc c = .ok _))
    (fun body slot handler _ _ _ _ _ _ _ _ _ _ _ _ _ _ _ _ m => Bool.noConfusion (m : false = true))
    sss_nil
    (fun _ _ h1 h2 => sss_cons h1 h2) x
theorem sss_all (O : Ok C W) (hf : ∀ f, SF C Φ k f) (xs : List S) : SSs C W Φ k xs := by
  induction xs with
  | nil => exact sss_nil
  | cons x xs ih => exact sss_cons (ss_all O hf x) ih
end
end Mine
end

section
/-! M21: defs -/
namespace Mine
open PySem PySem.Spec PySem.SeqAt
set_option maxRecDepth 100000

noncomputable def nmOf (D : Def) : Nm := (D.vars.zipIdx.filter fun p => p.1 != "").map fun p => (Str.ofString p.1, p.2)
/-- the text of a def -/
noncomputable def defOkB (D : Def) (params : Arguments) (scope : Scope) : Bool :=
  params.posonlyargs.isEmpty && params.kwonlyargs.isEmpty && params.vararg.isNone && params.kwarg.isNone && (params.args.map (·.arg) == D.pars.map Str.ofString) && decide ((params.args.map (·.arg)).Nodup) &&
  scope.isCoroutine == false && scope.isGenerator == false && scope.kind == .function && decide (((nmOf D).map (·.2)).Nodup) && decide (D.pars.length ≤ D.vars.length) &&
  (nmOf D).all (fun p => scope.names.lookup p.1 == some .local || scope.names.lookup p.1 == some .cell) &&
  D.pars.zipIdx.all (fun p => (nmOf D).lookup (Str.ofString p.1) == some p.2)

structure DefOk (C : Cx) (W : Wd) (D : Def) (f : Nat) : Prop where
  ok : ∃ (o : Obj) (fd : FuncData) (body : List Stmt), C.H0.get? (C.fa f) = some o ∧ o.data = .func fd ∧ fd.body = .stmts body ∧ fd.closure = [] ∧ fd.globals = mainGlobals ∧ fd.builtins = builtinsNs ∧ fd.defaults = .none ∧ C.H0.CodeRec fd.code fd.qualname ∧
    defOkB D fd.params fd.scope = true ∧ MSs W fd.scope.names (nmOf D) D.body body
noncomputable def DefsOk (C : Cx) (W : Wd) : List Def → Prop
  | [] => True
  | D :: r => DefOk C W D r.length ∧ DefsOk C W r

theorem bindL_other {kindOf : Str → Option NameKind} {x : Str} : ∀ {binds : List (Str × Value)} {m : Str → Option Value}, (∀ p ∈ binds, p.1 ≠ x) → bindL kindOf binds m x = m x
  | [], m, _ => rfl
  | (n, v) :: r, m, h => by
    unfold bindL
    rw [bindL_other fun p q => h p (.tail _ q)]
    split
    · exact if_neg fun e : x = n => h (n, v) (.head _) e.symm
    · rfl
theorem bindC_other {kindOf : Str → Option NameKind} {x : Str} : ∀ {binds : List (Str × Value)} {m : Str → Option Value}, (∀ p ∈ binds, p.1 ≠ x) → bindC kindOf binds m x = m x
  | [], m, _ => rfl
  | (n, v) :: r, m, h => by
    unfold bindC
    rw [bindC_other fun p q => h p (.tail _ q)]
    split
    · rfl
    · exact if_neg fun e : x = n => h (n, v) (.head _) e.symm
theorem zip_mem_ne {x : Str} {α : Type} : ∀ {ns : List Str} {us : List α}, x ∉ ns → ∀ p ∈ ns.zip us, p.1 ≠ x := fun {ns us} h p m e => h (e ▸ (List.of_mem_zip (a := p.1) (b := p.2) m).1)
theorem bindL_get {kindOf : Str → Option NameKind} {x : Str} {u : Value} : ∀ {ns : List Str} {us : List Value} {i : Nat} {m : Str → Option Value}, ns.Nodup → ns[i]? = some x → us[i]? = some u → kindOf x = some .local → bindL kindOf (ns.zip us) m x = some u
  | [], us, i, m, _, h, _, _ => by simp at h
  | n :: ns, [], i, m, _, _, h, _ => by simp at h
  | n :: ns, v :: us, 0, m, hn, h1, h2, hk => by
    simp only [List.getElem?_cons_zero, Option.some.injEq] at h1 h2
    subst h1 h2
    rw [List.zip_cons_cons]
    unfold bindL
    rw [bindL_other (zip_mem_ne (List.nodup_cons.mp hn).1), if_pos hk, if_pos rfl]
  | n :: ns, v :: us, i + 1, m, hn, h1, h2, hk => by
    rw [List.zip_cons_cons]
    unfold bindL
    exact bindL_get (List.nodup_cons.mp hn).2 (by simpa using h1) (by simpa using h2) hk
theorem bindC_get {kindOf : Str → Option NameKind} {x : Str} {u : Value} : ∀ {ns : List Str} {us : List Value} {i : Nat} {m : Str → Option Value}, ns.Nodup → ns[i]? = some x → us[i]? = some u → kindOf x ≠ some .local → bindC kindOf (ns.zip us) m x = some u
  | [], us, i, m, _, h, _, _ => by simp at h
  | n :: ns, [], i, m, _, _, h, _ => by simp at h
  | n :: ns, v :: us, 0, m, hn, h1, h2, hk => by
    simp only [List.getElem?_cons_zero, Option.some.injEq] at h1 h2
    subst h1 h2
    rw [List.zip_cons_cons]
    unfold bindC
    rw [bindC_other (zip_mem_ne (List.nodup_cons.mp hn).1), if_neg hk, if_pos rfl]
  | n :: ns, v :: us, i + 1, m, hn, h1, h2, hk => by
    rw [List.zip_cons_cons]
    unfold bindC
    exact bindC_get (List.nodup_cons.mp hn).2 (by simpa using h1) (by simpa using h2) hk

theorem cellsFrom_acc {x : Str} : ∀ {names : List (Str × NameKind)} {n : Nat} {acc : List (Str × Addr)}, (acc.lookup x).isSome = true ∨ (x, NameKind.cell) ∈ names → ((cellsFrom n names acc).lookup x).isSome = true
  | [], n, acc, h => by
    rcases h with h | h
    · exact h
    · cases h
  | (y, k) :: r, n, acc, h => by
    unfold cellsFrom
    split
    · rename_i hk
      refine cellsFrom_acc ?_
      rcases h with h | h
      · left
        rw [List.lookup_cons]
        cases x == y <;> simp [h]
      · rcases List.mem_cons.mp h with e | h
        · cases e; left; simp
        · exact .inr h
    · rename_i hk
      refine cellsFrom_acc ?_
      rcases h with h | h
      · exact .inl h
      · rcases List.mem_cons.mp h with e | h
        · cases e; simp at hk
        · exact .inr h

section
variable {C : Cx} {W : Wd}

theorem AOk.mono {A : Around} {k : Nat} (h : AOk A (k + 1)) : AOk A k := ⟨h.hd, by have := h.dep; omega, by have := h.un; omega⟩
theorem AOk.deeper {A : Around} {k : Nat} (h : AOk A (k + 1)) (env : PySem.Env) : AOk (A.deeper env) k := ⟨h.hd, by have := h.dep; show A.depth + 1 + k < _; omega, by have := h.un; show A.units + 3 + 3 * k + 300 < _; omega⟩

theorem def_sound (O : Ok C W) {Φ : Fn} {k : Nat} {D : Def} {f : Nat} (hf : ∀ g, SF C Φ k g) (hD : DefOk C W D f) : ∀ (A : Around) (E : Value → Shared → Prop) (s : Shared) (X : Addr → Prop) (us : List Value) (vs : List V) (r : V) (σr : St),
    AOk A (k + 1) → Kp C.H0 s.heap → (∀ a, X a → ∃ o, s.heap.get? a = some o) → All2 (VR C [] X s.heap) vs us → runDef Φ D vs = .ok (r, σr) → wpAny (model C.prog C.w) A (call (.ref (C.fa f)) us) (PX C [] X σr r s) E s := by
  intro A E s X us vs r σr hA hb hX hv hrun
  obtain ⟨o, fd, body, ho, hd, hbody, hclo, hgl, hbl, hdf, hcd, hok, hms⟩ := hD.ok
  unfold defOkB at hok
  simp only [Bool.and_eq_true, decide_eq_true_eq, beq_iff_eq, List.isEmpty_iff, Option.isNone_iff_eq_none, List.all_eq_true, Bool.or_eq_true] at hok
  obtain ⟨⟨⟨⟨⟨⟨⟨⟨⟨⟨⟨⟨k1, k2⟩, k3⟩, k4⟩, k5⟩, k6⟩, k7⟩, k8⟩, k9⟩, k10⟩, k11⟩, k12⟩, k13⟩ := hok
  unfold runDef at hrun
  split at hrun
  case isFalse => cases hrun
  rename_i hlen
  obtain ⟨⟨fl, ρ', σe⟩, h1, h2⟩ := R.bind_inv hrun
  dsimp only at h2
  have hul := hv.length
  have hpl : fd.params.args.length = D.pars.length := by
    have := congrArg List.length k5
    simpa using this
  have hbind := bind_plain (fd := fd) (vals := us) k1 k2 k3 k4 hdf k6 (by omega)
  have hkp : ∀ x ∈ fd.params.args.map (·.arg), ∃ i : Nat, (nmOf D).lookup x = some i ∧ (fd.params.args.map (·.arg))[i]? = some x := fun x hx => by
    rw [k5] at hx ⊢
    obtain ⟨y, hy, rfl⟩ := List.mem_map.mp hx
    obtain ⟨j, hj⟩ := List.mem_iff_getElem?.mp hy
    have := k13 (y, j) (List.mem_zipIdx_iff_getElem?.mpr hj)
    exact ⟨j, this, by rw [List.getElem?_map, hj]; rfl⟩
  have hkd : ∀ x i, (nmOf D).lookup x = some i → fd.scope.names.lookup x = some .local ∨ fd.scope.names.lookup x = some .cell := fun x i e => k12 (x, i) (mem_of_lookup e)
  refine wpAny_call (codeAny_call_cells (by have := hA.dep; omega) (hb _ _ ho) hd (O.nolimit.keeps hb) (hcd.keeps hb) hbody hbind hclo (fun x hx => ?_) (fun s₁ ic => ?_) k7 k8 k9)
  · have hx1 := (List.of_mem_zip (a := x.1) (b := x.2) hx).1
    obtain ⟨i, e1, _⟩ := hkp x.1 hx1
    rcases hkd x.1 i e1 with q | q
    · exact .inl q
    · exact .inr ⟨q, cellsFrom_acc (.inr (mem_of_lookup q))⟩
  · generalize henv : callEnvC fd s.heap.objs.size (C.fa f) = env at ic ⊢
    have eL : env.locals = s.heap.objs.size := by subst henv; rfl
    have eS : env.scope = fd.scope := by subst henv; rfl
    have eG : env.globals = mainGlobals := by subst henv; exact hgl
    have eB : env.builtins = builtinsNs := by subst henv; exact hbl
    have eC : env.cells = cellsFrom (s.heap.objs.size + 1) fd.scope.names [] := by subst henv; rfl
    have kof : ∀ x, env.kindOf x = fd.scope.names.lookup x := fun x => by unfold Env.kindOf; rw [eS]
    have kp1 : Kp s.heap s₁.heap := ic.toInCall.keep
    have cgt : ∀ x c, env.cells.lookup x = some c → s.heap.objs.size < c := fun x c e => by have := ic.above x c (mem_of_lookup e); rw [eL] at this; exact this
    have cnone : ∀ x c, env.cells.lookup x = some c → s.heap.get? c = none := fun x c e => Heap.get?_none_of_le (Nat.le_of_lt (cgt x c e))
    have nof : ∀ a, s.heap.get? a = none → C.H0.get? a = none := fun a e => by
      cases q : C.H0.get? a with
      | none => rfl
      | some o => have := hb a o q; rw [e] at this; cases this
    let Xc : Addr → Prop := fun a => X a ∨ a = env.locals ∨ ∃ x, env.cells.lookup x = some a
    have hXc : ∀ a, Xc a → X a ∨ s.heap.get? a = none := fun a x => by
      rcases x with x | rfl | ⟨x, e⟩
      · exact .inl x
      · rw [eL]; exact .inr (get?_size _)
      · exact .inr (cnone x a e)
    have hXd : ∀ a, Xc a → ∃ o, s₁.heap.get? a = some o := fun a x => by
      rcases x with x | rfl | ⟨x, e⟩
      · obtain ⟨o, e⟩ := hX a x; exact ⟨o, kp1 a o e⟩
      · obtain ⟨o, _, _, e, _⟩ := ic.toInCall.ns; exact ⟨o, e⟩
      · obtain ⟨o, e', _⟩ := ic.cell x a e; exact ⟨o, e'⟩
    have hinj : ∀ x y i, (nmOf D).lookup x = some i → (nmOf D).lookup y = some i → x = y := fun x y i hx hy => mem_slots k10 (mem_of_lookup hx) (mem_of_lookup hy)
    have arg : ∀ x i v, (nmOf D).lookup x = some i → (vs ++ List.replicate (D.vars.length - D.pars.length) V.undef)[i]? = some v → stor v = true → ∃ u, (fd.params.args.map (·.arg))[i]? = some x ∧ us[i]? = some u ∧ VR C [] Xc s₁.heap v u := fun x i v hx hv' hst => by
      by_cases hi : i < vs.length
      · rw [List.getElem?_append_left hi] at hv'
        obtain ⟨u, e1, e2⟩ := hv.get hv'
        have hp : i < D.pars.length := by omega
        have := k13 (D.pars[i], i) (List.mem_zipIdx_iff_getElem?.mpr (List.getElem?_eq_getElem hp))
        have hxx := hinj _ x i this hx
        refine ⟨u, ?_, e1, e2.fence kp1 hXc⟩
        rw [k5, List.getElem?_map, List.getElem?_eq_getElem hp, ← hxx]
        rfl
      · rw [List.getElem?_append_right (by omega)] at hv'
        have := List.mem_of_getElem? hv'
        rw [List.mem_replicate] at this
        rw [this.2] at hst
        cases hst
    have inv : Inv C env (nmOf D) (vs ++ List.replicate (D.vars.length - D.pars.length) V.undef) [] Xc [] s₁ := by
      refine ⟨hb.trans kp1, ⟨by rw [eS]; exact k9, eG, eB, ⟨_, ic.toInCall.ns, fun x i v hx hk hv' hst => ?_⟩, fun x i hx hk => ?_, fun x i hx => ?_, .inr (.inl rfl), fun x c e => ⟨.inr (.inr ⟨x, e⟩), ?_⟩, fun x y c e1 e2 => name_of_addr ic.apart (mem_of_lookup e1) (mem_of_lookup e2), ⟨by rw [eL]; exact nof _ (get?_size _), fun x c e => nof _ (cnone x c e)⟩, hinj, fun x c e => ⟨_, ic.cell x c e⟩⟩,
        ⟨rfl, List.nodup_nil, (fun n o a e => by simp at e), (fun a m => nomatch m), hXd⟩⟩
      · obtain ⟨u, e1, e2, e3⟩ := arg x i v hx hv' hst
        exact ⟨u, bindL_get k6 e1 e2 hk, e3⟩
      · obtain ⟨c, hc⟩ := Option.isSome_iff_exists.mp (cellsFrom_acc (n := s.heap.objs.size + 1) (acc := []) (.inr (mem_of_lookup ((kof x).symm.trans hk))))
        rw [← eC] at hc
        refine ⟨c, _, hc, ic.cell x c hc, fun v hv' hst => ?_⟩
        obtain ⟨u, e1, e2, e3⟩ := arg x i v hx hv' hst
        exact ⟨u, bindC_get k6 e1 e2 (by rw [hk]; simp), e3⟩
      · rw [kof]; exact hkd x i hx
      · rw [eL]; exact Nat.ne_of_gt (cgt x c e)
    refine wpAny_mono (sss_all O hf D.body _ _ _ env (A.deeper env) _ s₁ _ ρ' [] Xc [] σe fl hms (by rw [eS]) (hA.deeper env) inv h1) (fun fw s' q => ?_) fun _ _ y => y
    obtain ⟨as', q1, q2, q3⟩ := q
    have stp : Step C [] X σe as' s s' := by
      obtain ⟨ha, ta, ea⟩ := ic.toInCall.same
      obtain ⟨hb', tb, eb⟩ := q1.same
      obtain ⟨new, en, hn⟩ := q1.new
      refine ⟨⟨hb', tb, by rw [eb, ea]⟩, fun b o e => q1.keep b o nofun (fun q => by rw [q, eL, get?_size] at e; cases e) (fun x c q r => by rw [r, cnone x c q] at e; cases e) (kp1 b o e), ⟨new, en, fun a m => ?_⟩, q2.sr.wider fun a x => .inl x⟩
      cases q : s.heap.get? a with
      | none => rfl
      | some o => have := kp1 a o q; rw [hn a m] at this; cases this
    cases fl with
    | next =>
      cases fw with
      | next =>
        cases h2
        exact ⟨as', stp, DR.none⟩
      | _ => exact q3.elim
    | ret v =>
      cases fw with
      | ret u =>
        cases h2
        exact ⟨as', stp, q3.1.wider fun a x => .inl x⟩
      | _ => exact q3.elim

theorem sf_tbl (O : Ok C W) : ∀ (defs : List Def), DefsOk C W defs → ∀ f, SF C (tbl defs) defs.length f
  | [], _, f => by
    intro A E s X us vs r σr _ _ _ _ h
    simp only [tbl] at h
    cases h
  | D :: rest, h, f => by
    have ih := sf_tbl O rest h.2
    intro A E s X us vs r σr hA hb hX hv hr
    simp only [tbl] at hr
    split at hr
    · rename_i hfr
      subst hfr
      exact def_sound O ih h.1 A E s X us vs r σr hA hb hX hv hr
    · exact ih f A E s X us vs r σr hA.mono hb hX hv hr
end
end Mine
end

section
/-! M23: from the top to the law -/
namespace Mine
open PySem PySem.Spec PySem.W PyProof.Rows
set_option maxRecDepth 100000

noncomputable def chkDefs (rs : List DefRec) (W : Wd) : List Def → Bool
  | [] => true
  | D :: r => W.fns[r.length]? == some (Str.ofString D.name) && (match rs.find? (fun d => d.name == Str.ofString D.name) with
      | some d => defOkB D d.params d.scope && chkSs W D.body d.scope.names (nmOf D) d.body
      | none => false) && chkDefs rs W r
noncomputable def chkTop (p : Program) (loose : List Str) (W : Wd) (defs : List Def) : Bool :=
  biTab.all (fun q => decide (q.1 ∉ startupNames) && decide (q.1 ∉ loose) && decide (q.1 ∉ (recsOf p).map (·.name)) && decide (q.1 ∉ (litsOf p).map (·.1)) && decide (q.1 ∉ (clssOf p loose).map (·.name))) &&
  W.gl.all (fun q => match valOf p q.1 with | some (.int i) => i == q.2 | _ => false) &&
  W.fns.all (fun x => ((recsOf p).find? (fun d => d.name == x)).isSome) && chkDefs (recsOf p) W defs

noncomputable def faOf (mg : Str → Option Value) (W : Wd) (f : Nat) : Addr := match W.fns[f]? with
  | some x => (match mg x with | some (.ref a) => a | _ => 0)
  | none => 0
noncomputable def mkCx (prog : Program) (w : World) (H : Heap) (mg mb : Str → Option Value) (W : Wd) : Cx := ⟨prog, w, H, mg, mb, faOf mg W, fun _ => 0⟩

theorem bi_boot : biTab.all (fun q => decide (bootBuiltins q.1 = some q.2) && decide (q.1 ≠ ("__name__" : Str))) = true := by decide +kernel

section
variable {p : Program} {loose : List Str} {mean : ExcName → Option Value} {mg mb : Str → Option Value} {prog : Program} {w : World} {H : Heap} {W : Wd}

theorem fn_at (T : Top p loose mean mg mb H) {x : Str} {d : DefRec} (hd : (recsOf p).find? (fun d => d.name == x) = some d) :
    ∃ a o pm code doc, mg x = some (.ref a) ∧ H.get? a = some o ∧ o.data = .func (Calls.docDef d.name d.params d.body d.scope pm code doc) ∧ H.CodeRec code d.name := by
  obtain ⟨a, o, pm, code, doc, h1, h2, h3, h4⟩ := T.fn d (List.mem_of_find?_eq_some hd)
  have hx : d.name = x := by have := List.find?_some hd; simpa using this
  rw [hx] at h1
  exact ⟨a, o, pm, code, doc, h1, h2, h3, h4⟩

theorem defs_ok (T : Top p loose mean mg mb H) : ∀ (defs : List Def), chkDefs (recsOf p) W defs = true → DefsOk (mkCx prog w H mg mb W) W defs
  | [], _ => trivial
  | D :: r, h => by
    unfold chkDefs at h
    simp only [Bool.and_eq_true, beq_iff_eq] at h
    obtain ⟨⟨h1, h2⟩, h3⟩ := h
    refine ⟨⟨?_⟩, defs_ok T r h3⟩
    split at h2
    · rename_i d hd
      simp only [Bool.and_eq_true] at h2
      obtain ⟨a, o, pm, code, doc, e1, e2, e3, e4⟩ := fn_at T hd
      have hfa : (mkCx prog w H mg mb W).fa r.length = a := by
        show faOf mg W r.length = a
        unfold faOf
        rw [h1]
        dsimp only
        rw [e1]
      refine ⟨o, _, d.body, by rw [hfa]; exact e2, e3, rfl, rfl, rfl, rfl, rfl, e4, h2.1, h2.2⟩
    · cases h2

theorem top_ok (T : Top p loose mean mg mb H) {defs : List Def} (h : chkTop p loose W defs = true) : Ok (mkCx prog w H mg mb W) W ∧ DefsOk (mkCx prog w H mg mb W) W defs := by
  unfold chkTop at h
  simp only [Bool.and_eq_true] at h
  obtain ⟨⟨⟨h1, h2⟩, h3⟩, h4⟩ := h
  refine ⟨⟨T.g, T.b, T.nolimit, fun q hq => ?_, fun f x hx => ?_, fun f x hx => ?_, fun x i hx => ?_⟩, defs_ok T defs h4⟩
  · have q1 := List.all_eq_true.mp h1 q hq
    have q2 := List.all_eq_true.mp bi_boot q hq
    simp only [Bool.and_eq_true, decide_eq_true_eq] at q1 q2
    exact ⟨T.free q.1 q1.1.1.1.1 q1.1.1.1.2 q1.1.1.2 q1.1.2 q1.2, (T.builtins q.1 q2.2).trans q2.1⟩
  · have := List.all_eq_true.mp h3 x (List.mem_of_getElem? hx)
    obtain ⟨d, hd⟩ := Option.isSome_iff_exists.mp this
    obtain ⟨a, o, pm, code, doc, e1, _⟩ := fn_at T hd
    show mg x = some (.ref (faOf mg W f))
    unfold faOf
    rw [hx]
    dsimp only
    rw [e1]
  · have := List.all_eq_true.mp h3 x (List.mem_of_getElem? hx)
    obtain ⟨d, hd⟩ := Option.isSome_iff_exists.mp this
    obtain ⟨a, o, pm, code, doc, e1, e2, e3, _⟩ := fn_at T hd
    refine ⟨o, _, ?_, e3⟩
    show H.get? (faOf mg W f) = some o
    unfold faOf
    rw [hx]
    dsimp only
    rw [e1]
    exact e2
  · have := List.all_eq_true.mp h2 (x, i) (mem_of_lookup hx)
    dsimp only at this
    split at this
    · rename_i j hv
      obtain ⟨v, e1, e2⟩ := T.const x _ hv
      have e2 := e2 H
      cases e2
      have : j = i := by simpa using this
      subst this
      exact ⟨_, e1⟩
    · cases this

/-- the law, run -/
theorem law_run (T : Top p loose mean mg mb H) {defs : List Def} (h : chkTop p loose W defs = true) {s : Shared} (hs : s.heap = H) {l : Addr} {xs : List PyData} {fp : List Addr} (hr : Reads H (.ref l) (.list xs) fp) (hn : noDicts xs = true) {f : Nat} {σr : St}
    (hlen : defs.length < 600) (hrun : tbl defs f [.d (.list xs)] = .ok (.d (.bool true), σr)) {E : Value → Shared → Prop} {Q : Value → Shared → Prop} (hQ : ∀ h' tk, Kp H h' → Q (.bool true) { s with heap := h', toks := tk }) :
    wpAny (model prog w) callerA (call (.ref (faOf mg W f)) [.ref l]) Q E s := by
  obtain ⟨O, D⟩ := top_ok (prog := prog) (w := w) T h
  have hA : AOk callerA defs.length := ⟨rfl, by show 1 + claimMargin + defs.length < recursionLimit; simp only [claimMargin, recursionLimit]; omega, by show 4 + 3 * defs.length + 300 < cLine; simp only [cLine]; omega⟩
  refine wpAny_mono (sf_tbl O defs D f callerA E s (fun _ => False) [.ref l] [.d (.list xs)] _ σr hA (by rw [hs]; exact Kp.refl _) (fun a x => x.elim) (.cons ⟨?_, fp, by rw [hs]; exact hr, fun _ _ => ⟨nofun, nofun⟩⟩ .nil) hrun) (fun u s' p => ?_) fun _ _ y => y
  · simpa [noDict] using hn
  · obtain ⟨as', st, hu⟩ := p
    obtain rfl := DR.bool_inv hu
    obtain ⟨h', tk, rfl⟩ := st.same
    exact hQ h' tk (hs ▸ st.kp)

theorem noDicts_ints (ns : List Int) : noDicts (ns.map PyData.int) = true := by
  induction ns with
  | nil => rfl
  | cons n r ih => exact ih

/-- a law holds -/
theorem law_fin {c : ClaimW} {cl : Str → Option Addr} {mean' : ExcName → Option Value} {defs : List Def} {s₁ : Shared} {args : List WData} {fa l : Addr} {ns : List Int} {fp : List Addr} {f : Nat} {x : Str}
    (T : Top p loose mean mg mb s₁.heap) (hchk : chkTop p loose W defs = true) (hx : W.fns[f]? = some x) (hmg : mg x = some (.ref fa)) (hr : Reads s₁.heap (.ref l) (.list (ns.map .int)) fp) (hn : ¬ ((63 : Nat) : Int) < ((ns.length : Nat) : Int)) (hg : s₁.gens = #[])
    (hlen : defs.length < 600) (hrun : ∀ ns : List Int, ns.length ≤ 63 → ∃ σ, tbl defs f [.d (.list (ns.map .int))] = .ok (.d (.bool true), σ)) (hc1 : ∀ cls, c.raises args cls = false) (hc2 : c.post args (.bool true) args = true) :
    wpAny (model prog w) callerA (call (.ref fa) [.ref l]) (fun v s' => GoodWG c cl mean' args s₁ (.ok (.ret v)) s') (fun e s' => GoodWG c cl mean' args s₁ (.error e) s') s₁ := by
  obtain ⟨σ, h⟩ := hrun ns (by omega)
  have hfa : faOf mg W f = fa := by
    unfold faOf
    rw [hx]
    dsimp only
    rw [hmg]
  have := law_run (prog := prog) (w := w) (W := W) T hchk (s := s₁) rfl hr (noDicts_ints ns) (f := f) (σr := σ) hlen h (E := fun e s' => GoodWG c cl mean' args s₁ (.error e) s') (Q := fun v s' => GoodWG c cl mean' args s₁ (.ok (.ret v)) s') fun h' tk hk => ?_
  · rw [hfa] at this; exact this
  · exact ⟨.inl ⟨_, _, [], rfl, hc1, .bool true, hc2, fun _ => ⟨List.nodup_nil, fun a m => nomatch m⟩⟩, .of_keep hk, rfl, .of_eq hg⟩
end
end Mine
end

section
/-! M24: the small evaluator run by hand: lemmas for plain laws -/
namespace Mine
open PySem

noncomputable def pt (p : Int × Int) : PyData := .tuple [.int p.1, .int p.2]
noncomputable def ptL (r : List (Int × Int)) : PyData := .list (r.map pt)

theorem tbl_at (D : Def) (r : List Def) (as : List V) : tbl (D :: r) r.length as = runDef (tbl r) D as := by simp [tbl]
theorem tbl_skip (D : Def) (r : List Def) (f : Nat) (as : List V) (h : f < r.length) : tbl (D :: r) f as = tbl r f as := by
  simp only [tbl]
  rw [if_neg (by omega)]
theorem tbl_drop : ∀ (n : Nat) (l : List Def) (f : Nat) (as : List V), f + n < l.length → tbl l f as = tbl (l.drop n) f as
  | 0, _, _, _, _ => rfl
  | n + 1, [], _, _, h => by simp at h
  | n + 1, D :: r, f, as, h => by
    rw [tbl_skip D r f as (by simp at h; omega), tbl_drop n r f as (by simp at h; omega)]
    rfl

@[simp] theorem okD_int (i : Int) : okD (.int i) = true := by simp [okD, PyData.canLay0, PyData.depth]
theorem pt_can (p : Int × Int) : (pt p).canLay0 = true := by simp [pt, PyData.canLay0, PyData.canLayAll0]
theorem pt_depth (p : Int × Int) : (pt p).depth ≤ 2 := by simp [pt, PyData.depth, PyData.depthAll]
theorem okD_pt (p : Int × Int) : okD (pt p) = true := by
  have := pt_depth p
  simp [okD, pt_can]; omega
theorem eqv_int (a b : Int) : PyData.eqv (.int a) (.int b) = (a == b) := by simp [PyData.eqv]
theorem eqv_pt (p q : Int × Int) : PyData.eqv (pt p) (pt q) = (p.1 == q.1 && p.2 == q.2) := by simp [pt, PyData.eqv, PyData.eqvAll]

/-! comparisons of ints -/
@[simp] theorem cmpV_eq (σ : St) (a b : Int) : cmpV .eq σ (.d (.int a)) (.d (.int b)) = some (a == b) := by simp [cmpV, dictV, cmpD, eqD, eqv_int]
@[simp] theorem cmpV_ne (σ : St) (a b : Int) : cmpV .ne σ (.d (.int a)) (.d (.int b)) = some (!(a == b)) := by simp [cmpV, dictV, cmpD, eqD, eqv_int]
@[simp] theorem cmpV_lt (σ : St) (a b : Int) : cmpV .lt σ (.d (.int a)) (.d (.int b)) = some (decide (a < b)) := by simp [cmpV, dictV, cmpD, ltD, ordD]
@[simp] theorem cmpV_gt (σ : St) (a b : Int) : cmpV .gt σ (.d (.int a)) (.d (.int b)) = some (decide (b < a)) := by simp [cmpV, dictV, cmpD, ltD, ordD]
@[simp] theorem cmpV_le (σ : St) (a b : Int) : cmpV .le σ (.d (.int a)) (.d (.int b)) = some (decide (a ≤ b)) := by simp [cmpV, dictV, cmpD]
@[simp] theorem cmpV_ge (σ : St) (a b : Int) : cmpV .ge σ (.d (.int a)) (.d (.int b)) = some (decide (b ≤ a)) := by simp [cmpV, dictV, cmpD]
@[simp] theorem cmpV_eqb (σ : St) (a b : Bool) : cmpV .eq σ (.d (.bool a)) (.d (.bool b)) = some (a == b) := by
  simp [cmpV, dictV, cmpD, eqD, okD, PyData.canLay0, PyData.depth, PyData.eqv]
theorem cmpV_eqpt (σ : St) (p q : Int × Int) : cmpV .eq σ (.d (pt p)) (.d (pt q)) = some (p.1 == q.1 && p.2 == q.2) := by
  have h : ∀ x : Int × Int, dictV σ (.d (pt x)) = none := fun x => rfl
  simp only [cmpV, h, res_d, cmpD, eqD, okD_pt, eqv_pt, Bool.and_self, if_true]

@[simp] theorem truthy_b (b : Bool) : truthyV (.d (.bool b)) = some b := rfl
@[simp] theorem stor_d (x : PyData) : stor (.d x) = true := rfl
@[simp] theorem binD_add (a b : Int) : binD .add (.int a) (.int b) = some (.int (a + b)) := rfl
@[simp] theorem binD_sub (a b : Int) : binD .sub (.int a) (.int b) = some (.int (a - b)) := rfl
theorem binD_mul (a b : Int) (h : a.natAbs < 2 ^ 64 ∨ b.natAbs < 2 ^ 64) : binD .mul (.int a) (.int b) = some (.int (a * b)) :=
  if_pos (Bool.or_eq_true_iff.mpr (h.imp decide_eq_true decide_eq_true))
theorem binD_mod (a b : Int) (h : 0 < b) : binD .mod (.int a) (.int b) = some (.int (a % b)) := by
  rw [← Int.fmod_eq_emod_of_nonneg a (Int.le_of_lt h)]
  exact if_neg (Int.ne_of_gt h)
theorem binD_fdiv (a b : Int) (h : 0 < b) (h' : b < 1073741824) : binD .fdiv (.int a) (.int b) = some (.int (a / b)) := by
  rw [← Int.fdiv_eq_ediv_of_nonneg a (Int.le_of_lt h)]
  exact (if_neg (Int.ne_of_gt h)).trans (if_pos (by omega))

theorem sub_pt0 (σ : St) (p : Int × Int) : subV σ (.d (pt p)) (.d (.int 0)) = some (.d (.int p.1)) := by
  simp [subV, dictV, pt, seqV, seqD, at?]
theorem sub_pt1 (σ : St) (p : Int × Int) : subV σ (.d (pt p)) (.d (.int 1)) = some (.d (.int p.2)) := by
  simp [subV, dictV, pt, seqV, seqD, at?]

theorem bindOf {α β : Type} {m : R α} {a : α} {f : α → R β} {r : R β} (h : m = .ok a) (h2 : f a = r) : m.bind f = r := by rw [h]; exact h2
theorem ofOf {α : Type} {o : Option α} {a : α} (h : o = some a) : ofO o = .ok a := by rw [h]; rfl
theorem iteOf {α : Type} {b : Bool} {x y r : α} (h : b = true) (h2 : x = r) : (if b = true then x else y) = r := by rw [h]; exact h2
/-- what a run answers, as a test -/
noncomputable def isT : R (V × St) → Bool
  | .ok (.d (.bool true), []) => true
  | _ => false
theorem isT_ok {r : R (V × St)} (h : isT r = true) : r = .ok (.d (.bool true), []) := by
  unfold isT at h
  split at h
  · rfl
  · cases h
noncomputable def isN : R (V × St) → Bool
  | .ok (.d .none, []) => true
  | _ => false
theorem isN_ok {r : R (V × St)} (h : isN r = true) : r = .ok (.d .none, []) := by
  unfold isN at h
  split at h
  · rfl
  · cases h
noncomputable def isData (x : PyData) : R (V × St) → Bool
  | .ok (.d y, []) => sameD y x
  | _ => false
theorem isData_ok {x : PyData} {r : R (V × St)} (h : isData x r = true) : r = .ok (.d x, []) := by
  unfold isData at h
  split at h
  · rw [sameD_eq _ _ h]
  · cases h

/-! loops -/
theorem compGo_map {test elt : Rho → St → R (V × St)} {slots : List Nat} {ok : St → Bool} {ρ : Rho} {σ : St} {f : V → V} : ∀ {xs : List V},
    (∀ x ∈ xs, ∃ ρ', bindV slots x ρ = some ρ' ∧ test ρ' σ = .ok (.d (.bool true), σ) ∧ elt ρ' σ = .ok (f x, σ)) → ok σ = true → compGo test elt slots ok ρ xs σ = .ok (xs.map f, σ)
  | [], _, _ => rfl
  | x :: xs, h, hok => by
    obtain ⟨ρ', h1, h2, h3⟩ := h x (.head _)
    simp only [compGo, h1, h2, R.bind_ok, truthy_b, h3, hok, if_true]
    rw [compGo_map (fun y m => h y (.tail _ m)) hok]
    rfl
/-- the order of points -/
noncomputable def ltP (g : Bool) (a b : Int × Int) : Bool := if a.1 == b.1 then (if g then decide (b.2 < a.2) else decide (a.2 < b.2)) else (if g then decide (b.1 < a.1) else decide (a.1 < b.1))
theorem ltD_pt (g : Bool) (a b : Int × Int) : ltD g (pt a) (pt b) = some (ltP g a b) := by
  simp only [ltD, okD_pt, Bool.and_self, if_true, ltP]
  simp only [pt, ordD, ordDs, eqv_int]
  by_cases h : a.1 == b.1
  · rw [if_pos h, if_pos h]
    by_cases h2 : a.2 == b.2
    · rw [if_pos h2]
      have := beq_iff_eq.mp h2
      cases g <;> simp [this]
    · rw [if_neg h2]
  · rw [if_neg h, if_neg h]
theorem minD_pt (g : Bool) (a b : Int × Int) : minD g [pt a, pt b] = some (pt (if ltP g b a then b else a)) := by
  simp only [minD, minGo, ltD_pt]
  cases ltP g b a <;> rfl
theorem minD_int (a b : Int) : minD false [.int a, .int b] = some (.int (min a b)) := by
  simp only [minD, minGo, ltD, okD_int, Bool.and_self, if_true, ordD]
  by_cases h : b < a
  · simp [h]; omega
  · simp [h]; omega
theorem maxD_int (a b : Int) : minD true [.int a, .int b] = some (.int (max a b)) := by
  simp only [minD, minGo, ltD, okD_int, Bool.and_self, if_true, ordD]
  by_cases h : a < b
  · simp [h]; omega
  · simp [h]; omega

/-! calls -/
theorem callV_0 {Φ : Fn} {f : Nat} {σ σr : St} {x : PyData} (h : Φ f [] = .ok (.d x, σr)) : callV Φ false f [] σ = .ok (.d x, σ) := by
  simp [callV, allO, h, backV]
theorem callV_1 {Φ : Fn} {f : Nat} {σ σr : St} {a x : PyData} (h : Φ f [.d a] = .ok (.d x, σr)) : callV Φ false f [.d a] σ = .ok (.d x, σ) := by
  simp [callV, allO, argV, isRef, h, backV]
theorem callV_2 {Φ : Fn} {f : Nat} {σ σr : St} {a b x : PyData} (h : Φ f [.d a, .d b] = .ok (.d x, σr)) : callV Φ false f [.d a, .d b] σ = .ok (.d x, σ) := by
  simp [callV, allO, argV, isRef, h, backV]
theorem callV_3 {Φ : Fn} {f : Nat} {σ σr : St} {a b c x : PyData} (h : Φ f [.d a, .d b, .d c] = .ok (.d x, σr)) : callV Φ false f [.d a, .d b, .d c] σ = .ok (.d x, σ) := by
  simp [callV, allO, argV, isRef, h, backV]
/-- a call that answers an own list -/
theorem callV_1r {Φ : Fn} {f : Nat} {σ σr : St} {a x : PyData} {v : V} (h : Φ f [.d a] = .ok (v, σr)) (hr : res σr v = some x) (hs : stor v = true) : callV Φ false f [.d a] σ = .ok (.d x, σ) := by
  simp [callV, allO, argV, isRef, h, backV, hr, hs]
theorem callV_2r {Φ : Fn} {f : Nat} {σ σr : St} {a b x : PyData} {v : V} (h : Φ f [.d a, .d b] = .ok (v, σr)) (hr : res σr v = some x) (hs : stor v = true) : callV Φ false f [.d a, .d b] σ = .ok (.d x, σ) := by
  simp [callV, allO, argV, isRef, h, backV, hr, hs]

theorem b1_len (m : Bool) (xs : List PyData) (σ : St) (h : xs.length ≤ 100000) : b1V m .len (.d (.list xs)) σ = .ok (.d (.int xs.length), σ) := by
  simp [b1V, seqV, seqD, h]
theorem b1_int (m : Bool) (b : Bool) (σ : St) : b1V m .int (.d (.bool b)) σ = .ok (.d (.int (if b then 1 else 0)), σ) := by
  simp [b1V, b1D]
theorem sub_list {xs : List PyData} {k : Int} {x : PyData} (σ : St) (h0 : 0 ≤ k) (h1 : k < 2 ^ 62) (hx : xs[k.toNat]? = some x) : subV σ (.d (.list xs)) (.d (.int k)) = some (.d x) := by
  have : -(2 ^ 62) < k := by omega
  simp [subV, dictV, seqV, seqD, at?, h0, hx]
  omega
theorem sub_neg {xs : List PyData} {k : Int} {x : PyData} (σ : St) (h0 : k < 0) (h1 : -(2 ^ 62) < k) (h2 : 0 ≤ k + xs.length) (hx : xs[(k + xs.length).toNat]? = some x) : subV σ (.d (.list xs)) (.d (.int k)) = some (.d x) := by
  have e : ¬ (0 ≤ k) := by omega
  simp [subV, dictV, seqV, seqD, at?, e, h2, hx]
  omega
theorem forGo_list {α β : Type} {body : Rho → St → R (Flo × Rho × St)} {slots : List Nat} {ok : St → Bool} {σ : St} (enc : α → Rho) (dec : β → V) (step : α → β → α) : ∀ {l : List β} {a : α},
    (∀ a, ∀ b ∈ l, ∃ ρ', bindV slots (dec b) (enc a) = some ρ' ∧ body ρ' σ = .ok (.next, enc (step a b), σ)) → ok σ = true → forGo body slots ok (l.map dec) (enc a) σ = .ok (.next, enc (l.foldl step a), σ)
  | [], _, _, _ => rfl
  | x :: xs, a, h, hok => by
    obtain ⟨ρ', h1, h2⟩ := h a x (.head _)
    simp only [List.map_cons, forGo, h1, h2, R.bind_ok, hok, if_true]
    exact forGo_list enc dec step (fun b y m => h b y (.tail _ m)) hok
/-- the corner before, around -/
noncomputable def prevP (r : List (Int × Int)) (k : Nat) : Int × Int := r.getD (if k = 0 then r.length - 1 else k - 1) (0, 0)
noncomputable def atP (r : List (Int × Int)) (k : Nat) : Int × Int := r.getD k (0, 0)
theorem sub_at (σ : St) (r : List (Int × Int)) (k : Nat) (h : k < r.length) (hl : r.length ≤ 100000) : subV σ (.d (ptL r)) (.d (.int k)) = some (.d (pt (atP r k))) := by
  refine sub_list σ (by omega) (by omega) ?_
  simp [atP, h]
theorem sub_prev (σ : St) (r : List (Int × Int)) (k : Nat) (h : k < r.length) (hl : r.length ≤ 100000) : subV σ (.d (ptL r)) (.d (.int ((k : Int) - 1))) = some (.d (pt (prevP r k))) := by
  by_cases hk : k = 0
  · subst hk
    refine sub_neg σ (by omega) (by omega) (by simp; omega) ?_
    have e : ((((0 : Nat) : Int) - 1 + (List.map pt r).length).toNat) = r.length - 1 := by simp; omega
    rw [e]
    have : r.length - 1 < r.length := by omega
    simp [prevP, this]
  · refine sub_list σ (by omega) (by omega) ?_
    have e : ((k : Int) - 1).toNat = k - 1 := by omega
    rw [e]
    have : k - 1 < r.length := by omega
    simp [prevP, this, hk]
theorem bind1 (i : Nat) (v : V) (ρ : Rho) (h : i < ρ.length) : bindV [i] v ρ = some (ρ.set i v) := by simp [bindV, h]

/-- a loop, with what holds ahead of each turn -/
theorem forGo_ind {β : Type} {body : Rho → St → R (Flo × Rho × St)} {slots : List Nat} {ok : St → Bool} (dec : β → V) (P : List β → Rho → St → Prop) (hok : ∀ σ, ok σ = true)
    (h : ∀ b l ρ σ, P (b :: l) ρ σ → ∃ ρ' ρ'' σ'', bindV slots (dec b) ρ = some ρ' ∧ body ρ' σ = .ok (.next, ρ'', σ'') ∧ P l ρ'' σ'') : ∀ (l : List β) (ρ : Rho) (σ : St), P l ρ σ → ∃ ρ' σ', forGo body slots ok (l.map dec) ρ σ = .ok (.next, ρ', σ') ∧ P [] ρ' σ'
  | [], ρ, σ, p => ⟨ρ, σ, rfl, p⟩
  | b :: l, ρ, σ, p => by
    obtain ⟨ρ', ρ'', σ'', h1, h2, h3⟩ := h b l ρ σ p
    obtain ⟨ρe, σe, h4, h5⟩ := forGo_ind dec P hok h l ρ'' σ'' h3
    refine ⟨ρe, σe, ?_, h5⟩
    simp only [List.map_cons, forGo, h1, h2, R.bind_ok, hok, if_true]
    exact h4

theorem ex_for {Φ : Fn} {k : SrcK} {src : X} {slots : List Nat} {body : List S} {ρ : Rho} {σ σ₁ : St} {v : V} {xs : List V} {r : R (Flo × Rho × St)} (h1 : ev Φ src ρ σ = .ok (v, σ₁)) (h2 : srcV k σ₁ v = some xs)
    (h3 : forGo (exs Φ body) slots (fun σ' => srcOk k σ' v xs) xs ρ σ₁ = r) : ex Φ (.forS k src slots body) ρ σ = r := by
  refine bindOf h1 ?_
  show (match srcV k σ₁ v with | none => R.stuck | some xs => forGo (exs Φ body) slots (fun σ' => srcOk k σ' v xs) xs ρ σ₁) = r
  rw [h2]
  exact h3
theorem exs_next {Φ : Fn} {s : S} {r : List S} {ρ ρ' : Rho} {σ σ' : St} (h : ex Φ s ρ σ = .ok (.next, ρ', σ')) : exs Φ (s :: r) ρ σ = exs Φ r ρ' σ' := bindOf h rfl
theorem exs_retn {Φ : Fn} {s : S} {r : List S} {ρ ρ' : Rho} {σ σ' : St} {v : V} (h : ex Φ s ρ σ = .ok (.ret v, ρ', σ')) : exs Φ (s :: r) ρ σ = .ok (.ret v, ρ', σ') := bindOf h rfl
theorem runDef_ok {Φ : Fn} {D : Def} {as : List V} {v : V} {ρ' : Rho} {σ' : St} (hl : as.length = D.pars.length) (h : exs Φ D.body (as ++ List.replicate (D.vars.length - D.pars.length) .undef) [] = .ok (.ret v, ρ', σ')) : runDef Φ D as = .ok (v, σ') := by
  unfold runDef
  rw [if_pos hl, h]
  rfl

theorem allD_map {α : Type} (f : α → PyData) : ∀ (l : List α), allD (l.map fun x => .d (f x)) = some (l.map f)
  | [] => rfl
  | x :: l => by rw [List.map_cons, allD_cons, allD_map f l]; rfl
theorem allB_true {α : Type} : ∀ (l : List α), allB (l.map fun _ => .bool true) = some true
  | [] => rfl
  | x :: l => by
    have ih := allB_true l
    simp only [allB, boolsD] at ih ⊢
    obtain ⟨bs, e, h⟩ := Option.map_eq_some_iff.mp ih
    simp [allO, e, h]
theorem ev_allT {Φ : Fn} {k : SrcK} {src elt : X} {slots : List Nat} {ρ : Rho} {σ : St} {v : V} {xs : List V} (h1 : ev Φ src ρ σ = .ok (v, σ)) (h2 : srcV k σ v = some xs) (hl : xs.length ≤ 100000) (hok : srcOk k σ v xs = true)
    (h : ∀ x ∈ xs, ∃ ρ', bindV slots x ρ = some ρ' ∧ ev Φ elt ρ' σ = .ok (.d (.bool true), σ)) : ev Φ (.b1 false .all (.comp false k src slots none elt)) ρ σ = .ok (.d (.bool true), σ) := by
  have hc := compGo_map (test := evt Φ none) (elt := ev Φ elt) (slots := slots) (ok := fun σ' => srcOk k σ' v xs) (ρ := ρ) (σ := σ) (f := fun _ => .d (.bool true)) (xs := xs) (fun x m => by
    obtain ⟨ρ', e1, e2⟩ := h x m
    exact ⟨ρ', e1, rfl, e2⟩) hok
  have hl' : ¬ 100000 < xs.length := by omega
  have e : ev Φ (.comp false k src slots none elt) ρ σ = .ok (.d (.list (xs.map fun _ => .bool true)), σ) := by
    refine bindOf h1 ?_
    show (match srcV k σ v with | none => R.stuck | some xs => if 100000 < xs.length then .stuck else (compGo (evt Φ none) (ev Φ elt) slots (fun σ' => srcOk k σ' v xs) ρ xs σ).bind fun r => mkL false r.1 r.2) = _
    rw [h2]
    dsimp only
    rw [if_neg hl']
    refine bindOf hc ?_
    show (match allD (xs.map fun _ => V.d (.bool true)) with | some ds => R.ok (V.d (.list ds), σ) | none => .stuck) = _
    rw [allD_map (fun _ => .bool true)]
  refine bindOf e ?_
  show (match (allB (xs.map fun _ => PyData.bool true)).map PyData.bool with | some y => R.ok (V.d y, σ) | none => .stuck) = _
  rw [allB_true]
  rfl
end Mine
end

section
/-! M30: the small evaluator, node by node: small proofs -/
namespace Mine
open PySem
section
variable {Φ : Fn} {ρ : Rho} {σ : St}
theorem e_var {i : Nat} {v : V} (h : ρ[i]? = some v) (hs : stor v = true) : ev Φ (.var i) ρ σ = .ok (v, σ) := by
  show (match ρ[i]? with | some v => if stor v then R.ok (v, σ) else .stuck | none => .stuck) = _
  rw [h]
  exact iteOf hs rfl
theorem e_lit {x : PyData} : ev Φ (.lit x) ρ σ = .ok (.d x, σ) := rfl
theorem e_glob {g : String} {x : PyData} : ev Φ (.glob g x) ρ σ = .ok (.d x, σ) := rfl
theorem e_bin {op : Bop} {a b : X} {p q z : PyData} (h1 : ev Φ a ρ σ = .ok (.d p, σ)) (h2 : ev Φ b ρ σ = .ok (.d q, σ)) (h3 : binD op p q = some z) : ev Φ (.bin op a b) ρ σ = .ok (.d z, σ) := bindOf h1 (bindOf h2 (bindOf (ofOf h3) rfl))
theorem e_neg {a : X} {i : Int} (h : ev Φ a ρ σ = .ok (.d (.int i), σ)) : ev Φ (.neg a) ρ σ = .ok (.d (.int (-i)), σ) := bindOf h rfl
theorem e_not {a : X} {b : Bool} (h : ev Φ a ρ σ = .ok (.d (.bool b), σ)) : ev Φ (.not a) ρ σ = .ok (.d (.bool (!b)), σ) := bindOf h rfl
theorem e_isNotTrue {a : X} {b : Bool} (h : ev Φ a ρ σ = .ok (.d (.bool b), σ)) : ev Φ (.isNotTrue a) ρ σ = .ok (.d (.bool (!b)), σ) := bindOf h rfl
theorem e_andT {a b : X} {r : R (V × St)} (h : ev Φ a ρ σ = .ok (.d (.bool true), σ)) (h2 : ev Φ b ρ σ = r) : ev Φ (.and a b) ρ σ = r := bindOf h h2
theorem e_andF {a b : X} (h : ev Φ a ρ σ = .ok (.d (.bool false), σ)) : ev Φ (.and a b) ρ σ = .ok (.d (.bool false), σ) := bindOf h rfl
theorem e_orT {a b : X} (h : ev Φ a ρ σ = .ok (.d (.bool true), σ)) : ev Φ (.or a b) ρ σ = .ok (.d (.bool true), σ) := bindOf h rfl
theorem e_orF {a b : X} {r : R (V × St)} (h : ev Φ a ρ σ = .ok (.d (.bool false), σ)) (h2 : ev Φ b ρ σ = r) : ev Φ (.or a b) ρ σ = r := bindOf h h2
theorem e_cmp {op : Cop} {a b : X} {x y : V} {z : Bool} (h1 : ev Φ a ρ σ = .ok (x, σ)) (h2 : ev Φ b ρ σ = .ok (y, σ)) (h3 : cmpV op σ x y = some z) : ev Φ (.cmp op a b) ρ σ = .ok (.d (.bool z), σ) := bindOf h1 (bindOf h2 (bindOf (ofOf h3) rfl))
theorem e_chainT {o1 o2 : Cop} {a b c : X} {x y w : V} {z : Bool} (h1 : ev Φ a ρ σ = .ok (x, σ)) (h2 : ev Φ b ρ σ = .ok (y, σ)) (h3 : cmpV o1 σ x y = some true) (h4 : ev Φ c ρ σ = .ok (w, σ)) (h5 : cmpV o2 σ y w = some z) : ev Φ (.chain o1 o2 a b c) ρ σ = .ok (.d (.bool z), σ) :=
  bindOf h1 (bindOf h2 (bindOf (ofOf h3) (bindOf h4 (bindOf (ofOf h5) rfl))))
theorem e_chainF {o1 o2 : Cop} {a b c : X} {x y : V} (h1 : ev Φ a ρ σ = .ok (x, σ)) (h2 : ev Φ b ρ σ = .ok (y, σ)) (h3 : cmpV o1 σ x y = some false) : ev Φ (.chain o1 o2 a b c) ρ σ = .ok (.d (.bool false), σ) := bindOf h1 (bindOf h2 (bindOf (ofOf h3) rfl))
theorem es_nil : evs Φ [] ρ σ = .ok ([], σ) := rfl
theorem es_cons {x : X} {xs : List X} {v : V} {vs : List V} (h1 : ev Φ x ρ σ = .ok (v, σ)) (h2 : evs Φ xs ρ σ = .ok (vs, σ)) : evs Φ (x :: xs) ρ σ = .ok (v :: vs, σ) := bindOf h1 (bindOf h2 rfl)
theorem e_tup {es : List X} {vs : List V} {ds : List PyData} (h : evs Φ es ρ σ = .ok (vs, σ)) (h2 : allD vs = some ds) : ev Φ (.tup es) ρ σ = .ok (.d (.tuple ds), σ) := bindOf h (bindOf (ofOf h2) rfl)
theorem mkL_of {vs : List V} {ds : List PyData} (h2 : allD vs = some ds) : mkL false vs σ = .ok (.d (.list ds), σ) := by
  show (match allD vs with | some ds => R.ok (V.d (.list ds), σ) | none => .stuck) = _
  rw [h2]
theorem e_lst {es : List X} {vs : List V} {ds : List PyData} (h : evs Φ es ρ σ = .ok (vs, σ)) (h2 : allD vs = some ds) : ev Φ (.lst false es) ρ σ = .ok (.d (.list ds), σ) := bindOf h (mkL_of h2)
theorem e_lstT {es : List X} {vs : List V} (h : evs Φ es ρ σ = .ok (vs, σ)) (h2 : vs.all stor = true) : ev Φ (.lst true es) ρ σ = .ok (.ref σ.length, σ ++ [.list vs]) := bindOf h (iteOf rfl (iteOf h2 rfl))
theorem e_sub {a i : X} {x y z : V} (h1 : ev Φ a ρ σ = .ok (x, σ)) (h2 : ev Φ i ρ σ = .ok (y, σ)) (h3 : subV σ x y = some z) : ev Φ (.sub a i) ρ σ = .ok (z, σ) := bindOf h1 (bindOf h2 (bindOf (ofOf h3) rfl))
theorem e_call {f : Nat} {m : Bool} {es : List X} {vs : List V} {r : R (V × St)} (h : evs Φ es ρ σ = .ok (vs, σ)) (h2 : callV Φ m f vs σ = r) : ev Φ (.call f m es) ρ σ = r := bindOf h h2
theorem e_b1 {m : Bool} {b : B1} {a : X} {x : V} {r : R (V × St)} (h : ev Φ a ρ σ = .ok (x, σ)) (h2 : b1V m b x σ = r) : ev Φ (.b1 m b a) ρ σ = r := bindOf h h2
theorem e_min {a c : X} {p q z : PyData} (h1 : ev Φ a ρ σ = .ok (.d p, σ)) (h2 : ev Φ c ρ σ = .ok (.d q, σ)) (h3 : minD false [p, q] = some z) : ev Φ (.b2 .min a c) ρ σ = .ok (.d z, σ) := bindOf h1 (bindOf h2 (bindOf (ofOf h3) rfl))
theorem e_max {a c : X} {p q z : PyData} (h1 : ev Φ a ρ σ = .ok (.d p, σ)) (h2 : ev Φ c ρ σ = .ok (.d q, σ)) (h3 : minD true [p, q] = some z) : ev Φ (.b2 .max a c) ρ σ = .ok (.d z, σ) := bindOf h1 (bindOf h2 (bindOf (ofOf h3) rfl))
theorem e_isin {t : Ty} {a : X} {p : PyData} (h : ev Φ a ρ σ = .ok (.d p, σ)) : ev Φ (.isin t a) ρ σ = .ok (.d (.bool (isTy t p)), σ) := bindOf h rfl
theorem eo_none : evo Φ none ρ σ = .ok (none, σ) := rfl
theorem eo_some {x : X} {v : V} (h : ev Φ x ρ σ = .ok (v, σ)) : evo Φ (some x) ρ σ = .ok (some v, σ) := bindOf h rfl
theorem e_slc {a : X} {lo hi : Option X} {x : V} {l h : Option V} {r : R (V × St)} (h1 : ev Φ a ρ σ = .ok (x, σ)) (h2 : evo Φ lo ρ σ = .ok (l, σ)) (h3 : evo Φ hi ρ σ = .ok (h, σ)) (h4 : sliceV σ x l h = r) : ev Φ (.slc a lo hi) ρ σ = r := bindOf h1 (bindOf h2 (bindOf h3 h4))
theorem e_rev {a : X} {x : V} {r : R (V × St)} (h1 : ev Φ a ρ σ = .ok (x, σ)) (h4 : revV σ x = r) : ev Φ (.rev a) ρ σ = r := bindOf h1 h4
theorem e_cat {a b : X} {x y : V} {r : R (V × St)} (h1 : ev Φ a ρ σ = .ok (x, σ)) (h2 : ev Φ b ρ σ = .ok (y, σ)) (h4 : catV σ x y = r) : ev Φ (.cat a b) ρ σ = r := bindOf h1 (bindOf h2 h4)
theorem x_assign {i : Nat} {e : X} {v : V} {σ' : St} {ρ' : Rho} (h : ev Φ e ρ σ = .ok (v, σ')) (hi : (decide (i < ρ.length) && stor v) = true) (hr : ρ.set i v = ρ') : ex Φ (.assign i e) ρ σ = .ok (.next, ρ', σ') := bindOf h (iteOf hi (congrArg (fun q => R.ok (Flo.next, q, σ')) hr))
theorem x_iteT {c : X} {t e : List S} {σ' : St} {r : R (Flo × Rho × St)} (h : ev Φ c ρ σ = .ok (.d (.bool true), σ')) (h2 : exs Φ t ρ σ' = r) : ex Φ (.ite c t e) ρ σ = r := bindOf h h2
theorem x_iteF {c : X} {t e : List S} {σ' : St} {r : R (Flo × Rho × St)} (h : ev Φ c ρ σ = .ok (.d (.bool false), σ')) (h2 : exs Φ e ρ σ' = r) : ex Φ (.ite c t e) ρ σ = r := bindOf h h2
theorem x_ret {e : X} {v : V} {σ' : St} (h : ev Φ e ρ σ = .ok (v, σ')) (hs : stor v = true) : ex Φ (.ret e) ρ σ = .ok (.ret v, ρ, σ') := bindOf h (iteOf hs rfl)
theorem x_exprB {e : X} {b : Bool} {σ' : St} (h : ev Φ e ρ σ = .ok (.d (.bool b), σ')) : ex Φ (.expr e) ρ σ = .ok (.next, ρ, σ') := bindOf h rfl
theorem x_exprN {e : X} {σ' : St} (h : ev Φ e ρ σ = .ok (.d .none, σ')) : ex Φ (.expr e) ρ σ = .ok (.next, ρ, σ') := bindOf h rfl
theorem x_append {l v : X} {x y : V} {σ' : St} (h1 : ev Φ l ρ σ = .ok (x, σ)) (h2 : ev Φ v ρ σ = .ok (y, σ)) (hs : (stor y && isL σ x) = true) (h3 : updL σ x (appendF y) = some σ') : ex Φ (.append l v) ρ σ = .ok (.next, ρ, σ') := bindOf h1 (bindOf h2 (iteOf hs (bindOf (ofOf h3) rfl)))
theorem xs_nil : exs Φ [] ρ σ = .ok (.next, ρ, σ) := rfl
theorem xs_next {s : S} {r : List S} {ρ' : Rho} {σ' : St} {q : R (Flo × Rho × St)} (h : ex Φ s ρ σ = .ok (.next, ρ', σ')) (h2 : exs Φ r ρ' σ' = q) : exs Φ (s :: r) ρ σ = q := bindOf h h2
theorem xs_ret {s : S} {r : List S} {ρ' : Rho} {σ' : St} {v : V} (h : ex Φ s ρ σ = .ok (.ret v, ρ', σ')) : exs Φ (s :: r) ρ σ = .ok (.ret v, ρ', σ') := bindOf h rfl
theorem run_def {D : Def} {as : List V} {v : V} {ρ' : Rho} {σ' : St} (hl : as.length = D.pars.length) (hr : as ++ List.replicate (D.vars.length - D.pars.length) .undef = ρ) (h : exs Φ D.body ρ [] = .ok (.ret v, ρ', σ')) : runDef Φ D as = .ok (v, σ') := by
  subst hr
  exact runDef_ok hl h
end
theorem pick2 (σ : St) (a b : PyData) (p : Bool) : subV σ (.d (.list [a, b])) (.d (.int (if p then 1 else 0))) = some (.d (if p then b else a)) := by
  cases p <;> simp [subV, dictV, seqV, seqD, at?]
theorem pickM (σ : St) (a b : PyData) (c : Int) : subV σ (.d (.list [a, b])) (.d (.int (c % 2))) = some (.d (if c % 2 = 0 then a else b)) := by
  have : c % 2 = 0 ∨ c % 2 = 1 := by omega
  rcases this with e | e <;> rw [e] <;> simp [subV, dictV, seqV, seqD, at?]
theorem c_ltT {σ : St} {a b : Int} (h : a < b) : cmpV .lt σ (.d (.int a)) (.d (.int b)) = some true := by rw [cmpV_lt, decide_eq_true h]
theorem c_ltF {σ : St} {a b : Int} (h : ¬ a < b) : cmpV .lt σ (.d (.int a)) (.d (.int b)) = some false := by rw [cmpV_lt, decide_eq_false h]
theorem c_eqT {σ : St} {a b : Int} (h : a = b) : cmpV .eq σ (.d (.int a)) (.d (.int b)) = some true := by rw [cmpV_eq, h, beq_self_eq_true]
theorem c_eqF {σ : St} {a b : Int} (h : a ≠ b) : cmpV .eq σ (.d (.int a)) (.d (.int b)) = some false := by rw [cmpV_eq, beq_false_of_ne h]
theorem c_leT {σ : St} {a b : Int} (h : a ≤ b) : cmpV .le σ (.d (.int a)) (.d (.int b)) = some true := by rw [cmpV_le, decide_eq_true h]
theorem c_leF {σ : St} {a b : Int} (h : ¬ a ≤ b) : cmpV .le σ (.d (.int a)) (.d (.int b)) = some false := by rw [cmpV_le, decide_eq_false h]
theorem c_gtT {σ : St} {a b : Int} (h : b < a) : cmpV .gt σ (.d (.int a)) (.d (.int b)) = some true := by rw [cmpV_gt, decide_eq_true h]
theorem c_gtF {σ : St} {a b : Int} (h : ¬ b < a) : cmpV .gt σ (.d (.int a)) (.d (.int b)) = some false := by rw [cmpV_gt, decide_eq_false h]
theorem c_neT {σ : St} {a b : Int} (h : a ≠ b) : cmpV .ne σ (.d (.int a)) (.d (.int b)) = some true := by rw [cmpV_ne, beq_false_of_ne h]; rfl
theorem c_neF {σ : St} {a b : Int} (h : a = b) : cmpV .ne σ (.d (.int a)) (.d (.int b)) = some false := by rw [cmpV_ne, h, beq_self_eq_true]; rfl
end Mine
end

section
/-! M25: an own exception raised two calls below, caught: the weak run of a law's body -/
namespace Mine
open PySem PySem.Spec PySem.SeqAt PySem.W PyProof.Rows
set_option maxRecDepth 100000

structure DefAt (C : Cx) (D : Def) (f : Nat) (fd : FuncData) (body : List Stmt) : Prop where
  ho : ∃ o, C.H0.get? (C.fa f) = some o ∧ o.data = .func fd
  hbody : fd.body = .stmts body
  hclo : fd.closure = []
  hgl : fd.globals = mainGlobals
  hbl : fd.builtins = builtinsNs
  hdf : fd.defaults = .none
  hcd : C.H0.CodeRec fd.code fd.qualname
  hok : defOkB D fd.params fd.scope = true

/-- as the caller sees it: nothing but the heap and the count of tokens has changed -/
noncomputable def SameKp (C : Cx) (s s' : Shared) : Prop := (∃ h t, s' = { s with heap := h, toks := t }) ∧ Kp C.H0 s'.heap
theorem SameKp.trans {C : Cx} {s s₁ s₂ : Shared} (a : SameKp C s s₁) (b : SameKp C s₁ s₂) : SameKp C s s₂ := by
  obtain ⟨⟨h, t, rfl⟩, _⟩ := a
  obtain ⟨⟨h', t', rfl⟩, k⟩ := b
  exact ⟨⟨h', t', rfl⟩, k⟩

section
variable {C : Cx} {W : Wd}

theorem def_enter (O : Ok C W) {D : Def} {f : Nat} {fd : FuncData} {body : List Stmt} (hD : DefAt C D f fd body) {k : Nat} {A : Around} {s : Shared} {X : Addr → Prop} {us : List Value} {vs : List V} {R : Result → Shared → Prop}
    (hA : AOk A (k + 1)) (hb : Kp C.H0 s.heap) (hX : ∀ a, X a → ∃ o, s.heap.get? a = some o) (hv : All2 (VR C [] X s.heap) vs us) (hlen : vs.length = D.pars.length)
    (kk : ∀ (env : PySem.Env) (Xc : Addr → Prop) (s₁ : Shared), env.scope = fd.scope → env.frame = some env.locals → AOk (A.deeper env) k → (∃ h t, s₁ = { s with heap := h, toks := t }) → Kp s.heap s₁.heap → s.heap.get? env.locals = none →
      Inv C env (nmOf D) (vs ++ List.replicate (D.vars.length - D.pars.length) V.undef) [] Xc [] s₁ →
      wpAny (model C.prog C.w) (A.deeper env) (execs body env) (fun f s' => R (.ok (.ret (match f with | .ret v => v | _ => .none))) s')
        (fun e s' => wpAny (model C.prog C.w) (A.deeper env) (leaving env e) (fun _ s'' => R (.error e) s'') (fun e' s'' => R (.error e') s'') s') s₁) :
    codeAny (model C.prog C.w) A (.call (.ref (C.fa f)) ⟨us, []⟩) R s := by
  obtain ⟨⟨o, ho, hd⟩, hbody, hclo, hgl, hbl, hdf, hcd, hok⟩ := hD
  unfold defOkB at hok
  simp only [Bool.and_eq_true, decide_eq_true_eq, beq_iff_eq, List.isEmpty_iff, Option.isNone_iff_eq_none, List.all_eq_true, Bool.or_eq_true] at hok
  obtain ⟨⟨⟨⟨⟨⟨⟨⟨⟨⟨⟨⟨k1, k2⟩, k3⟩, k4⟩, k5⟩, k6⟩, k7⟩, k8⟩, k9⟩, k10⟩, k11⟩, k12⟩, k13⟩ := hok
  have hul := hv.length
  have hpl : fd.params.args.length = D.pars.length := by
    have := congrArg List.length k5
    simpa using this
  have hbind := bind_plain (fd := fd) (vals := us) k1 k2 k3 k4 hdf k6 (by omega)
  have hkp : ∀ x ∈ fd.params.args.map (·.arg), ∃ i : Nat, (nmOf D).lookup x = some i ∧ (fd.params.args.map (·.arg))[i]? = some x := fun x hx => by
    rw [k5] at hx ⊢
    obtain ⟨y, hy, rfl⟩ := List.mem_map.mp hx
    obtain ⟨j, hj⟩ := List.mem_iff_getElem?.mp hy
    have := k13 (y, j) (List.mem_zipIdx_iff_getElem?.mpr hj)
    exact ⟨j, this, by rw [List.getElem?_map, hj]; rfl⟩
  have hkd : ∀ x i, (nmOf D).lookup x = some i → fd.scope.names.lookup x = some .local ∨ fd.scope.names.lookup x = some .cell := fun x i e => k12 (x, i) (mem_of_lookup e)
  refine codeAny_call_cells (by have := hA.dep; omega) (hb _ _ ho) hd (O.nolimit.keeps hb) (hcd.keeps hb) hbody hbind hclo (fun x hx => ?_) (fun s₁ ic => ?_) k7 k8 k9
  · have hx1 := (List.of_mem_zip (a := x.1) (b := x.2) hx).1
    obtain ⟨i, e1, _⟩ := hkp x.1 hx1
    rcases hkd x.1 i e1 with q | q
    · exact .inl q
    · exact .inr ⟨q, cellsFrom_acc (.inr (mem_of_lookup q))⟩
  · generalize henv : callEnvC fd s.heap.objs.size (C.fa f) = env at ic ⊢
    have eL : env.locals = s.heap.objs.size := by subst henv; rfl
    have eF : env.frame = some env.locals := by subst henv; rfl
    have eS : env.scope = fd.scope := by subst henv; rfl
    have eG : env.globals = mainGlobals := by subst henv; exact hgl
    have eB : env.builtins = builtinsNs := by subst henv; exact hbl
    have eC : env.cells = cellsFrom (s.heap.objs.size + 1) fd.scope.names [] := by subst henv; rfl
    have kof : ∀ x, env.kindOf x = fd.scope.names.lookup x := fun x => by unfold Env.kindOf; rw [eS]
    have kp1 : Kp s.heap s₁.heap := ic.toInCall.keep
    have cgt : ∀ x c, env.cells.lookup x = some c → s.heap.objs.size < c := fun x c e => by have := ic.above x c (mem_of_lookup e); rw [eL] at this; exact this
    have cnone : ∀ x c, env.cells.lookup x = some c → s.heap.get? c = none := fun x c e => Heap.get?_none_of_le (Nat.le_of_lt (cgt x c e))
    have nof : ∀ a, s.heap.get? a = none → C.H0.get? a = none := fun a e => by
      cases q : C.H0.get? a with
      | none => rfl
      | some o => have := hb a o q; rw [e] at this; cases this
    let Xc : Addr → Prop := fun a => X a ∨ a = env.locals ∨ ∃ x, env.cells.lookup x = some a
    have hXc : ∀ a, Xc a → X a ∨ s.heap.get? a = none := fun a x => by
      rcases x with x | rfl | ⟨x, e⟩
      · exact .inl x
      · rw [eL]; exact .inr (get?_size _)
      · exact .inr (cnone x a e)
    have hXd : ∀ a, Xc a → ∃ o, s₁.heap.get? a = some o := fun a x => by
      rcases x with x | rfl | ⟨x, e⟩
      · obtain ⟨o, e⟩ := hX a x; exact ⟨o, kp1 a o e⟩
      · obtain ⟨o, _, _, e, _⟩ := ic.toInCall.ns; exact ⟨o, e⟩
      · obtain ⟨o, e', _⟩ := ic.cell x a e; exact ⟨o, e'⟩
    have hinj : ∀ x y i, (nmOf D).lookup x = some i → (nmOf D).lookup y = some i → x = y := fun x y i hx hy => mem_slots k10 (mem_of_lookup hx) (mem_of_lookup hy)
    have arg : ∀ x i v, (nmOf D).lookup x = some i → (vs ++ List.replicate (D.vars.length - D.pars.length) V.undef)[i]? = some v → stor v = true → ∃ u, (fd.params.args.map (·.arg))[i]? = some x ∧ us[i]? = some u ∧ VR C [] Xc s₁.heap v u := fun x i v hx hv' hst => by
      by_cases hi : i < vs.length
      · rw [List.getElem?_append_left hi] at hv'
        obtain ⟨u, e1, e2⟩ := hv.get hv'
        have hp : i < D.pars.length := by omega
        have := k13 (D.pars[i], i) (List.mem_zipIdx_iff_getElem?.mpr (List.getElem?_eq_getElem hp))
        have hxx := hinj _ x i this hx
        refine ⟨u, ?_, e1, e2.fence kp1 hXc⟩
        rw [k5, List.getElem?_map, List.getElem?_eq_getElem hp, ← hxx]
        rfl
      · rw [List.getElem?_append_right (by omega)] at hv'
        have := List.mem_of_getElem? hv'
        rw [List.mem_replicate] at this
        rw [this.2] at hst
        cases hst
    have inv : Inv C env (nmOf D) (vs ++ List.replicate (D.vars.length - D.pars.length) V.undef) [] Xc [] s₁ := by
      refine ⟨hb.trans kp1, ⟨by rw [eS]; exact k9, eG, eB, ⟨_, ic.toInCall.ns, fun x i v hx hk hv' hst => ?_⟩, fun x i hx hk => ?_, fun x i hx => ?_, .inr (.inl rfl), fun x c e => ⟨.inr (.inr ⟨x, e⟩), ?_⟩, fun x y c e1 e2 => name_of_addr ic.apart (mem_of_lookup e1) (mem_of_lookup e2), ⟨by rw [eL]; exact nof _ (get?_size _), fun x c e => nof _ (cnone x c e)⟩, hinj, fun x c e => ⟨_, ic.cell x c e⟩⟩,
        ⟨rfl, List.nodup_nil, (fun n o a e => by simp at e), (fun a m => nomatch m), hXd⟩⟩
      · obtain ⟨u, e1, e2, e3⟩ := arg x i v hx hv' hst
        exact ⟨u, bindL_get k6 e1 e2 hk, e3⟩
      · obtain ⟨c, hc⟩ := Option.isSome_iff_exists.mp (cellsFrom_acc (n := s.heap.objs.size + 1) (acc := []) (.inr (mem_of_lookup ((kof x).symm.trans hk))))
        rw [← eC] at hc
        refine ⟨c, _, hc, ic.cell x c hc, fun v hv' hst => ?_⟩
        obtain ⟨u, e1, e2, e3⟩ := arg x i v hx hv' hst
        exact ⟨u, bindC_get k6 e1 e2 (by rw [hk]; simp), e3⟩
      · rw [kof]; exact hkd x i hx
      · rw [eL]; exact Nat.ne_of_gt (cgt x c e)
    exact kk env Xc s₁ eS eF (hA.deeper env) ic.toInCall.same kp1 (by rw [eL]; exact get?_size _) inv

/-- the frames about -/
noncomputable def Frs (C : Cx) (A : Around) (outer : List PySem.Env) (h : Heap) : Prop := A.frames = some outer ∧ h.FunFrames C.H0 outer
theorem Frs.kp {A : Around} {outer : List PySem.Env} {h h' : Heap} (r : Frs C A outer h) (k : Kp h h') : Frs C A outer h' := ⟨r.1, r.2.of_keeps fun b o e _ => ⟨o, k b o e, rfl⟩⟩
theorem Frs.push {A : Around} {outer : List PySem.Env} {env : PySem.Env} {nm : Nm} {ρ : Rho} {as : List Addr} {X : Addr → Prop} {σ : St} {h : Heap} {s₁ : Shared} (r : Frs C A outer h) (k : Kp h s₁.heap) (hI : Inv C env nm ρ as X σ s₁) (hf : env.frame = some env.locals) : Frs C (A.deeper env) (env :: outer) s₁.heap := by
  obtain ⟨m, hn, _⟩ := hI.fr.ns
  exact ⟨Around.frames_deeper r.1, Heap.FunFrames.cons (by rw [hI.fr.kind]; decide) hf hn hI.fr.base.1 (r.kp k).2⟩

/-- what flies -/
noncomputable def Flown (C : Cx) (cls : Addr) (outer : List PySem.Env) (s : Shared) (e : Value) (s' : Shared) : Prop :=
  ∃ a t, e = .ref a ∧ Heap.FlyingW C.H0 outer a (.ref cls) (.ref t) s'.heap ∧ s.heap.UpToSlots s'.heap ∧ ∃ h tk, s' = { s with heap := h, toks := tk }
theorem Flown.from {cls : Addr} {outer : List PySem.Env} {s s₁ s' : Shared} {e : Value} (x : Flown C cls outer s₁ e s') (k : Kp s.heap s₁.heap) (hs : ∃ h tk, s₁ = { s with heap := h, toks := tk }) : Flown C cls outer s e s' := by
  obtain ⟨a, t, h1, h2, h3, h, tk, h4⟩ := x
  obtain ⟨h', tk', rfl⟩ := hs
  exact ⟨a, t, h1, h2, (Heap.UpToSlots.of_keeps k).trans h3, h, tk, h4⟩

/-- a def that raises -/
noncomputable def SR1 (C : Cx) (k : Nat) (f : Nat) (cls : Addr) (bad : List V → Prop) : Prop := ∀ (A : Around) (s : Shared) (X : Addr → Prop) (us : List Value) (vs : List V) (outer : List PySem.Env),
  AOk A k → Kp C.H0 s.heap → (∀ a, X a → ∃ o, s.heap.get? a = some o) → All2 (VR C [] X s.heap) vs us → Frs C A outer s.heap → bad vs → wpAny (model C.prog C.w) A (call (.ref (C.fa f)) us) (fun _ _ => False) (Flown C cls outer s) s

/-- a def whose body raises, left -/
theorem sr1_on (O : Ok C W) {D : Def} {f : Nat} {fd : FuncData} {body : List Stmt} (hD : DefAt C D f fd body) {k : Nat} {cls : Addr} {bad : List V → Prop} (hp : ∀ vs, bad vs → vs.length = D.pars.length)
    (h : ∀ (A : Around) (env : PySem.Env) (X : Addr → Prop) (s : Shared) (vs : List V) (outer : List PySem.Env), bad vs → env.scope = fd.scope → AOk A k → Frs C A outer s.heap → Inv C env (nmOf D) (vs ++ List.replicate (D.vars.length - D.pars.length) V.undef) [] X [] s →
      wpAny (model C.prog C.w) A (execs body env) (fun _ _ => False) (Flown C cls outer s) s) : SR1 C (k + 1) f cls bad := by
  intro A s X us vs outer hA hb hX hv hfr hbad
  refine wpAny_call (def_enter O hD hA hb hX hv (hp vs hbad) fun env Xc s₁ eS eF hA' hsm kp hnew inv => ?_)
  have hfr' := hfr.push kp inv eF
  refine wpAny_mono (h (A.deeper env) env Xc s₁ vs (env :: outer) hbad eS hA' hfr' inv) (fun _ _ x => x.elim) fun e s' x => ?_
  obtain ⟨a, t, rfl, h2, h3, h4⟩ := x
  refine wpAny_leaves_onW hfr'.1 eF h2 fun h' x1 x2 => ?_
  obtain ⟨h'', tk, rfl⟩ := h4
  exact Flown.from ⟨a, t, rfl, x1, h3.trans x2, h', tk, rfl⟩ kp hsm

theorem inv_handled {A : Around} {k : Nat} (h : AOk A k) : A.handled = none := h.hd

/-- a def that raises an own exception by its test -/
theorem sr1_raise (O : Ok C W) {Φ : Fn} {k : Nat} (hf : ∀ g, SF C Φ k g) {D : Def} {f : Nat} {fd : FuncData} {l : Expr} {x : Str} {np cpos rpos pos p : Pos} {t : Str} {kd : Nat} {c : X} {cls : Addr} {bmB bmN : List Value} {newId B Bn nid initId inN : String}
    (hD : DefAt C D f fd [.If l [.Raise (some (.Call (.Name x np) [.Constant (.str t) kd p] [] cpos)) none rpos] [] pos]) (hm : MX W fd.scope.names (nmOf D) c l) (hg : isGlob fd.scope.names x = true) (OC : OwnCls x cls bmB newId C.mg C.H0)
    (Fn : ExcBaseFacts Bn newId inN bmN) (hBn : bmB.contains (.type Bn) = true) (FB : ExcBaseFacts B nid initId bmB) :
    SR1 C (k + 1) f cls fun vs => vs.length = D.pars.length ∧ ∃ σ', ev Φ c (vs ++ List.replicate (D.vars.length - D.pars.length) V.undef) [] = .ok (.d (.bool true), σ') := by
  intro A s X us vs outer hA hb hX hv hfr hbad
  obtain ⟨hlen, σ', hev⟩ := hbad
  refine wpAny_call (def_enter O hD hA hb hX hv hlen fun env Xc s₁ eS eF hA' hsm kp hnew inv => ?_)
  have hfr' := hfr.push kp inv eF
  obtain ⟨hg1, hg2⟩ := isGlob_inv hg
  refine wpAny_execs_cons (wpAny_If (wpAny_mono ((sx_all O hf c).2 _ _ _ env (A.deeper env) _ s₁ _ [] Xc [] σ' _ true hm (by rw [eS]) hA' inv hev rfl) (fun b s₂ q => ?_) fun _ _ y => y))
  obtain ⟨rfl, as₂, st⟩ := q
  have inv2 := inv.step st
  obtain ⟨tl, N, nm, q, bs, hdct, sn, sub, ab, col, dd, k0, k1, k2, k3, k5, mN, hC, hN, hni, T⟩ := OC.obj
  refine wpAny_execs_cons ?_
  refine wpAny_Raise_call_subU (C := cls) (nm := nm) (q := q) (N := N) (bs := bs) (bm := tl) (hdct := hdct) (sn := sn) (sub := sub) (ab := ab) (col := col) (dd := dd) (k0 := k0) (k1 := k1) (k2 := k2) (k3 := k3) (k5 := k5)
    Fn hBn FB (mN := mN) (T.hasType FB.hasBase) hA'.hd rfl hni (Calls.Name_function_global inv2.fr.kind (by unfold Env.kindOf; rw [eS]; exact hg1) (Calls.loadGlobal_global (env := env) (by rw [inv2.fr.glob]; exact O.g.keeps inv2.base) OC.bound ⟨rfl, ?_⟩) hg2)
  refine Calls.evalArgs_plain (Calls.spliced_cons (Calls.Constant_str (k := kd) (pos := p) (Calls.spliced_nil ?_)))
  refine ⟨rfl, by rw [sizeLine_eq]; simp, inv2.base _ _ hC, hN.keeps inv2.base, T.keeps inv2.base, fun h' e hmade => ?_⟩
  have hfr2 := hfr'.kp st.kp
  refine wpAny_leaves_madeW (base := C.H0) (h := s₂.heap) hfr2.1 eF inv2.base hfr2.2 hmade fun h'' tt x1 x2 x3 x4 => ?_
  obtain ⟨ha, ta, rfl⟩ := st.same
  obtain ⟨hb', tb, rfl⟩ := hsm
  exact ⟨e, tt, rfl, x1, ((Heap.UpToSlots.of_keeps (kp.trans st.kp)).trans (Heap.UpToSlots.of_keeps hmade.keeps)).trans x4, h'', _, rfl⟩

/-- a call that raises, as a statement -/
theorem expr_raises (O : Ok C W) {Φ : Fn} {k : Nat} (hf : ∀ g, SF C Φ k g) {g : Nat} {cls : Addr} {bad : List V → Prop} (hr : SR1 C k g cls bad) {m : Bool} {es : List X} {sc : Sc} {nm : Nm} {l : Expr} {pos : Pos} {env : PySem.Env} {A : Around} {s : Shared} {ρ : Rho} {as : List Addr} {Y : Addr → Prop} {σ σ₁ : St} {vs avs : List V} {outer : List PySem.Env}
    (hm : MX W sc nm (.call g m es) l) (hs : env.scope.names = sc) (hA : AOk A k) (hfr : Frs C A outer s.heap) (hI : Inv C env nm ρ as Y σ s) (he : evs Φ es ρ σ = .ok (vs, σ₁)) (ha : allO (argV σ₁) vs = some avs) (hn : vs.any isRef = false) (hbad : bad avs) :
    wpAny (model C.prog C.w) A (exec (.Expr l pos) env) (fun _ _ => False) (Flown C cls outer s) s := by
  have hnc : notComp l = true := by cases hm.inv; rfl
  have hxs := sxs_all O hf es
  refine wpAny_Expr (wpAny_mono (?_ : wpAny (model C.prog C.w) A (eval l env) (fun _ _ => False) (Flown C cls outer s) s) (fun _ _ x => x.elim) fun _ _ y => y) (by unfold interactive; rw [hI.fr.kind]; rfl) (swaps_false hnc _ _ _)
  cases hm.inv with
  | @call x p ls pos hg hx m1 hlen =>
    obtain ⟨o, fd, ho, hd⟩ := O.fo g x hx
    refine PyProof.Rows.Call_Name rfl (name_glob O hI hs hg (O.fn g x hx) (Calls.callWith_function (o := o) (fd := fd) ?_))
    have fin : ∀ us s₁, (∃ as', Step C as Y σ₁ as' s s₁ ∧ All2 (VR C as' Y s₁.heap) vs us) → (s₁.heap.get? (C.fa g) = some o ∧ o.data = .func fd) ∧ wpAny (model C.prog C.w) A (call (.ref (C.fa g)) ([] ++ us) []) (fun _ _ => False) (Flown C cls outer s) s₁ := fun us s₁ p => by
      obtain ⟨as₁, p1, p2⟩ := p
      have hI1 := hI.step p1
      refine ⟨⟨hI1.base _ _ ho, hd⟩, wpAny_mono (hr A s₁ (fun a => Y a ∨ a ∈ as₁) us avs outer hA hI1.base (fun a x => x.elim (p1.sr.xd a) fun m => let ⟨o, e, _⟩ := p1.sr.asOk a m; ⟨o, e⟩) (args_plain ha hn p2) (hfr.kp p1.kp) hbad) (fun _ _ x => x) fun e s' x => x.from p1.kp p1.same⟩
    cases m1.inv with
    | nil =>
      simp only [evs] at he
      cases he
      exact PyProof.Rows.evalArgs_nil3 (fin [] s ⟨as, Step.refl hI.sr, .nil⟩)
    | cons q1 hn' q2 =>
      have := hxs _ _ _ env A (Flown C cls outer s) s ρ as Y σ σ₁ vs pos (MXs.cons q1 hn' q2) hs hA hI he
      rw [starEach_cons hn'] at this ⊢
      exact Calls.evalArgs_plain (wpAny_mono this (fun us s₁ p => fin us s₁ p) fun _ _ y => y)
end
end Mine
end

section
/-! M26: the weak run of a law's body; own lists of places -/
namespace Mine
open PySem
set_option maxRecDepth 100000

/-- the body answers True, in the ordinary way or by the def r, which refuses what is bad, at its end -/
inductive WR (Φ : Fn) (r : Nat) (bad : PyData → Prop) : List S → Rho → St → Prop where
  | done {ss ρ σ ρ' σ'} : exs Φ ss ρ σ = .ok (.ret (.d (.bool true)), ρ', σ') → WR Φ r bad ss ρ σ
  | step {s ss ρ σ ρ' σ'} : ex Φ s ρ σ = .ok (.next, ρ', σ') → WR Φ r bad ss ρ' σ' → WR Φ r bad (s :: ss) ρ σ
  | ite {c t e ss ρ σ σ'} : ev Φ c ρ σ = .ok (.d (.bool true), σ') → WR Φ r bad t ρ σ' → WR Φ r bad (.ite c t e :: ss) ρ σ
  | tail {x ss ρ σ σ' d} : ev Φ x ρ σ = .ok (.d d, σ') → bad d → WR Φ r bad (.ret (.call r false [x]) :: ss) ρ σ

noncomputable def enc (q : Int × Int) : V := .d (pt q)
noncomputable def encL (t : List (Int × Int)) : List V := t.map enc
theorem allD_encL (t : List (Int × Int)) : allD (encL t) = some (t.map pt) := allD_map pt t
theorem stor_encL (t : List (Int × Int)) : (encL t).all stor = true := by
  simp [encL, enc]
theorem allO_encL (σ : St) (k : Nat) : ∀ t : List (Int × Int), allO (rv σ k) (encL t) = some (t.map pt)
  | [] => rfl
  | q :: t => by
    have := allO_encL σ k t
    have e : rv σ k (enc q) = some (pt q) := by cases k <;> rfl
    simp only [encL, List.map_cons, allO] at this ⊢
    rw [e, this]
theorem res_encL {σ : St} {n : Nat} {t : List (Int × Int)} (h : σ[n]? = some (.list (encL t))) : res σ (.ref n) = some (ptL t) := by
  have e : rv σ 2 (.ref n) = (match σ[n]? with
    | some (.list xs) => (allO (rv σ 1) xs).map .list
    | _ => none) := rfl
  show rv σ 2 (.ref n) = _
  rw [e, h]
  dsimp only
  rw [allO_encL]
  rfl
theorem arg_encL {σ : St} {n : Nat} {t : List (Int × Int)} (h : σ[n]? = some (.list (encL t))) : argV σ (.ref n) = some (.d (ptL t)) := by
  simp only [argV, h, allO_encL]
  rfl
theorem seq_encL {σ : St} {n : Nat} {t : List (Int × Int)} (h : σ[n]? = some (.list (encL t))) : seqV σ (.ref n) = some (encL t) := by simp only [seqV, h]
theorem seq_ptL (σ : St) (t : List (Int × Int)) : seqV σ (.d (ptL t)) = some (encL t) := by simp [seqV, ptL, seqD, encL, enc]
theorem dict_encL {σ : St} {n : Nat} {t : List (Int × Int)} (h : σ[n]? = some (.list (encL t))) : dictV σ (.ref n) = none := by simp only [dictV, h]

theorem depth_ptL (r : List (Int × Int)) : (ptL r).depth ≤ 3 := by
  have : ∀ l : List (Int × Int), PyData.depthAll (l.map pt) ≤ 2 := fun l => by
    induction l with
    | nil => simp [PyData.depthAll]
    | cons p l ih =>
      have := pt_depth p
      simp only [List.map_cons, PyData.depthAll]
      omega
  have := this r
  simp only [ptL, PyData.depth]
  omega
theorem can_ptL (r : List (Int × Int)) : (ptL r).canLay0 = true := by
  have : ∀ l : List (Int × Int), PyData.canLayAll0 (l.map pt) = true := fun l => by
    induction l with
    | nil => simp [PyData.canLayAll0]
    | cons p l ih => simp only [List.map_cons, PyData.canLayAll0, pt_can, ih, Bool.and_self]
  simp only [ptL, PyData.canLay0, this]
theorem okD_ptL (r : List (Int × Int)) : okD (ptL r) = true := by
  have := depth_ptL r
  simp only [okD, can_ptL, Bool.true_and, decide_eq_true_eq]
  omega
theorem eqv_pts : ∀ r : List (Int × Int), PyData.eqvAll (r.map pt) (r.map pt) = true
  | [] => by simp [PyData.eqvAll]
  | p :: r => by simp [PyData.eqvAll, eqv_pt, eqv_pts r]
theorem eqv_ptL (r : List (Int × Int)) : PyData.eqv (ptL r) (ptL r) = true := by simp [ptL, PyData.eqv, eqv_pts]
theorem eqD_ptL (r : List (Int × Int)) : eqD (ptL r) (ptL r) = some true := by simp [eqD, okD_ptL, eqv_ptL]

/-- what a run answers, an own list of places -/
noncomputable def isOwn (t : List (Int × Int)) : R (V × St) → Bool
  | .ok (.ref 0, [.list xs]) => sameVs xs (encL t)
  | _ => false
theorem isOwn_ok {t : List (Int × Int)} {r : R (V × St)} (h : isOwn t r = true) : r = .ok (.ref 0, [.list (encL t)]) := by
  unfold isOwn at h
  split at h
  · rw [sameVs_eq h]
  · cases h
noncomputable def isF : R (V × St) → Bool
  | .ok (.d (.bool false), []) => true
  | _ => false
theorem isF_ok {r : R (V × St)} (h : isF r = true) : r = .ok (.d (.bool false), []) := by
  unfold isF at h
  split at h
  · rfl
  · cases h
end Mine
end

section
/-! M27: the exception caught, and asked -/
namespace Mine
open PySem PySem.Spec PySem.SeqAt PySem.W PyProof.Rows PySem.Calls
set_option maxRecDepth 100000

section
variable {prog : Program} {w : World} {A : Around} {E : Value → Shared → Prop} {s : Shared} {K : Frag} {x D B : Addr}

/-- an object of an own class -/
noncomputable def ObjOf (h : Heap) (x D : Addr) : Prop := ∃ o, h.get? x = some o ∧ o.cls = .ref D
theorem ObjOf.type {M : Model} {h : Heap} (I : ObjOf h x D) : Looks M h (typeOf (.ref x)) (.ref D) := by
  obtain ⟨o, e, c⟩ := I
  exact c ▸ (Looks.ld e).andThen .now
theorem looks_isType {M : Model} {h : Heap} (X : K.In h) (e : (clsIn K B).isSome = true) : Looks M h (isType (.ref B)) true := by
  unfold clsIn at e
  split at e
  · rename_i c' d' cd' sl' ho
    intro A' Q' E' s' k q
    unfold isType loadHead
    exact wpAny_bind (wpAny_loadPart (k _ _ (X _ _ ho)) (wpAny_pure q))
  · cases e

theorem exc_matches {Q : Bool → Shared → Prop} (X : K.In s.heap) (ht : typeIn K (.ref B) = some (.type "type")) (hc : (clsIn K B).isSome = true) (hb : subIn K (.ref B) (.type "BaseException") = some true) (I : ObjOf s.heap x D) (hs : subIn K (.ref D) (.ref B) = some true) (hq : Q true s) :
    wpAny (model prog w) A (excMatches (.ref x) (.ref B)) Q E s := by
  obtain ⟨h, g, d, t, os⟩ := s
  have l1 : Looks (model prog w) h (isInstance (.ref B) (.type "tuple")) false := (looks_typeIn X ht).andThen (Looks.of_pure tc_notTuple)
  have l2 : Looks (model prog w) h (isExcClass (.ref B)) true := (looks_isType X hc).andThen (looks_subIn X hb)
  have l3 := I.type (M := model prog w)
  have l4 := looks_subIn (M := model prog w) X hs
  unfold excMatches
  refine wpAny_bind (l1.at ?_)
  simp only [Bool.false_eq_true, if_false]
  refine wpAny_bind (wpAny_pure ?_)
  simp only [List.forIn_cons, List.forIn_nil]
  refine wpAny_bind (wpAny_bind (wpAny_bind (l2.at ?_)))
  simp only [Bool.not_true, Bool.false_eq_true, if_false]
  refine wpAny_pure (wpAny_pure (wpAny_bind (l3.at (wpAny_bind (wpAny_bind (wpAny_bind (l4.at ?_)))))))
  simp only [if_true]
  exact wpAny_pure (wpAny_pure (wpAny_pure hq))

theorem is_own {Q : Value → Shared → Prop} (I : ObjOf s.heap x D) (hq : Q (.bool true) s) : wpAny (model prog w) A (call (.builtin "isinstance") [.ref x, .ref D]) Q E s := by
  refine call_isinstance_of ?_ (by intro e; cases e)
  obtain ⟨h, g, d, t, os⟩ := s
  unfold Builtin.«isinstance.nested»
  refine wpAny_bind (I.type.at ?_)
  rw [if_pos (by simp)]
  exact wpAny_bind (wpAny_rule (wpAny_pure hq))

theorem is_above {T : String} {Q : Value → Shared → Prop} (X : K.In s.heap) (I : ObjOf s.heap x D) (hty : typeOf (.type T) = pure (.type "type")) (hs : subIn K (.ref D) (.type T) = some true) (hq : Q (.bool true) s) : wpAny (model prog w) A (call (.builtin "isinstance") [.ref x, .type T]) Q E s := by
  refine call_isinstance_of ?_ (by intro e; cases e)
  obtain ⟨h, g, d, t, os⟩ := s
  have LI : Looks (model prog w) h (isInstance (.ref x) (.type T)) true := I.type.andThen (looks_subIn X hs)
  unfold Builtin.«isinstance.nested»
  refine wpAny_bind (I.type.at ?_)
  rw [if_neg (fun q => by cases beq_iff_eq.mp q)]
  refine wpAny_bind ((Looks.of_pure hty).at ?_)
  rw [if_pos (by decide)]
  k_delta "plainIsInstance"
  refine wpAny_bind (wpAny_bind ((Looks.of_pure (r := true) rfl).at ?_))
  simp only [Bool.not_true, Bool.false_eq_true, if_false]
  refine wpAny_bind (LI.at ?_)
  simp only [if_true]
  first
    | exact wpAny_pure hq
    | exact wpAny_pure (wpAny_pure hq)
    | exact wpAny_bind (wpAny_pure (wpAny_pure hq))
    | exact wpAny_bind (wpAny_rule (wpAny_pure (wpAny_pure hq)))
end

section
open Builtin Builtin.ObjectAttr Builtin.Getset_descriptor
variable {prog : Program} {w : World} {A : Around} {E : Value → Shared → Prop} {s : Shared} {K : Frag} {x D B : Addr}

/-- what is asked of an own class for the False of isinstance -/
noncomputable def clsPlain (K : Frag) (D : Addr) : Bool := findIn K (.ref D) "__getattribute__" == some (some (.builtin "BaseException.__getattribute__")) && findIn K (.ref D) "__getattr__" == some none && subIn K (.ref D) (.type "BaseException") == some true && (clsIn K D).isSome && findIn K (.ref D) "__class__" == some (some (.builtin "object.__class__")) &&
  specialIn K (.builtin "object.__class__") "__get__" == some (some (.builtin "getset_descriptor.__get__")) && takesIn K (.builtin "object.__class__") == some true && mroIn K D (.type "object") == some true

theorem look_class {M : Model} {h : Heap} (X : K.In h) (e : clsPlain K D = true) : Looks M h (find (.ref x) (.ref D) "__class__") (.bind (.builtin "getset_descriptor.__get__") (.builtin "object.__class__")) := by
  unfold clsPlain at e
  simp only [Bool.and_eq_true, beq_iff_eq] at e
  obtain ⟨⟨⟨⟨⟨_, _⟩, e3⟩, e4⟩, e5⟩, _⟩ := e
  refine (looks_findIn X e3).andThen ((show Looks M h (getOf (some (.builtin "object.__class__"))) (some (.builtin "getset_descriptor.__get__")) from looks_specialIn X e4).andThen ?_)
  exact (show Looks M h (dataDescriptor? (some (.builtin "object.__class__")) (some (.builtin "getset_descriptor.__get__"))) (some (.builtin "getset_descriptor.__get__", .builtin "object.__class__")) from (looks_takesIn X e5).andThen .now).andThen (Looks.tag .now)

theorem class_given {tp : Value} {R : Result → Shared → Prop} (X : K.In s.heap) (I : ObjOf s.heap x D) (hm : mroIn K D (.type "object") = some true) (h : R (.ok (.ret (.ref D))) s) : codeAny (model prog w) A (.call (.builtin "getset_descriptor.__get__") ⟨[.builtin "object.__class__", .ref x, tp], []⟩) R s := by
  obtain ⟨hh, g, dr, t, os⟩ := s
  have L0 := I.type (M := model prog w)
  have L1 := looks_mroIn (M := model prog w) X hm
  refine codeAny_call_builtin KF.slot_gs.plain KF.entry_gs (KF.slot_gs.check _ _ _ _ _ _ _ _ KF.type_class (KF.args_gs _ _ _) ?_)
  unfold Builtin.«getset_descriptor.__get__» descrGet
  rw [dga_obj]
  refine wpAny_bind (wpAny_pure ?_)
  unfold descrGetter descrCheckInstance descrNameAndClass isInstance
  simp only [KF.owner_class]
  repeat lk
  refine ⟨Code.quiet_builtin _ (by decide +kernel), codeAny_builtin KF.entry_class ?_⟩
  unfold Builtin.«object.__class__» shownTypeOf
  repeat lk
  exact h

theorem ga_checked {nameV : Value} {Q : Unit → Shared → Prop} (X : K.In s.heap) (I : ObjOf s.heap x D) (hb : subIn K (.ref D) (.type "BaseException") = some true) (hq : Q () s) : wpAny (model prog w) A (checkBuiltinCall "BaseException.__getattribute__" ⟨[.ref x, nameV], []⟩) Q E s := by
  obtain ⟨hh, g, d, t, os⟩ := s
  have hk : builtinKind "BaseException.__getattribute__" = some .slot := by decide +kernel
  have hsplit : splitId "BaseException.__getattribute__" = some ("BaseException", "__getattribute__") := by decide +kernel
  have ha := F.args_bexc_ga (.ref x) nameV
  have LI : Looks (model prog w) hh (isInstance (.ref x) (.type "BaseException")) true := I.type.andThen (looks_subIn X hb)
  simp only [checkBuiltinCall, hk, hsplit]
  refine wpAny_bind (LI.at ?_)
  repeat wp_step
  exact hq
theorem ga_entry {tk : Tok} {Q : Fin → Shared → Prop} (X : K.In s.heap) (I : ObjOf s.heap x D) (e : clsPlain K D = true) (hq : Q (.done (.ret (.ref D))) s) : wpAny (model prog w) A (Builtin.«object.__getattribute__» ⟨[.ref x, .str "__class__" tk], []⟩) Q E s := by
  have e0 := e
  unfold clsPlain at e0
  simp only [Bool.and_eq_true, beq_iff_eq] at e0
  obtain ⟨⟨⟨⟨⟨_, _⟩, _⟩, _⟩, _⟩, e6⟩ := e0
  obtain ⟨hh, g, d, t, os⟩ := s
  have L0 := I.type (M := model prog w)
  have L3 := look_class (M := model prog w) (x := x) X e
  unfold Builtin.«object.__getattribute__»
  refine wpAny_bind (wpAny_pure (wpAny_bind (wpAny_pure (wpAny_bind (L0.at (wpAny_bind (L3.at ?_)))))))
  show wpAny _ _ (bindTo (.builtin "getset_descriptor.__get__") (.builtin "object.__class__") (.ref x) (.ref D)) _ _ _
  unfold bindTo
  refine wpAny_bind (wpAny_holding (wpAny_mono (wpAny_call (class_given (s := ⟨hh, g, d, t, os⟩) X I e6 (R := fun r s' => match r with | .ok (.ret v) => v = .ref D ∧ s' = ⟨hh, g, d, t, os⟩ | .ok _ => False | .error _ => False) ⟨rfl, rfl⟩)) (fun v s' z => ?_) fun _ _ z => z.elim))
  obtain ⟨rfl, rfl⟩ := z
  exact wpAny_pure hq
theorem class_seen {Q : Option Value → Shared → Prop} (X : K.In s.heap) (I : ObjOf s.heap x D) (e : clsPlain K D = true) (h : Q (some (.ref D)) { s with toks := s.toks + 1 }) : wpAny (model prog w) A (getAttr? (.ref x) "__class__") Q E s := by
  have e0 := e
  unfold clsPlain at e0
  simp only [Bool.and_eq_true, beq_iff_eq] at e0
  obtain ⟨⟨⟨⟨⟨⟨⟨hga, hk⟩, hbe⟩, _⟩, _⟩, _⟩, _⟩, e6⟩ := e0
  obtain ⟨hh, g, d, t, os⟩ := s
  have L0 := I.type (M := model prog w)
  have L1 := looks_findIn (M := model prog w) X hga
  have L2 := looks_findIn (M := model prog w) X hk
  have f3 := PySem.F.attrBase_ValueError.ga.bind (.ref x)
  have hx2 : (Value.builtin "BaseException.__getattribute__" == Value.builtin "object.__getattribute__") = false := by decide +kernel
  have hx1 : (onTheHeap (Value.ref D) && Value.builtin "BaseException.__getattribute__" == Value.builtin "object.__getattribute__") = false := by rw [hx2]; rfl
  have hx0 : (false && onTheHeap (Value.builtin "BaseException.__getattribute__")) = false := rfl
  have hoh : onTheHeap (Value.ref D) = true := rfl
  unfold getAttr? getAttrBy? getAttrBy
  refine wpAny_bind (wpAny_mkText (wpAny_bind (wpAny_attempt (wpAny_holding (wpAny_bind (L0.at (wpAny_bind (L1.at ?_))))))))
  dsimp only
  rw [hx1]
  simp only [Bool.false_eq_true, if_false]
  unfold getAttrByItsOwn hookBefore
  rw [hoh]
  simp only [if_true]
  refine wpAny_bind (L2.at (wpAny_bind (wpAny_attempt (wpAny_holding ?_))))
  unfold callGetattribute
  rw [hx0]
  simp only [Bool.false_eq_true, if_false]
  unfold boundAndCalled
  refine wpAny_bind (wpAny_of_eq f3 ?_)
  refine wpAny_call (codeAny_call_builtin PySem.F.attrBase_ValueError.ga.plain F.entry_bexc_ga (ga_checked (s := ⟨hh, g, d, t + 1, os⟩) X I hbe (ga_entry (s := ⟨hh, g, d, t + 1, os⟩) X I e ?_)))
  exact handed_on rfl (wpAny_pure h)

theorem is_other {Q : Value → Shared → Prop} (X : K.In s.heap) (I : ObjOf s.heap x D) (e : clsPlain K D = true) (hne : (Value.ref D == Value.ref B) = false) (ht : typeIn K (.ref B) = some (.type "type")) (hc : (clsIn K B).isSome = true) (hs : subIn K (.ref D) (.ref B) = some false)
    (hq : Q (.bool false) { s with toks := s.toks + 1 }) : wpAny (model prog w) A (call (.builtin "isinstance") [.ref x, .ref B]) Q E s := by
  have e0 := e
  unfold clsPlain at e0
  simp only [Bool.and_eq_true, beq_iff_eq] at e0
  obtain ⟨⟨⟨⟨⟨⟨_, _⟩, e2⟩, _⟩, _⟩, _⟩, _⟩ := e0
  refine call_isinstance_of ?_ (by intro e; cases e)
  obtain ⟨h, g, d, t, os⟩ := s
  have hsub := looks_subIn (M := model prog w) X hs
  have LI : Looks (model prog w) h (isInstance (.ref x) (.ref B)) false := I.type.andThen hsub
  have hisD := looks_isType (M := model prog w) X e2
  unfold Builtin.«isinstance.nested»
  refine wpAny_bind (I.type.at ?_)
  rw [if_neg (fun q => by rw [hne] at q; exact Bool.noConfusion q)]
  refine wpAny_bind ((looks_typeIn X ht).at ?_)
  rw [if_pos (by decide)]
  k_delta "plainIsInstance"
  refine wpAny_bind (wpAny_bind ((looks_isType X hc).at ?_))
  simp only [Bool.not_true, Bool.false_eq_true, if_false]
  refine wpAny_bind (LI.at ?_)
  simp only [Bool.false_eq_true, if_false]
  refine wpAny_bind (class_seen X I e ?_)
  refine wpAny_bind (hisD.at ?_)
  simp only [Bool.not_true, Bool.false_eq_true, if_false]
  refine wpAny_bind (wpAny_rule ?_)
  refine hsub.at ?_
  first
    | exact wpAny_pure hq
    | exact wpAny_pure (wpAny_pure hq)
    | exact wpAny_bind (wpAny_pure (wpAny_pure hq))
end
end Mine
end

section
/-! M28: a def that catches -/
namespace Mine
open PySem PySem.Spec PySem.SeqAt PySem.W PyProof.Rows PySem.Calls
set_option maxRecDepth 100000

structure Excs (C : Cx) (K : Frag) (c0 c1 c2 : Addr) : Prop where
  X : K.In C.H0
  m0 : C.mg "ShapeError" = some (.ref c0)
  m1 : C.mg "BadRings" = some (.ref c1)
  m2 : C.mg "BadSpot" = some (.ref c2)
  mv : C.mg "ValueError" = none ∧ C.mb "ValueError" = some (.type "ValueError")
  t0 : typeIn K (.ref c0) = some (.type "type")
  k0 : (clsIn K c0).isSome = true
  b0 : subIn K (.ref c0) (.type "BaseException") = some true
  s0 : subIn K (.ref c2) (.ref c0) = some true
  sv : subIn K (.ref c2) (.type "ValueError") = some true
  t1 : typeIn K (.ref c1) = some (.type "type")
  k1 : (clsIn K c1).isSome = true
  s1 : subIn K (.ref c2) (.ref c1) = some false
  ne : (Value.ref c2 == Value.ref c1) = false
  p2 : clsPlain K c2 = true

section
variable {C : Cx} {W : Wd}

/-- a frame's names, as a test in a handler reads them -/
structure Hnd (C : Cx) (env : PySem.Env) (n : Str) (e : Addr) (cls : Addr) (h : Heap) : Prop where
  kind : env.scope.kind = .function
  glob : env.globals = mainGlobals
  blt : env.builtins = builtinsNs
  base : Kp C.H0 h
  ns : ∃ m, h.Ns env.locals m ∧ m n = some (.ref e)
  loc : env.kindOf n = some .local
  obj : ObjOf h e cls

theorem name_own {env : PySem.Env} {n : Str} {e cls : Addr} {A : Around} {E : Value → Shared → Prop} {s : Shared} {x : Str} {pos : Pos} {v : Value} {Q : Value → Shared → Prop} (O : Ok C W) (H : Hnd C env n e cls s.heap) (hg : isGlob env.scope.names x = true) (hv : C.mg x = some v) (h : Q v s) : wpAny (model C.prog C.w) A (eval (.Name x pos) env) Q E s := by
  obtain ⟨h1, h2⟩ := isGlob_inv hg
  exact Calls.Name_function_global H.kind (by unfold Env.kindOf; exact h1) (Calls.loadGlobal_global (env := env) (by rw [H.glob]; exact O.g.keeps H.base) hv h) h2
theorem name_built {env : PySem.Env} {n : Str} {e cls : Addr} {A : Around} {E : Value → Shared → Prop} {s : Shared} {x : Str} {pos : Pos} {v : Value} {Q : Value → Shared → Prop} (O : Ok C W) (H : Hnd C env n e cls s.heap) (hg : isGlob env.scope.names x = true) (hv : C.mg x = none ∧ C.mb x = some v) (h : Q v s) : wpAny (model C.prog C.w) A (eval (.Name x pos) env) Q E s := by
  obtain ⟨h1, h2⟩ := isGlob_inv hg
  exact Calls.Name_function_global H.kind (by unfold Env.kindOf; exact h1) (Calls.loadGlobal_builtin (env := env) (by rw [H.glob]; exact O.g.keeps H.base) hv.1 (by rw [H.blt]; exact O.b.keeps H.base) hv.2 h) h2
theorem Hnd.toks {env : PySem.Env} {n : Str} {e cls : Addr} {s : Shared} (H : Hnd C env n e cls s.heap) (t : Nat) : Hnd C env n e cls ({ s with toks := t } : Shared).heap := H

/-- isinstance(e, x) -/
theorem ask {env : PySem.Env} {n : Str} {e cls : Addr} {A : Around} {E : Value → Shared → Prop} {s : Shared} {x : Str} {p q r pos : Pos} {v : Value} {Q : Value → Shared → Prop} (O : Ok C W) (H : Hnd C env n e cls s.heap) (hd : (n == ("__debug__" : Str)) = false) (hgi : isGlob env.scope.names "isinstance" = true)
    (hx : ∀ Q : Value → Shared → Prop, Q v s → wpAny (model C.prog C.w) A (eval (.Name x r) env) Q E s) (h : wpAny (model C.prog C.w) A (call (.builtin "isinstance") [.ref e, v]) Q E s) :
    wpAny (model C.prog C.w) A (eval (.Call (.Name "isinstance" p) [.Name n q, .Name x r] [] pos) env) Q E s := by
  have hbi := O.bi ("isinstance", .builtin "isinstance") (by simp [biTab])
  refine PyProof.Rows.Call_Name rfl (name_built O H hgi hbi ?_)
  refine Calls.callWith_builtin rfl (Calls.evalArgs_plain (Calls.spliced_cons ?_))
  obtain ⟨m, hn, hm⟩ := H.ns
  refine wpAny_Name (wpAny_loadName_local H.kind H.loc hn hm ?_) hd
  exact Calls.spliced_cons (hx _ (Calls.spliced_nil h))

theorem refused_ok (O : Ok C W) {Φ : Fn} {k : Nat} (hf : ∀ g, SF C Φ k g) {g : Nat} {K : Frag} {c0 c1 c2 : Addr} (XX : Excs C K c0 c1 c2) {bad : List V → Prop} (hr : SR1 C k g c2 bad) {D : Def} {f : Nat} {fd : FuncData} {l : Expr} {n : Str} {m : Bool} {es : List X} {rest : List Stmt}
    {p1 ps ph pt pr pb q1 q2 q3 q4 r1 r2 r3 r4 u1 u2 u3 u4 u5 : Pos}
    (hD : DefAt C D f fd (.Try [.Expr l p1] [.ExceptHandler (some (.Name "ShapeError" ps)) (some n) [.Return (some (.BoolOp .And [.Call (.Name "isinstance" q1) [.Name n q2, .Name "BadSpot" q3] [] q4, .Call (.Name "isinstance" r1) [.Name n r2, .Name "ValueError" r3] [] r4,
        .UnaryOp .Not (.Call (.Name "isinstance" u1) [.Name n u2, .Name "BadRings" u3] [] u4) u5] pb)) pr] ph] [] [] pt :: rest))
    (hm : MX W fd.scope.names (nmOf D) (.call g m es) l) (hn : fd.scope.names.lookup n = some .local) (hd : (n == ("__debug__" : Str)) = false)
    (hg : (["isinstance", "ShapeError", "BadSpot", "ValueError", "BadRings"] : List Str).all (fun x : Str => isGlob fd.scope.names x) = true)
    {A : Around} {E : Value → Shared → Prop} {s : Shared} {Xs : Addr → Prop} {us : List Value} {vs vs' avs : List V} {σ₁ : St} {outer : List PySem.Env} (hA : AOk A (k + 1)) (hb : Kp C.H0 s.heap) (hX : ∀ a, Xs a → ∃ o, s.heap.get? a = some o) (hv : All2 (VR C [] Xs s.heap) vs us) (hfr : Frs C A outer s.heap) (hlen : vs.length = D.pars.length)
    (he : evs Φ es (vs ++ List.replicate (D.vars.length - D.pars.length) V.undef) [] = .ok (vs', σ₁)) (ha : allO (argV σ₁) vs' = some avs) (hnr : vs'.any isRef = false) (hbad : bad avs) :
    wpAny (model C.prog C.w) A (call (.ref (C.fa f)) us) (fun v s' => v = .bool true ∧ SameKp C s s') E s := by
  simp only [List.all_cons, List.all_nil, Bool.and_true, Bool.and_eq_true] at hg
  obtain ⟨g1, g2, g3, g4, g5⟩ := hg
  refine wpAny_call (def_enter O hD hA hb hX hv hlen fun env Xc s₁ eS eF hA' hsm kp hnew inv => ?_)
  have hfr' := hfr.push kp inv eF
  rw [← eS] at hm hn g1 g2 g3 g4 g5
  have hloc : env.kindOf n = some .local := hn
  refine wpAny_execs_cons (wpAny_Try_except (wpAny_execs_cons (wpAny_mono (expr_raises O hf hr hm rfl hA' hfr' inv he ha hnr hbad) (fun _ _ x => x.elim) fun e s' x => ?_)))
  obtain ⟨a, t, rfl, h2, h3, h4⟩ := x
  refine wpAny_looks_onW hfr'.1 eF h2 fun hP hheld hsmP => ?_
  refine wpAny_landsW hheld fun hQ hfl hsmQ => ?_
  have sm1 : s₁.heap.UpToSlots hQ := (h3.trans hsmP).trans hsmQ
  obtain ⟨mm, hns, _⟩ := inv.fr.ns
  have hk0 : Kp C.H0 hQ := hfl.1
  have hreg : ∀ h, Heap.FlyingW C.H0 (env :: outer) a (.ref c2) (.ref t) h → ObjOf h a c2 := fun h x => x.there
  obtain ⟨h5, tk5, rfl⟩ := h4
  refine wpAny_handleBy_cons (codeAny_handlers_test ?_) (by intro q; cases q)
  obtain ⟨gg1, gg2⟩ := isGlob_inv g2
  refine Calls.Name_function_global inv.fr.kind gg1 (Calls.loadGlobal_global (env := env) (by rw [inv.fr.glob]; exact O.g.keeps hk0) XX.m0 ?_) gg2
  refine exc_matches (XX.X.keeps hk0) XX.t0 XX.k0 XX.b0 (hreg _ hfl) XX.s0 ?_
  show codeAny _ _ _ _ _
  refine codeAny_handlers_suite_as ?_
  refine lands_againW hfl fun hR hflR hsmR => ?_
  have hnsR : hR.Ns env.locals mm := (sm1.trans hsmR).ns hns
  refine wpAny_storeName_local hloc hnsR (fun hS hnsS hsS => ?_) (by rw [inv.fr.kind]; rfl)
  have hne : a ≠ env.locals := fun q => by
    obtain ⟨_, _, _, oe, vv, _, _, _, e1, _, e3, _⟩ := hflR
    obtain ⟨o, _, _, e4, e5, _⟩ := hnsR
    rw [q, e4] at e1
    cases e1
    rw [e5] at e3
    cases e3
  have hkS : Kp C.H0 hS := fun b o q => hsS.extBut b o (fun z => by rw [z, inv.fr.base.1] at q; cases q) (hflR.1 b o q)
  have hobj : ObjOf hS a c2 := by
    obtain ⟨o, e1, e2⟩ := hreg _ hflR
    exact ⟨o, hsS.extBut a o hne e1, e2⟩
  have H : Hnd C env n a c2 hS := ⟨inv.fr.kind, inv.fr.glob, inv.fr.blt, hkS, ⟨_, hnsS, by simp⟩, hloc, hobj⟩
  refine wpAny_execs_cons (wpAny_Return_some ?_)
  refine PyProof.Rows.BoolOp_and (ask O H hd g1 (fun Q hQ => name_own O H g3 XX.m2 hQ) (is_own hobj ?_))
  refine wpAny_truthy_bool ?_
  simp only [if_true]
  refine PyProof.Rows.BoolOp_and (ask O H hd g1 (fun Q hQ => name_built O H g4 XX.mv hQ) (is_above (XX.X.keeps hkS) hobj (by rfl) XX.sv ?_))
  refine wpAny_truthy_bool ?_
  simp only [if_true]
  refine PyProof.Rows.BoolOp_one (PyProof.Rows.UnaryOp_ (ask O H hd g1 (fun Q hQ => name_own O H g5 XX.m1 hQ) (is_other (XX.X.keeps hkS) hobj XX.p2 XX.ne XX.t1 XX.k1 XX.s1 ?_)))
  refine PyProof.Rows.not_of (wpAny_truthy_bool ?_)
  show wpAny _ _ _ _ _ _
  refine wpAny_nameGoes hloc hnsS (by rw [inv.fr.kind]; rfl) fun hT mT hnsT hsT => ?_
  obtain ⟨h6, tk6, rfl⟩ := hsm
  refine ⟨rfl, ⟨hT, _, rfl⟩, fun b o q => hsT.extBut b o (fun z => by rw [z, inv.fr.base.1] at q; cases q) (hkS b o q)⟩
end
end Mine
end

section
/-! M29: the weak run is sound -/
namespace Mine
open PySem PySem.Spec PySem.SeqAt PySem.W PyProof.Rows PySem.Calls
set_option maxRecDepth 100000

section
variable {C : Cx} {W : Wd}
theorem SF.up {Φ : Fn} {k f : Nat} (h : SF C Φ k f) : SF C Φ (k + 1) f := fun A E s X us vs r σr hA => h A E s X us vs r σr hA.mono

/-- a def that answers True where the thing is bad -/
noncomputable def RF (C : Cx) (k r : Nat) (bad : PyData → Prop) : Prop := ∀ (A : Around) (E : Value → Shared → Prop) (s : Shared) (Xs : Addr → Prop) (u : Value) (d : PyData) (outer : List PySem.Env),
  AOk A k → Kp C.H0 s.heap → (∀ a, Xs a → ∃ o, s.heap.get? a = some o) → VR C [] Xs s.heap (.d d) u → Frs C A outer s.heap → bad d → wpAny (model C.prog C.w) A (call (.ref (C.fa r)) [u]) (fun v s' => v = .bool true ∧ SameKp C s s') E s

theorem frs_of {A : Around} {env : PySem.Env} {nm : Nm} {ρ : Rho} {as : List Addr} {X : Addr → Prop} {σ : St} {s : Shared} (ha : A.frames = some [env]) (hI : Inv C env nm ρ as X σ s) (hf : env.frame = some env.locals) : Frs C A [env] s.heap := by
  obtain ⟨m, hn, _⟩ := hI.fr.ns
  exact ⟨ha, Heap.FunFrames.cons (by rw [hI.fr.kind]; decide) hf hn hI.fr.base.1 trivial⟩

/-- what the weak run shows -/
noncomputable def WS (C : Cx) (W : Wd) (k : Nat) (ss : List S) (ρ : Rho) (σ : St) : Prop := ∀ (sc : Sc) (nm : Nm) (ts : List Stmt) (env : PySem.Env) (A : Around) (E : Value → Shared → Prop) (s : Shared) (as : List Addr) (Y : Addr → Prop),
  MSs W sc nm ss ts → env.scope.names = sc → AOk A k → A.frames = some [env] → env.frame = some env.locals → Inv C env nm ρ as Y σ s → wpAny (model C.prog C.w) A (execs ts env) (fun f s' => f = .ret (.bool true) ∧ SameKp C s s') E s

theorem ws_cons {k : Nat} {st : S} {ss : List S} {ρ : Rho} {σ : St} (h : ∀ (sc : Sc) (nm : Nm) (t : Stmt) (ts : List Stmt) (env : PySem.Env) (A : Around) (E : Value → Shared → Prop) (s : Shared) (as : List Addr) (Y : Addr → Prop),
    MS W sc nm st t → MSs W sc nm ss ts → env.scope.names = sc → AOk A k → A.frames = some [env] → env.frame = some env.locals → Inv C env nm ρ as Y σ s → wpAny (model C.prog C.w) A (execs (t :: ts) env) (fun f s' => f = .ret (.bool true) ∧ SameKp C s s') E s) : WS C W k (st :: ss) ρ σ := by
  intro sc nm ts env A E s as Y hm hs hA hfr hf hI
  cases hm.inv with
  | cons m1 m2 => exact h sc nm _ _ env A E s as Y m1 m2 hs hA hfr hf hI

theorem wr_sound (O : Ok C W) {Φ : Fn} {k r : Nat} {bad : PyData → Prop} (hf : ∀ g, SF C Φ k g) (hR : RF C k r bad) {ss : List S} {ρ : Rho} {σ : St} (h : WR Φ r bad ss ρ σ) : WS C W k ss ρ σ := by
  induction h with
  | @done ss ρ σ ρ' σ' h =>
    intro sc nm ts env A E s as Y hm hs hA hfr hef hI
    refine wpAny_mono (sss_all O hf ss _ _ _ env A E s ρ ρ' as Y σ σ' _ hm hs hA hI h) (fun f s' q => ?_) fun _ _ y => y
    obtain ⟨as', q1, q2, q3⟩ := q
    cases f with
    | ret u =>
      obtain rfl := DR.bool_inv q3.1
      obtain ⟨h', t', e⟩ := q1.same
      exact ⟨rfl, ⟨h', t', e⟩, q2.base⟩
    | _ => exact q3.elim
  | @step st ss ρ σ ρ' σ' h _ ih =>
    refine ws_cons fun sc nm t ts env A E s as Y m1 m2 hs hA hfr hef hI => ?_
    refine wpAny_execs_cons (wpAny_mono (ss_all O hf st _ _ _ env A E s ρ ρ' as Y σ σ' _ m1 hs hA hI h) (fun f s₁ q => ?_) fun _ _ y => y)
    obtain ⟨as₁, q1, q2, q3⟩ := q
    cases f with
    | next =>
      refine wpAny_mono (ih sc nm ts env A E s₁ as₁ Y m2 hs hA hfr hef q2) (fun f s' x => ?_) fun _ _ y => y
      obtain ⟨h', t', e⟩ := q1.same
      exact ⟨x.1, SameKp.trans ⟨⟨h', t', e⟩, q2.base⟩ x.2⟩
    | _ => exact q3.elim
  | @ite c t e ss ρ σ σ' h _ ih =>
    refine ws_cons fun sc nm tt ts env A E s as Y m1 m2 hs hA hfr hef hI => ?_
    cases m1.inv with
    | ite m5 m3 m4 =>
      refine wpAny_execs_cons (wpAny_If (wpAny_mono ((sx_all O hf c).2 _ _ _ env A E s ρ as Y σ σ' _ true m5 hs hA hI h rfl) (fun b s₁ p => ?_) fun _ _ y => y))
      obtain ⟨rfl, as₁, p1⟩ := p
      refine wpAny_mono (ih sc nm _ env A E s₁ as₁ Y m3 hs hA hfr hef (hI.step p1)) (fun f s' x => ?_) fun _ _ y => y
      obtain ⟨rfl, x2⟩ := x
      obtain ⟨h', t', e⟩ := p1.same
      exact ⟨rfl, SameKp.trans ⟨⟨h', t', e⟩, (hI.step p1).base⟩ x2⟩
  | @tail x ss ρ σ σ' d h hb =>
    refine ws_cons fun sc nm tt ts env A E s as Y m1 m2 hs hA hfr hef hI => ?_
    have hxs := sxs_all O hf [x]
    have hev : evs Φ [x] ρ σ = .ok ([.d d], σ') := by simp only [evs, h, R.bind_ok]
    cases m1.inv with
    | ret m5 =>
      refine wpAny_execs_cons (wpAny_Return_some ?_)
      cases m5.inv with
      | @call y p ls pos hg hx m3 hlen =>
        obtain ⟨o, fd, ho, hd⟩ := O.fo r y hx
        refine PyProof.Rows.Call_Name rfl (name_glob O hI hs hg (O.fn r y hx) (Calls.callWith_function (o := o) (fd := fd) ?_))
        have fin : ∀ us s₁, (∃ as', Step C as Y σ' as' s s₁ ∧ All2 (VR C as' Y s₁.heap) [.d d] us) → (s₁.heap.get? (C.fa r) = some o ∧ o.data = .func fd) ∧ wpAny (model C.prog C.w) A (call (.ref (C.fa r)) ([] ++ us) []) (fun v s' => (Flow.ret v) = .ret (.bool true) ∧ SameKp C s s') E s₁ := fun us s₁ p => by
          obtain ⟨as₁, p1, p2⟩ := p
          have hI1 := hI.step p1
          refine ⟨⟨hI1.base _ _ ho, hd⟩, ?_⟩
          have p3 := args_plain (C := C) (σ := σ') (avs := [.d d]) rfl rfl p2
          cases p3 with
          | cons q1 q2 =>
            cases q2
            refine wpAny_mono (hR A E s₁ _ _ d [env] hA hI1.base (fun a x => x.elim (p1.sr.xd a) fun m => let ⟨o, e, _⟩ := p1.sr.asOk a m; ⟨o, e⟩) q1 (frs_of hfr hI1 hef) hb) (fun v s' x => ?_) fun _ _ y => y
            obtain ⟨rfl, x2⟩ := x
            obtain ⟨h', t', e⟩ := p1.same
            exact ⟨rfl, SameKp.trans ⟨⟨h', t', e⟩, hI1.base⟩ x2⟩
        cases m3.inv with
        | cons q1 hn' q2 =>
          have := hxs _ _ _ env A E s ρ as Y σ σ' _ pos (MXs.cons q1 hn' q2) hs hA hI hev
          rw [starEach_cons hn'] at this ⊢
          exact Calls.evalArgs_plain (wpAny_mono this (fun us s₁ p => fin us s₁ p) fun _ _ y => y)
end
end Mine
end

section
/-! M31: comprehensions, by hand -/
namespace Mine
open PySem
theorem compGo_l {β : Type} {test elt : Rho → St → R (V × St)} {slots : List Nat} {ok : St → Bool} {ρ : Rho} {σ : St} {dec f : β → V} : ∀ {l : List β},
    (∀ b ∈ l, ∃ ρ', bindV slots (dec b) ρ = some ρ' ∧ test ρ' σ = .ok (.d (.bool true), σ) ∧ elt ρ' σ = .ok (f b, σ)) → ok σ = true → compGo test elt slots ok ρ (l.map dec) σ = .ok (l.map f, σ)
  | [], _, _ => rfl
  | x :: xs, h, hok => by
    obtain ⟨ρ', h1, h2, h3⟩ := h x (.head _)
    simp only [List.map_cons, compGo, h1, h2, R.bind_ok, truthy_b, h3, hok, if_true]
    rw [compGo_l (fun y m => h y (.tail _ m)) hok]
    rfl
theorem e_comp {β : Type} {Φ : Fn} {k : SrcK} {src elt : X} {slots : List Nat} {ρ : Rho} {σ : St} {v : V} {l : List β} {dec : β → V} {f : β → PyData} (h1 : ev Φ src ρ σ = .ok (v, σ)) (h2 : srcV k σ v = some (l.map dec)) (hl : l.length ≤ 100000) (hok : srcOk k σ v (l.map dec) = true)
    (h : ∀ x ∈ l, ∃ ρ', bindV slots (dec x) ρ = some ρ' ∧ ev Φ elt ρ' σ = .ok (.d (f x), σ)) : ev Φ (.comp false k src slots none elt) ρ σ = .ok (.d (.list (l.map f)), σ) := by
  have hc := compGo_l (test := evt Φ none) (elt := ev Φ elt) (slots := slots) (ok := fun σ' => srcOk k σ' v (l.map dec)) (ρ := ρ) (σ := σ) (dec := dec) (f := fun b => .d (f b)) (l := l) (fun x m => by
    obtain ⟨ρ', e1, e2⟩ := h x m
    exact ⟨ρ', e1, rfl, e2⟩) hok
  have hl' : ¬ 100000 < (l.map dec).length := by simpa using hl
  refine bindOf h1 ?_
  show (match srcV k σ v with | none => R.stuck | some xs => if 100000 < xs.length then .stuck else (compGo (evt Φ none) (ev Φ elt) slots (fun σ' => srcOk k σ' v xs) ρ xs σ).bind fun r => mkL false r.1 r.2) = _
  rw [h2]
  dsimp only
  rw [if_neg hl']
  exact bindOf hc (mkL_of (allD_map f l))
end Mine
end

section
/-! M32: a law whose body ends in a refusal -/
namespace Mine
open PySem PySem.Spec PySem.SeqAt PySem.W PyProof.Rows PySem.Calls
set_option maxRecDepth 100000

noncomputable def fragOf (h : Heap) : List Addr → Frag
  | [] => []
  | a :: r => (match h.get? a with | some o => (a, o) :: fragOf h r | none => fragOf h r)
theorem fragOf_in (h : Heap) : ∀ as, (fragOf h as).In h
  | [] => fun a o e => nomatch e
  | b :: r => fun a o e => by
    have ih := fragOf_in h r
    unfold fragOf at e
    cases q : h.get? b with
    | none => rw [q] at e; exact ih a o e
    | some ob =>
      rw [q] at e
      dsimp only at e
      rw [List.lookup_cons] at e
      cases hb : a == b with
      | true => rw [hb] at e; cases e; rw [beq_iff_eq.mp hb]; exact q
      | false => rw [hb] at e; exact ih a o e
noncomputable def nsAddr (h : Heap) (c : Addr) : Addr := match h.get? c with
  | some ⟨_, _, .cls cd, _⟩ => cd.ns
  | _ => 0
noncomputable def vErrMro : List Value := [.type "ValueError", .type "Exception", .type "BaseException", .type "object"]
noncomputable def excsOk (K : Frag) (c0 c1 c2 : Addr) : Bool :=
  nsIn K mainGlobals "ShapeError" == some (some (.ref c0)) && nsIn K mainGlobals "BadRings" == some (some (.ref c1)) && nsIn K mainGlobals "BadSpot" == some (some (.ref c2)) &&
  typeIn K (.ref c0) == some (.type "type") && (clsIn K c0).isSome && subIn K (.ref c0) (.type "BaseException") == some true && subIn K (.ref c2) (.ref c0) == some true && subIn K (.ref c2) (.type "ValueError") == some true &&
  typeIn K (.ref c1) == some (.type "type") && (clsIn K c1).isSome && subIn K (.ref c2) (.ref c1) == some false && !(Value.ref c2 == Value.ref c1) && clsPlain K c2 && excIn K c2 vErrMro "ValueError.__new__"
noncomputable def excsAt (h : Heap) : Bool := match h.nsMap mainGlobals "ShapeError", h.nsMap mainGlobals "BadRings", h.nsMap mainGlobals "BadSpot" with
  | some (.ref c0), some (.ref c1), some (.ref c2) => excsOk (fragOf h [mainGlobals, c0, c1, c2, nsAddr h c0, nsAddr h c1, nsAddr h c2]) c0 c1 c2
  | _, _, _ => false
noncomputable def ExcsIn (h : Heap) : Prop := ∃ K c0 c1 c2, Frag.In K h ∧ excsOk K c0 c1 c2 = true
theorem excsAt_ok {h : Heap} (e : excsAt h = true) : ExcsIn h := by
  unfold excsAt at e
  split at e
  · exact ⟨_, _, _, _, fragOf_in _ _, e⟩
  · cases e
/-- what the head is asked to see -/
noncomputable def excHook : Hook := ⟨Bool, fun s => excsAt s.heap, fun _ => true, fun _ h => ExcsIn h, fun _ _ e => excsAt_ok e, fun _ _ _ ⟨K, c0, c1, c2, x, e⟩ k => ⟨K, c0, c1, c2, x.keeps k, e⟩⟩

section
variable {p : Program} {loose : List Str} {mean : ExcName → Option Value} {mg mb : Str → Option Value} {prog : Program} {w : World} {H : Heap} {W : Wd}
theorem excs_of (T : Top p loose mean mg mb H) (e : ExcsIn H) (hv : mg "ValueError" = none ∧ mb "ValueError" = some (.type "ValueError")) : ∃ K c0 c1 c2, Excs (mkCx prog w H mg mb W) K c0 c1 c2 ∧ OwnCls "BadSpot" c2 vErrMro "ValueError.__new__" mg H := by
  obtain ⟨K, c0, c1, c2, X, e⟩ := e
  unfold excsOk at e
  simp only [Bool.and_eq_true, beq_iff_eq, Bool.not_eq_true'] at e
  obtain ⟨⟨⟨⟨⟨⟨⟨⟨⟨⟨⟨⟨⟨e1, e2⟩, e3⟩, e4⟩, e5⟩, e6⟩, e7⟩, e8⟩, e9⟩, e10⟩, e11⟩, e12⟩, e13⟩, e14⟩ := e
  exact ⟨K, c0, c1, c2, ⟨X, mg_of X T.g e1, mg_of X T.g e2, mg_of X T.g e3, hv, e4, e5, e6, e7, e8, e9, e10, e11, e12, e13⟩, own_of_in X (topRead_of T) e3 e14⟩

theorem def_at (T : Top p loose mean mg mb H) {D : Def} {f : Nat} {d : DefRec} (hn : W.fns[f]? = some (Str.ofString D.name)) (hd : (recsOf p).find? (fun d => d.name == Str.ofString D.name) = some d) (hok : defOkB D d.params d.scope = true) :
    ∃ fd, DefAt (mkCx prog w H mg mb W) D f fd d.body ∧ fd.scope = d.scope := by
  obtain ⟨a, o, pm, code, doc, e1, e2, e3, e4⟩ := fn_at T hd
  have hfa : (mkCx prog w H mg mb W).fa f = a := by
    show faOf mg W f = a
    unfold faOf
    rw [hn]
    dsimp only
    rw [e1]
  exact ⟨_, ⟨⟨o, by rw [hfa]; exact e2, e3⟩, rfl, rfl, rfl, rfl, rfl, e4, hok⟩, rfl⟩

/-- a law holds, by the weak run -/
theorem law_fin_w {c : ClaimW} {cl : Str → Option Addr} {mean' : ExcName → Option Value} {D : Def} {rest : List Def} {s₁ : Shared} {args : List WData} {fa l : Addr} {ns : List Int} {fp : List Addr} {x : Str} {r : Nat} {bad : PyData → Prop}
    (T : Top p loose mean mg mb s₁.heap) (hchk : chkTop p loose W (D :: rest) = true) (hx : W.fns[rest.length]? = some x) (hmg : mg x = some (.ref fa)) (hr : Reads s₁.heap (.ref l) (.list (ns.map .int)) fp) (hn : ¬ ((63 : Nat) : Int) < ((ns.length : Nat) : Int)) (hg : s₁.gens = #[])
    (hlen : rest.length < 500) (hp : D.pars.length = 1) (hR : RF (mkCx prog w s₁.heap mg mb W) (rest.length + 3) r bad)
    (hrun : ∀ ns : List Int, ns.length ≤ 63 → WR (tbl rest) r bad D.body ([.d (.list (ns.map .int))] ++ List.replicate (D.vars.length - D.pars.length) .undef) []) (hc1 : ∀ cls, c.raises args cls = false) (hc2 : c.post args (.bool true) args = true) :
    wpAny (model prog w) callerA (call (.ref fa) [.ref l]) (fun v s' => GoodWG c cl mean' args s₁ (.ok (.ret v)) s') (fun e s' => GoodWG c cl mean' args s₁ (.error e) s') s₁ := by
  obtain ⟨O, hD, hDs⟩ := top_ok (prog := prog) (w := w) T hchk
  have hfa : faOf mg W rest.length = fa := by
    unfold faOf
    rw [hx]
    dsimp only
    rw [hmg]
  obtain ⟨o, fd, body, ho, hd, hbody, hclo, hgl, hbl, hdf, hcd, hok, hms⟩ := hD.ok
  have hAt : DefAt (mkCx prog w s₁.heap mg mb W) D rest.length fd body := ⟨⟨o, ho, hd⟩, hbody, hclo, hgl, hbl, hdf, hcd, hok⟩
  have hf : ∀ g, SF (mkCx prog w s₁.heap mg mb W) (tbl rest) (rest.length + 3) g := fun g => (sf_tbl O rest hDs g).up.up.up
  have hA : AOk callerA (rest.length + 3 + 1) := ⟨rfl, by show 1 + claimMargin + (rest.length + 3 + 1) < recursionLimit; simp only [claimMargin, recursionLimit]; omega, by show 4 + 3 * (rest.length + 3 + 1) + 300 < cLine; simp only [cLine]; omega⟩
  rw [← hfa]
  refine wpAny_call (def_enter (k := rest.length + 3) O hAt hA (Kp.refl _) (X := fun _ => False) (fun a x => x.elim) (vs := [.d (.list (ns.map .int))]) (.cons ⟨by simpa [noDict] using noDicts_ints ns, fp, hr, fun _ _ => ⟨nofun, nofun⟩⟩ .nil) (by rw [hp]; rfl) fun env Xc s₂ eS eF hA' hsm kp hnew inv => ?_)
  refine wpAny_mono (wr_sound O hf hR (hrun ns (by omega)) _ _ _ env (callerA.deeper env) _ s₂ [] Xc hms (by rw [eS]) hA' (Around.frames_deeper rfl) eF inv) (fun f s' q => ?_) fun _ _ y => y
  obtain ⟨rfl, ⟨h', t', rfl⟩, hk⟩ := q
  obtain ⟨h2, t2, rfl⟩ := hsm
  exact ⟨.inl ⟨_, _, [], rfl, hc1, .bool true, hc2, fun _ => ⟨List.nodup_nil, fun a m => nomatch m⟩⟩, .of_keep hk, rfl, .of_eq hg⟩
end
end Mine
end

section
namespace L01
open Mine PySem
noncomputable def D_is_place : Def where
  name := "is_place"
  pars := ["thing"]
  vars := ["thing", ""]
  body := [.ite (.or (.not (.isin .tuple (.var 0))) (.cmp .ne (.b1 false .len (.var 0)) (.lit (.int 2)))) [.ret (.lit (.bool false))] [],
 .ret (.b1 false .all (.comp false .seq (.var 0) [1] none (.and (.isin .int (.var 1)) (.and (.not (.isin .bool (.var 1))) (.chain .le .le (.lit (.int 0)) (.var 1) (.glob "MOST" (.int 12)))))))]

noncomputable def D_is_spot : Def where
  name := "is_spot"
  pars := ["thing"]
  vars := ["thing", "x", "y"]
  body := [.ite (.not (.call 0 false [(.var 0)])) [.ret (.lit (.bool false))] [],
 .unpack [1, 2] (.var 0),
 .ret (.or (.and (.cmp .eq (.bin .mod (.var 1) (.lit (.int 2))) (.lit (.int 1))) (.cmp .eq (.bin .mod (.var 2) (.lit (.int 4))) (.lit (.int 2)))) (.and (.cmp .eq (.bin .mod (.var 2) (.lit (.int 2))) (.lit (.int 1))) (.cmp .eq (.bin .mod (.var 1) (.lit (.int 4))) (.lit (.int 2)))))]

noncomputable def D_need_spot : Def where
  name := "need_spot"
  pars := ["thing"]
  vars := ["thing"]
  body := [.ite (.not (.call 1 false [(.var 0)])) [.raise 2] []]

noncomputable def D_all_spots : Def where
  name := "all_spots"
  pars := []
  vars := ["found", "x", ""]
  body := [.assign 0 (.lst true []),
 .forS .range (.bin .add (.glob "MOST" (.int 12)) (.lit (.int 1))) [1] [.extend (.var 0) (.comp false .range (.bin .add (.glob "MOST" (.int 12)) (.lit (.int 1))) [2] (some (.call 1 false [(.tup [(.var 1), (.var 2)])])) (.tup [(.var 1), (.var 2)]))],
 .ret (.var 0)]

noncomputable def D_cell : Def where
  name := "cell"
  pars := ["spot"]
  vars := ["spot", "x", "y", "left", "low", "middle"]
  body := [.unpack [1, 2] (.var 0),
 .assign 3 (.bin .mul (.bin .fdiv (.var 1) (.lit (.int 4))) (.lit (.int 4))),
 .assign 4 (.bin .mul (.bin .fdiv (.var 2) (.lit (.int 4))) (.lit (.int 4))),
 .assign 5 (.tup [(.bin .add (.var 3) (.lit (.int 2))), (.bin .add (.var 4) (.lit (.int 2)))]),
 .ite (.cmp .eq (.bin .mod (.var 1) (.lit (.int 4))) (.lit (.int 1))) [.ret (.lst true [(.tup [(.var 3), (.bin .add (.var 4) (.lit (.int 4)))]), (.tup [(.var 3), (.var 4)]), (.var 5)])] [],
 .ite (.cmp .eq (.bin .mod (.var 1) (.lit (.int 4))) (.lit (.int 3))) [.ret (.lst true [(.tup [(.bin .add (.var 3) (.lit (.int 4))), (.var 4)]), (.tup [(.bin .add (.var 3) (.lit (.int 4))), (.bin .add (.var 4) (.lit (.int 4)))]), (.var 5)])] [],
 .ite (.cmp .eq (.bin .mod (.var 2) (.lit (.int 4))) (.lit (.int 1))) [.ret (.lst true [(.tup [(.var 3), (.var 4)]), (.tup [(.bin .add (.var 3) (.lit (.int 4))), (.var 4)]), (.var 5)])] [],
 .ret (.lst true [(.tup [(.bin .add (.var 3) (.lit (.int 4))), (.bin .add (.var 4) (.lit (.int 4)))]), (.tup [(.var 3), (.bin .add (.var 4) (.lit (.int 4)))]), (.var 5)])]

noncomputable def D_cell_of : Def where
  name := "cell_of"
  pars := ["spot"]
  vars := ["spot"]
  body := [.expr (.call 2 false [(.var 0)]),
 .ret (.call 4 true [(.var 0)])]

noncomputable def D__law_whole : Def where
  name := "_law_whole"
  pars := ["_law_found"]
  vars := ["_law_found"]
  body := [.ret (.and (.isin .int (.var 0)) (.not (.isin .bool (.var 0))))]

noncomputable def D__law_cell_at : Def where
  name := "_law_cell_at"
  pars := ["_law_script", "_law_k"]
  vars := ["_law_script", "_law_k"]
  body := [.ite (.cmp .lt (.var 1) (.b1 false .len (.var 0))) [.ret (.sub (.var 0) (.var 1))] [],
 .ret (.lit (.int 0))]

noncomputable def D__law_is_spot : Def where
  name := "_law_is_spot"
  pars := ["_law_x", "_law_y"]
  vars := ["_law_x", "_law_y"]
  body := [.ret (.or (.and (.cmp .eq (.bin .mod (.var 0) (.lit (.int 2))) (.lit (.int 1))) (.cmp .eq (.bin .mod (.var 1) (.lit (.int 4))) (.lit (.int 2)))) (.and (.cmp .eq (.bin .mod (.var 1) (.lit (.int 2))) (.lit (.int 1))) (.cmp .eq (.bin .mod (.var 0) (.lit (.int 4))) (.lit (.int 2)))))]

noncomputable def D__law_places : Def where
  name := "_law_places"
  pars := ["_law_found", "_law_size"]
  vars := ["_law_found", "_law_size", "_law_place"]
  body := [.ite (.or (.not (.isin .list (.var 0))) (.cmp .ne (.b1 false .len (.var 0)) (.var 1))) [.ret (.lit (.bool false))] [],
 .forS .seq (.var 0) [2] [.ite (.or (.not (.isin .tuple (.var 2))) (.or (.cmp .ne (.b1 false .len (.var 2)) (.lit (.int 2))) (.or (.not (.call 6 false [(.sub (.var 2) (.lit (.int 0)))])) (.not (.call 6 false [(.sub (.var 2) (.lit (.int 1)))]))))) [.ret (.lit (.bool false))] []],
 .ret (.lit (.bool true))]

noncomputable def D__law_left : Def where
  name := "_law_left"
  pars := ["_law_one", "_law_other_here", "_law_spot"]
  vars := ["_law_one", "_law_other_here", "_law_spot", "_law_wide"]
  body := [.assign 3 (.bin .mul (.bin .sub (.sub (.var 1) (.lit (.int 0))) (.sub (.var 0) (.lit (.int 0)))) (.bin .sub (.sub (.var 2) (.lit (.int 1))) (.sub (.var 0) (.lit (.int 1))))),
 .ret (.bin .sub (.var 3) (.bin .mul (.bin .sub (.sub (.var 1) (.lit (.int 1))) (.sub (.var 0) (.lit (.int 1)))) (.bin .sub (.sub (.var 2) (.lit (.int 0))) (.sub (.var 0) (.lit (.int 0))))))]

noncomputable def D__law_refused : Def where
  name := "_law_refused"
  pars := ["_law_thing"]
  vars := ["_law_thing", "e"]
  body := [.raise 9, .raise 9]

noncomputable def D__law_is_cell : Def where
  name := "_law_is_cell"
  pars := ["_law_found", "_law_spot"]
  vars := ["_law_found", "_law_spot", "_law_k", "_law_left_here"]
  body := [.ite (.not (.call 9 false [(.var 0), (.lit (.int 3))])) [.ret (.lit (.bool false))] [],
 .forS .range (.lit (.int 3)) [2] [.assign 3 (.sub (.lst false [(.lit (.int 0)), (.lit (.int 0)), (.lit (.int 2))]) (.var 2)),
 .ite (.or (.cmp .ne (.bin .mod (.sub (.sub (.var 0) (.var 2)) (.lit (.int 0))) (.lit (.int 4))) (.var 3)) (.or (.cmp .ne (.bin .mod (.sub (.sub (.var 0) (.var 2)) (.lit (.int 1))) (.lit (.int 4))) (.var 3)) (.cmp .le (.call 10 false [(.sub (.var 0) (.bin .sub (.var 2) (.lit (.int 1)))), (.sub (.var 0) (.var 2)), (.var 1)]) (.lit (.int 0))))) [.ret (.lit (.bool false))] []],
 .ret (.cmp .eq (.call 10 false [(.sub (.var 0) (.lit (.int 0))), (.sub (.var 0) (.lit (.int 1))), (.sub (.var 0) (.lit (.int 2)))]) (.lit (.int 8)))]

noncomputable def D__law_spots : Def where
  name := "_law_spots"
  pars := []
  vars := ["_law_found", "_law_x", ""]
  body := [.assign 0 (.lst false []),
 .forS .range (.lit (.int 13)) [1] [.assign 0 (.bin .add (.var 0) (.comp false .range (.lit (.int 13)) [2] (some (.call 8 false [(.var 1), (.var 2)])) (.tup [(.var 1), (.var 2)])))],
 .ret (.var 0)]

noncomputable def D__law_other : Def where
  name := "_law_other"
  pars := ["_law_cell_number"]
  vars := ["_law_cell_number", "_law_far", "_law_some"]
  body := [.assign 1 (.bin .mod (.bin .fdiv (.var 0) (.lit (.int 12))) (.bin .pow (.lit (.int 10)) (.lit (.int 20)))),
 .assign 2 (.lst false [(.lit .none), (.lit (.int 5)), (.lit (.str (Str.ofString "ab"))), (.lst false [(.lit (.int 1)), (.lit (.int 2))]), (.tup [(.lit (.int 1))]), (.tup [(.lit (.int 1)), (.lit (.int 2)), (.lit (.int 3))]), (.tup [(.lit (.bool true)), (.lit (.int 2))]), (.tup [(.lit (.int 2)), (.lit (.bool true))])]),
 .ret (.sub (.bin .add (.var 2) (.lst false [(.tup [(.neg (.lit (.int 1))), (.lit (.int 2))]), (.tup [(.lit (.int 13)), (.lit (.int 2))]), (.tup [(.lit (.int 1)), (.bin .add (.lit (.int 14)) (.var 1))]), (.tup [(.bin .sub (.neg (.lit (.int 1))) (.var 1)), (.lit (.int 2))])])) (.bin .mod (.var 0) (.lit (.int 12))))]

noncomputable def D_law : Def where
  name := "law"
  pars := ["_law_script"]
  vars := ["_law_script", "_law_spots_here", "_law_found", "_law_place"]
  body := [.assign 1 (.call 13 false []),
 .assign 2 (.call 3 true []),
 .ite (.or (.not (.call 9 false [(.var 2), (.b1 false .len (.var 1))])) (.or (.cmp .ne (.var 2) (.var 1)) (.or (.not (.call 6 false [(.glob "MOST" (.int 12))])) (.cmp .ne (.glob "MOST" (.int 12)) (.lit (.int 12)))))) [.ret (.lit (.bool false))] [],
 .append (.var 2) (.tup [(.lit (.int 1)), (.lit (.int 2))]),
 .ite (.cmp .ne (.call 3 false []) (.var 1)) [.ret (.lit (.bool false))] [],
 .assign 3 (.tup [(.bin .mod (.call 7 false [(.var 0), (.lit (.int 0))]) (.lit (.int 13))), (.bin .mod (.call 7 false [(.var 0), (.lit (.int 1))]) (.lit (.int 13)))]),
 .ite (.cmp .eq (.bin .mod (.call 7 false [(.var 0), (.lit (.int 2))]) (.lit (.int 3))) (.lit (.int 1))) [.ret (.call 11 false [(.call 14 false [(.bin .fdiv (.call 7 false [(.var 0), (.lit (.int 2))]) (.lit (.int 3)))])])] [],
 .ite (.cmp .eq (.bin .mod (.call 7 false [(.var 0), (.lit (.int 2))]) (.lit (.int 3))) (.lit (.int 2))) [.assign 3 (.sub (.var 1) (.bin .mod (.call 7 false [(.var 0), (.lit (.int 0))]) (.b1 false .len (.var 1))))] [],
 .ite (.cmp .notin (.var 3) (.var 1)) [.ret (.call 11 false [(.var 3)])] [],
 .assign 2 (.call 5 true [(.var 3)]),
 .ite (.not (.call 12 false [(.var 2), (.var 3)])) [.ret (.lit (.bool false))] [],
 .append (.var 2) (.tup [(.lit (.int 0)), (.lit (.int 0))]),
 .ret (.call 12 false [(.call 5 false [(.var 3)]), (.var 3)])]

noncomputable def defs : List Def := [D_law, D__law_other, D__law_spots, D__law_is_cell, D__law_refused, D__law_left, D__law_places, D__law_is_spot, D__law_cell_at, D__law_whole, D_cell_of, D_cell, D_all_spots, D_need_spot, D_is_spot, D_is_place]


end L01
/-! S01: law 01, plain -/
namespace L01
open PySem Mine
set_option maxRecDepth 100000

noncomputable def G : Fn := tbl defs
noncomputable def S (k : Nat) : Fn := tbl (defs.drop (16 - k))
theorem S_call (k g : Nat) (as : List V) (h : g < k) (hk : k ≤ 16) : S k g as = G g as := by
  have hl : defs.length = 16 := by decide
  exact (tbl_drop (16 - k) defs g as (by omega)).symm
theorem at0 (as : List V) : G 0 as = runDef (S 0) D_is_place as := rfl
theorem at1 (as : List V) : G 1 as = runDef (S 1) D_is_spot as := rfl
theorem at7 (as : List V) : G 7 as = runDef (S 7) D__law_cell_at as := rfl
theorem at14 (as : List V) : G 14 as = runDef (S 14) D__law_other as := rfl
noncomputable def spots : List (Int × Int) := (List.range 13).flatMap fun x : Nat => ((List.range 13).filter fun y : Nat => (x % 2 == 1 && y % 4 == 2) || (y % 2 == 1 && x % 4 == 2)).map fun y : Nat => ((x : Int), (y : Int))
theorem spots_len : spots.length = 36 := by decide +kernel
noncomputable def cellL (s : Int × Int) : List (Int × Int) :=
  let l := s.1 / 4 * 4
  let w := s.2 / 4 * 4
  let m := (l + 2, w + 2)
  if s.1 % 4 = 1 then [(l, w + 4), (l, w), m] else if s.1 % 4 = 3 then [(l + 4, w), (l + 4, w + 4), m] else if s.2 % 4 = 1 then [(l, w), (l + 4, w), m] else [(l + 4, w + 4), (l, w + 4), m]

theorem spots_run : G 13 [] = .ok (.d (ptL spots), []) := isData_ok (by decide +kernel)
theorem all_run : G 3 [] = .ok (.ref 0, [.list (encL spots)]) := isOwn_ok (by decide +kernel)
theorem places_run : G 9 [.d (ptL spots), .d (.int 36)] = .ok (.d (.bool true), []) := isT_ok (by decide +kernel)
theorem whole_run : G 6 [.d (.int 12)] = .ok (.d (.bool true), []) := isT_ok (by decide +kernel)
theorem cells_run : spots.all (fun s => isOwn (cellL s) (G 5 [.d (pt s)]) && isT (G 12 [.d (ptL (cellL s)), .d (pt s)])) = true := by decide +kernel
theorem out_run : (List.range 13).all (fun x : Nat => (List.range 13).all fun y : Nat => spots.contains ((x : Int), (y : Int)) || isF (G 1 [.d (pt ((x : Int), (y : Int)))])) = true := by decide +kernel

noncomputable def scr (ns : List Int) : PyData := .list (ns.map .int)
noncomputable def cel (ns : List Int) (k : Nat) : Int := ns.getD k 0
theorem cell_run (ns : List Int) (hn : ns.length ≤ 63) (k : Nat) : G 7 [.d (scr ns), .d (.int k)] = .ok (.d (.int (cel ns k)), []) := by
  rw [at7]
  generalize S 7 = Φ
  have hlen : b1V false .len (.d (scr ns)) [] = .ok (.d (.int ns.length), []) := by
    have := b1_len false (ns.map .int) [] (by simp; omega)
    simpa [scr] using this
  by_cases h : k < ns.length
  · have h' : (k : Int) < ns.length := by omega
    have e : subV [] (.d (scr ns)) (.d (.int k)) = some (.d (.int (cel ns k))) := sub_list [] (by omega) (by omega) (by simp [cel, h])
    exact run_def (ρ := [.d (scr ns), .d (.int k)]) rfl rfl (xs_ret (x_iteT (σ' := []) (e_cmp (e_var rfl rfl) (e_b1 (e_var rfl rfl) hlen) (c_ltT h')) (xs_ret (x_ret (σ' := []) (e_sub (e_var rfl rfl) (e_var rfl rfl) e) rfl))))
  · have e : cel ns k = 0 := by
      unfold cel
      rw [List.getD_eq_getElem?_getD, List.getElem?_eq_none (by omega)]
      rfl
    rw [e]
    exact run_def (ρ := [.d (scr ns), .d (.int k)]) rfl rfl (xs_next (x_iteF (σ' := []) (e_cmp (e_var rfl rfl) (e_b1 (e_var rfl rfl) hlen) (c_ltF (by omega))) xs_nil) (xs_ret (x_ret (σ' := []) e_lit rfl)))

/-- what is no spot -/
noncomputable def bad (d : PyData) : Prop := G 1 [.d d] = .ok (.d (.bool false), [])

noncomputable def inB (i : Int) : Bool := decide (0 ≤ i) && decide (i ≤ 12)
theorem part_run (Φ : Fn) (v : V) (i : Int) : ev Φ (.and (.isin .int (.var 1)) (.and (.not (.isin .bool (.var 1))) (.chain .le .le (.lit (.int 0)) (.var 1) (.glob "MOST" (.int 12))))) [v, .d (.int i)] [] = .ok (.d (.bool (inB i)), []) := by
  unfold inB
  refine e_andT (e_isin (p := .int i) (e_var rfl rfl)) (e_andT (e_not (b := false) (e_isin (p := .int i) (e_var rfl rfl))) ?_)
  by_cases h : 0 ≤ i
  · rw [decide_eq_true h, Bool.true_and]
    exact e_chainT e_lit (e_var rfl rfl) (c_leT h) e_glob (cmpV_le _ _ _)
  · rw [decide_eq_false h, Bool.false_and]
    exact e_chainF e_lit (e_var rfl rfl) (c_leF h)
/-- a pair of whole numbers, one of them out of the plane -/
theorem place_far (x y : Int) (h : ¬ (0 ≤ x ∧ x ≤ 12 ∧ 0 ≤ y ∧ y ≤ 12)) : G 0 [.d (pt (x, y))] = .ok (.d (.bool false), []) := by
  rw [at0]
  generalize S 0 = Φ
  have key : (inB x && (inB y && true)) = false := by
    cases q : (inB x && (inB y && true))
    · rfl
    · simp only [inB, Bool.and_eq_true, decide_eq_true_eq, Bool.and_true] at q
      exact absurd ⟨q.1.1, q.1.2, q.2.1, q.2.2⟩ h
  have hc : ev Φ (.comp false .seq (.var 0) [1] none (.and (.isin .int (.var 1)) (.and (.not (.isin .bool (.var 1))) (.chain .le .le (.lit (.int 0)) (.var 1) (.glob "MOST" (.int 12)))))) [.d (pt (x, y)), .undef] [] = .ok (.d (.list ([x, y].map fun i => .bool (inB i))), []) :=
    e_comp (v := .d (pt (x, y))) (l := [x, y]) (dec := fun i => .d (.int i)) (f := fun i => .bool (inB i)) (e_var rfl rfl) rfl (by simp) rfl fun i _ => ⟨_, bind1 1 _ _ (by simp), part_run Φ _ i⟩
  rw [← key]
  exact run_def (ρ := [.d (pt (x, y)), .undef]) rfl rfl (xs_next (x_iteF (σ' := []) (e_orF (e_not (b := true) (e_isin (p := pt (x, y)) (e_var rfl rfl))) (e_cmp (e_b1 (e_var rfl rfl) (show b1V false .len (.d (pt (x, y))) [] = .ok (.d (.int 2), []) from rfl)) e_lit (c_neF rfl))) xs_nil) (xs_ret (x_ret (σ' := []) (e_b1 hc rfl) rfl)))
theorem spot_far (x y : Int) (h : ¬ (0 ≤ x ∧ x ≤ 12 ∧ 0 ≤ y ∧ y ≤ 12)) : bad (pt (x, y)) := by
  unfold bad
  have h0 := callV_1 (σ := []) ((S_call 1 0 _ (by decide) (by decide)).trans (place_far x y h))
  rw [at1]
  generalize S 1 = Φ at h0 ⊢
  exact run_def (ρ := [.d (pt (x, y)), .undef, .undef]) rfl rfl (xs_ret (x_iteT (σ' := []) (e_not (b := false) (e_call (es_cons (e_var rfl rfl) es_nil) h0)) (xs_ret (x_ret (σ' := []) e_lit rfl))))
end L01
namespace L01
open PySem Mine
set_option maxRecDepth 100000

noncomputable def things (far : Int) : List PyData := [.none, .int 5, .str (Str.ofString "ab"), .list [.int 1, .int 2], .tuple [.int 1], .tuple [.int 1, .int 2, .int 3], .tuple [.bool true, .int 2], .tuple [.int 2, .bool true]] ++ [pt (-1, 2), pt (13, 2), pt (1, 14 + far), pt (-1 - far, 2)]
theorem things_bad0 : ((things 0).take 10).all (fun d => isF (G 1 [.d d])) = true := by decide +kernel
theorem things_bad (far : Int) (h : 0 ≤ far) (d : PyData) (hd : d ∈ things far) : bad d := by
  have h0 := List.all_eq_true.mp things_bad0
  have e : things far = (things 0).take 10 ++ [pt (1, 14 + far), pt (-1 - far, 2)] := rfl
  rw [e, List.mem_append] at hd
  rcases hd with hd | hd
  · exact isF_ok (h0 d hd)
  · simp only [List.mem_cons, List.not_mem_nil, or_false] at hd
    rcases hd with rfl | rfl
    · exact spot_far _ _ (by omega)
    · exact spot_far _ _ (by omega)
theorem binD_list (a b : List PyData) (h : a.length + b.length ≤ sizeLine) : binD .add (.list a) (.list b) = some (.list (a ++ b)) := by simp [binD, h]
theorem other_run (c : Int) : ∃ d, G 14 [.d (.int c)] = .ok (.d d, []) ∧ bad d := by
  have hk : (c % 12).toNat < (things (c / 12 % 100000000000000000000)).length := by
    show _ < 12
    omega
  refine ⟨(things (c / 12 % 100000000000000000000))[(c % 12).toNat], ?_, things_bad _ (by omega) _ (List.getElem_mem hk)⟩
  have hsub : subV [] (.d (.list (things (c / 12 % 100000000000000000000)))) (.d (.int (c % 12))) = some (.d (things (c / 12 % 100000000000000000000))[(c % 12).toNat]) :=
    sub_list [] (by omega) (by omega) (List.getElem?_eq_getElem hk)
  generalize (things (c / 12 % 100000000000000000000))[(c % 12).toNat] = d at hsub ⊢
  rw [at14]
  generalize S 14 = Φ
  have d12 := binD_fdiv c 12 (by decide) (by decide)
  have r12 := binD_mod c 12 (by decide)
  have hp : binD .pow (.int 10) (.int 20) = some (.int 100000000000000000000) := rfl
  have rp := binD_mod (c / 12) 100000000000000000000 (by decide)
  generalize c / 12 % 100000000000000000000 = far at rp hsub
  have hadd : binD .add (.list [.none, .int 5, .str (Str.ofString "ab"), .list [.int 1, .int 2], .tuple [.int 1], .tuple [.int 1, .int 2, .int 3], .tuple [.bool true, .int 2], .tuple [.int 2, .bool true]]) (.list [.tuple [.int (-1), .int 2], .tuple [.int 13, .int 2], .tuple [.int 1, .int (14 + far)], .tuple [.int (-1 - far), .int 2]]) = some (.list (things far)) := binD_list _ _ (by simp [sizeLine])
  exact run_def (ρ := [.d (.int c), .undef, .undef]) rfl rfl (xs_next (x_assign (σ' := []) (e_bin (e_bin (e_var rfl rfl) e_lit d12) (e_bin e_lit e_lit hp) rp) rfl rfl)
    (xs_next (x_assign (σ' := []) (e_lst (es_cons e_lit (es_cons e_lit (es_cons e_lit (es_cons (e_lst (es_cons e_lit (es_cons e_lit es_nil)) rfl) (es_cons (e_tup (es_cons e_lit es_nil) rfl) (es_cons (e_tup (es_cons e_lit (es_cons e_lit (es_cons e_lit es_nil))) rfl) (es_cons (e_tup (es_cons e_lit (es_cons e_lit es_nil)) rfl) (es_cons (e_tup (es_cons e_lit (es_cons e_lit es_nil)) rfl) es_nil)))))))) rfl) rfl rfl)
    (xs_ret (x_ret (σ' := []) (e_sub (e_bin (e_var rfl rfl) (e_lst (es_cons (e_tup (es_cons (e_neg e_lit) (es_cons e_lit es_nil)) rfl) (es_cons (e_tup (es_cons e_lit (es_cons e_lit es_nil)) rfl) (es_cons (e_tup (es_cons e_lit (es_cons (e_bin e_lit (e_var rfl rfl) (binD_add _ _)) es_nil)) rfl) (es_cons (e_tup (es_cons (e_bin (e_neg e_lit) (e_var rfl rfl) (binD_sub _ _)) (es_cons e_lit es_nil)) rfl) es_nil)))) rfl) hadd) (e_bin (e_var rfl rfl) e_lit r12) hsub) rfl))))

theorem cmpV_ne_ptL (σ : St) (v : V) (t : List (Int × Int)) (h : res σ v = some (ptL t)) : cmpV .ne σ v (.d (ptL t)) = some false := by
  have : dictV σ (.d (ptL t)) = none := rfl
  simp only [cmpV, this, h, res_d, cmpD, eqD_ptL, Option.map, Bool.not_true]
theorem notin_run (σ : St) (p : Int × Int) (t : List (Int × Int)) : cmpV .notin σ (.d (pt p)) (.d (ptL t)) = some (!t.contains p) := by
  have h1 : dictV σ (.d (ptL t)) = none := rfl
  have h2 : seqD (ptL t) = some (t.map pt) := rfl
  have h3 : (t.map pt).all okD = true := by
    rw [List.all_map]
    exact List.all_eq_true.mpr fun q _ => okD_pt q
  have h4 : (t.map pt).any (fun y => PyData.eqv y (pt p)) = t.contains p := by
    rw [List.any_map, List.contains_eq_any_beq]
    congr 1
    funext q
    show PyData.eqv (pt q) (pt p) = _
    rw [eqv_pt]
    cases h : (p == q) with
    | true => rw [beq_iff_eq] at h; subst h; simp
    | false =>
      cases h' : (q.1 == p.1 && q.2 == p.2) with
      | false => rfl
      | true =>
        simp only [Bool.and_eq_true, beq_iff_eq] at h'
        rw [Prod.ext h'.1 h'.2] at h
        simp at h
  simp only [cmpV, h1, res_d, cmpD, h2, anyEq, okD_pt, h3, h4, Bool.and_self, if_true, Option.map]

noncomputable def B1 : Mine.S := .assign 1 (.call 13 false [])
noncomputable def B2 : Mine.S := .assign 2 (.call 3 true [])
noncomputable def B3 : Mine.S := .ite (.or (.not (.call 9 false [(.var 2), (.b1 false .len (.var 1))])) (.or (.cmp .ne (.var 2) (.var 1)) (.or (.not (.call 6 false [(.glob "MOST" (.int 12))])) (.cmp .ne (.glob "MOST" (.int 12)) (.lit (.int 12)))))) [.ret (.lit (.bool false))] []
noncomputable def B4 : Mine.S := .append (.var 2) (.tup [(.lit (.int 1)), (.lit (.int 2))])
noncomputable def B5 : Mine.S := .ite (.cmp .ne (.call 3 false []) (.var 1)) [.ret (.lit (.bool false))] []
noncomputable def B6 : Mine.S := .assign 3 (.tup [(.bin .mod (.call 7 false [(.var 0), (.lit (.int 0))]) (.lit (.int 13))), (.bin .mod (.call 7 false [(.var 0), (.lit (.int 1))]) (.lit (.int 13)))])
noncomputable def B7c : X := .cmp .eq (.bin .mod (.call 7 false [(.var 0), (.lit (.int 2))]) (.lit (.int 3))) (.lit (.int 1))
noncomputable def B7x : X := .call 14 false [(.bin .fdiv (.call 7 false [(.var 0), (.lit (.int 2))]) (.lit (.int 3)))]
noncomputable def B8 : Mine.S := .ite (.cmp .eq (.bin .mod (.call 7 false [(.var 0), (.lit (.int 2))]) (.lit (.int 3))) (.lit (.int 2))) [.assign 3 (.sub (.var 1) (.bin .mod (.call 7 false [(.var 0), (.lit (.int 0))]) (.b1 false .len (.var 1))))] []
noncomputable def B9 : X := .cmp .notin (.var 3) (.var 1)
noncomputable def B10 : List Mine.S := [.assign 2 (.call 5 true [(.var 3)]),
 .ite (.not (.call 12 false [(.var 2), (.var 3)])) [.ret (.lit (.bool false))] [],
 .append (.var 2) (.tup [(.lit (.int 0)), (.lit (.int 0))]),
 .ret (.call 12 false [(.call 5 false [(.var 3)]), (.var 3)])]
theorem body_is : D_law.body = B1 :: B2 :: B3 :: B4 :: B5 :: B6 :: .ite B7c [.ret (.call 11 false [B7x])] [] :: B8 :: .ite B9 [.ret (.call 11 false [.var 3])] [] :: B10 := rfl

theorem callV_own {Φ : Fn} {f : Nat} {σ : St} {t : List (Int × Int)} (h : Φ f [] = .ok (.ref 0, [.list (encL t)])) : callV Φ true f [] σ = .ok (.ref σ.length, σ ++ [.list (encL t)]) := by
  have e : (encL t).map (shiftV σ.length) = encL t := by simp [encL, enc, shiftV]
  simp [callV, allO, h, backV, shiftV, shiftO, e]
theorem callV_own1 {Φ : Fn} {f : Nat} {σ : St} {a : PyData} {t : List (Int × Int)} (h : Φ f [.d a] = .ok (.ref 0, [.list (encL t)])) : callV Φ true f [.d a] σ = .ok (.ref σ.length, σ ++ [.list (encL t)]) := by
  have e : (encL t).map (shiftV σ.length) = encL t := by simp [encL, enc, shiftV]
  simp [callV, allO, argV, isRef, h, backV, shiftV, shiftO, e]
theorem callV_plain0 {Φ : Fn} {f : Nat} {σ : St} {t : List (Int × Int)} (h : Φ f [] = .ok (.ref 0, [.list (encL t)])) : callV Φ false f [] σ = .ok (.d (ptL t), σ) := by
  have e : res [.list (encL t)] (.ref 0) = some (ptL t) := res_encL rfl
  simp [callV, allO, h, backV, e, stor]
theorem callV_plain1 {Φ : Fn} {f : Nat} {σ : St} {a : PyData} {t : List (Int × Int)} (h : Φ f [.d a] = .ok (.ref 0, [.list (encL t)])) : callV Φ false f [.d a] σ = .ok (.d (ptL t), σ) := by
  have e : res [.list (encL t)] (.ref 0) = some (ptL t) := res_encL rfl
  simp [callV, allO, argV, isRef, h, backV, e, stor]
/-- a call with an own list of places ahead, that answers a truth -/
theorem callV_ref2 {Φ : Fn} {f : Nat} {σ : St} {n : Nat} {a : PyData} {b : Bool} {t : List (Int × Int)} (hn : σ[n]? = some (.list (encL t))) (h : Φ f [.d (ptL t), .d a] = .ok (.d (.bool b), [])) : callV Φ false f [.ref n, .d a] σ = .ok (.d (.bool b), σ) := by
  have e := arg_encL hn
  have fl : flat (.bool b) = true := rfl
  simp only [callV, allO, e]
  simp [argV, h, backV, fl]
end L01
namespace L01
open PySem Mine
set_option maxRecDepth 100000

theorem upd_app {σ : St} {n : Nat} {xs : List V} {v : V} (h : σ[n]? = some (.list xs)) (hl : xs.length < 100000) : updL σ (.ref n) (appendF v) = some (σ.set n (.list (xs ++ [v]))) := by
  show (match σ[n]? with | some (.list xs) => (appendF v xs).map fun ys => σ.set n (.list ys) | _ => none) = _
  rw [h]
  show (appendF v xs).map _ = _
  rw [show appendF v xs = some (xs ++ [v]) from if_pos hl]
  rfl
theorem len_spots (σ : St) : b1V false .len (.d (ptL spots)) σ = .ok (.d (.int 36), σ) := by
  have := b1_len false (spots.map pt) σ (by simp [spots_len])
  simpa [ptL, spots_len] using this

noncomputable abbrev σ1 : St := [.list (encL spots)]
noncomputable abbrev σ2 : St := [.list (encL spots ++ [.d (pt (1, 2))])]
theorem enc_len : (encL spots).length < 100000 := by simp [encL, spots_len]

theorem cell_len (s : Int × Int) : (encL (cellL s)).length < 100000 := by
  have : (cellL s).length = 3 := by
    unfold cellL
    dsimp only
    split
    · rfl
    · split
      · rfl
      · split <;> rfl
  simp [encL, this]
noncomputable def σ3 (p : Int × Int) : St := [.list (encL spots ++ [.d (pt (1, 2))]), .list (encL (cellL p))]
noncomputable def σ4 (p : Int × Int) : St := [.list (encL spots ++ [.d (pt (1, 2))]), .list (encL (cellL p) ++ [.d (pt (0, 0))])]
section
variable (Φ : Fn) (ns : List Int) (h7 : ∀ (k : Nat) (σ : St), callV Φ false 7 [.d (scr ns), .d (.int k)] σ = .ok (.d (.int (cel ns k)), σ)) (h1 : ∀ d, bad d → Φ 1 [.d d] = .ok (.d (.bool false), []))
  (h13 : Φ 13 [] = .ok (.d (ptL spots), [])) (h3 : Φ 3 [] = .ok (.ref 0, [.list (encL spots)])) (h9 : Φ 9 [.d (ptL spots), .d (.int 36)] = .ok (.d (.bool true), [])) (h6 : Φ 6 [.d (.int 12)] = .ok (.d (.bool true), []))
  (h14 : ∀ c : Int, ∃ d, Φ 14 [.d (.int c)] = .ok (.d d, []) ∧ bad d) (h5 : ∀ s ∈ spots, Φ 5 [.d (pt s)] = .ok (.ref 0, [.list (encL (cellL s))])) (h12 : ∀ s ∈ spots, Φ 12 [.d (ptL (cellL s)), .d (pt s)] = .ok (.d (.bool true), []))
include h7 h1 h13 h3 h9 h6 h14 h5 h12

omit h7 h1 h13 h3 h9 h6 h14 in
/-- a spot: its cell -/
theorem run_cell (p : Int × Int) (hp : p ∈ spots) : ∃ ρ' σ', exs Φ B10 [.d (scr ns), .d (ptL spots), .ref 0, .d (pt p)] σ2 = .ok (.ret (.d (.bool true)), ρ', σ') := by
  have c5 : callV Φ true 5 [.d (pt p)] σ2 = .ok (.ref 1, σ3 p) := callV_own1 (σ := σ2) (h5 p hp)
  have c12 := callV_ref2 (σ := σ3 p) (n := 1) (a := pt p) rfl (h12 p hp)
  have hu : updL (σ3 p) (.ref 1) (appendF (.d (pt (0, 0)))) = some (σ4 p) := upd_app (σ := σ3 p) (n := 1) (v := .d (pt (0, 0))) rfl (cell_len p)
  have c5' := callV_plain1 (σ := σ4 p) (h5 p hp)
  have c12' := callV_2 (σ := σ4 p) (h12 p hp)
  exact ⟨[.d (scr ns), .d (ptL spots), .ref 1, .d (pt p)], σ4 p, xs_next (x_assign (σ' := σ3 p) (e_call (es_cons (e_var rfl rfl) es_nil) c5) rfl rfl) (xs_next (x_iteF (σ' := σ3 p) (e_not (b := true) (e_call (es_cons (e_var rfl rfl) (es_cons (e_var rfl rfl) es_nil)) c12)) xs_nil)
    (xs_next (x_append (e_var rfl rfl) (e_tup (es_cons e_lit (es_cons e_lit es_nil)) rfl) rfl hu) (xs_ret (x_ret (σ' := σ4 p) (e_call (es_cons (e_call (es_cons (e_var rfl rfl) es_nil) c5') (es_cons (e_var rfl rfl) es_nil)) c12') rfl))))⟩

omit h7 h13 h3 h9 h6 h14 in
/-- the place: a spot, or refused -/
theorem run_place (p : Int × Int) (hp : p ∈ spots ∨ bad (pt p)) : WR Φ 11 (fun d => Φ 1 [.d d] = .ok (.d (.bool false), [])) (.ite B9 [.ret (.call 11 false [.var 3])] [] :: B10) [.d (scr ns), .d (ptL spots), .ref 0, .d (pt p)] σ2 := by
  have hn := notin_run σ2 p spots
  by_cases hs : p ∈ spots
  · rw [List.contains_iff_mem.mpr hs] at hn
    obtain ⟨ρ', σ', h⟩ := run_cell Φ ns h5 h12 p hs
    exact .step (x_iteF (σ' := σ2) (e_cmp (e_var rfl rfl) (e_var rfl rfl) hn) xs_nil) (.done h)
  · have hc : spots.contains p = false := by
      cases q : spots.contains p
      · rfl
      · exact absurd (List.contains_iff_mem.mp q) hs
    rw [hc] at hn
    exact .ite (σ' := σ2) (e_cmp (e_var rfl rfl) (e_var rfl rfl) hn) (.tail (σ' := σ2) (e_var rfl rfl) (h1 _ (hp.resolve_left hs)))

theorem run_law : WR Φ 11 (fun d => Φ 1 [.d d] = .ok (.d (.bool false), [])) D_law.body [.d (scr ns), .undef, .undef, .undef] [] := by
  rw [body_is]
  have c3 := callV_own (σ := []) h3
  have c9 := callV_ref2 (σ := σ1) (n := 0) (a := .int 36) rfl h9
  have c6 := callV_1 (σ := σ1) h6
  have hu := upd_app (σ := σ1) (n := 0) (v := .d (pt (1, 2))) rfl enc_len
  have c3' := callV_plain0 (σ := σ2) h3
  have r13 : ∀ z : Int, binD .mod (.int z) (.int 13) = some (.int (z % 13)) := fun z => binD_mod z 13 (by decide)
  have r3 := binD_mod (cel ns 2) 3 (by decide)
  have d3 := binD_fdiv (cel ns 2) 3 (by decide) (by decide)
  have k0 := h7 0 σ2
  have k1 := h7 1 σ2
  have k2 := h7 2 σ2
  refine .step (x_assign (σ' := []) (e_call es_nil (callV_0 h13)) rfl rfl) (.step (x_assign (σ' := σ1) (e_call es_nil c3) rfl rfl) (.step (x_iteF (σ' := σ1) (e_orF (e_not (b := true) (e_call (es_cons (e_var rfl rfl) (es_cons (e_b1 (e_var rfl rfl) (len_spots _)) es_nil)) c9))
    (e_orF (e_cmp (e_var rfl rfl) (e_var rfl rfl) (cmpV_ne_ptL _ _ _ (res_encL rfl))) (e_orF (e_not (b := true) (e_call (es_cons e_glob es_nil) c6)) (e_cmp e_glob e_lit (c_neF rfl))))) xs_nil)
    (.step (x_append (e_var rfl rfl) (e_tup (es_cons e_lit (es_cons e_lit es_nil)) rfl) rfl hu) (.step (x_iteF (σ' := σ2) (e_cmp (e_call es_nil c3') (e_var rfl rfl) (cmpV_ne_ptL _ _ _ rfl)) xs_nil)
    (.step (x_assign (σ' := σ2) (v := .d (pt (cel ns 0 % 13, cel ns 1 % 13))) (e_tup (es_cons (e_bin (e_call (es_cons (e_var rfl rfl) (es_cons e_lit es_nil)) k0) e_lit (r13 _)) (es_cons (e_bin (e_call (es_cons (e_var rfl rfl) (es_cons e_lit es_nil)) k1) e_lit (r13 _)) es_nil)) rfl) rfl rfl) ?_)))))
  by_cases q1 : cel ns 2 % 3 = 1
  · obtain ⟨d, hd, hb⟩ := h14 (cel ns 2 / 3)
    exact .ite (σ' := σ2) (e_cmp (e_bin (e_call (es_cons (e_var rfl rfl) (es_cons e_lit es_nil)) k2) e_lit r3) e_lit (c_eqT q1)) (.tail (σ' := σ2) (e_call (es_cons (e_bin (e_call (es_cons (e_var rfl rfl) (es_cons e_lit es_nil)) k2) e_lit d3) es_nil) (callV_1 hd)) (h1 d hb))
  · refine .step (x_iteF (σ' := σ2) (e_cmp (e_bin (e_call (es_cons (e_var rfl rfl) (es_cons e_lit es_nil)) k2) e_lit r3) e_lit (c_eqF q1)) xs_nil) ?_
    by_cases q2 : cel ns 2 % 3 = 2
    · have hk : (cel ns 0 % 36).toNat < spots.length := by rw [spots_len]; omega
      have hat := sub_at σ2 spots (cel ns 0 % 36).toNat hk (by rw [spots_len]; omega)
      have ek : (((cel ns 0 % 36).toNat : Nat) : Int) = cel ns 0 % 36 := by omega
      rw [ek] at hat
      have hm : atP spots (cel ns 0 % 36).toNat ∈ spots := by
        unfold atP
        rw [List.getD_eq_getElem?_getD, List.getElem?_eq_getElem hk]
        exact List.getElem_mem hk
      have r36 := binD_mod (cel ns 0) 36 (by decide)
      exact .step (x_iteT (σ' := σ2) (e_cmp (e_bin (e_call (es_cons (e_var rfl rfl) (es_cons e_lit es_nil)) k2) e_lit r3) e_lit (c_eqT q2)) (xs_next (x_assign (σ' := σ2) (e_sub (e_var rfl rfl) (e_bin (e_call (es_cons (e_var rfl rfl) (es_cons e_lit es_nil)) k0) (e_b1 (e_var rfl rfl) (len_spots _)) r36) hat) rfl rfl) xs_nil))
        (run_place Φ ns h1 h5 h12 _ (.inl hm))
    · refine .step (x_iteF (σ' := σ2) (e_cmp (e_bin (e_call (es_cons (e_var rfl rfl) (es_cons e_lit es_nil)) k2) e_lit r3) e_lit (c_eqF q2)) xs_nil) (run_place Φ ns h1 h5 h12 _ ?_)
      by_cases hs : (cel ns 0 % 13, cel ns 1 % 13) ∈ spots
      · exact .inl hs
      · right
        have a0 := Int.emod_nonneg (cel ns 0) (b := 13) (by decide)
        have a1 := Int.emod_nonneg (cel ns 1) (b := 13) (by decide)
        have b0 := Int.emod_lt_of_pos (cel ns 0) (b := 13) (by decide)
        have b1 := Int.emod_lt_of_pos (cel ns 1) (b := 13) (by decide)
        have o := List.all_eq_true.mp (List.all_eq_true.mp out_run (cel ns 0 % 13).toNat (List.mem_range.mpr (by omega))) (cel ns 1 % 13).toNat (List.mem_range.mpr (by omega))
        rw [Int.toNat_of_nonneg a0, Int.toNat_of_nonneg a1] at o
        have hc : spots.contains (cel ns 0 % 13, cel ns 1 % 13) = false := by
          cases q : spots.contains (cel ns 0 % 13, cel ns 1 % 13)
          · rfl
          · exact absurd (List.contains_iff_mem.mp q) hs
        rw [hc, Bool.false_or] at o
        exact isF_ok o
end

theorem run (ns : List Int) (hn : ns.length ≤ 63) : WR (S 15) 11 (fun d => S 15 1 [.d d] = .ok (.d (.bool false), [])) D_law.body [.d (.list (ns.map .int)), .undef, .undef, .undef] [] := by
  have all := List.all_eq_true.mp cells_run
  exact run_law (S 15) ns (fun k σ => callV_2 ((S_call 15 7 _ (by decide) (by decide)).trans (cell_run ns hn k))) (fun d h => (S_call 15 1 _ (by decide) (by decide)).trans h) ((S_call 15 13 _ (by decide) (by decide)).trans spots_run) ((S_call 15 3 _ (by decide) (by decide)).trans all_run)
    ((S_call 15 9 _ (by decide) (by decide)).trans places_run) ((S_call 15 6 _ (by decide) (by decide)).trans whole_run) (fun c => let ⟨d, h, hb⟩ := other_run c; ⟨d, (S_call 15 14 _ (by decide) (by decide)).trans h, hb⟩)
    (fun s hs => (S_call 15 5 _ (by decide) (by decide)).trans (isOwn_ok (Bool.and_eq_true_iff.mp (all s hs)).1)) (fun s hs => (S_call 15 12 _ (by decide) (by decide)).trans (isT_ok (Bool.and_eq_true_iff.mp (all s hs)).2))
end L01
end

open PySem PySem.W PyProof.Rows
set_option maxRecDepth 100000
set_option maxHeartbeats 8000000
namespace L01
noncomputable def prog : Program := PySem.Challenge.rw_uf050030_01.row.prog
noncomputable def isNm : Stmt → Bool
  | .Assign [.Name x _] _ _ => x == ("__name__" : Str)
  | _ => false
/-- the text without its own name -/
noncomputable def view : Program := { prog with main := { prog.main with body := prog.main.body.filter fun s => !isNm s } }
theorem ok : PySem.Challenge.rw_uf050030_01.wellSaid = true := by kernel_rfl
theorem left : LeftO prog view [] (fun s => xlAt view [] s && recOk (RowW.records PySem.Challenge.rw_uf050030_01.row.toRowW) s) (Mine.excHook).obs (Mine.excHook).val 2378 := fun w => by kernel_rfl
theorem isS : (defOf view PySem.Challenge.rw_uf050030_01.row.name).isSome = true := by kernel_rfl
noncomputable def lawD : DefRec × List (Str × Expr) := (defOf view PySem.Challenge.rw_uf050030_01.row.name).get isS
noncomputable def W : Mine.Wd := ⟨defs.reverse.map (fun D => Str.ofString D.name), [(Str.ofString "MOST", 12)]⟩

noncomputable def recD (x : String) : Option DefRec := (recsOf view).find? (fun d => d.name == Str.ofString x)
theorem s2 : (recD "need_spot").isSome = true := by kernel_rfl
theorem s5 : (recD "cell_of").isSome = true := by kernel_rfl
theorem s11 : (recD "_law_refused").isSome = true := by kernel_rfl
noncomputable def d2 : DefRec := (recD "need_spot").get s2
noncomputable def d5 : DefRec := (recD "cell_of").get s5
noncomputable def d11 : DefRec := (recD "_law_refused").get s11
noncomputable def o : Pos := ⟨0, 0, 0, 0⟩
/-- what the three texts leave open -/
noncomputable def p2 : List Stmt → Option (Expr × List Pos × Str × Nat)
  | [.If l [.Raise (some (.Call (.Name _ a) [.Constant (.str t) k b] [] c)) none d] [] e] => some (l, [a, b, c, d, e], t, k)
  | _ => none
noncomputable def p5 : List Stmt → Option (Expr × Pos × List Stmt)
  | .Expr l a :: r => some (l, a, r)
  | _ => none
noncomputable def p11 : List Stmt → Option (Expr × Str × List Pos × List Stmt)
  | .Try [.Expr l a] [.ExceptHandler (some (.Name _ b)) (some n) [.Return (some (.BoolOp .And [.Call (.Name _ c1) [.Name _ c2, .Name _ c3] [] c4, .Call (.Name _ e1) [.Name _ e2, .Name _ e3] [] e4,
      .UnaryOp .Not (.Call (.Name _ f1) [.Name _ f2, .Name _ f3] [] f4) f5] g)) h] i] [] [] j :: r => some (l, n, [a, b, c1, c2, c3, c4, e1, e2, e3, e4, f1, f2, f3, f4, f5, g, h, i, j], r)
  | _ => none
theorem i2 : (p2 d2.body).isSome = true := by kernel_rfl
theorem i5 : (p5 d5.body).isSome = true := by kernel_rfl
theorem i11 : (p11 d11.body).isSome = true := by kernel_rfl
noncomputable def q2 : Expr × List Pos × Str × Nat := (p2 d2.body).get i2
noncomputable def q5 : Expr × Pos × List Stmt := (p5 d5.body).get i5
noncomputable def q11 : Expr × Str × List Pos × List Stmt := (p11 d11.body).get i11
noncomputable def at11 (k : Nat) : Pos := q11.2.2.1.getD k o
theorem b2 : d2.body = [.If q2.1 [.Raise (some (.Call (.Name "BadSpot" (q2.2.1.getD 0 o)) [.Constant (.str q2.2.2.1) q2.2.2.2 (q2.2.1.getD 1 o)] [] (q2.2.1.getD 2 o))) none (q2.2.1.getD 3 o)] [] (q2.2.1.getD 4 o)] := by kernel_rfl
theorem b5 : d5.body = .Expr q5.1 q5.2.1 :: q5.2.2 := by kernel_rfl
theorem b11 : d11.body = .Try [.Expr q11.1 (at11 0)] [.ExceptHandler (some (.Name "ShapeError" (at11 1))) (some "e") [.Return (some (.BoolOp .And [.Call (.Name "isinstance" (at11 2)) [.Name "e" (at11 3), .Name "BadSpot" (at11 4)] [] (at11 5),
    .Call (.Name "isinstance" (at11 6)) [.Name "e" (at11 7), .Name "ValueError" (at11 8)] [] (at11 9), .UnaryOp .Not (.Call (.Name "isinstance" (at11 10)) [.Name "e" (at11 11), .Name "BadRings" (at11 12)] [] (at11 13)) (at11 14)] (at11 15))) (at11 16)] (at11 17)] [] [] (at11 18) :: q11.2.2.2 := by kernel_rfl
theorem m2 : Mine.chkX W (.not (.call 1 false [.var 0])) d2.scope.names (Mine.nmOf D_need_spot) q2.1 = true := by kernel_rfl
theorem m5 : Mine.chkX W (.call 2 false [.var 0]) d5.scope.names (Mine.nmOf D_cell_of) q5.1 = true := by kernel_rfl
theorem m11 : Mine.chkX W (.call 5 false [.var 0]) d11.scope.names (Mine.nmOf D__law_refused) q11.1 = true := by kernel_rfl
theorem k2 : (Mine.defOkB D_need_spot d2.params d2.scope && Mine.isGlob d2.scope.names "BadSpot") = true := by kernel_rfl
theorem k5 : Mine.defOkB D_cell_of d5.params d5.scope = true := by kernel_rfl
theorem k11 : Mine.defOkB D__law_refused d11.params d11.scope = true := by kernel_rfl
theorem g11 : (["isinstance", "ShapeError", "BadSpot", "ValueError", "BadRings"] : List Str).all (fun x : Str => Mine.isGlob d11.scope.names x) = true := by kernel_rfl
theorem l11 : d11.scope.names.lookup ("e" : Str) = some NameKind.local := by kernel_rfl
theorem vFree : decide (("ValueError" : Str) ∉ startupNames) && decide (("ValueError" : Str) ∉ looseW view []) && decide (("ValueError" : Str) ∉ (recsOf view).map (·.name)) && decide (("ValueError" : Str) ∉ (litsOf view).map (·.1)) && decide (("ValueError" : Str) ∉ (clssOf view (looseW view [])).map (·.name)) = true := by decide +kernel
theorem vBoot : bootBuiltins "ValueError" = some (.type "ValueError") := by kernel_rfl

open Mine in
theorem rf {mean : ExcName → Option Value} {mg mb : Str → Option Value} {pr : Program} {w : World} {H : Heap} (T : Top view (looseW view []) mean mg mb H) (hchk : chkTop view (looseW view []) W defs = true) (hY : ExcsIn H) :
    RF (mkCx pr w H mg mb W) 18 11 (fun d => S 15 1 [.d d] = .ok (.d (.bool false), [])) := by
  obtain ⟨O, hDs⟩ := top_ok (prog := pr) (w := w) T hchk
  have hf : ∀ g, SF (mkCx pr w H mg mb W) (S 15) 15 g := sf_tbl O (defs.drop 1) hDs.2
  have v := vFree
  simp only [Bool.and_eq_true, decide_eq_true_eq] at v
  obtain ⟨K, c0, c1, c2, XX, OC⟩ := excs_of (prog := pr) (w := w) (W := W) T hY ⟨T.free _ v.1.1.1.1 v.1.1.1.2 v.1.1.2 v.1.2 v.2, (T.builtins _ (by decide)).trans vBoot⟩
  obtain ⟨f2, a2, e2⟩ := def_at (prog := pr) (w := w) (W := W) T (D := D_need_spot) (f := 2) (d := d2) rfl (Option.some_get s2).symm (Bool.and_eq_true_iff.mp k2).1
  obtain ⟨f5, a5, e5⟩ := def_at (prog := pr) (w := w) (W := W) T (D := D_cell_of) (f := 5) (d := d5) rfl (Option.some_get s5).symm k5
  obtain ⟨f11, a11, e11⟩ := def_at (prog := pr) (w := w) (W := W) T (D := D__law_refused) (f := 11) (d := d11) rfl (Option.some_get s11).symm k11
  rw [b2] at a2
  rw [b5] at a5
  rw [b11] at a11
  have r2 := sr1_raise O hf a2 (c := .not (.call 1 false [.var 0])) (by rw [e2]; exact m2) (by rw [e2]; exact (Bool.and_eq_true_iff.mp k2).2) OC PySem.F.excBase_ValueError (by decide +kernel) PySem.F.excBase_ValueError
  have r5 : SR1 (mkCx pr w H mg mb W) 17 5 c2 (fun vs => ∃ d, vs = [.d d] ∧ S 15 1 [.d d] = .ok (.d (.bool false), [])) :=
    sr1_on O a5 (k := 16) (fun vs h => by obtain ⟨d, rfl, _⟩ := h; rfl) fun A env X s vs outer hb eS hA hfr hI => by
      obtain ⟨d, rfl, hb⟩ := hb
      exact wpAny_execs_cons (wpAny_mono (expr_raises O (fun g => (hf g).up) r2 (m := false) (es := [.var 0]) (show MX W env.scope.names _ _ _ by rw [eS, e5]; exact m5) rfl hA hfr hI (es_cons (e_var rfl rfl) es_nil) rfl rfl ⟨rfl, [], e_not (b := false) (e_call (es_cons (e_var rfl rfl) es_nil) (callV_1 hb))⟩) (fun _ _ x => x.elim) fun _ _ y => y)
  intro A E s Xs u d outer hA hb hX hv hfr hbad
  exact refused_ok O (fun g => (hf g).up.up) XX r5 a11 (m := false) (es := [.var 0]) (by rw [e11]; exact m11) (by rw [e11]; exact l11) (by decide) (by rw [e11]; exact g11) hA hb hX (.cons hv .nil) hfr rfl (es_cons (e_var rfl rfl) es_nil) rfl rfl ⟨d, rfl, hbad⟩
end L01
theorem PySem.Challenge.cw_uf050030_01_holds : PySem.Challenge.rw_uf050030_01.Holds := by
  refine holds_law L01.ok fun said => ?_
  refine holds_open (q := L01.view) (loose := []) (Xt := fun s => xlAt L01.view [] s && recOk (RowW.records PySem.Challenge.rw_uf050030_01.row.toRowW) s) (XP := XL L01.view []) (Yf := Hook.obs Mine.excHook) (Ya := Hook.val Mine.excHook) (YP := Hook.says Mine.excHook) (N := 2378) (d := L01.lawD.1) (kwd := L01.lawD.2)
    L01.left (Hook.of Mine.excHook) (Hook.keeps Mine.excHook) (fun s e => xl_of s (Bool.and_eq_true_iff.mp e).1) XL.keeps (Option.some_get L01.isS).symm (by kernel_rfl) (by kernel_rfl) (fun s e => recFacts_of (Bool.and_eq_true_iff.mp e).2) (by kernel_rfl) said (by kernel_rfl) ⟨rfl, rfl, rfl, rfl, rfl, by decide +kernel⟩ ?hw ?hc
  case hw => w_witness2
  intro w s₀ s₁ mg mb G Y fa o pm cd doc dV kV ho hd' hcd hD hmg hg args vals as hpre hlay hrd hwl hlo
  refine Ground.open G ?_
  intro T B D TE TW
  wrow_args hpre hlay hrd hwl hlo
  have hchk : Mine.chkTop L01.view (looseW L01.view []) L01.W L01.defs = true := by decide +kernel
  exact Mine.law_fin_w (W := L01.W) (D := L01.D_law) (rest := L01.defs.drop 1) T hchk (by decide +kernel) hmg (by assumption) (by assumption) hg (by decide) rfl (L01.rf T hchk Y) L01.run (fun _ => rfl) (by kernel_rfl)
