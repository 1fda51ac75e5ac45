import PyProof.Rows.All
import Wide.All
import OpenK.AllK
import Wide.FinOn
import PySem.Challenge.RW_uf020004_13
set_option autoImplicit false
set_option Elab.async false
set_option linter.unusedSimpArgs false
set_option linter.unusedVariables false
namespace Mine

/-- abstract values: frozen data by value, live mutable objects by number -/
inductive V where
  | undef
  | none
  | bool (b : Bool)
  | int (i : Int)
  | str (s : List Nat)
  | tup (xs : List V)
  | lst (xs : List V)
  | ref (i : Nat)
  | exc (c : Nat)

inductive Cell where
  | lst (xs : List V)
  | dictI (ks : List Int)
  | dictP (ks : List (List Int))
  | dead

abbrev Sg := List Cell
abbrev Fm := List V

inductive Res (α : Type) where
  | ok (a : α) (s : Sg)
  | ex (c : Nat) (s : Sg)
  | bad

noncomputable def Res.bind {α β : Type} : Res α → (α → Sg → Res β) → Res β
  | .ok a s, f => f a s
  | .ex c s, _ => .ex c s
  | .bad, _ => .bad

theorem bind_ok {α β : Type} (a : α) (s : Sg) (f : α → Sg → Res β) : (Res.ok a s).bind f = f a s := rfl
theorem bind_ex {α β : Type} (c : Nat) (s : Sg) (f : α → Sg → Res β) : (Res.ex c s).bind f = .ex c s := rfl
theorem bind_bad {α β : Type} (f : α → Sg → Res β) : (Res.bad : Res α).bind f = .bad := rfl
theorem bind_eq_ok {α β : Type} {r : Res α} {f : α → Sg → Res β} {b : β} {s' : Sg} (h : r.bind f = .ok b s') :
    ∃ a s, r = .ok a s ∧ f a s = .ok b s' := by
  cases r with
  | ok a s => exact ⟨a, s, rfl, h⟩
  | ex c s => cases h
  | bad => cases h

noncomputable def Res.of {α : Type} (o : Option α) (s : Sg) : Res α := match o with | some a => .ok a s | none => .bad
theorem of_some {α : Type} (a : α) (s : Sg) : Res.of (some a) s = .ok a s := rfl
theorem of_eq_ok {α : Type} {o : Option α} {s s' : Sg} {a : α} (h : Res.of o s = .ok a s') : o = some a ∧ s = s' := by
  cases o with
  | none => cases h
  | some b => cases h; exact ⟨rfl, rfl⟩

theorem bind_of_ok {α β : Type} {o : Option α} {s s' : Sg} {f : α → Sg → Res β} {b : β} (h : (Res.of o s).bind f = .ok b s') : ∃ a, o = some a ∧ f a s = .ok b s' := by
  cases o with
  | none => cases h
  | some a => exact ⟨a, rfl, h⟩

set_option genSizeOf false in
set_option genInjectivity false in
inductive Bop where | add | sub | mul | fdiv | mod
set_option genSizeOf false in
set_option genInjectivity false in
inductive Cop where | eq | ne | lt | le | gt | ge | isin | notin | is | isnot
set_option genSizeOf false in
set_option genInjectivity false in
inductive IK where | val | rng1 | rng2 | rev
set_option genSizeOf false in
set_option genInjectivity false in
inductive Bi where
  | len | isBool | isInt | isStr | isTup | isLst | sum | all | any | max1 | max2 | min2 | tuple | list | int
  | isExc (c : Nat)

set_option genSizeOf false in
set_option genInjectivity false in
inductive Ex where
  | cNone
  | cBool (b : Bool)
  | cInt (i : Int)
  | cStr (s : List Nat)
  | var (i : Nat)
  | glob (g : Nat)
  | and (a b : Ex)
  | or (a b : Ex)
  | not (a : Ex)
  | neg (a : Ex)
  | bin (op : Bop) (l r : Ex)
  | cmp (op : Cop) (l r : Ex)
  | cmp2 (o1 o2 : Cop) (a b c : Ex)
  | ite (c a b : Ex)
  | tup (es : List Ex)
  | lst (m : Bool) (es : List Ex)
  | dict (p : Bool)
  | comp (m : Bool) (elt : Ex) (ik : IK) (a b : Ex) (cond : Option Ex)
  | compL (elt a : Ex)
  | call (f : Nat) (args : List Ex)
  | bi (b : Bi) (args : List Ex)
  | app (o x : Ex)
  | pop (o : Ex)
  | clear (o : Ex)
  | rvs (o : Ex)
  | join (sep l : Ex)
  | idx (e i : Ex)
  | slice (e : Ex) (lo hi : Option Ex)
  | frz (e : Ex)

set_option genSizeOf false in
set_option genInjectivity false in
inductive St where
  | expr (e : Ex)
  | ret (e : Ex)
  | asg (i : Nat) (e : Ex)
  | sto (o i e : Ex)
  | ite (c : Ex) (a b : List St)
  | while (c : Ex) (b : List St)
  | for (i : Nat) (ik : IK) (a b : Ex) (body : List St)
  | raise (c : Nat)
  | try (body : List St) (hs : List (Nat × Option Nat × List St))

inductive Fl where
  | next
  | ret (v : V)

/-! ### operations -/
noncomputable def nIdx (i : Int) (n : Nat) : Option Nat :=
  if 0 ≤ i then (if i < (n : Int) then some i.toNat else none)
  else if 0 ≤ i + (n : Int) then some (i + (n : Int)).toNat else none

noncomputable def clamp (i : Int) (n : Nat) : Nat := if i < 0 then (i + (n : Int)).toNat else min i.toNat n

noncomputable def loOf (lo : Option Int) (n : Nat) : Nat := match lo with | some i => clamp i n | none => 0
noncomputable def hiOf (hi : Option Int) (n : Nat) : Nat := match hi with | some i => clamp i n | none => n
noncomputable def cut {α : Type} (xs : List α) (lo hi : Option Int) : List α := (xs.take (hiOf hi xs.length)).drop (loOf lo xs.length)

noncomputable def getL (σ : Sg) : V → Option (List V)
  | .lst xs => some xs
  | .ref i => match σ[i]? with | some (.lst xs) => some xs | _ => none
  | _ => none

noncomputable def getSeq (σ : Sg) : V → Option (List V)
  | .tup xs => some xs
  | .str s => some (s.map fun c => .str [c])
  | v => getL σ v

mutual
noncomputable def veq (a b : V) : Bool := match a with
  | .none => (match b with | .none => true | _ => false)
  | .bool x => (match b with | .bool y => x == y | .int j => (if x then 1 else 0) == j | _ => false)
  | .int i => (match b with | .bool y => i == (if y then 1 else 0) | .int j => i == j | _ => false)
  | .str x => (match b with | .str y => x == y | _ => false)
  | .lst xs => (match b with | .lst ys => veqs xs ys | _ => false)
  | .tup xs => (match b with | .tup ys => veqs xs ys | _ => false)
  | _ => false
noncomputable def veqs (a b : List V) : Bool := match a with
  | [] => (match b with | [] => true | _ => false)
  | x :: xs => (match b with | y :: ys => veq x y && veqs xs ys | _ => false)
end

/-- signs that a text may bear where it is compared within data -/
noncomputable def strFine (s : List Nat) : Bool := s.all (fun c => c < 1114112)
mutual
/-- plain data, not deeper than n -/
noncomputable def plain (n : Nat) (v : V) : Bool := match v with
  | .none => true
  | .bool _ => true
  | .int _ => true
  | .str s => strFine s
  | .lst xs => (match n with | 0 => false | n + 1 => plains n xs)
  | .tup xs => (match n with | 0 => false | n + 1 => plains n xs)
  | _ => false
noncomputable def plains (n : Nat) (l : List V) : Bool := match l with
  | [] => true
  | x :: xs => plain n x && plains n xs
end

noncomputable def deref (σ : Sg) : V → V
  | .ref i => match σ[i]? with | some (.lst xs) => .lst xs | _ => .undef
  | v => v

/-- data of other shapes -/
noncomputable def vEqG (σ : Sg) (a b : V) : Option Bool := if plain 7 (deref σ a) && plain 7 (deref σ b) then some (veq (deref σ a) (deref σ b)) else none
noncomputable def vEq (σ : Sg) (a b : V) : Option Bool := match a with
  | .none => (match b with | .none => some true | b => vEqG σ .none b)
  | .bool x => (match b with | .bool y => some (x == y) | b => vEqG σ (.bool x) b)
  | .int x => (match b with | .int y => some (x == y) | b => vEqG σ (.int x) b)
  | .str x => (match b with | .str y => some (x == y) | b => vEqG σ (.str x) b)
  | a => vEqG σ a b

noncomputable def vTrue (σ : Sg) : V → Option Bool
  | .none => some false
  | .bool b => some b
  | .int i => some (i != 0)
  | .str s => some (!s.isEmpty)
  | .lst xs => some (!xs.isEmpty)
  | .ref i => match σ[i]? with | some (.lst xs) => some (!xs.isEmpty) | _ => none
  | _ => none

noncomputable def isNoneV : V → Option Bool
  | .none => some true
  | .undef => none
  | .exc _ => none
  | _ => some false
noncomputable def vIs (a b : V) : Option Bool := match b with
  | .none => isNoneV a
  | .bool b => (match a with | .none => some false | .bool a => some (a == b) | _ => none)
  | _ => none

noncomputable def intsV : List V → Option (List Int)
  | [] => some []
  | .int i :: r => (intsV r).map (i :: ·)
  | _ :: _ => none
noncomputable def boolsV : List V → Option (List Bool)
  | [] => some []
  | .bool i :: r => (boolsV r).map (i :: ·)
  | _ :: _ => none
noncomputable def strsV : List V → Option (List (List Nat))
  | [] => some []
  | .str i :: r => (strsV r).map (i :: ·)
  | _ :: _ => none

noncomputable def inG (x : V) (xs : List V) : Option Bool := if plain 5 x && plains 5 xs then some (xs.any fun y => veq y x) else none
noncomputable def inStrs (s : List Nat) (l : List (List Nat)) : Option Bool := if strFine s && l.all strFine then some (l.any fun y => y == s) else none
noncomputable def inSeq (x : V) (xs : List V) : Option Bool := match x with
  | .str s => (match strsV xs with | some l => inStrs s l | none => inG (.str s) xs)
  | x => inG x xs
noncomputable def inStr (x : V) (b : List Nat) : Option Bool := match x with
  | .str s => (match s with | [c] => some (b.contains c) | _ => none)
  | _ => none
noncomputable def inCell (x : V) : Option Cell → Option Bool
  | some (.dictI ks) => (match x with | .int k => some (decide (k ∈ ks)) | _ => none)
  | some (.dictP ks) => (match x with | .tup xs => (intsV xs).map fun l => decide (l ∈ ks) | _ => none)
  | some (.lst xs) => inSeq x xs
  | _ => none
noncomputable def vIn (σ : Sg) (x c : V) : Option Bool := match c with
  | .str b => inStr x b
  | .ref i => inCell x σ[i]?
  | .lst xs => inSeq x xs
  | .tup xs => inSeq x xs
  | _ => none
/-- of two ints -/
noncomputable def ii {α : Type} (f : Int → Int → Option α) (a b : V) : Option α := match a with
  | .int i => (match b with | .int j => f i j | _ => none)
  | _ => none
noncomputable def vCmp (σ : Sg) (op : Cop) (a b : V) : Option Bool :=
  match op with
  | .eq => vEq σ a b
  | .ne => (vEq σ a b).map not
  | .isin => vIn σ a b
  | .notin => (vIn σ a b).map not
  | .is => vIs a b
  | .isnot => (vIs a b).map not
  | .lt => ii (fun a b => some (decide (a < b))) a b
  | .le => ii (fun a b => some (decide (a ≤ b))) a b
  | .gt => ii (fun a b => some (decide (a > b))) a b
  | .ge => none

noncomputable def roomy : Nat := 16777216
noncomputable def small (i : Int) : Bool := Nat.ble i.natAbs 4611686018427387903

noncomputable def addL (xs ys : List V) : Option V := if xs.length + ys.length ≤ roomy then some (.lst (xs ++ ys)) else none
noncomputable def vAdd (σ : Sg) (a b : V) : Option V := match a with
  | .int i => (match b with | .int j => some (.int (i + j)) | _ => none)
  | .str x => (match b with | .str y => if x.length + y.length ≤ roomy then some (.str (x ++ y)) else none | _ => none)
  | a => (getL σ a).bind fun xs => (getL σ b).bind fun ys => addL xs ys
noncomputable def mulL (xs : List V) (n : Int) : Option V := if xs.length * n.toNat ≤ roomy && small n then some (.lst (List.replicate n.toNat xs).flatten) else none
noncomputable def vMul (σ : Sg) (a b : V) : Option V := match b with
  | .int n => (match a with
    | .int i => if small i || small n then some (.int (i * n)) else none
    | .str x => if x.length * n.toNat ≤ roomy && small n then some (.str (List.replicate n.toNat x).flatten) else none
    | a => (getL σ a).bind fun xs => mulL xs n)
  | _ => none
noncomputable def vBin (σ : Sg) (op : Bop) (a b : V) : Option V := match op with
  | .add => vAdd σ a b
  | .sub => ii (fun a b => some (.int (a - b))) a b
  | .mul => vMul σ a b
  | .fdiv => ii (fun a b => if small b && b != 0 then some (.int (a.fdiv b)) else none) a b
  | .mod => ii (fun a b => if b != 0 then some (.int (a.fmod b)) else none) a b

noncomputable def vIdx (σ : Sg) (v i : V) : Option V :=
  match i with
  | .int i => if small i then (getSeq σ v).bind fun xs => (nIdx i xs.length).bind fun k => xs[k]? else none
  | _ => none

noncomputable def smallO : Option Int → Bool
  | none => true
  | some i => small i

noncomputable def vCut (σ : Sg) (v : V) (lo hi : Option Int) : Option V :=
  if smallO lo && smallO hi then
    match v with
    | .str s => some (.str (cut s lo hi))
    | .tup xs => if hi.isNone && decide (1 ≤ lo.getD 0 ∧ lo.getD 0 ≤ (xs.length : Int)) then some (.tup (cut xs lo hi)) else none
    | v => (getL σ v).map fun xs => .lst (cut xs lo hi)
  else none

noncomputable def stL (σ : Sg) (r : Nat) (x : V) (xs : List V) (i : V) : Option Sg := match i with
  | .int i => if 0 ≤ i ∧ i < (xs.length : Int) then some (σ.set r (.lst (xs.set i.toNat x))) else none
  | _ => none
noncomputable def stI (σ : Sg) (r : Nat) (ks : List Int) (i : V) : Option Sg := match i with
  | .int k => if ks.length < roomy then some (σ.set r (.dictI (if k ∈ ks then ks else ks ++ [k]))) else none
  | _ => none
noncomputable def stP (σ : Sg) (r : Nat) (ks : List (List Int)) (i : V) : Option Sg := match i with
  | .tup xs => if ks.length < roomy then (intsV xs).map fun k => σ.set r (.dictP (if k ∈ ks then ks else ks ++ [k])) else none
  | _ => none
noncomputable def vStore (σ : Sg) (o i x : V) : Option Sg := match o with
  | .ref r => (match σ[r]? with | some (.lst xs) => stL σ r x xs i | some (.dictI ks) => stI σ r ks i | some (.dictP ks) => stP σ r ks i | _ => none)
  | _ => none

noncomputable def vLen (σ : Sg) : V → Option Nat
  | .str s => some s.length
  | .tup xs => some xs.length
  | .lst xs => some xs.length
  | .ref i => match σ[i]? with | some (.lst xs) => some xs.length | some (.dictI ks) => some ks.length | some (.dictP ks) => some ks.length | _ => none
  | _ => none

noncomputable def joinS (sep : List Nat) : List (List Nat) → List Nat
  | [] => []
  | [x] => x
  | x :: r => x ++ sep ++ joinS sep r

/-- which kind of data a value is -/
noncomputable def isaK (n b i s t l : Bool) : V → Option Bool
  | .none => some n
  | .bool _ => some b
  | .int _ => some i
  | .str _ => some s
  | .tup _ => some t
  | .lst _ => some l
  | _ => none
noncomputable def vIsa (b : Bi) (v : V) : Option Bool := match b with
  | .isBool => isaK false true false false false false v
  | .isInt => isaK false true true false false false v
  | .isStr => none
  | .isTup => isaK false false false false true false v
  | .isLst => isaK false false false false false true v
  | .isExc c => (match v with | .exc d => some (c == d || c == 0) | _ => none)
  | _ => none

noncomputable def vMax : List Int → Option V
  | [] => none
  | a :: r => some (.int (r.foldl max a))

noncomputable def intOf : V → Option V
  | .bool b => some (.int (if b then 1 else 0))
  | _ => none
noncomputable def isLstC : Option Cell → Option V
  | some (.lst _) => some (.bool true)
  | _ => none
noncomputable def vBi1 (σ : Sg) (b : Bi) (v : V) : Option V :=
  match b with
  | .len => (vLen σ v).map fun (n : Nat) => V.int (Int.ofNat n)
  | .sum => (getL σ v).bind fun xs => (intsV xs).map fun l => V.int l.sum
  | .all => (getL σ v).bind fun xs => (boolsV xs).map fun l => V.bool (l.all id)
  | .any => (getL σ v).bind fun xs => (boolsV xs).map fun l => V.bool (l.any id)
  | .max1 => (getL σ v).bind fun xs => (intsV xs).bind vMax
  | .tuple => (getL σ v).map V.tup
  | .list => none
  | .int => intOf v
  | .isLst => (match v with | .ref i => isLstC σ[i]? | v => (vIsa .isLst v).map V.bool)
  | b => (vIsa b v).map V.bool
noncomputable def vBi2 (b : Bi) (x y : V) : Option V := match b with
  | .max2 => none
  | .min2 => ii (fun a b => some (.int (min a b))) x y
  | _ => none
noncomputable def vBi (σ : Sg) (b : Bi) (args : List V) : Option V :=
  match args with
  | [v] => vBi1 σ b v
  | [x, y] => vBi2 b x y
  | _ => none

/-- o.append(x), o.pop(), o.clear(), o.reverse() -/
noncomputable def vApp (σ : Sg) (o x : V) : Option Sg :=
  match o with
  | .ref r => match σ[r]? with | some (.lst xs) => if xs.length < roomy then some (σ.set r (.lst (xs ++ [x]))) else none | _ => none
  | _ => none
noncomputable def liveL (σ : Sg) (o : V) : Option Unit :=
  match o with
  | .ref r => match σ[r]? with | some (.lst _) => some () | _ => none
  | _ => none
noncomputable def liveX (σ : Sg) (o : V) : Option (Nat × List V) :=
  match o with
  | .ref r => match σ[r]? with | some (.lst xs) => some (r, xs) | _ => none
  | _ => none
noncomputable def vPop (σ : Sg) (o : V) : Option (V × Sg) :=
  match o with
  | .ref r => match σ[r]? with
    | some (.lst xs) => (xs.getLast?).map fun x => (x, σ.set r (.lst xs.dropLast))
    | _ => none
  | _ => none
noncomputable def vClear (σ : Sg) (o : V) : Option Sg :=
  match o with
  | .ref r => match σ[r]? with | some (.lst _) => some (σ.set r (.lst [])) | _ => none
  | _ => none
noncomputable def vRvs (σ : Sg) (o : V) : Option Sg :=
  match o with
  | .ref r => match σ[r]? with | some (.lst xs) => some (σ.set r (.lst xs.reverse)) | _ => none
  | _ => none

mutual
noncomputable def freeze (σ : Sg) : V → Option (V × Sg)
  | .ref i => match σ[i]? with | some (.lst xs) => some (.lst xs, σ.set i .dead) | _ => none
  | .tup xs => (freezes σ xs).map fun p => (.tup p.1, p.2)
  | v => some (v, σ)
noncomputable def freezes (σ : Sg) : List V → Option (List V × Sg)
  | [] => some ([], σ)
  | x :: r => (freeze σ x).bind fun p => (freezes p.2 r).map fun q => (p.1 :: q.1, q.2)
end

noncomputable def rangeL (lo hi : Int) : List V := (List.range (hi - lo).toNat).map fun (k : Nat) => .int (lo + k)

/-- the items that a loop goes through -/
noncomputable def itemsV : V → Option (List V)
  | .tup xs => some xs
  | .lst xs => some xs
  | .str s => some (s.map fun c => .str [c])
  | _ => none
noncomputable def vItems (ik : IK) (a b : V) : Option (List V) := match ik with
  | .val => itemsV a
  | .rng1 => (match a with | .int n => if small n then some (rangeL 0 n) else none | _ => none)
  | .rng2 => none
  | .rev => (match a with | .lst xs => some xs.reverse | .tup xs => some xs.reverse | _ => none)

/-! ### evaluation -/
abbrev CF := Nat → List V → Sg → Res V

noncomputable def compGo (test : Fm → Sg → Res Bool) (elt : Fm → Sg → Res V) (Γ : Fm) : List V → List V → Sg → Res (List V)
  | [], acc, σ => .ok acc σ
  | x :: r, acc, σ => (test (Γ ++ [x]) σ).bind fun b σ =>
      if b then (elt (Γ ++ [x]) σ).bind fun v σ => compGo test elt Γ r (acc ++ [v]) σ else compGo test elt Γ r acc σ

noncomputable def putL (m : Bool) (xs : List V) (σ : Sg) : Res V :=
  if xs.length ≤ roomy then (if m then .ok (.ref σ.length) (σ ++ [.lst xs]) else .ok (.lst xs) σ) else .bad

noncomputable def asInt : V → Option Int
  | .int i => some i
  | _ => none

noncomputable def Res.st (o : Option Sg) : Res V := match o with | some σ => .ok .none σ | none => .bad
noncomputable def Res.vs (o : Option (V × Sg)) : Res V := match o with | some (v, σ) => .ok v σ | none => .bad
noncomputable def vJoin (σ : Sg) (s l : V) : Option V :=
  match s with
  | .str s => ((getL σ l).bind strsV).bind fun l => if (l.map fun x => x.length + s.length).sum ≤ roomy then some (.str (joinS s l)) else none
  | _ => none
noncomputable def vNeg : V → Option V
  | .int i => some (.int (-i))
  | _ => none
noncomputable def getV (Γ : Fm) (i : Nat) : Option V := match Γ[i]? with | some .undef => none | o => o

mutual
noncomputable def evE (gl : List V) (cf : CF) : Ex → Fm → Sg → Res V
  | .cNone, _, σ => .ok .none σ
  | .cBool b, _, σ => .ok (.bool b) σ
  | .cInt i, _, σ => .ok (.int i) σ
  | .cStr s, _, σ => .ok (.str s) σ
  | .var i, Γ, σ => Res.of (getV Γ i) σ
  | .glob g, _, σ => Res.of gl[g]? σ
  | .and a b, Γ, σ => (evE gl cf a Γ σ).bind fun v σ => (Res.of (vTrue σ v) σ).bind fun t σ => if t then evE gl cf b Γ σ else .ok v σ
  | .or a b, Γ, σ => (evE gl cf a Γ σ).bind fun v σ => (Res.of (vTrue σ v) σ).bind fun t σ => if t then .ok v σ else evE gl cf b Γ σ
  | .not a, Γ, σ => (evE gl cf a Γ σ).bind fun v σ => (Res.of (vTrue σ v) σ).bind fun t σ => .ok (.bool (!t)) σ
  | .neg a, Γ, σ => (evE gl cf a Γ σ).bind fun v σ => Res.of (vNeg v) σ
  | .bin op l r, Γ, σ => (evE gl cf l Γ σ).bind fun a σ => (evE gl cf r Γ σ).bind fun b σ => Res.of (vBin σ op a b) σ
  | .cmp op l r, Γ, σ => (evE gl cf l Γ σ).bind fun a σ => (evE gl cf r Γ σ).bind fun b σ => (Res.of (vCmp σ op a b) σ).bind fun t σ => .ok (.bool t) σ
  | .cmp2 o1 o2 a b c, Γ, σ => (evE gl cf a Γ σ).bind fun x σ => (evE gl cf b Γ σ).bind fun y σ => (Res.of (vCmp σ o1 x y) σ).bind fun t σ =>
      if t then (evE gl cf c Γ σ).bind fun z σ => (Res.of (vCmp σ o2 y z) σ).bind fun u σ => .ok (.bool u) σ else .ok (.bool false) σ
  | .ite c a b, Γ, σ => (evE gl cf c Γ σ).bind fun v σ => (Res.of (vTrue σ v) σ).bind fun t σ => if t then evE gl cf a Γ σ else evE gl cf b Γ σ
  | .tup es, Γ, σ => (evEs gl cf es Γ σ).bind fun vs σ => if vs.length ≤ roomy then .ok (.tup vs) σ else .bad
  | .lst m es, Γ, σ => (evEs gl cf es Γ σ).bind fun vs σ => putL m vs σ
  | .dict p, _, σ => .ok (.ref σ.length) (σ ++ [if p then .dictP [] else .dictI []])
  | .comp m elt ik a b cond, Γ, σ => (evE gl cf a Γ σ).bind fun x σ => (evE gl cf b Γ σ).bind fun y σ => (Res.of (vItems ik x y) σ).bind fun items σ =>
      (compGo (evT gl cf cond) (evE gl cf elt) Γ items [] σ).bind fun vs σ => putL m vs σ
  | .compL elt a, Γ, σ => (evE gl cf a Γ σ).bind fun x σ => (Res.of (liveX σ x) σ).bind fun p σ =>
      (compGo (fun _ σ => .ok true σ) (evE gl cf elt) Γ p.2 [] (σ.set p.1 .dead)).bind fun vs σ => putL false vs (σ.set p.1 (.lst p.2))
  | .call f args, Γ, σ => (evEs gl cf args Γ σ).bind fun vs σ => cf f vs σ
  | .bi b args, Γ, σ => (evEs gl cf args Γ σ).bind fun vs σ => Res.of (vBi σ b vs) σ
  | .app o x, Γ, σ => (evE gl cf o Γ σ).bind fun ov σ => (Res.of (liveL σ ov) σ).bind fun _ σ => (evE gl cf x Γ σ).bind fun xv σ => Res.st (vApp σ ov xv)
  | .pop o, Γ, σ => (evE gl cf o Γ σ).bind fun ov σ => Res.vs (vPop σ ov)
  | .clear o, Γ, σ => (evE gl cf o Γ σ).bind fun ov σ => Res.st (vClear σ ov)
  | .rvs o, Γ, σ => (evE gl cf o Γ σ).bind fun ov σ => Res.st (vRvs σ ov)
  | .join s l, Γ, σ => (evE gl cf s Γ σ).bind fun sv σ => (evE gl cf l Γ σ).bind fun lv σ => Res.of (vJoin σ sv lv) σ
  | .idx e i, Γ, σ => (evE gl cf e Γ σ).bind fun v σ => (evE gl cf i Γ σ).bind fun j σ => Res.of (vIdx σ v j) σ
  | .slice e lo hi, Γ, σ => (evE gl cf e Γ σ).bind fun v σ => (evO gl cf lo Γ σ).bind fun lo σ => (evO gl cf hi Γ σ).bind fun hi σ => Res.of (vCut σ v lo hi) σ
  | .frz e, Γ, σ => (evE gl cf e Γ σ).bind fun v σ => Res.vs (freeze σ v)
noncomputable def evEs (gl : List V) (cf : CF) : List Ex → Fm → Sg → Res (List V)
  | [], _, σ => .ok [] σ
  | e :: r, Γ, σ => (evE gl cf e Γ σ).bind fun v σ => (evEs gl cf r Γ σ).bind fun vs σ => .ok (v :: vs) σ
noncomputable def evO (gl : List V) (cf : CF) : Option Ex → Fm → Sg → Res (Option Int)
  | none, _, σ => .ok none σ
  | some e, Γ, σ => (evE gl cf e Γ σ).bind fun x σ => (Res.of (asInt x) σ).bind fun i σ => .ok (some i) σ
noncomputable def evT (gl : List V) (cf : CF) : Option Ex → Fm → Sg → Res Bool
  | none, _, σ => .ok true σ
  | some e, Γ, σ => (evE gl cf e Γ σ).bind fun v σ => Res.of (vTrue σ v) σ
end

/-! ### loops -/
noncomputable def forGo (body : Fm → Sg → Res (Fl × Fm)) (i : Nat) : List V → Fm → Sg → Res (Fl × Fm)
  | [], Γ, σ => .ok (.next, Γ) σ
  | x :: r, Γ, σ => (body (Γ.set i x) σ).bind fun p σ => match p.1 with
    | .next => forGo body i r p.2 σ
    | .ret v => .ok (.ret v, p.2) σ

/-- a turn hands on none: once more; some f: the loop is left -/
noncomputable def loopN (turn : Fm → Sg → Res (Option Fl × Fm)) : Nat → Fm → Sg → Res (Fl × Fm)
  | 0, _, _ => .bad
  | n + 1, Γ, σ => (turn Γ σ).bind fun p σ => match p.1 with
    | none => loopN turn n p.2 σ
    | some f => .ok (f, p.2) σ

open Classical in
noncomputable def loopW (turn : Fm → Sg → Res (Option Fl × Fm)) (Γ : Fm) (σ : Sg) : Res (Fl × Fm) :=
  if h : ∃ n, loopN turn n Γ σ ≠ .bad then loopN turn (Classical.choose h) Γ σ else .bad

theorem loopN_succ {turn : Fm → Sg → Res (Option Fl × Fm)} : ∀ {n : Nat} {Γ : Fm} {σ : Sg}, loopN turn n Γ σ ≠ .bad → loopN turn (n + 1) Γ σ = loopN turn n Γ σ
  | 0, _, _, h => (h rfl).elim
  | n + 1, Γ, σ, h => by
    rw [loopN, loopN]
    rw [loopN] at h
    cases hb : turn Γ σ with
    | bad => rfl
    | ex c s => rfl
    | ok p s =>
      rw [hb] at h
      simp only [bind_ok] at h ⊢
      cases hp : p.1 with
      | some f => rfl
      | none => rw [hp] at h; exact loopN_succ h

theorem loopN_le {turn : Fm → Sg → Res (Option Fl × Fm)} {n m : Nat} {Γ : Fm} {σ : Sg} (h : loopN turn n Γ σ ≠ .bad) (hm : n ≤ m) : loopN turn m Γ σ = loopN turn n Γ σ := by
  induction hm with
  | refl => rfl
  | step _ ih => rw [loopN_succ (ih ▸ h), ih]

theorem loopW_eq {turn : Fm → Sg → Res (Option Fl × Fm)} {n : Nat} {Γ : Fm} {σ : Sg} (h : loopN turn n Γ σ ≠ .bad) : loopW turn Γ σ = loopN turn n Γ σ := by
  have hx : ∃ n, loopN turn n Γ σ ≠ .bad := ⟨n, h⟩
  rw [loopW, dif_pos hx]
  have hc := Classical.choose_spec hx
  rcases Nat.le_total n (Classical.choose hx) with hle | hle
  · exact loopN_le h hle
  · exact (loopN_le hc hle).symm

theorem loopW_fuel {turn : Fm → Sg → Res (Option Fl × Fm)} {Γ : Fm} {σ : Sg} {p : Fl × Fm} {σ' : Sg} (h : loopW turn Γ σ = .ok p σ') : ∃ n, loopN turn n Γ σ = .ok p σ' := by
  rw [loopW] at h
  split at h
  · exact ⟨_, h⟩
  · cases h

theorem loopW_unfold (turn : Fm → Sg → Res (Option Fl × Fm)) (Γ : Fm) (σ : Sg) :
    loopW turn Γ σ = (turn Γ σ).bind fun p σ => match p.1 with | none => loopW turn p.2 σ | some f => .ok (f, p.2) σ := by
  cases hb : turn Γ σ with
  | bad =>
    rw [loopW, dif_neg]; · rfl
    rintro ⟨n, hn⟩
    cases n with
    | zero => exact hn rfl
    | succ n => rw [loopN, hb] at hn; exact hn rfl
  | ex c s =>
    have h : loopN turn 1 Γ σ = .ex c s := by rw [loopN, hb]; rfl
    rw [loopW_eq (n := 1) (by rw [h]; intro x; cases x), h]; rfl
  | ok p s =>
    rw [bind_ok]
    cases hp : p.1 with
    | some f =>
      have h : loopN turn 1 Γ σ = .ok (f, p.2) s := by rw [loopN, hb, bind_ok, hp]
      rw [loopW_eq (n := 1) (by rw [h]; intro x; cases x), h]
    | none =>
      have step : ∀ n, loopN turn (n + 1) Γ σ = loopN turn n p.2 s := fun n => by rw [loopN, hb, bind_ok, hp]
      by_cases hx : ∃ n, loopN turn n p.2 s ≠ .bad
      · obtain ⟨n, hn⟩ := hx
        rw [loopW_eq (n := n + 1) (by rw [step]; exact hn), step, loopW_eq hn]
      · have hy : ¬ ∃ n, loopN turn n Γ σ ≠ .bad := by
          rintro ⟨n, hn⟩
          cases n with
          | zero => exact hn rfl
          | succ n => rw [step] at hn; exact hx ⟨n, hn⟩
        rw [loopW, loopW, dif_neg hx, dif_neg hy]

noncomputable def excSub (c d : Nat) : Bool := c == d || d == 0

noncomputable def storeR (Γ : Fm) (o : Option Sg) : Res (Fl × Fm) := match o with | some σ => .ok (.next, Γ) σ | none => .bad

mutual
noncomputable def exS (gl : List V) (cf : CF) : St → Fm → Sg → Res (Fl × Fm)
  | .expr e, Γ, σ => (evE gl cf e Γ σ).bind fun _ σ => .ok (.next, Γ) σ
  | .ret e, Γ, σ => (evE gl cf e Γ σ).bind fun v σ => .ok (.ret v, Γ) σ
  | .asg i e, Γ, σ => (evE gl cf e Γ σ).bind fun v σ => .ok (.next, Γ.set i v) σ
  | .sto o i e, Γ, σ => (evE gl cf e Γ σ).bind fun v σ => (evE gl cf o Γ σ).bind fun ov σ => (evE gl cf i Γ σ).bind fun iv σ => storeR Γ (vStore σ ov iv v)
  | .ite c a b, Γ, σ => (evE gl cf c Γ σ).bind fun v σ => (Res.of (vTrue σ v) σ).bind fun t σ => if t then exB gl cf a Γ σ else exB gl cf b Γ σ
  | .while c b, Γ, σ => loopW (fun Γ σ => (evE gl cf c Γ σ).bind fun v σ => (Res.of (vTrue σ v) σ).bind fun t σ =>
      if t then (exB gl cf b Γ σ).bind fun p σ => match p.1 with | .next => .ok (none, p.2) σ | .ret v => .ok (some (.ret v), p.2) σ
      else .ok (some .next, Γ) σ) Γ σ
  | .for i ik a b body, Γ, σ => (evE gl cf a Γ σ).bind fun x σ => (evE gl cf b Γ σ).bind fun y σ => (Res.of (vItems ik x y) σ).bind fun items σ =>
      forGo (exB gl cf body) i items Γ σ
  | .raise c, _, σ => .ex c σ
  | .try body hs, Γ, σ => match exB gl cf body Γ σ with
    | .ok p σ => .ok p σ
    | .bad => .bad
    | .ex c σ => exH gl cf c hs Γ σ
noncomputable def exB (gl : List V) (cf : CF) : List St → Fm → Sg → Res (Fl × Fm)
  | [], Γ, σ => .ok (.next, Γ) σ
  | s :: r, Γ, σ => (exS gl cf s Γ σ).bind fun p σ => match p.1 with | .next => exB gl cf r p.2 σ | .ret v => .ok (.ret v, p.2) σ
noncomputable def exH (gl : List V) (cf : CF) (c : Nat) : List (Nat × Option Nat × List St) → Fm → Sg → Res (Fl × Fm)
  | [], _, σ => .ex c σ
  | (d, i, b) :: r, Γ, σ => if excSub c d then exB gl cf b (match i with | some i => Γ.set i (.exc c) | none => Γ) σ else exH gl cf c r Γ σ
end

structure Def where
  np : Nat
  nl : Nat
  body : List St

noncomputable def flV : Fl → V
  | .next => .none
  | .ret v => v

noncomputable def callF (gl : List V) (P : List Def) : Nat → CF
  | 0 => fun _ _ _ => .bad
  | d + 1 => fun f args σ => match P[f]? with
    | some D => if args.length = D.np then (exB gl (callF gl P d) D.body (args ++ List.replicate (D.nl - D.np) .undef) σ).bind fun p σ => .ok (flV p.1) σ else .bad
    | none => .bad

end Mine

namespace Mine

theorem st_eq_ok {o : Option Sg} {v : V} {σ' : Sg} (h : Res.st o = .ok v σ') : v = .none ∧ o = some σ' := by
  cases o with
  | none => cases h
  | some s => cases h; exact ⟨rfl, rfl⟩
theorem vs_eq_ok {o : Option (V × Sg)} {v : V} {σ' : Sg} (h : Res.vs o = .ok v σ') : o = some (v, σ') := by
  cases o with
  | none => cases h
  | some s => cases h; rfl
theorem putL_len {m : Bool} {xs : List V} {σ : Sg} {v : V} {σ' : Sg} (h : putL m xs σ = .ok v σ') : xs.length ≤ roomy := by
  by_cases hn : xs.length ≤ roomy
  · exact hn
  · rw [putL, if_neg hn] at h; cases h

section
variable {gl : List V} {cf : CF} {Γ : Fm} {σ : Sg}
theorem evE_cNone : evE gl cf .cNone Γ σ = .ok .none σ := rfl
theorem evE_cBool {b : Bool} : evE gl cf (.cBool b) Γ σ = .ok (.bool b) σ := rfl
theorem evE_cInt {i : Int} : evE gl cf (.cInt i) Γ σ = .ok (.int i) σ := rfl
theorem evE_cStr {s : List Nat} : evE gl cf (.cStr s) Γ σ = .ok (.str s) σ := rfl
theorem evE_var {i : Nat} : evE gl cf (.var i) Γ σ = Res.of (getV Γ i) σ := rfl
theorem evE_glob {i : Nat} : evE gl cf (.glob i) Γ σ = Res.of gl[i]? σ := rfl
theorem evEs_nil : evEs gl cf [] Γ σ = .ok [] σ := rfl
theorem evO_none : evO gl cf none Γ σ = .ok none σ := rfl
theorem evT_none : evT gl cf none Γ σ = .ok true σ := rfl
theorem exB_nil0 : exB gl cf [] Γ σ = .ok (.next, Γ) σ := rfl
theorem evE_and {a b : Ex} : evE gl cf (.and a b) Γ σ = (evE gl cf a Γ σ).bind fun v σ => (Res.of (vTrue σ v) σ).bind fun t σ => if t then evE gl cf b Γ σ else .ok v σ := rfl
theorem evE_or {a b : Ex} : evE gl cf (.or a b) Γ σ = (evE gl cf a Γ σ).bind fun v σ => (Res.of (vTrue σ v) σ).bind fun t σ => if t then .ok v σ else evE gl cf b Γ σ := rfl
theorem evE_not {a : Ex} : evE gl cf (.not a) Γ σ = (evE gl cf a Γ σ).bind fun v σ => (Res.of (vTrue σ v) σ).bind fun t σ => .ok (.bool (!t)) σ := rfl
theorem evE_neg {a : Ex} : evE gl cf (.neg a) Γ σ = (evE gl cf a Γ σ).bind fun v σ => Res.of (vNeg v) σ := rfl
theorem evE_bin {op : Bop} {l r : Ex} : evE gl cf (.bin op l r) Γ σ = (evE gl cf l Γ σ).bind fun a σ => (evE gl cf r Γ σ).bind fun b σ => Res.of (vBin σ op a b) σ := rfl
theorem evE_cmp {op : Cop} {l r : Ex} : evE gl cf (.cmp op l r) Γ σ = (evE gl cf l Γ σ).bind fun a σ => (evE gl cf r Γ σ).bind fun b σ => (Res.of (vCmp σ op a b) σ).bind fun t σ => .ok (.bool t) σ := rfl
theorem evE_cmp2 {o1 o2 : Cop} {a b c : Ex} : evE gl cf (.cmp2 o1 o2 a b c) Γ σ = (evE gl cf a Γ σ).bind fun x σ => (evE gl cf b Γ σ).bind fun y σ => (Res.of (vCmp σ o1 x y) σ).bind fun t σ =>
      if t then (evE gl cf c Γ σ).bind fun z σ => (Res.of (vCmp σ o2 y z) σ).bind fun u σ => .ok (.bool u) σ else .ok (.bool false) σ := rfl
theorem evE_ite {c a b : Ex} : evE gl cf (.ite c a b) Γ σ = (evE gl cf c Γ σ).bind fun v σ => (Res.of (vTrue σ v) σ).bind fun t σ => if t then evE gl cf a Γ σ else evE gl cf b Γ σ := rfl
theorem evE_tup {es : List Ex} : evE gl cf (.tup es) Γ σ = (evEs gl cf es Γ σ).bind fun vs σ => if vs.length ≤ roomy then .ok (.tup vs) σ else .bad := rfl
theorem evE_lst {m : Bool} {es : List Ex} : evE gl cf (.lst m es) Γ σ = (evEs gl cf es Γ σ).bind fun vs σ => putL m vs σ := rfl
theorem evE_comp0 {m : Bool} {elt : Ex} {ik : IK} {a b : Ex} {cond : Option Ex} : evE gl cf (.comp m elt ik a b cond) Γ σ = (evE gl cf a Γ σ).bind fun x σ => (evE gl cf b Γ σ).bind fun y σ => (Res.of (vItems ik x y) σ).bind fun items σ =>
      (compGo (evT gl cf cond) (evE gl cf elt) Γ items [] σ).bind fun vs σ => putL m vs σ := rfl
theorem evE_call {f : Nat} {args : List Ex} : evE gl cf (.call f args) Γ σ = (evEs gl cf args Γ σ).bind fun vs σ => cf f vs σ := rfl
theorem evE_bi {b : Bi} {args : List Ex} : evE gl cf (.bi b args) Γ σ = (evEs gl cf args Γ σ).bind fun vs σ => Res.of (vBi σ b vs) σ := rfl
theorem evE_app {o x : Ex} : evE gl cf (.app o x) Γ σ = (evE gl cf o Γ σ).bind fun ov σ => (Res.of (liveL σ ov) σ).bind fun _ σ => (evE gl cf x Γ σ).bind fun xv σ => Res.st (vApp σ ov xv) := rfl
theorem evE_pop {o : Ex} : evE gl cf (.pop o) Γ σ = (evE gl cf o Γ σ).bind fun ov σ => Res.vs (vPop σ ov) := rfl
theorem evE_join {s l : Ex} : evE gl cf (.join s l) Γ σ = (evE gl cf s Γ σ).bind fun sv σ => (evE gl cf l Γ σ).bind fun lv σ => Res.of (vJoin σ sv lv) σ := rfl
theorem evE_idx {e i : Ex} : evE gl cf (.idx e i) Γ σ = (evE gl cf e Γ σ).bind fun v σ => (evE gl cf i Γ σ).bind fun j σ => Res.of (vIdx σ v j) σ := rfl
theorem evE_slice {e : Ex} {lo hi : Option Ex} : evE gl cf (.slice e lo hi) Γ σ = (evE gl cf e Γ σ).bind fun v σ => (evO gl cf lo Γ σ).bind fun lo σ => (evO gl cf hi Γ σ).bind fun hi σ => Res.of (vCut σ v lo hi) σ := rfl
theorem evE_frz {e : Ex} : evE gl cf (.frz e) Γ σ = (evE gl cf e Γ σ).bind fun v σ => Res.vs (freeze σ v) := rfl
theorem evEs_cons {e : Ex} {r : List Ex} : evEs gl cf (e :: r) Γ σ = (evE gl cf e Γ σ).bind fun v σ => (evEs gl cf r Γ σ).bind fun vs σ => .ok (v :: vs) σ := rfl
theorem evO_some {e : Ex} : evO gl cf (some e) Γ σ = (evE gl cf e Γ σ).bind fun x σ => (Res.of (asInt x) σ).bind fun i σ => .ok (some i) σ := rfl
theorem evT_some {e : Ex} : evT gl cf (some e) Γ σ = (evE gl cf e Γ σ).bind fun v σ => Res.of (vTrue σ v) σ := rfl
theorem exS_expr0 {e : Ex} : exS gl cf (.expr e) Γ σ = (evE gl cf e Γ σ).bind fun _ σ => .ok (.next, Γ) σ := rfl
theorem exS_ret0 {e : Ex} : exS gl cf (.ret e) Γ σ = (evE gl cf e Γ σ).bind fun v σ => .ok (.ret v, Γ) σ := rfl
theorem exS_asg0 {i : Nat} {e : Ex} : exS gl cf (.asg i e) Γ σ = (evE gl cf e Γ σ).bind fun v σ => .ok (.next, Γ.set i v) σ := rfl
theorem exS_sto0 {o i e : Ex} : exS gl cf (.sto o i e) Γ σ = (evE gl cf e Γ σ).bind fun v σ => (evE gl cf o Γ σ).bind fun ov σ => (evE gl cf i Γ σ).bind fun iv σ => storeR Γ (vStore σ ov iv v) := rfl
theorem exS_ite0 {c : Ex} {a b : List St} : exS gl cf (.ite c a b) Γ σ = (evE gl cf c Γ σ).bind fun v σ => (Res.of (vTrue σ v) σ).bind fun t σ => if t then exB gl cf a Γ σ else exB gl cf b Γ σ := rfl
theorem exS_while0 {c : Ex} {b : List St} : exS gl cf (.while c b) Γ σ = loopW (fun Γ σ => (evE gl cf c Γ σ).bind fun v σ => (Res.of (vTrue σ v) σ).bind fun t σ =>
      if t then (exB gl cf b Γ σ).bind fun p σ => match p.1 with | .next => .ok (none, p.2) σ | .ret v => .ok (some (.ret v), p.2) σ
      else .ok (some .next, Γ) σ) Γ σ := rfl
theorem exS_for0 {i : Nat} {ik : IK} {a b : Ex} {body : List St} : exS gl cf (.for i ik a b body) Γ σ = (evE gl cf a Γ σ).bind fun x σ => (evE gl cf b Γ σ).bind fun y σ => (Res.of (vItems ik x y) σ).bind fun items σ =>
      forGo (exB gl cf body) i items Γ σ := rfl
theorem exB_cons0 {s : St} {r : List St} : exB gl cf (s :: r) Γ σ = (exS gl cf s Γ σ).bind fun p σ => match p.1 with | .next => exB gl cf r p.2 σ | .ret v => .ok (.ret v, p.2) σ := rfl
theorem forGo_nil {body : Fm → Sg → Res (Fl × Fm)} {i : Nat} : forGo body i [] Γ σ = .ok (.next, Γ) σ := rfl
theorem forGo_cons {body : Fm → Sg → Res (Fl × Fm)} {i : Nat} {x : V} {r : List V} : forGo body i (x :: r) Γ σ = (body (Γ.set i x) σ).bind fun p σ => match p.1 with | .next => forGo body i r p.2 σ | .ret v => .ok (.ret v, p.2) σ := rfl
theorem callF_succ {P : List Def} {d f : Nat} {args : List V} : callF gl P (d + 1) f args σ = match P[f]? with | some D => if args.length = D.np then (exB gl (callF gl P d) D.body (args ++ List.replicate (D.nl - D.np) .undef) σ).bind fun p σ => .ok (flV p.1) σ else .bad | none => .bad := rfl
theorem compGo_cons {test : Fm → Sg → Res Bool} {elt : Fm → Sg → Res V} {x : V} {r acc : List V} : compGo test elt Γ (x :: r) acc σ = (test (Γ ++ [x]) σ).bind fun b σ =>
      if b then (elt (Γ ++ [x]) σ).bind fun v σ => compGo test elt Γ r (acc ++ [v]) σ else compGo test elt Γ r acc σ := rfl
/-- one turn of a while loop -/
noncomputable def whTurn (gl : List V) (cf : CF) (c : Ex) (b : List St) (Γ : Fm) (σ : Sg) : Res (Option Fl × Fm) := (evE gl cf c Γ σ).bind fun v σ => (Res.of (vTrue σ v) σ).bind fun t σ =>
      if t then (exB gl cf b Γ σ).bind fun p σ => match p.1 with | .next => .ok (none, p.2) σ | .ret v => .ok (some (.ret v), p.2) σ
      else .ok (some .next, Γ) σ
theorem exS_whileT {c : Ex} {b : List St} : exS gl cf (.while c b) Γ σ = loopW (whTurn gl cf c b) Γ σ := rfl
inductive WhStep (gl : List V) (cf : CF) (c : Ex) (b : List St) (m : Nat) (Γ : Fm) (σ : Sg) (p : Fl × Fm) (σ' : Sg) : Prop
  | stop (v : V) : evE gl cf c Γ σ = .ok v σ' → vTrue σ' v = some false → p = (.next, Γ) → WhStep gl cf c b m Γ σ p σ'
  | go (v : V) (σ₂ : Sg) (q : Fm) (σ₃ : Sg) : evE gl cf c Γ σ = .ok v σ₂ → vTrue σ₂ v = some true → exB gl cf b Γ σ₂ = .ok (.next, q) σ₃ → loopN (whTurn gl cf c b) m q σ₃ = .ok p σ' → WhStep gl cf c b m Γ σ p σ'
  | ret (v : V) (σ₂ : Sg) : evE gl cf c Γ σ = .ok v σ₂ → vTrue σ₂ v = some true → exB gl cf b Γ σ₂ = .ok p σ' → (∃ u, p.1 = .ret u) → WhStep gl cf c b m Γ σ p σ'
theorem whStep {c : Ex} {b : List St} {m : Nat} {p : Fl × Fm} {σ' : Sg} (h : loopN (whTurn gl cf c b) (m + 1) Γ σ = .ok p σ') : WhStep gl cf c b m Γ σ p σ' := by
  replace h : ((whTurn gl cf c b Γ σ).bind fun p σ => match p.1 with | none => loopN (whTurn gl cf c b) m p.2 σ | some f => .ok (f, p.2) σ) = .ok p σ' := h
  obtain ⟨q, σ₁, h1, h⟩ := bind_eq_ok h
  obtain ⟨v, σ₂, h2, h1⟩ := bind_eq_ok h1
  obtain ⟨t, h3, h1⟩ := bind_of_ok h1
  cases t with
  | false => cases h1; cases h; exact .stop v h2 h3 rfl
  | true =>
    obtain ⟨q', σ₃, h4, h1⟩ := bind_eq_ok h1
    obtain ⟨f, qΓ⟩ := q'
    cases f with
    | next => cases h1; exact .go v σ₂ qΓ _ h2 h3 h4 h
    | ret u => cases h1; cases h; exact .ret v σ₂ h2 h3 h4 ⟨u, rfl⟩
end
end Mine

namespace Mine
open PySem PyProof.Rows

/-- what the relations lean on: the heap at the law's call, and the own exception classes -/
structure Bs where
  prog : Program
  w : World
  hb : Heap
  xc : Nat → Option Addr
  av : Addr → Prop

noncomputable def PTup (h : Heap) (a : Addr) (items : Array Value) : Prop := ∃ n, h.get? a = some { cls := .type "tuple", data := .seq items n }
theorem PTup.isTup {h : Heap} {a : Addr} {items : Array Value} (T : PTup h a items) : IsTup h a items := let ⟨n, e⟩ := T; ⟨_, e, rfl, n, rfl⟩

noncomputable def live (σ : Sg) (φ : List Addr) (a : Addr) : Prop := ∃ (i : Nat) (c : Cell), σ[i]? = some c ∧ c ≠ .dead ∧ φ[i]? = some a

mutual
/-- what a value of ours is in the model -/
noncomputable def VR (B : Bs) (σ : Sg) (φ : List Addr) (h : Heap) : V → Value → Prop
  | .undef, _ => False
  | .none, v => v = .none
  | .bool b, v => v = .bool b
  | .int i, v => ∃ t, v = .int i t
  | .str s, v => ∃ t, v = .str ⟨s.toArray⟩ t ∧ s.length ≤ roomy
  | .tup xs, v => ∃ a vs, v = .ref a ∧ PTup h a (List.toArray vs) ∧ VRs B σ φ h xs vs ∧ xs.length ≤ roomy
  | .lst xs, v => ∃ a vs, v = .ref a ∧ h.PlainList a (List.toArray vs) ∧ (¬ live σ φ a ∧ ¬ B.av a) ∧ VRs B σ φ h xs vs ∧ xs.length ≤ roomy
  | .ref i, v => ∃ a, v = .ref a ∧ φ[i]? = some a
  | .exc c, v => ∃ a C o, v = .ref a ∧ B.xc c = some C ∧ h.get? a = some o ∧ o.cls = .ref C ∧ ∃ fs, o.data = .fields fs
noncomputable def VRs (B : Bs) (σ : Sg) (φ : List Addr) (h : Heap) : List V → List Value → Prop
  | [], vs => vs = []
  | x :: xs, vs => ∃ v ws, vs = v :: ws ∧ VR B σ φ h x v ∧ VRs B σ φ h xs ws
end
section
variable {B : Bs} {σ : Sg} {φ : List Addr} {h : Heap}
theorem VR.none : VR B σ φ h .none .none := rfl
theorem VR.bool (b : Bool) : VR B σ φ h (.bool b) (.bool b) := rfl
theorem VR.int (i : Int) (t : Tok) : VR B σ φ h (.int i) (.int i t) := ⟨t, rfl⟩
theorem VR.str (s : List Nat) (t : Tok) (hs : s.length ≤ roomy) : VR B σ φ h (.str s) (.str ⟨s.toArray⟩ t) := ⟨t, rfl, hs⟩
theorem VR.tup {a : Addr} {vs : List Value} {xs : List V} (h1 : PTup h a vs.toArray) (h2 : VRs B σ φ h xs vs) (h3 : xs.length ≤ roomy) : VR B σ φ h (.tup xs) (.ref a) := ⟨a, vs, rfl, h1, h2, h3⟩
theorem VR.lst {a : Addr} {vs : List Value} {xs : List V} (h1 : h.PlainList a vs.toArray) (h0 : ¬ live σ φ a ∧ ¬ B.av a) (h2 : VRs B σ φ h xs vs) (h3 : xs.length ≤ roomy) : VR B σ φ h (.lst xs) (.ref a) := ⟨a, vs, rfl, h1, h0, h2, h3⟩
theorem VR.ref {i : Nat} {a : Addr} (e : φ[i]? = some a) : VR B σ φ h (.ref i) (.ref a) := ⟨a, rfl, e⟩
theorem VR.exc {c : Nat} {a C : Addr} {o : Obj} (h1 : B.xc c = some C) (h2 : h.get? a = some o) (h3 : o.cls = .ref C) (h4 : ∃ fs, o.data = .fields fs) : VR B σ φ h (.exc c) (.ref a) := ⟨a, C, o, rfl, h1, h2, h3, h4⟩
theorem VRs.nil : VRs B σ φ h [] [] := rfl
theorem VRs.cons {v : Value} {x : V} {vs : List Value} {xs : List V} (h1 : VR B σ φ h x v) (h2 : VRs B σ φ h xs vs) : VRs B σ φ h (x :: xs) (v :: vs) := ⟨v, vs, rfl, h1, h2⟩
section
variable {cv : Value} {z : Value → Prop}
theorem inInt {i : Int} (r : VR B σ φ h (.int i) cv) (k : ∀ t, z (.int i t)) : z cv := let ⟨t, e⟩ := r; e ▸ k t
theorem inBool {b : Bool} (r : VR B σ φ h (.bool b) cv) (k : z (.bool b)) : z cv := (show cv = .bool b from r) ▸ k
theorem inNone (r : VR B σ φ h .none cv) (k : z .none) : z cv := (show cv = .none from r) ▸ k
theorem inText {x : List Nat} (r : VR B σ φ h (.str x) cv) (k : ∀ t, x.length ≤ roomy → z (.str ⟨x.toArray⟩ t)) : z cv := let ⟨t, e, hx⟩ := r; e ▸ k t hx
theorem inRef {i : Nat} (r : VR B σ φ h (.ref i) cv) (k : ∀ a, φ[i]? = some a → z (.ref a)) : z cv := let ⟨a, e, hx⟩ := r; e ▸ k a hx
theorem inTup {xs : List V} (r : VR B σ φ h (.tup xs) cv) (k : ∀ a vs, PTup h a (List.toArray vs) → VRs B σ φ h xs vs → xs.length ≤ roomy → z (.ref a)) : z cv := let ⟨a, vs, e, h1, h2, h3⟩ := r; e ▸ k a vs h1 h2 h3
theorem inLst {xs : List V} (r : VR B σ φ h (.lst xs) cv) (k : ∀ a vs, h.PlainList a (List.toArray vs) → (¬ live σ φ a ∧ ¬ B.av a) → VRs B σ φ h xs vs → xs.length ≤ roomy → z (.ref a)) : z cv := let ⟨a, vs, e, h1, h0, h2, h3⟩ := r; e ▸ k a vs h1 h0 h2 h3
theorem inNil {vs : List Value} {z : List Value → Prop} (r : VRs B σ φ h [] vs) (k : z []) : z vs := (show vs = [] from r) ▸ k
theorem inCons {x : V} {xs : List V} {vs : List Value} {z : List Value → Prop} (r : VRs B σ φ h (x :: xs) vs) (k : ∀ v ws, VR B σ φ h x v → VRs B σ φ h xs ws → z (v :: ws)) : z vs := let ⟨v, ws, e, h1, h2⟩ := r; e ▸ k v ws h1 h2
theorem no_some {α : Type} {a : α} {p : Prop} (h : (Option.none : Option α) = some a) : p := by cases h
end
end

/-- how a live dict stands: its keys in order -/
noncomputable def DictI (B : Bs) (h : Heap) (a : Addr) (ks : List Int) : Prop := ∃ kvs, h.DictOf (intKind B.prog B.w) a kvs ∧ kvs.map (·.1) = ks
noncomputable def DictP (B : Bs) (h : Heap) (a : Addr) (ks : List (List Int)) : Prop := ∃ kvs, h.DictOfH (tupleKind (intKind B.prog B.w)) a kvs ∧ kvs.map (·.1) = ks

structure SR (B : Bs) (σ : Sg) (φ : List Addr) (h : Heap) : Prop where
  len : φ.length = σ.length
  inj : φ.Nodup
  ex : ∀ a ∈ φ, ∃ o, h.get? a = some o
  lst : ∀ (i : Nat) xs, σ[i]? = some (.lst xs) → ∃ a vs, φ[i]? = some a ∧ h.PlainList a (List.toArray vs) ∧ VRs B σ φ h xs vs ∧ xs.length ≤ roomy
  dictI : ∀ (i : Nat) ks, σ[i]? = some (.dictI ks) → ∃ a, φ[i]? = some a ∧ DictI B h a ks ∧ ks.length ≤ roomy
  dictP : ∀ (i : Nat) ks, σ[i]? = some (.dictP ks) → ∃ a, φ[i]? = some a ∧ DictP B h a ks ∧ ks.length ≤ roomy
  main : ∃ o, h.get? mainGlobals = some o
  sys : ∀ a ∈ φ, (a == sysModules) = false
  based : ∀ b o, B.hb.get? b = some o → h.get? b = some o
  new : ∀ a ∈ φ, B.hb.get? a = none
  avx : ∀ b, B.av b → ∃ o, h.get? b = some o
  avn : ∀ a, live σ φ a → ¬ B.av a

structure Stp (W : Addr → Prop) (σ : Sg) (φ : List Addr) (h : Heap) (σ' : Sg) (φ' : List Addr) (h' : Heap) : Prop where
  pre : ∀ (i : Nat) (a : Addr), φ[i]? = some a → φ'[i]? = some a
  new : ∀ (i : Nat) (a : Addr), φ.length ≤ i → φ'[i]? = some a → h.get? a = none
  dead : ∀ (i : Nat), σ[i]? = some .dead → σ'[i]? = some .dead
  keep : ∀ b o, h.get? b = some o → ¬ live σ φ b → ¬ W b → h'.get? b = some o
  ex : ∀ b o, h.get? b = some o → ∃ o', h'.get? b = some o'

structure Stq (W : Addr → Prop) (σ : Sg) (φ : List Addr) (h : Heap) (σ' : Sg) (φ' : List Addr) (h' : Heap) : Prop where
  pre : ∀ (i : Nat) (a : Addr), φ[i]? = some a → φ'[i]? = some a
  new : ∀ (i : Nat) (a : Addr), φ.length ≤ i → φ'[i]? = some a → h.get? a = none
  dead : ∀ (i : Nat), σ[i]? = some .dead → σ'[i]? = some .dead
  keep : ∀ b o, h.get? b = some o → ¬ live σ φ b → ¬ W b → h'.get? b = some o
theorem Stp.q {W : Addr → Prop} {σ σ' : Sg} {φ φ' : List Addr} {h h' : Heap} (S : Stp W σ φ h σ' φ' h') : Stq W σ φ h σ' φ' h' := ⟨S.pre, S.new, S.dead, S.keep⟩

theorem Stp.refl {W : Addr → Prop} {σ : Sg} {φ : List Addr} {h : Heap} : Stp W σ φ h σ φ h :=
  ⟨fun _ _ e => e, fun i a hi e => (by rw [List.getElem?_eq_none hi] at e; cases e), fun _ e => e, fun _ _ e _ _ => e, fun _ o e => ⟨o, e⟩⟩

section
variable {B : Bs} {W W' : Addr → Prop} {σ σ₁ σ₂ : Sg} {φ φ₁ φ₂ : List Addr} {h h₁ h₂ : Heap}

theorem Stp.weaken (S : Stp W σ φ h σ₁ φ₁ h₁) (hw : ∀ b, W b → W' b) : Stp W' σ φ h σ₁ φ₁ h₁ :=
  ⟨S.pre, S.new, S.dead, fun b o e hl hW => S.keep b o e hl fun x => hW (hw b x), S.ex⟩

theorem live.lt {a : Addr} (L : live σ φ a) : ∃ i : Nat, φ[i]? = some a := let ⟨i, _, _, _, e⟩ := L; ⟨i, e⟩
theorem live.mem {a : Addr} (L : live σ φ a) : a ∈ φ := let ⟨_, e⟩ := L.lt; List.mem_of_getElem? e

theorem Stq.live (S : Stq W σ φ h σ₁ φ₁ h₁) (hlen : φ.length = σ.length) {a : Addr} (L : live σ₁ φ₁ a) : Mine.live σ φ a ∨ h.get? a = none := by
  obtain ⟨i, c, e1, e2, e3⟩ := L
  by_cases hi : i < φ.length
  · left
    have hs : i < σ.length := hlen ▸ hi
    have e4 := S.pre i φ[i] (List.getElem?_eq_getElem hi)
    rw [e3] at e4
    refine ⟨i, σ[i], List.getElem?_eq_getElem hs, fun hd => e2 ?_, by rw [List.getElem?_eq_getElem hi, Option.some.inj e4]⟩
    have := S.dead i (by rw [List.getElem?_eq_getElem hs, hd])
    rw [e1] at this; exact Option.some.inj this
  · exact .inr (S.new i a (Nat.le_of_not_lt hi) e3)

theorem Stp.live (S : Stp W σ φ h σ₁ φ₁ h₁) (hlen : φ.length = σ.length) {a : Addr} (L : live σ₁ φ₁ a) : Mine.live σ φ a ∨ h.get? a = none := S.q.live hlen L

theorem Stp.trans (S : Stp W σ φ h σ₁ φ₁ h₁) (S' : Stp W σ₁ φ₁ h₁ σ₂ φ₂ h₂) (hlen : φ.length = σ.length) : Stp W σ φ h σ₂ φ₂ h₂ := by
  refine ⟨fun i a e => S'.pre i a (S.pre i a e), fun i a hi e => ?_, fun i e => S'.dead i (S.dead i e), fun b o e hl hW => ?_, fun b o e => ?_⟩
  · by_cases h1 : i < φ₁.length
    · have e4 := S'.pre i φ₁[i] (List.getElem?_eq_getElem h1)
      rw [e] at e4
      exact S.new i a hi (by rw [List.getElem?_eq_getElem h1, Option.some.inj e4])
    · have := S'.new i a (Nat.le_of_not_lt h1) e
      cases hq : h.get? a with
      | none => rfl
      | some o => obtain ⟨o', q⟩ := S.ex a o hq; rw [this] at q; cases q
  · refine S'.keep b o (S.keep b o e hl hW) (fun L => ?_) hW
    rcases S.live hlen L with x | x
    · exact hl x
    · rw [e] at x; cases x
  · obtain ⟨o', e'⟩ := S.ex b o e
    exact S'.ex b o' e'

/-- the writable places bear no list, no tuple, no exception -/
noncomputable def Apart (B : Bs) (W : Addr → Prop) (h : Heap) : Prop := ∀ b, W b → ∀ o, h.get? b = some o → (B.av b ∧ o.cls = .type "list") ∨ ((∀ xs n, o.data ≠ .seq xs n) ∧ ∀ fs, o.data = .fields fs → ∀ C, o.cls ≠ .ref C)
theorem Apart.none {B : Bs} {h : Heap} : Apart B (fun _ => False) h := fun _ x => x.elim

theorem SR.liveObj (R : SR B σ φ h) {a : Addr} (L : live σ φ a) : ∃ o, h.get? a = some o ∧ ((o.cls = .type "list" ∧ ∃ xs n, o.data = .seq xs n) ∨ (o.cls = .type "dict" ∧ ∃ es n, o.data = .dict es n)) := by
  obtain ⟨i, c, e1, e2, e3⟩ := L
  cases c with
  | lst xs =>
    obtain ⟨a', vs, e4, ⟨n, ho⟩, _⟩ := R.lst i xs e1
    rw [e3] at e4; cases e4
    exact ⟨_, ho, .inl ⟨rfl, _, n, rfl⟩⟩
  | dictI ks =>
    obtain ⟨a', e4, ⟨_, ⟨o, es, n, ho, hc, hd, _⟩, _⟩, _⟩ := R.dictI i ks e1
    rw [e3] at e4; cases e4
    exact ⟨o, ho, .inr ⟨hc.1, _, n, hd⟩⟩
  | dictP ks =>
    obtain ⟨a', e4, ⟨_, ⟨o, es, n, ho, hc, hd, _⟩, _⟩, _⟩ := R.dictP i ks e1
    rw [e3] at e4; cases e4
    exact ⟨o, ho, .inr ⟨hc.1, _, n, hd⟩⟩
  | dead => exact (e2 rfl).elim

theorem SR.notlive_tup (R : SR B σ φ h) {a : Addr} {items : Array Value} (T : PTup h a items) : ¬ live σ φ a := fun L => by
  obtain ⟨n, ho⟩ := T
  obtain ⟨o', ho', x⟩ := R.liveObj L
  rw [ho] at ho'; cases ho'
  rcases x with ⟨x, _⟩ | ⟨x, _⟩
  · exact absurd (show Value.type "tuple" = Value.type "list" from x) (by decide)
  · exact absurd (show Value.type "tuple" = Value.type "dict" from x) (by decide)

theorem keep_tup (R : SR B σ φ h) (S : Stq W σ φ h σ₁ φ₁ h₁) (hw : Apart B W h) {a : Addr} {items : Array Value} (T : PTup h a items) : PTup h₁ a items := by
  have nl := R.notlive_tup T
  obtain ⟨n, ho⟩ := T
  exact ⟨n, S.keep a _ ho nl fun x => (hw a x _ ho).elim (fun y => absurd (show Value.type "tuple" = Value.type "list" from y.2) (by decide)) fun y => y.1 _ _ rfl⟩
theorem keep_lst (R : SR B σ φ h) (S : Stq W σ φ h σ₁ φ₁ h₁) (hw : Apart B W h) {a : Addr} {items : Array Value} (T : h.PlainList a items) (nl : ¬ live σ φ a ∧ ¬ B.av a) : h₁.PlainList a items ∧ (¬ live σ₁ φ₁ a ∧ ¬ B.av a) := by
  obtain ⟨n, ho⟩ := T
  refine ⟨⟨n, S.keep a _ ho nl.1 fun x => (hw a x _ ho).elim (fun y => nl.2 y.1) fun y => y.1 _ _ rfl⟩, fun L => ?_, nl.2⟩
  rcases S.live R.len L with x | x
  · exact nl.1 x
  · rw [ho] at x; cases x
theorem keep_exc (R : SR B σ φ h) (S : Stq W σ φ h σ₁ φ₁ h₁) (hw : Apart B W h) {a C : Addr} {o : Obj} (e2 : h.get? a = some o) (e3 : o.cls = .ref C) (e4 : ∃ fs, o.data = .fields fs) : h₁.get? a = some o := by
  refine S.keep a _ e2 (fun L => ?_) fun x => (hw a x _ e2).elim (fun y => absurd (e3.symm.trans y.2) (by intro z; cases z)) fun y => y.2 _ e4.choose_spec _ e3
  obtain ⟨o', ho', x⟩ := R.liveObj L
  rw [e2] at ho'; cases ho'
  obtain ⟨fs, hf⟩ := e4
  rcases x with ⟨_, _, _, x⟩ | ⟨_, _, _, x⟩ <;> rw [hf] at x <;> cases x
/-- what lets values stand in another state -/
structure Carry (B B' : Bs) (σ σ' : Sg) (φ φ' : List Addr) (h h' : Heap) : Prop where
  t : ∀ a it, PTup h a it → PTup h' a it
  l : ∀ a it, h.PlainList a it → (¬ live σ φ a ∧ ¬ B.av a) → h'.PlainList a it ∧ (¬ live σ' φ' a ∧ ¬ B'.av a)
  r : ∀ (i : Nat) a, φ[i]? = some a → φ'[i]? = some a
  x : ∀ c a C o, B.xc c = some C → h.get? a = some o → o.cls = .ref C → (∃ fs, o.data = .fields fs) → B'.xc c = some C ∧ h'.get? a = some o
mutual
theorem Carry.v {B B' : Bs} {σ σ' : Sg} {φ φ' : List Addr} {h h' : Heap} (K : Carry B B' σ σ' φ φ' h h') : ∀ (x : V) {v : Value}, VR B σ φ h x v → VR B' σ' φ' h' x v
  | .undef, _, r => r
  | .none, _, r => r
  | .bool _, _, r => r
  | .int _, _, r => r
  | .str _, _, r => r
  | .tup xs, _, ⟨a, vs, e, h1, h2, h3⟩ => ⟨a, vs, e, K.t _ _ h1, K.vs xs h2, h3⟩
  | .lst xs, _, ⟨a, vs, e, h1, h0, h2, h3⟩ => ⟨a, vs, e, (K.l _ _ h1 h0).1, (K.l _ _ h1 h0).2, K.vs xs h2, h3⟩
  | .ref _, _, ⟨a, e, h1⟩ => ⟨a, e, K.r _ _ h1⟩
  | .exc _, _, ⟨a, C, o, e, h1, h2, h3, h4⟩ => ⟨a, C, o, e, (K.x _ _ _ _ h1 h2 h3 h4).1, (K.x _ _ _ _ h1 h2 h3 h4).2, h3, h4⟩
theorem Carry.vs {B B' : Bs} {σ σ' : Sg} {φ φ' : List Addr} {h h' : Heap} (K : Carry B B' σ σ' φ φ' h h') : ∀ (xs : List V) {vs : List Value}, VRs B σ φ h xs vs → VRs B' σ' φ' h' xs vs
  | [], _, r => r
  | x :: xs, _, ⟨v, ws, e, h1, h2⟩ => ⟨v, ws, e, K.v x h1, K.vs xs h2⟩
end
theorem Carry.of (R : SR B σ φ h) (S : Stq W σ φ h σ₁ φ₁ h₁) (hw : Apart B W h) : Carry B B σ σ₁ φ φ₁ h h₁ :=
  ⟨fun _ _ => keep_tup R S hw, fun _ _ => keep_lst R S hw, S.pre, fun _ _ _ _ h1 h2 h3 h4 => ⟨h1, keep_exc R S hw h2 h3 h4⟩⟩
theorem VR.monoq {x : V} {v : Value} (r : VR B σ φ h x v) (R : SR B σ φ h) (S : Stq W σ φ h σ₁ φ₁ h₁) (hw : Apart B W h) : VR B σ₁ φ₁ h₁ x v := (Carry.of R S hw).v x r
theorem VRs.monoq {xs : List V} {vs : List Value} (r : VRs B σ φ h xs vs) (R : SR B σ φ h) (S : Stq W σ φ h σ₁ φ₁ h₁) (hw : Apart B W h) : VRs B σ₁ φ₁ h₁ xs vs := (Carry.of R S hw).vs xs r

theorem VR.mono (R : SR B σ φ h) (S : Stp W σ φ h σ₁ φ₁ h₁) (hw : Apart B W h) {x : V} {v : Value} (r : VR B σ φ h x v) : VR B σ₁ φ₁ h₁ x v := r.monoq R S.q hw
theorem VRs.mono (R : SR B σ φ h) (S : Stp W σ φ h σ₁ φ₁ h₁) (hw : Apart B W h) {xs : List V} {vs : List Value} (r : VRs B σ φ h xs vs) : VRs B σ₁ φ₁ h₁ xs vs := r.monoq R S.q hw

theorem SR.notlive_tupC (R : SR B σ φ h) {a : Addr} {o : Obj} (ho : h.get? a = some o) (hc : o.cls = .type "tuple") : ¬ live σ φ a := fun L => by
  obtain ⟨o', ho', x⟩ := R.liveObj L
  rw [ho] at ho'; cases ho'
  rw [hc] at x
  rcases x with ⟨x, _⟩ | ⟨x, _⟩
  · exact absurd x (by decide)
  · exact absurd x (by decide)

theorem DictI.mono {a : Addr} {ks : List Int} (D : DictI B h a ks) (he : ∀ o, h.get? a = some o → h₁.get? a = some o) : DictI B h₁ a ks := by
  obtain ⟨kvs, D, e⟩ := D
  exact ⟨kvs, D.at he, e⟩
theorem DictP.monoq {a : Addr} {ks : List (List Int)} (R : SR B σ φ h) (S : Stq W σ φ h σ₁ φ₁ h₁) (hw : Apart B W h) (D : DictP B h a ks) (he : ∀ o, h.get? a = some o → h₁.get? a = some o) : DictP B h₁ a ks := by
  obtain ⟨kvs, ⟨o, es, ep, ho, hx, hd, hes, his, hn⟩, e⟩ := D
  refine ⟨kvs, ⟨o, es, ep, he o ho, hx, hd, hes, fun x hx => ?_, hn⟩, e⟩
  obtain ⟨o', items, n, h1, h2, h3, h4⟩ := his x hx
  exact ⟨o', items, n, S.keep _ o' h1 (R.notlive_tupC h1 h2) (fun y => (hw _ y o' h1).elim (fun z => absurd (h2.symm.trans z.2) (by decide)) fun z => z.1 _ _ h3), h2, h3, h4⟩

theorem DictP.mono {a : Addr} {ks : List (List Int)} (R : SR B σ φ h) (S : Stp W σ φ h σ₁ φ₁ h₁) (hw : Apart B W h) (D : DictP B h a ks) (he : ∀ o, h.get? a = some o → h₁.get? a = some o) : DictP B h₁ a ks := D.monoq R S.q hw he

theorem VRs.length {xs : List V} {vs : List Value} (r : VRs B σ φ h xs vs) : vs.length = xs.length := by
  induction xs generalizing vs with
  | nil => exact inNil (z := fun vs => vs.length = 0) r rfl
  | cons x xs ih => exact inCons (z := fun vs => vs.length = xs.length + 1) r fun v ws _ r => congrArg (· + 1) (ih r)
theorem VRs.append {xs ys : List V} {vs ws : List Value} (r : VRs B σ φ h xs vs) (q : VRs B σ φ h ys ws) : VRs B σ φ h (xs ++ ys) (vs ++ ws) := by
  induction xs generalizing vs with
  | nil => exact inNil (z := fun vs => VRs B σ φ h ys (vs ++ ws)) r q
  | cons x xs ih => exact inCons (z := fun vs => VRs B σ φ h (x :: (xs ++ ys)) (vs ++ ws)) r fun v us a r => .cons a (ih r)
theorem VRs.get {xs : List V} {vs : List Value} (r : VRs B σ φ h xs vs) {k : Nat} {x : V} (e : xs[k]? = some x) : ∃ v, vs[k]? = some v ∧ VR B σ φ h x v := by
  induction xs generalizing vs k with
  | nil => exact no_some e
  | cons y xs ih => exact inCons (z := fun vs => ∃ v, vs[k]? = some v ∧ VR B σ φ h x v) r fun v us a r => (match k, e with
      | 0, e => ⟨v, rfl, Option.some.inj e ▸ a⟩
      | k + 1, e => ih r e)
theorem VRs.take {xs : List V} {vs : List Value} (r : VRs B σ φ h xs vs) (n : Nat) : VRs B σ φ h (xs.take n) (vs.take n) := by
  induction n generalizing xs vs with
  | zero => exact .nil
  | succ n ih => cases xs with
    | nil => exact inNil (z := fun vs => VRs B σ φ h [] (vs.take (n + 1))) r .nil
    | cons x xs => exact inCons (z := fun vs => VRs B σ φ h (x :: xs.take n) (vs.take (n + 1))) r fun v us a r => .cons a (ih r)
theorem VRs.drop {xs : List V} {vs : List Value} (r : VRs B σ φ h xs vs) (n : Nat) : VRs B σ φ h (xs.drop n) (vs.drop n) := by
  induction n generalizing xs vs with
  | zero => exact r
  | succ n ih => cases xs with
    | nil => exact inNil (z := fun vs => VRs B σ φ h [] (vs.drop (n + 1))) r .nil
    | cons x xs => exact inCons (z := fun vs => VRs B σ φ h (xs.drop n) (vs.drop (n + 1))) r fun v us a r => ih r
theorem VRs.reverse {xs : List V} {vs : List Value} (r : VRs B σ φ h xs vs) : VRs B σ φ h xs.reverse vs.reverse := by
  induction xs generalizing vs with
  | nil => exact inNil (z := fun vs => VRs B σ φ h [] vs.reverse) r .nil
  | cons x xs ih => exact inCons (z := fun vs => VRs B σ φ h (x :: xs).reverse vs.reverse) r fun v us a r => (by rw [List.reverse_cons, List.reverse_cons]; exact (ih r).append (.cons a .nil))
theorem VRs.set {xs : List V} {vs : List Value} (r : VRs B σ φ h xs vs) {x : V} {v : Value} (a : VR B σ φ h x v) (k : Nat) : VRs B σ φ h (xs.set k x) (vs.set k v) := by
  induction k generalizing xs vs with
  | zero => cases xs with
    | nil => exact inNil (z := fun vs => VRs B σ φ h [] (vs.set 0 v)) r .nil
    | cons y xs => exact inCons (z := fun vs => VRs B σ φ h (x :: xs) (vs.set 0 v)) r fun _ us _ r => .cons a r
  | succ k ih => cases xs with
    | nil => exact inNil (z := fun vs => VRs B σ φ h [] (vs.set (k + 1) v)) r .nil
    | cons y xs => exact inCons (z := fun vs => VRs B σ φ h (y :: xs.set k x) (vs.set (k + 1) v)) r fun u us b r => .cons b (ih r)
end

end Mine

namespace Mine
open PySem PyProof.Rows

abbrev W0 : Addr → Prop := fun _ => False

section
variable {B : Bs} {W : Addr → Prop} {σ σ₁ σ₂ : Sg} {φ φ₁ φ₂ : List Addr} {h h₁ h₂ : Heap}

theorem Stp.grow (hk : ∀ b o, h.get? b = some o → h₁.get? b = some o) : Stp W σ φ h σ φ h₁ :=
  ⟨fun _ _ e => e, fun i a hi e => (by rw [List.getElem?_eq_none hi] at e; cases e), fun _ e => e, fun b o e _ _ => hk b o e, fun b o e => ⟨o, hk b o e⟩⟩

/-- the state is carried over a step that leaves the live objects as they are -/
theorem SR.carry (R : SR B σ φ h) (S : Stp W σ φ h σ φ h₁) (hw : Apart B W h) (hl : ∀ a o, live σ φ a → h.get? a = some o → h₁.get? a = some o) (hb : ∀ b, W b → B.hb.get? b = none) : SR B σ φ h₁ := by
  refine ⟨R.len, R.inj, fun a ha => ?_, fun i xs e => ?_, fun i ks e => ?_, fun i ks e => ?_, (let ⟨o, ho⟩ := R.main; S.ex _ o ho), R.sys, fun b o e => ?_, R.new, (fun b hb => let ⟨o, ho⟩ := R.avx b hb; S.ex b o ho), R.avn⟩
  · obtain ⟨o, ho⟩ := R.ex a ha; exact S.ex a o ho
  · obtain ⟨a, vs, e1, ⟨n, ho⟩, e3, e4⟩ := R.lst i xs e
    exact ⟨a, vs, e1, ⟨n, hl a _ ⟨i, _, e, (by intro x; cases x), e1⟩ ho⟩, e3.mono R S hw, e4⟩
  · obtain ⟨a, e1, D, hr⟩ := R.dictI i ks e
    exact ⟨a, e1, D.mono fun o ho => hl a o ⟨i, _, e, (by intro x; cases x), e1⟩ ho, hr⟩
  · obtain ⟨a, e1, D, hr⟩ := R.dictP i ks e
    exact ⟨a, e1, D.mono R S hw fun o ho => hl a o ⟨i, _, e, (by intro x; cases x), e1⟩ ho, hr⟩
  · refine S.keep b o (R.based b o e) (fun L => ?_) fun x => ?_
    · have := R.new b L.mem; rw [e] at this; cases this
    · have := hb b x; rw [e] at this; cases this

theorem Stq.one {b0 : Addr} (hk : ∀ b o, b ≠ b0 → h.get? b = some o → h₁.get? b = some o) : Stq (· = b0) σ φ h σ φ h₁ :=
  ⟨fun _ _ e => e, fun i a hi e => (by rw [List.getElem?_eq_none hi] at e; cases e), fun _ e => e, fun b o e _ hW => hk b o hW e⟩

/-- one object that nobody holds is turned, or lost -/
theorem SR.lose {b0 : Addr} (R : SR B σ φ h) (hb0 : B.hb.get? b0 = none) (ha : Apart B (· = b0) h) (nl : b0 ∉ φ) (hm : b0 ≠ mainGlobals) (hv : ¬ B.av b0) (hk : ∀ b o, b ≠ b0 → h.get? b = some o → h₁.get? b = some o) : SR B σ φ h₁ := by
  have S : Stq (· = b0) σ φ h σ φ h₁ := Stq.one hk
  have hl : ∀ a o, live σ φ a → h.get? a = some o → h₁.get? a = some o := fun a o L e => hk a o (fun q => nl (q ▸ L.mem)) e
  refine ⟨R.len, R.inj, fun a ha => ?_, fun i xs e => ?_, fun i ks e => ?_, fun i ks e => ?_, (let ⟨o, ho⟩ := R.main; ⟨o, hk _ o (Ne.symm hm) ho⟩), R.sys, fun b o e => ?_, R.new, (fun b hb => let ⟨o, ho⟩ := R.avx b hb; ⟨o, hk b o (fun q => hv (q ▸ hb)) ho⟩), R.avn⟩
  · obtain ⟨o, ho⟩ := R.ex a ha; exact ⟨o, hk a o (fun q => nl (q ▸ ha)) ho⟩
  · obtain ⟨a, vs, e1, ⟨n, ho⟩, e3, e4⟩ := R.lst i xs e
    exact ⟨a, vs, e1, ⟨n, hl a _ ⟨i, _, e, (by intro x; cases x), e1⟩ ho⟩, e3.monoq R S ha, e4⟩
  · obtain ⟨a, e1, D, hr⟩ := R.dictI i ks e
    exact ⟨a, e1, D.mono fun o ho => hl a o ⟨i, _, e, (by intro x; cases x), e1⟩ ho, hr⟩
  · obtain ⟨a, e1, D, hr⟩ := R.dictP i ks e
    exact ⟨a, e1, D.monoq R S ha fun o ho => hl a o ⟨i, _, e, (by intro x; cases x), e1⟩ ho, hr⟩
  · exact hk b o (fun q => by rw [q, hb0] at e; cases e) (R.based b o e)

theorem SR.grow (R : SR B σ φ h) (hk : ∀ b o, h.get? b = some o → h₁.get? b = some o) : SR B σ φ h₁ :=
  R.carry (W := W0) (Stp.grow hk) Apart.none (fun a o _ e => hk a o e) fun _ x => x.elim

theorem VR.grow {x : V} {v : Value} (R : SR B σ φ h) (hk : ∀ b o, h.get? b = some o → h₁.get? b = some o) (r : VR B σ φ h x v) : VR B σ φ h₁ x v := r.mono (W := W0) R (Stp.grow hk) Apart.none
theorem VRs.grow {x : List V} {v : List Value} (R : SR B σ φ h) (hk : ∀ b o, h.get? b = some o → h₁.get? b = some o) (r : VRs B σ φ h x v) : VRs B σ φ h₁ x v := r.mono (W := W0) R (Stp.grow hk) Apart.none

theorem getElem?_snoc_lt {α : Type} {xs : List α} {i : Nat} {a y : α} (e : xs[i]? = some a) : (xs ++ [y])[i]? = some a := by
  have hi : i < xs.length := (List.getElem?_eq_some_iff.mp e).1
  rw [List.getElem?_append_left hi]; exact e
theorem getElem?_snoc {α : Type} {xs : List α} {i : Nat} {a y : α} (e : (xs ++ [y])[i]? = some a) : xs[i]? = some a ∨ (i = xs.length ∧ a = y) := by
  rcases Nat.lt_trichotomy i xs.length with hi | hi | hi
  · rw [List.getElem?_append_left hi] at e; exact .inl e
  · subst hi; simp at e; exact .inr ⟨rfl, e.symm⟩
  · rw [List.getElem?_eq_none (by rw [List.length_append, List.length_singleton]; omega)] at e; cases e

theorem live_snoc {c : Cell} {a b : Addr} (hl : φ.length = σ.length) (L : live (σ ++ [c]) (φ ++ [b]) a) : live σ φ a ∨ a = b := by
  obtain ⟨i, c', e1, e2, e3⟩ := L
  rcases getElem?_snoc e3 with e3 | ⟨_, e⟩
  · have hi : i < σ.length := hl ▸ (List.getElem?_eq_some_iff.mp e3).1
    rw [List.getElem?_append_left hi] at e1
    exact .inl ⟨i, c', e1, e2, e3⟩
  · exact .inr e

theorem live_set {i : Nat} {c c' : Cell} {a : Addr} (hi : σ[i]? = some c) (hc : c ≠ .dead) (L : live (σ.set i c') φ a) : live σ φ a := by
  obtain ⟨j, c'', e1, e2, e3⟩ := L
  by_cases q : i = j
  · exact ⟨i, c, hi, hc, q ▸ e3⟩
  · rw [List.getElem?_set_ne q] at e1
    exact ⟨j, c'', e1, e2, e3⟩

theorem Stp.alloc {c : Cell} {a : Addr} (_ : φ.length = σ.length) (ha : h.get? a = none) (hk : ∀ b o, h.get? b = some o → h₁.get? b = some o) : Stp W σ φ h (σ ++ [c]) (φ ++ [a]) h₁ := by
  refine ⟨fun i b e => getElem?_snoc_lt e, fun i b hi e => ?_, fun i e => getElem?_snoc_lt e, fun b o e _ _ => hk b o e, fun b o e => ⟨o, hk b o e⟩⟩
  rcases getElem?_snoc e with x | ⟨_, rfl⟩
  · rw [List.getElem?_eq_none hi] at x; cases x
  · exact ha

theorem SR.allocAny {c : Cell} {a : Addr} {o : Obj} (R : SR B σ φ h) (ha : h.get? a = none) (hk : ∀ b o, h.get? b = some o → h₁.get? b = some o) (ho : h₁.get? a = some o)
    (hl : ∀ xs, c = .lst xs → ∃ vs, h₁.PlainList a (List.toArray vs) ∧ VRs B σ φ h xs vs ∧ xs.length ≤ roomy)
    (hdI : ∀ ks, c = .dictI ks → DictI B h₁ a ks ∧ ks.length ≤ roomy) (hdP : ∀ ks, c = .dictP ks → DictP B h₁ a ks ∧ ks.length ≤ roomy) (hs : (a == sysModules) = false) : SR B (σ ++ [c]) (φ ++ [a]) h₁ := by
  have S : Stp W0 σ φ h (σ ++ [c]) (φ ++ [a]) h₁ := Stp.alloc R.len ha hk
  refine ⟨?_, ?_, fun b hb => ?_, fun i xs e => ?_, fun i ks e => ?_, fun i ks e => ?_, (let ⟨o, ho⟩ := R.main; ⟨o, hk _ o ho⟩), fun b hb => ?_, fun b o e => ?_, fun b hb => ?_, (fun b hb => let ⟨o, ho⟩ := R.avx b hb; ⟨o, hk _ o ho⟩), fun b hb hv => ?_⟩
  · rw [List.length_append, List.length_append, R.len]; rfl
  · refine List.nodup_append.mpr ⟨R.inj, (by simp), fun x hx y hy e => ?_⟩
    rw [List.mem_singleton.mp hy] at e
    subst e
    obtain ⟨o', e'⟩ := R.ex x hx; rw [ha] at e'; cases e'
  · rcases List.mem_append.mp hb with hb | hb
    · obtain ⟨o', e'⟩ := R.ex b hb; exact ⟨o', hk b o' e'⟩
    · rw [List.mem_singleton.mp hb]; exact ⟨o, ho⟩
  · rcases getElem?_snoc e with e | ⟨rfl, e'⟩
    · obtain ⟨b, vs, e1, ⟨n', e2⟩, e3, e4⟩ := R.lst i xs e
      exact ⟨b, vs, getElem?_snoc_lt e1, ⟨n', hk b _ e2⟩, e3.mono R S Apart.none, e4⟩
    · obtain ⟨vs, e1, e2, e3⟩ := hl xs e'.symm
      exact ⟨a, vs, (by rw [← R.len]; simp), e1, e2.mono R S Apart.none, e3⟩
  · rcases getElem?_snoc e with e | ⟨rfl, e'⟩
    · obtain ⟨b, e1, D, hr⟩ := R.dictI i ks e
      exact ⟨b, getElem?_snoc_lt e1, D.mono fun o' e' => hk b o' e', hr⟩
    · exact ⟨a, (by rw [← R.len]; simp), hdI ks e'.symm⟩
  · rcases getElem?_snoc e with e | ⟨rfl, e'⟩
    · obtain ⟨b, e1, D, hr⟩ := R.dictP i ks e
      exact ⟨b, getElem?_snoc_lt e1, D.mono R S Apart.none fun o' e' => hk b o' e', hr⟩
    · exact ⟨a, (by rw [← R.len]; simp), hdP ks e'.symm⟩
  · rcases List.mem_append.mp hb with hb | hb
    · exact R.sys b hb
    · rw [List.mem_singleton.mp hb]; exact hs
  · exact hk b o (R.based b o e)
  · rcases List.mem_append.mp hb with hb | hb
    · exact R.new b hb
    · rw [List.mem_singleton.mp hb]
      cases e : B.hb.get? a with
      | none => rfl
      | some o' => have := R.based a o' e; rw [ha] at this; cases this
  · rcases live_snoc R.len hb with hb | hb
    · exact R.avn b hb hv
    · rw [hb] at hv
      obtain ⟨o', e'⟩ := R.avx a hv; rw [ha] at e'; cases e'

theorem SR.allocL {xs : List V} {vs : List Value} {a : Addr} (R : SR B σ φ h) (ha : h.get? a = none) (hk : ∀ b o, h.get? b = some o → h₁.get? b = some o)
    (hi : h₁.PlainList a vs.toArray) (r : VRs B σ φ h xs vs) (hx : xs.length ≤ roomy) (hs : (a == sysModules) = false) : SR B (σ ++ [.lst xs]) (φ ++ [a]) h₁ := by
  obtain ⟨n, ho⟩ := id hi
  exact R.allocAny ha hk ho (fun ys e => by cases e; exact ⟨vs, hi, r, hx⟩) (fun ks e => by cases e) (fun ks e => by cases e) hs

/-- a live object is turned -/
theorem Stp.upd {i : Nat} {c c' : Cell} {a : Addr} (hi : σ[i]? = some c) (hc : c ≠ .dead) (ha : φ[i]? = some a)
    (hk : ∀ b o, b ≠ a → h.get? b = some o → h₁.get? b = some o) (hx : ∃ o, h₁.get? a = some o) : Stp W σ φ h (σ.set i c') φ h₁ := by
  refine ⟨fun _ _ e => e, fun j b hj e => (by rw [List.getElem?_eq_none hj] at e; cases e), fun j e => ?_, fun b o e hl _ => hk b o (fun q => hl (q ▸ ⟨i, c, hi, hc, ha⟩)) e, fun b o e => ?_⟩
  · by_cases q : i = j
    · subst q; rw [hi] at e; exact (hc (Option.some.inj e)).elim
    · rw [List.getElem?_set_ne q]; exact e
  · by_cases q : b = a
    · rw [q]; exact hx
    · exact ⟨o, hk b o q e⟩

theorem nodup_idx {α : Type} {xs : List α} (hn : xs.Nodup) {i j : Nat} {a : α} (hi : xs[i]? = some a) (hj : xs[j]? = some a) : i = j := by
  have h1 := (List.getElem?_eq_some_iff.mp hi).1
  exact (List.getElem?_inj h1 hn).mp (hi.trans hj.symm)

theorem SR.updAny {i : Nat} {c c' : Cell} {a : Addr} {o : Obj} (R : SR B σ φ h) (hi : σ[i]? = some c) (hc : c ≠ .dead) (ha : φ[i]? = some a)
    (hk : ∀ b o, b ≠ a → h.get? b = some o → h₁.get? b = some o) (ho : h₁.get? a = some o)
    (hl : ∀ xs, c' = .lst xs → ∃ vs, h₁.PlainList a (List.toArray vs) ∧ VRs B σ φ h xs vs ∧ xs.length ≤ roomy)
    (hdI : ∀ ks, c' = .dictI ks → DictI B h₁ a ks ∧ ks.length ≤ roomy) (hdP : ∀ ks, c' = .dictP ks → DictP B h₁ a ks ∧ ks.length ≤ roomy) : SR B (σ.set i c') φ h₁ := by
  have S : Stp W0 σ φ h (σ.set i c') φ h₁ := Stp.upd hi hc ha hk ⟨o, ho⟩
  have hlt : i < σ.length := (List.getElem?_eq_some_iff.mp hi).1
  refine ⟨by rw [List.length_set]; exact R.len, R.inj, fun b hb => ?_, fun j xs e => ?_, fun j ks e => ?_, fun j ks e => ?_, (let ⟨o, ho⟩ := R.main; S.ex _ o ho), R.sys, fun b o' e => ?_, R.new, (fun b hb => let ⟨o, ho⟩ := R.avx b hb; S.ex b o ho), fun b L => R.avn b (live_set hi hc L)⟩
  · obtain ⟨o', e'⟩ := R.ex b hb; exact S.ex b o' e'
  · by_cases q : i = j
    · subst q
      rw [List.getElem?_set_self hlt] at e
      obtain ⟨vs, e1, e2, e3⟩ := hl xs (Option.some.inj e)
      exact ⟨a, vs, ha, e1, e2.mono R S Apart.none, e3⟩
    · rw [List.getElem?_set_ne q] at e
      obtain ⟨b, vs, e1, ⟨n', e2⟩, e3, e4⟩ := R.lst j xs e
      exact ⟨b, vs, e1, ⟨n', hk b _ (fun z => q (nodup_idx R.inj ha (z ▸ e1))) e2⟩, e3.mono R S Apart.none, e4⟩
  · by_cases q : i = j
    · subst q
      rw [List.getElem?_set_self hlt] at e
      exact ⟨a, ha, hdI ks (Option.some.inj e)⟩
    · rw [List.getElem?_set_ne q] at e
      obtain ⟨b, e1, D, hr⟩ := R.dictI j ks e
      exact ⟨b, e1, D.mono fun o' e' => hk b o' (fun z => q (nodup_idx R.inj ha (z ▸ e1))) e', hr⟩
  · by_cases q : i = j
    · subst q
      rw [List.getElem?_set_self hlt] at e
      exact ⟨a, ha, hdP ks (Option.some.inj e)⟩
    · rw [List.getElem?_set_ne q] at e
      obtain ⟨b, e1, D, hr⟩ := R.dictP j ks e
      exact ⟨b, e1, D.mono R S Apart.none fun o' e' => hk b o' (fun z => q (nodup_idx R.inj ha (z ▸ e1))) e', hr⟩
  · refine hk b o' (fun z => ?_) (R.based b o' e)
    have := R.new a (List.mem_of_getElem? ha); rw [← z, e] at this; cases this

theorem SR.updL {i : Nat} {xs : List V} {ys : List V} {vs : List Value} {a : Addr} (R : SR B σ φ h) (hi : σ[i]? = some (.lst xs)) (ha : φ[i]? = some a)
    (hk : ∀ b o, b ≠ a → h.get? b = some o → h₁.get? b = some o) (hl : h₁.PlainList a vs.toArray) (r : VRs B σ φ h ys vs) (hx : ys.length ≤ roomy) :
    SR B (σ.set i (.lst ys)) φ h₁ ∧ Stp W σ φ h (σ.set i (.lst ys)) φ h₁ := by
  obtain ⟨n, ho⟩ := id hl
  exact ⟨R.updAny hi (by intro x; cases x) ha hk ho (fun zs e => by cases e; exact ⟨vs, hl, r, hx⟩) (fun ks e => by cases e) (fun ks e => by cases e), Stp.upd hi (by intro x; cases x) ha hk ⟨_, ho⟩⟩

/-- a live list is frozen -/
theorem SR.freeze {i : Nat} {xs : List V} (R : SR B σ φ h) (hi : σ[i]? = some (.lst xs)) :
    SR B (σ.set i .dead) φ h ∧ Stp W σ φ h (σ.set i .dead) φ h ∧ ∃ a, φ[i]? = some a ∧ VR B (σ.set i .dead) φ h (.lst xs) (.ref a) := by
  obtain ⟨a, vs, ha, hl, r, hx⟩ := R.lst i xs hi
  obtain ⟨n, ho⟩ := id hl
  have hlt : i < σ.length := (List.getElem?_eq_some_iff.mp hi).1
  have S : ∀ W, Stp W σ φ h (σ.set i .dead) φ h := fun W => Stp.upd hi (by intro x; cases x) ha (fun _ _ _ e => e) ⟨_, ho⟩
  refine ⟨R.updAny hi (by intro x; cases x) ha (fun _ _ _ e => e) ho (fun zs e => by cases e) (fun ks e => by cases e) (fun ks e => by cases e), S W, a, ha, .lst hl ⟨?_, R.avn a ⟨i, _, hi, (by intro x; cases x), ha⟩⟩ (r.mono R (S W0) Apart.none) hx⟩
  rintro ⟨j, c, e1, e2, e3⟩
  have q : i = j := nodup_idx R.inj ha e3
  subst q
  rw [List.getElem?_set_self hlt] at e1
  exact e2 (Option.some.inj e1).symm
end

end Mine

namespace Mine
open PySem PyProof.Rows PySem.Calls

/-- whatever is made, the heap only grows -/
noncomputable def Grow (B : Bs) (σ : Sg) (φ : List Addr) (s : Shared) (v : V) (Q : Value → Shared → Prop) : Prop :=
  ∀ cv h' tk, (∀ b o, s.heap.get? b = some o → h'.get? b = some o) → VR B σ φ h' v cv → Q cv { s with heap := h', toks := tk }

noncomputable def bop : Bop → Operator
  | .add => .Add | .sub => .Sub | .mul => .Mult | .fdiv => .FloorDiv | .mod => .Mod

theorem roomy_eq : roomy = sizeLine := by decide

section
variable {prog : Program} {w : World} {A : Around} {E : Value → Shared → Prop} {s : Shared} {B : Bs} {σ : Sg} {φ : List Addr} {Q : Value → Shared → Prop}

theorem opt_bind {α β : Type} {o : Option α} {f : α → Option β} {y : β} {z : Prop} (h : o.bind f = some y) (k : ∀ x, o = some x → f x = some y → z) : z := by
  cases o with
  | none => exact no_some h
  | some x => exact k x rfl h
theorem opt_map {α β : Type} {o : Option α} {f : α → β} {y : β} {P : β → Prop} (h : o.map f = some y) (k : ∀ x, o = some x → P (f x)) : P y := by
  cases o with
  | none => exact no_some h
  | some x => exact Option.some.inj h ▸ k x rfl
theorem if_some {α : Type} {c : Prop} [Decidable c] {x y : α} {P : α → Prop} (h : (if c then some x else none) = some y) (k : c → P x) : P y := by
  by_cases hc : c
  · rw [if_pos hc] at h; exact Option.some.inj h ▸ k hc
  · rw [if_neg hc] at h; exact no_some h
theorem is_some {α : Type} {x y : α} {P : α → Prop} (h : some x = some y) (k : P x) : P y := Option.some.inj h ▸ k
theorem ii_VR {α : Type} {h : Heap} {f : Int → Int → Option α} {a b : V} {v : α} {ca cb : Value} {P : Value → Value → Prop} (hv : ii f a b = some v) (ra : VR B σ φ h a ca) (rb : VR B σ φ h b cb) (k : ∀ i j t u, f i j = some v → P (.int i t) (.int j u)) : P ca cb := by
  cases a with
  | int i => cases b with
    | int j => exact inInt (z := fun x => P x cb) ra fun t => inInt (z := P (.int i t)) rb fun u => k i j t u hv
    | _ => exact no_some hv
  | _ => exact no_some hv
/-- a list of ours, frozen or live -/
theorem cell_list {c : Option Cell} {xs : List V} {z : Prop} (e : (match c with | some (.lst xs) => some xs | _ => none) = some xs) (k : c = some (.lst xs) → z) : z := by
  cases c with
  | none => exact no_some e
  | some c => cases c with
    | lst ys => exact k (by rw [Option.some.inj e])
    | _ => exact no_some e
theorem live_list {h : Heap} {i : Nat} {xs : List V} {cv : Value} {z : Value → Prop} (R : SR B σ φ h) (hi : σ[i]? = some (.lst xs)) (r : VR B σ φ h (.ref i) cv) (k : ∀ a vs, φ[i]? = some a → h.PlainList a (List.toArray vs) → VRs B σ φ h xs vs → xs.length ≤ roomy → z (.ref a)) : z cv :=
  inRef r fun a ha => let ⟨a', vs, e1, e2, e3, e4⟩ := R.lst i xs hi; by
    have := Option.some.inj (ha.symm.trans e1)
    exact k a vs ha (this ▸ e2) e3 e4
theorem getL_elim {h : Heap} {v : V} {cv : Value} {xs : List V} {z : Value → Prop} (R : SR B σ φ h) (e : getL σ v = some xs) (r : VR B σ φ h v cv) (k : ∀ a vs, h.PlainList a (List.toArray vs) → VRs B σ φ h xs vs → xs.length ≤ roomy → z (.ref a)) : z cv := by
  cases v with
  | lst ys => exact inLst r fun a vs h1 _ h2 h3 => is_some (P := fun xs => (∀ a vs, h.PlainList a (List.toArray vs) → VRs B σ φ h xs vs → xs.length ≤ roomy → z (.ref a)) → z (.ref a)) e (fun k => k a vs h1 h2 h3) k
  | ref i => exact cell_list e fun hi => live_list R hi r fun a vs _ h1 h2 h3 => k a vs h1 h2 h3
  | _ => exact no_some e
theorem push_keeps (h : Heap) (o : Obj) : ∀ b o', h.get? b = some o' → (h.push o).get? b = some o' := fun _ _ e => Heap.get?_push_of_some _ e
theorem get_size (h : Heap) : h.get? h.objs.size = none := by
  cases e : h.get? h.objs.size with
  | none => rfl
  | some o => exact absurd (Heap.lt_size e) (Nat.lt_irrefl _)

/-- a new plain list of related items is a frozen list -/
theorem VR.newLst {xs : List V} {vs : List Value} (R : SR B σ φ s.heap) (r : VRs B σ φ s.heap xs vs) (hn : xs.length ≤ roomy) (n : Nat) :
    VR B σ φ (s.heap.push { cls := .type "list", data := .seq vs.toArray n }) (.lst xs) (.ref s.heap.objs.size) := by
  refine .lst ⟨n, Heap.get?_push_size _ rfl⟩ ⟨fun L => ?_, fun hv => ?_⟩ (r.grow R (push_keeps _ _)) hn
  · obtain ⟨o, ho⟩ := R.ex _ L.mem
    rw [get_size] at ho; cases ho
  · obtain ⟨o, ho⟩ := R.avx _ hv
    rw [get_size] at ho; cases ho
theorem VR.newTup {xs : List V} {vs : List Value} (R : SR B σ φ s.heap) (r : VRs B σ φ s.heap xs vs) (hn : xs.length ≤ roomy) (n : Nat) :
    VR B σ φ (s.heap.push { cls := .type "tuple", data := .seq vs.toArray n }) (.tup xs) (.ref s.heap.objs.size) :=
  .tup ⟨n, Heap.get?_push_size _ rfl⟩ (r.grow R (push_keeps _ _)) hn

theorem VRs.flat {h : Heap} {xs : List V} {vs : List Value} (r : VRs B σ φ h xs vs) : ∀ n : Nat, VRs B σ φ h (List.replicate n xs).flatten (List.replicate n vs).flatten
  | 0 => .nil
  | n + 1 => by rw [List.replicate_succ, List.replicate_succ, List.flatten_cons, List.flatten_cons]; exact r.append (VRs.flat r n)

theorem small_lo {i : Int} (h : small i = true) : -4611686018427387904 < i ∧ i < 4611686018427387904 := by
  unfold small at h
  have := Nat.le_of_ble_eq_true h
  omega

theorem foldl_app {α : Type} (l : List (Array α)) (acc : Array α) : l.foldl (· ++ ·) acc = acc ++ (l.map (·.toList)).flatten.toArray := by
  induction l generalizing acc with
  | nil => simp
  | cons x l ih => rw [List.foldl_cons, ih, List.map_cons, List.flatten_cons]; apply Array.ext'; simp

theorem flatten_replicate_nil {α : Type} (n : Nat) : (List.replicate n ([] : List α)).flatten = [] := by
  induction n with
  | zero => rfl
  | succ n ih => rw [List.replicate_succ, List.flatten_cons, ih]; rfl
theorem length_flat {α : Type} (n : Nat) (xs : List α) : (List.replicate n xs).flatten.length = n * xs.length := by
  induction n with
  | zero => simp
  | succ n ih => rw [List.replicate_succ, List.flatten_cons, List.length_append, ih, Nat.succ_mul]; omega

theorem txtMul (a : List Nat) (n : Int) : Txt.mul ⟨a.toArray⟩ n = ⟨(List.replicate n.toNat a).flatten.toArray⟩ := by
  unfold Txt.mul
  split
  · rename_i h
    have : n.toNat = 0 := by omega
    rw [this]; rfl
  · split
    · rename_i h h'
      simp only [Bool.or_eq_true, beq_iff_eq] at h'
      rcases h' with h' | h'
      · subst h'; simp
      · have ha : a = [] := by
          have e : a.length = 0 := by simpa [Str.length] using h'
          exact List.eq_nil_of_length_eq_zero e
        subst ha
        rw [flatten_replicate_nil]
    · rw [foldl_app]
      simp

theorem mul_plain {l : Addr} {items : Array Value} {k : Nat} {x : Int} {u : Tok}
    (hl : s.heap.get? l = some { cls := .type "list", dict := none, data := .seq items k, slots := #[] })
    (hlo : -(2 ^ 63 : Int) ≤ x) (hhi : x < 2 ^ 63) (hsz : items.size * x.toNat ≤ 2 ^ 24)
    (h : Q (.ref s.heap.objs.size) { s with heap := s.heap.push { cls := .type "list", data := .seq (List.foldl (fun x1 x2 => x1 ++ x2) #[] (List.replicate (if items.isEmpty = true then 0 else x.toNat) items)) } }) :
    wpAny (model prog w) A (binaryOp .Mult (.ref l) (.int x u)) Q E s :=
  wpAny_binaryOp_repeat_ref (T := "list") (U := "int") (by decide) ⟨_, hl, rfl⟩ (fun s' => typeIs_int s' x u) noFill_list_mul F.fills_int_mul F.slot_int_rmul repeat_list F.slot_int_index.lookup
    (call_meets F.slot_int_rmul (typeIs_int s x u) F.entry_int_rmul (F.args_int_rmul_2 _ _) (int___rmul___int_list x u l items k)
      ⟨hl, rfl, ⟨_, hl, rfl⟩, call_meets F.slot_list_mul ⟨_, hl, rfl⟩ F.entry_list_mul (F.args_list_mul_2 _ _)
        (AutoListH.list___mul___list_int_3 l items k x u (by simp [Builtin.List.listFitsIndex]; omega) (by omega) (by simp [Builtin.List.listTooLong, sizeLine]; omega)) ⟨hl, h⟩⟩)

theorem same_heap {h : Heap} : ∀ b o, h.get? b = some o → h.get? b = some o := fun _ _ e => e
/-- what an operation of two values must show -/
noncomputable def WB (prog : Program) (w : World) (A : Around) (E : Value → Shared → Prop) (s : Shared) (Q : Value → Shared → Prop) (op : Bop) (ca cb : Value) : Prop := wpAny (model prog w) A (binaryOp (bop op) ca cb) Q E s
theorem op_addL {a b v : V} {ca cb : Value} (hv : ((getL σ a).bind fun xs => (getL σ b).bind fun ys => addL xs ys) = some v) (R : SR B σ φ s.heap) (ra : VR B σ φ s.heap a ca) (rb : VR B σ φ s.heap b cb)
    (h : Grow B σ φ s v Q) : WB prog w A E s Q .add ca cb :=
  opt_bind hv fun xs hx hv => opt_bind hv fun ys hy hv => if_some (P := fun v => Grow B σ φ s v Q → WB prog w A E s Q .add ca cb) hv (fun hs h =>
    getL_elim (z := fun ca => WB prog w A E s Q .add ca cb) R hx ra fun l vs hl rs hn => getL_elim (z := fun cb => WB prog w A E s Q .add (.ref l) cb) R hy rb fun l' ws hl' rs' hn' => by
      obtain ⟨k, hl⟩ := hl
      obtain ⟨k', hl'⟩ := hl'
      refine P.add_list hl hl' ?_ ?_
      · have e : vs.toArray ++ ws.toArray = (vs ++ ws).toArray := by simp
        rw [e]
        exact h _ _ _ (push_keeps _ _) (VR.newLst R (rs.append rs') (by rw [List.length_append]; exact hs) 0)
      · rw [List.size_toArray, List.size_toArray, rs.length, rs'.length, ← roomy_eq]; exact hs) h
theorem op_addS {x y : List Nat} {t t' : Tok} (hs : x.length + y.length ≤ roomy) (h : Grow B σ φ s (.str (x ++ y)) Q) : WB prog w A E s Q .add (.str ⟨x.toArray⟩ t) (.str ⟨y.toArray⟩ t') := by
  refine SB.add (fun t' k => ?_) ?_
  · have e : (⟨x.toArray⟩ : Str) ++ (⟨y.toArray⟩ : Str) = ⟨(x ++ y).toArray⟩ := by
      show Str.append _ _ = _
      unfold Str.append
      simp
    rw [e]
    exact h _ _ _ same_heap (.str _ _ (by rw [List.length_append]; exact hs))
  · simpa [Str.length, ← roomy_eq] using hs
theorem op_add {a b v : V} {ca cb : Value} (hv : vAdd σ a b = some v) (R : SR B σ φ s.heap) (ra : VR B σ φ s.heap a ca) (rb : VR B σ φ s.heap b cb)
    (h : Grow B σ φ s v Q) : WB prog w A E s Q .add ca cb := by
  cases a with
  | int i => cases b with
    | int j => exact is_some (P := fun v => Grow B σ φ s v Q → WB prog w A E s Q .add ca cb) hv (fun h => inInt (z := fun ca => WB prog w A E s Q .add ca cb) ra fun t => inInt (z := WB prog w A E s Q .add (.int i t)) rb fun u => P.add_int (h _ _ _ same_heap (.int _ _))) h
    | _ => exact no_some hv
  | str x => cases b with
    | str y => exact if_some (P := fun v => Grow B σ φ s v Q → WB prog w A E s Q .add ca cb) hv (fun hs h => inText (z := fun ca => WB prog w A E s Q .add ca cb) ra fun t _ => inText (z := WB prog w A E s Q .add (.str ⟨x.toArray⟩ t)) rb fun u _ => op_addS hs h) h
    | _ => exact no_some hv
  | lst xs => exact op_addL (a := .lst xs) hv R ra rb h
  | ref i => exact op_addL (a := .ref i) hv R ra rb h
  | _ => exact no_some hv
theorem op_sub {a b v : V} {ca cb : Value} (hv : ii (fun a b => some (.int (a - b))) a b = some v) (R : SR B σ φ s.heap) (ra : VR B σ φ s.heap a ca) (rb : VR B σ φ s.heap b cb)
    (h : Grow B σ φ s v Q) : WB prog w A E s Q .sub ca cb :=
  ii_VR (P := WB prog w A E s Q .sub) hv ra rb fun i j t u hv => P.sub_int (h _ _ _ same_heap (Option.some.inj hv ▸ .int _ _))
theorem op_mulI {a b : Int} {t u : Tok} (hs : (small a || small b) = true) (h : Grow B σ φ s (.int (a * b)) Q) : wpAny (model prog w) A (binaryOp (bop .mul) (.int a t) (.int b u)) Q E s := by
  refine P.mul_int (h _ _ _ same_heap (.int _ _)) ?_
  rw [Bool.or_eq_true] at hs
  rcases hs with hs | hs
  · have := small_lo hs
    exact IntMulOk.of_left (intBits_le_64 (by omega) (by omega))
  · have := small_lo hs
    exact IntMulOk.of_right (intBits_le_64 (by omega) (by omega))
theorem op_mulS {a : List Nat} {n : Int} {t u : Tok} (hs : (decide (a.length * n.toNat ≤ roomy) && small n) = true) (h : Grow B σ φ s (.str (List.replicate n.toNat a).flatten) Q) : wpAny (model prog w) A (binaryOp (bop .mul) (.str ⟨a.toArray⟩ t) (.int n u)) Q E s := by
  rw [Bool.and_eq_true, decide_eq_true_eq] at hs
  have hsm := small_lo hs.2
  have hl : (Str.length ⟨a.toArray⟩ : Nat) = a.length := by simp [Str.length]
  refine SB.mul ⟨?_, fun h1 h2 => ?_, fun h1 h2 => ?_⟩ fun t' k => ?_
  · rw [Bool.or_eq_false_iff]; exact ⟨decide_eq_false (by omega), decide_eq_false (by omega)⟩
  · intro hgt
    rw [hl] at hgt
    have h3 : (a.length : Int) * n ≤ 16777216 := by
      have : a.length * n.toNat ≤ 16777216 := hs.1
      have hn : (n.toNat : Int) = n := by omega
      calc (a.length : Int) * n = ((a.length * n.toNat : Nat) : Int) := by rw [Int.natCast_mul, hn]
        _ ≤ 16777216 := Int.ofNat_le.mpr this
    have h4 : (2 ^ 63 - 1 : Int) / n < a.length := hgt
    have h5 := (Int.ediv_lt_iff_lt_mul (by omega : (0 : Int) < n)).mp h4
    omega
  · rw [hl]
    have : a.length * n.toNat ≤ 16777216 := hs.1
    exact decide_eq_false (by show ¬ _ > sizeLine; rw [← roomy_eq]; exact Nat.not_lt.mpr this)
  · rw [txtMul]
    exact h _ _ _ same_heap (.str _ _ (by rw [length_flat, Nat.mul_comm]; exact hs.1))
theorem op_mulL {a v : V} {ca : Value} {n : Int} {u : Tok} (hv : ((getL σ a).bind fun xs => mulL xs n) = some v) (R : SR B σ φ s.heap) (ra : VR B σ φ s.heap a ca) (h : Grow B σ φ s v Q) : WB prog w A E s Q .mul ca (.int n u) :=
  opt_bind hv fun xs hx hv => if_some (P := fun v => Grow B σ φ s v Q → WB prog w A E s Q .mul ca (.int n u)) hv (fun hs h => getL_elim (z := fun ca => WB prog w A E s Q .mul ca (.int n u)) R hx ra fun l vs hl rs hn => by
    obtain ⟨k, hl⟩ := hl
    rw [Bool.and_eq_true, decide_eq_true_eq] at hs
    have hsm := small_lo hs.2
    have hsz : vs.toArray.size * n.toNat ≤ 2 ^ 24 := by rw [List.size_toArray, rs.length]; exact hs.1
    refine mul_plain hl (by clear hsz; omega) (by clear hsz; omega) hsz ?_
    have e : List.foldl (fun x1 x2 => x1 ++ x2) #[] (List.replicate (if vs.toArray.isEmpty = true then 0 else n.toNat) vs.toArray) = (List.replicate n.toNat vs).flatten.toArray := by
      rw [foldl_app]
      by_cases hv : vs = []
      · subst hv; simp
      · have : vs.toArray.isEmpty = false := by simpa using hv
        rw [this]; simp
    rw [e]
    exact h _ _ _ (push_keeps _ _) (VR.newLst R (rs.flat _) (by rw [length_flat, Nat.mul_comm]; exact hs.1) 0)) h
theorem op_mul {a b v : V} {ca cb : Value} (hv : vMul σ a b = some v) (R : SR B σ φ s.heap) (ra : VR B σ φ s.heap a ca) (rb : VR B σ φ s.heap b cb)
    (h : Grow B σ φ s v Q) : WB prog w A E s Q .mul ca cb := by
  cases b with
  | int n => exact inInt (z := WB prog w A E s Q .mul ca) rb fun u => (by
      cases a with
      | int i => exact if_some (P := fun v => Grow B σ φ s v Q → WB prog w A E s Q .mul ca (.int n u)) hv (fun hs h => inInt (z := fun ca => WB prog w A E s Q .mul ca (.int n u)) ra fun t => op_mulI hs h) h
      | str x => exact if_some (P := fun v => Grow B σ φ s v Q → WB prog w A E s Q .mul ca (.int n u)) hv (fun hs h => inText (z := fun ca => WB prog w A E s Q .mul ca (.int n u)) ra fun t _ => op_mulS hs h) h
      | lst xs => exact op_mulL (a := .lst xs) hv R ra h
      | ref i => exact op_mulL (a := .ref i) hv R ra h
      | _ => exact no_some hv)
  | _ => exact no_some hv
theorem op_fdiv {a b v : V} {ca cb : Value} (hv : ii (fun a b => if small b && b != 0 then some (.int (a.fdiv b)) else none) a b = some v) (R : SR B σ φ s.heap) (ra : VR B σ φ s.heap a ca) (rb : VR B σ φ s.heap b cb)
    (h : Grow B σ φ s v Q) : WB prog w A E s Q .fdiv ca cb :=
  ii_VR (P := WB prog w A E s Q .fdiv) hv ra rb fun i j t u hv => if_some (P := fun v => Grow B σ φ s v Q → WB prog w A E s Q .fdiv (.int i t) (.int j u)) hv (fun hs h => by
    rw [Bool.and_eq_true, bne_iff_ne] at hs
    have hb : j.natAbs < 2 ^ 62 := by have := Nat.le_of_ble_eq_true hs.1; omega
    refine floordiv_int hs.2 (h _ _ _ same_heap (.int _ _)) (.inl (PyProof.noPylong_of_log2 ?_))
    exact Nat.lt_of_lt_of_le ((Nat.log2_lt (Int.natAbs_ne_zero.mpr hs.2)).mpr hb) (by decide)) h
theorem op_mod {a b v : V} {ca cb : Value} (hv : ii (fun a b => if b != 0 then some (.int (a.fmod b)) else none) a b = some v) (R : SR B σ φ s.heap) (ra : VR B σ φ s.heap a ca) (rb : VR B σ φ s.heap b cb)
    (h : Grow B σ φ s v Q) : WB prog w A E s Q .mod ca cb :=
  ii_VR (P := WB prog w A E s Q .mod) hv ra rb fun i j t u hv => if_some (P := fun v => Grow B σ φ s v Q → WB prog w A E s Q .mod (.int i t) (.int j u)) hv (fun hs h => mod_int' (bne_iff_ne.mp hs) (h _ _ _ same_heap (.int _ _))) h
theorem op_bin {op : Bop} {a b v : V} {ca cb : Value} (hv : vBin σ op a b = some v) (R : SR B σ φ s.heap) (ra : VR B σ φ s.heap a ca) (rb : VR B σ φ s.heap b cb)
    (h : Grow B σ φ s v Q) : wpAny (model prog w) A (binaryOp (bop op) ca cb) Q E s := by
  cases op with
  | add => exact op_add hv R ra rb h
  | sub => exact op_sub hv R ra rb h
  | mul => exact op_mul hv R ra rb h
  | fdiv => exact op_fdiv hv R ra rb h
  | mod => exact op_mod hv R ra rb h
end

end Mine

namespace Mine
open PySem PyProof.Rows PySem.Calls

mutual
noncomputable def toPy : V → PyData
  | .none => .none
  | .bool b => .bool b
  | .int i => .int i
  | .str s => .str ⟨s.toArray⟩
  | .tup xs => .tuple (toPys xs)
  | .lst xs => .list (toPys xs)
  | _ => .none
noncomputable def toPys : List V → List PyData
  | [] => []
  | x :: r => toPy x :: toPys r
end

section
variable {prog : Program} {w : World} {A : Around} {E : Value → Shared → Prop} {s : Shared} {B : Bs} {σ : Sg} {φ : List Addr} {Q : Value → Shared → Prop} {h : Heap}

theorem plain_deep {n : Nat} {xs : List V} {z : Prop} (h : (match n with | 0 => false | n + 1 => plains n xs) = true) (k : ∀ m, n = m + 1 → plains m xs = true → z) : z := by
  cases n with
  | zero => exact Bool.noConfusion h
  | succ m => exact k m rfl h
theorem and_two {a b : Bool} {z : Prop} (h : (a && b) = true) (k : a = true → b = true → z) : z := k (Bool.and_eq_true_iff.mp h).1 (Bool.and_eq_true_iff.mp h).2
mutual
theorem reads_of : ∀ (v : V) {n : Nat} {cv : Value}, plain n v = true → VR B σ φ h v cv → ∃ as, Reads h cv (toPy v) as
  | .none, _, _, _, r => inNone (z := fun cv => ∃ as, Reads h cv .none as) r ⟨_, .none⟩
  | .bool b, _, _, _, r => inBool (z := fun cv => ∃ as, Reads h cv (.bool b) as) r ⟨_, .bool b⟩
  | .int i, _, _, _, r => inInt (z := fun cv => ∃ as, Reads h cv (.int i) as) r fun t => ⟨_, .int i t⟩
  | .str s, _, _, _, r => inText (z := fun cv => ∃ as, Reads h cv (.str ⟨s.toArray⟩) as) r fun t _ => ⟨_, .str _ t⟩
  | .tup xs, _, _, hp, r => plain_deep hp fun m _ hp => inTup (z := fun cv => ∃ as, Reads h cv (.tuple (toPys xs)) as) r fun a vs ⟨_, e⟩ rs _ => let ⟨as, q⟩ := readsAll_of xs hp rs; ⟨as, .tuple e rfl rfl q⟩
  | .lst xs, _, _, hp, r => plain_deep hp fun m _ hp => inLst (z := fun cv => ∃ as, Reads h cv (.list (toPys xs)) as) r fun a vs ⟨_, e⟩ _ rs _ => let ⟨_, q⟩ := readsAll_of xs hp rs; ⟨_, .list e rfl rfl q⟩
  | .undef, _, _, hp, _ => Bool.noConfusion hp
  | .ref _, _, _, hp, _ => Bool.noConfusion hp
  | .exc _, _, _, hp, _ => Bool.noConfusion hp
theorem readsAll_of : ∀ (xs : List V) {n : Nat} {vs : List Value}, plains n xs = true → VRs B σ φ h xs vs → ∃ as, ReadsAll h vs (toPys xs) as
  | [], _, _, _, r => inNil (z := fun vs => ∃ as, ReadsAll h vs [] as) r ⟨_, .nil⟩
  | x :: xs, _, _, hp, r => and_two hp fun h1 h2 => inCons (z := fun vs => ∃ as, ReadsAll h vs (toPy x :: toPys xs) as) r fun v ws a rs => let ⟨_, q⟩ := reads_of x h1 a; let ⟨_, p⟩ := readsAll_of xs h2 rs; ⟨_, .cons q p⟩
end

mutual
theorem lay_of_plain : ∀ (v : V) {n : Nat}, plain n v = true → (toPy v).canLay0 = true ∧ (toPy v).depth ≤ n
  | .none, _, _ => ⟨rfl, Nat.zero_le _⟩
  | .bool _, _, _ => ⟨rfl, Nat.zero_le _⟩
  | .int _, _, _ => ⟨rfl, Nat.zero_le _⟩
  | .str s, _, hp => ⟨by
      have hp : strFine s = true := hp
      show PyData.canLay0 (.str ⟨s.toArray⟩) = true
      rw [PyData.canLay0]
      simpa [PyData.strOk, strFine] using hp, Nat.zero_le _⟩
  | .lst xs, n, hp => plain_deep hp fun m e hp => let t := layAll_of_plain xs hp; by
      rw [toPy, PyData.canLay0, PyData.depth, e]
      exact ⟨t.1, by have := t.2; omega⟩
  | .tup xs, n, hp => plain_deep hp fun m e hp => let t := layAll_of_plain xs hp; by
      rw [toPy, PyData.canLay0, PyData.depth, e]
      exact ⟨t.1, by have := t.2; omega⟩
  | .undef, _, hp => Bool.noConfusion hp
  | .ref _, _, hp => Bool.noConfusion hp
  | .exc _, _, hp => Bool.noConfusion hp
theorem layAll_of_plain : ∀ (xs : List V) {n : Nat}, plains n xs = true → PyData.canLayAll0 (toPys xs) = true ∧ PyData.depthAll (toPys xs) ≤ n
  | [], _, _ => ⟨rfl, Nat.zero_le _⟩
  | x :: r, n, hp => and_two hp fun h1 h2 => let a := lay_of_plain x h1; let b := layAll_of_plain r h2; by
      rw [toPys, PyData.canLayAll0, PyData.depthAll, a.1, b.1]
      exact ⟨rfl, Nat.max_le.mpr ⟨a.2, b.2⟩⟩
end

theorem str_beq (x y : List Nat) : ((⟨x.toArray⟩ : Str) == (⟨y.toArray⟩ : Str)) = (x == y) := by
  by_cases e : x = y
  · subst e; simp
  · have h1 : (x == y) = false := by simpa using e
    rw [h1]
    have : (⟨x.toArray⟩ : Str) ≠ ⟨y.toArray⟩ := fun q => e (by simpa using q)
    simpa using this

mutual
theorem veq_eqv : ∀ (a b : V) {n m : Nat}, plain n a = true → plain m b = true → PyData.eqv (toPy a) (toPy b) = veq a b
  | .none, b, _, _, _, hb => by cases b <;> first | rfl | exact Bool.noConfusion hb
  | .bool _, b, _, _, _, hb => by cases b <;> first | rfl | exact Bool.noConfusion hb
  | .int _, b, _, _, _, hb => by cases b <;> first | rfl | exact Bool.noConfusion hb
  | .str x, b, _, _, _, hb => by
    cases b with
    | str y => exact str_beq x y
    | _ => first | rfl | exact Bool.noConfusion hb
  | .lst xs, b, _, _, ha, hb => by
    cases b with
    | lst ys => exact plain_deep ha fun _ _ ha => plain_deep hb fun _ _ hb => veqs_eqv xs ys ha hb
    | _ => first | rfl | exact Bool.noConfusion hb
  | .tup xs, b, _, _, ha, hb => by
    cases b with
    | tup ys => exact plain_deep ha fun _ _ ha => plain_deep hb fun _ _ hb => veqs_eqv xs ys ha hb
    | _ => first | rfl | exact Bool.noConfusion hb
  | .undef, _, _, _, ha, _ => Bool.noConfusion ha
  | .ref _, _, _, _, ha, _ => Bool.noConfusion ha
  | .exc _, _, _, _, ha, _ => Bool.noConfusion ha
theorem veqs_eqv : ∀ (xs ys : List V) {n m : Nat}, plains n xs = true → plains m ys = true → PyData.eqvAll (toPys xs) (toPys ys) = veqs xs ys
  | [], ys, _, _, _, _ => by cases ys <;> rfl
  | x :: xs, ys, _, _, ha, hb => by
    cases ys with
    | nil => rfl
    | cons y ys =>
      exact and_two ha fun a1 a2 => and_two hb fun b1 b2 => by
        show (PyData.eqv (toPy x) (toPy y) && PyData.eqvAll (toPys xs) (toPys ys)) = _
        rw [veq_eqv x y a1 b1, veqs_eqv xs ys a2 b2]; rfl
end

theorem any_eqv {n : Nat} (x : V) {m : Nat} (hx : plain m x = true) : ∀ ys : List V, plains n ys = true → ((toPys ys).any fun y => PyData.eqv y (toPy x)) = ys.any fun y => veq y x
  | [], _ => rfl
  | y :: ys, hp => and_two hp fun h1 h2 => by
    rw [toPys, List.any_cons, List.any_cons, any_eqv x hx ys h2, veq_eqv y x h1 hx]

theorem deref_VR {v : V} {cv : Value} {n : Nat} (R : SR B σ φ h) (hp : plain n (deref σ v) = true) (r : VR B σ φ h v cv) : ∃ as, Reads h cv (toPy (deref σ v)) as := by
  cases v with
  | ref i =>
    replace hp : plain n (match σ[i]? with | some (.lst xs) => .lst xs | _ => .undef) = true := hp
    show ∃ as, Reads h cv (toPy (match σ[i]? with | some (.lst xs) => .lst xs | _ => .undef)) as
    cases hi : σ[i]? with
    | none => rw [hi] at hp; exact Bool.noConfusion hp
    | some c =>
      rw [hi] at hp
      cases c with
      | lst xs => exact plain_deep hp fun m _ hp => live_list (z := fun cv => ∃ as, Reads h cv (.list (toPys xs)) as) R hi r fun a vs _ ⟨k, e2⟩ e3 _ => let ⟨_, q⟩ := readsAll_of xs hp e3; ⟨_, .list e2 rfl rfl q⟩
      | _ => exact Bool.noConfusion hp
  | _ => exact reads_of _ hp r

noncomputable def cop : Cop → CmpOp
  | .eq => .Eq | .ne => .NotEq | .lt => .Lt | .le => .LtE | .gt => .Gt | .ge => .GtE | .isin => .In | .notin => .NotIn | .is => .Is | .isnot => .IsNot

theorem shaped_plain {v : V} (hp : plain 7 v = true) : SeqAt.shaped (toPy v) = true := by
  have := lay_of_plain v hp
  unfold SeqAt.shaped
  rw [this.1, Bool.true_and]
  exact decide_eq_true (by have := this.2; omega)

/-- what a comparison must show -/
noncomputable def WC (prog : Program) (w : World) (A : Around) (E : Value → Shared → Prop) (s : Shared) (Q : Value → Shared → Prop) (op : CmpOp) (ca cb : Value) : Prop := wpAny (model prog w) A (compareOp op ca cb) Q E s
theorem op_eqG {a b : V} {ca cb : Value} {t : Bool} (hv : vEqG σ a b = some t) (R : SR B σ φ s.heap) (ra : VR B σ φ s.heap a ca) (rb : VR B σ φ s.heap b cb) (hu : A.units + 64 < cLine) :
    (Q (.bool t) s → WC prog w A E s Q .Eq ca cb) ∧ (Q (.bool (!t)) s → WC prog w A E s Q .NotEq ca cb) :=
  if_some (P := fun t => (Q (.bool t) s → WC prog w A E s Q .Eq ca cb) ∧ (Q (.bool (!t)) s → WC prog w A E s Q .NotEq ca cb)) hv fun hp => and_two hp fun h1 h2 => by
    obtain ⟨as, q1⟩ := deref_VR R h1 ra
    obtain ⟨bs, q2⟩ := deref_VR R h2 rb
    exact ⟨fun h => eq_dataH q1 q2 (shaped_plain h1) (shaped_plain h2) hu (by rw [veq_eqv _ _ h1 h2]; exact h), fun h => ne_dataH q1 q2 (shaped_plain h1) (shaped_plain h2) hu (by rw [veq_eqv _ _ h1 h2]; exact h)⟩
theorem op_eq {a b : V} {ca cb : Value} {t : Bool} (hv : vEq σ a b = some t) (R : SR B σ φ s.heap) (ra : VR B σ φ s.heap a ca) (rb : VR B σ φ s.heap b cb) (hu : A.units + 64 < cLine) :
    (Q (.bool t) s → WC prog w A E s Q .Eq ca cb) ∧ (Q (.bool (!t)) s → WC prog w A E s Q .NotEq ca cb) := by
  let K : Bool → Value → Value → Prop := fun t ca cb => (Q (.bool t) s → WC prog w A E s Q .Eq ca cb) ∧ (Q (.bool (!t)) s → WC prog w A E s Q .NotEq ca cb)
  show K t ca cb
  cases a with
  | none => cases b with
    | none => exact is_some (P := fun t => K t ca cb) hv (inNone (z := fun ca => K true ca cb) ra (inNone (z := K true .none) rb ⟨EqNone.eq_none_none, EqNone.ne_none_none⟩))
    | _ => exact op_eqG hv R ra rb hu
  | bool x => cases b with
    | bool y => exact is_some (P := fun t => K t ca cb) hv (inBool (z := fun ca => K (x == y) ca cb) ra (inBool (z := K (x == y) (.bool x)) rb ⟨eq_bool, ne_bool⟩))
    | _ => exact op_eqG hv R ra rb hu
  | int x => cases b with
    | int y => exact is_some (P := fun t => K t ca cb) hv (inInt (z := fun ca => K (x == y) ca cb) ra fun t => inInt (z := K (x == y) (.int x t)) rb fun u => ⟨P.eq_int, P.ne_int⟩)
    | _ => exact op_eqG hv R ra rb hu
  | str x => cases b with
    | str y => exact is_some (P := fun t => K t ca cb) hv (inText (z := fun ca => K (x == y) ca cb) ra fun t _ => inText (z := K (x == y) (.str ⟨x.toArray⟩ t)) rb fun u _ => ⟨fun h => eq_str (by rw [str_beq]; exact h), fun h => ne_str (by show Q (.bool (!((⟨_⟩ : Str) == ⟨_⟩))) s; rw [str_beq]; exact h)⟩)
    | _ => exact op_eqG hv R ra rb hu
  | _ => exact op_eqG hv R ra rb hu
theorem VR.not_none {a : V} {ca : Value} (ha : isNoneV a = some false) (ra : VR B σ φ h a ca) : ca ≠ .none := by
  cases a with
  | bool b => exact inBool (z := fun x => x ≠ .none) ra (fun e => Value.noConfusion e)
  | int i => exact inInt (z := fun x => x ≠ .none) ra fun t e => Value.noConfusion e
  | str x => exact inText (z := fun x => x ≠ .none) ra fun t _ e => Value.noConfusion e
  | tup x => exact inTup (z := fun x => x ≠ .none) ra fun _ _ _ _ _ e => Value.noConfusion e
  | lst x => exact inLst (z := fun x => x ≠ .none) ra fun _ _ _ _ _ _ e => Value.noConfusion e
  | ref x => exact inRef (z := fun x => x ≠ .none) ra fun _ _ e => Value.noConfusion e
  | _ => cases ha
theorem op_is {a b : V} {ca cb : Value} {t : Bool} (hv : vIs a b = some t) (ra : VR B σ φ s.heap a ca) (rb : VR B σ φ s.heap b cb) :
    (Q (.bool t) s → WC prog w A E s Q .Is ca cb) ∧ (Q (.bool (!t)) s → WC prog w A E s Q .IsNot ca cb) := by
  let K : Bool → Value → Value → Prop := fun t ca cb => (Q (.bool t) s → WC prog w A E s Q .Is ca cb) ∧ (Q (.bool (!t)) s → WC prog w A E s Q .IsNot ca cb)
  show K t ca cb
  cases b with
  | none =>
    refine inNone (z := K t ca) rb ?_
    cases t with
    | true =>
      cases a with
      | none => exact inNone (z := fun ca => K true ca .none) ra ⟨is_none_none, isnot_none_none⟩
      | _ => cases hv
    | false => have hn := VR.not_none hv ra; exact ⟨is_none_ne hn, isnot_none_ne hn⟩
  | bool y =>
    refine inBool (z := K t ca) rb ?_
    cases a with
    | none => exact is_some (P := fun t => K t ca (.bool y)) hv (inNone (z := fun ca => K false ca (.bool y)) ra ⟨wpAny_is_other (by rfl) (by intro x; cases x), wpAny_isNot_other (by rfl) (by intro x; cases x)⟩)
    | bool x => exact is_some (P := fun t => K t ca (.bool y)) hv (inBool (z := fun ca => K (x == y) ca (.bool y)) ra ⟨PyProof.Rows.is_bool, PyProof.Rows.isnot_bool⟩)
    | _ => exact no_some hv
  | _ => exact no_some hv
end

end Mine

namespace Mine
open PySem PyProof.Rows PySem.Calls

section
variable {prog : Program} {w : World} {A : Around} {E : Value → Shared → Prop} {s : Shared} {B : Bs} {σ : Sg} {φ : List Addr} {Q : Value → Shared → Prop} {h : Heap}

/-- a container of ours that stands in the heap -/
noncomputable def Holds3 (B : Bs) (σ : Sg) (φ : List Addr) (h : Heap) (cc : Value) (ys : List V) : Prop := ∃ a vs, cc = .ref a ∧ VRs B σ φ h ys vs ∧ (h.PlainList a (List.toArray vs) ∨ PTup h a (List.toArray vs))
theorem holds3 {c : V} {cc : Value} {ys : List V} (hc : c = .lst ys ∨ c = .tup ys ∨ ∃ i, c = .ref i ∧ σ[i]? = some (.lst ys)) (R : SR B σ φ h) (rc : VR B σ φ h c cc) : Holds3 B σ φ h cc ys := by
  rcases hc with e | e | ⟨i, e, hi⟩
  · rw [e] at rc; exact inLst (z := fun cc => Holds3 B σ φ h cc ys) rc fun a vs h1 _ h2 _ => ⟨a, vs, rfl, h2, .inl h1⟩
  · rw [e] at rc; exact inTup (z := fun cc => Holds3 B σ φ h cc ys) rc fun a vs h1 h2 _ => ⟨a, vs, rfl, h2, .inr h1⟩
  · rw [e] at rc; exact live_list (z := fun cc => Holds3 B σ φ h cc ys) R hi rc fun a vs _ h1 h2 _ => ⟨a, vs, rfl, h2, .inl h1⟩
/-- x in c, x not in c -/
noncomputable def WI (prog : Program) (w : World) (A : Around) (E : Value → Shared → Prop) (s : Shared) (Q : Value → Shared → Prop) (cx cc : Value) (t : Bool) : Prop :=
  ((∀ tk, Q (.bool t) { s with toks := tk }) → WC prog w A E s Q .In cx cc) ∧ ((∀ tk, Q (.bool (!t)) { s with toks := tk }) → WC prog w A E s Q .NotIn cx cc)
theorem in_data {cx cc : Value} {ys : List V} {px : PyData} {pys : List PyData} {as : List Addr} {t : Bool} (H : Holds3 B σ φ s.heap cc ys) (rd : ∀ vs, VRs B σ φ s.heap ys vs → ∃ bs, ReadsAll s.heap vs pys bs) (qx : Reads s.heap cx px as)
    (l2 : PyData.canLayAll0 pys = true) (l1 : px.canLay0 = true) (hu : A.units + 1 + min (PyData.depthAll pys) px.depth < cLine) (ht : (pys.any fun y => PyData.eqv y px) = t) : WI prog w A E s Q cx cc t := by
  obtain ⟨a, vs, e, rs, hl⟩ := H
  obtain ⟨bs, q⟩ := rd vs rs
  rw [e]
  rcases hl with ⟨_, hl⟩ | ⟨_, hl⟩
  · exact ⟨fun hq => SeqAt.in_list_reads (.list hl rfl rfl q) qx l2 l1 hu (by rw [ht]; exact hq s.toks), fun hq => SeqAt.notIn_list_reads (.list hl rfl rfl q) qx l2 l1 hu (by rw [ht]; exact hq s.toks)⟩
  · exact ⟨fun hq => SeqAt.in_tuple_reads (.tuple hl rfl rfl q) qx l2 l1 hu (by rw [ht]; exact hq s.toks), fun hq => SeqAt.notIn_tuple_reads (.tuple hl rfl rfl q) qx l2 l1 hu (by rw [ht]; exact hq s.toks)⟩
theorem op_in_seq {x : V} {cx cc : Value} {ys : List V} (H : Holds3 B σ φ s.heap cc ys) (hx : plain 5 x = true) (hy : plains 5 ys = true) (rx : VR B σ φ s.heap x cx) (hu : A.units + 64 < cLine) :
    WI prog w A E s Q cx cc (ys.any fun y => veq y x) := by
  obtain ⟨as, qx⟩ := reads_of x hx rx
  have l1 := lay_of_plain x hx
  refine in_data H (fun vs rs => readsAll_of ys hy rs) qx (layAll_of_plain ys hy).1 l1.1 ?_ (any_eqv x hx ys hy)
  have := Nat.min_le_right (PyData.depthAll (toPys ys)) (toPy x).depth
  have := l1.2
  omega

/-- texts among texts -/
theorem strs_elim {xs : List V} {l : List (List Nat)} {P : List V → List (List Nat) → Prop} (e : strsV xs = some l) (k0 : P [] []) (k1 : ∀ x r l', strsV r = some l' → P (.str x :: r) (x :: l')) : P xs l := by
  cases xs with
  | nil => exact is_some (P := P []) e k0
  | cons x r => cases x with
    | str x => exact opt_map (P := P (.str x :: r)) (f := (x :: ·)) e fun l' h => k1 x r l' h
    | _ => exact no_some e
theorem ints_elim {xs : List V} {l : List Int} {P : List V → List Int → Prop} (e : intsV xs = some l) (k0 : P [] []) (k1 : ∀ x r l', intsV r = some l' → P (.int x :: r) (x :: l')) : P xs l := by
  cases xs with
  | nil => exact is_some (P := P []) e k0
  | cons x r => cases x with
    | int x => exact opt_map (P := P (.int x :: r)) (f := (x :: ·)) e fun l' h => k1 x r l' h
    | _ => exact no_some e
theorem bools_elim {xs : List V} {l : List Bool} {P : List V → List Bool → Prop} (e : boolsV xs = some l) (k0 : P [] []) (k1 : ∀ x r l', boolsV r = some l' → P (.bool x :: r) (x :: l')) : P xs l := by
  cases xs with
  | nil => exact is_some (P := P []) e k0
  | cons x r => cases x with
    | bool x => exact opt_map (P := P (.bool x :: r)) (f := (x :: ·)) e fun l' h => k1 x r l' h
    | _ => exact no_some e
theorem strs_get {xs : List V} {l : List (List Nat)} (e : strsV xs = some l) : xs = l.map V.str := by
  induction l generalizing xs with
  | nil => exact strs_elim (P := fun xs l => l = [] → xs = []) e (fun _ => rfl) (fun _ _ _ _ e => (List.cons_ne_nil _ _ e).elim) rfl
  | cons y l ih => exact strs_elim (P := fun xs l' => l' = y :: l → xs = (y :: l).map V.str) e (fun e => (List.cons_ne_nil _ _ e.symm).elim) (fun x r l' h e => by rw [ih (xs := r) ((List.cons.inj e).2 ▸ h), (List.cons.inj e).1]; rfl) rfl
theorem reads_texts : ∀ {l : List (List Nat)} {vs : List Value}, VRs B σ φ h (l.map V.str) vs → ∃ as, ReadsAll h vs (l.map fun y => PyData.str ⟨y.toArray⟩) as
  | [], _, r => inNil (z := fun vs => ∃ as, ReadsAll h vs [] as) r ⟨_, .nil⟩
  | y :: l, _, r => inCons (z := fun vs => ∃ as, ReadsAll h vs ((y :: l).map fun y => PyData.str ⟨y.toArray⟩) as) r fun v ws a rs => inText (z := fun v => ∃ as, ReadsAll h (v :: ws) ((y :: l).map fun y => PyData.str ⟨y.toArray⟩) as) a fun t _ => let ⟨_, q⟩ := reads_texts rs; ⟨_, .cons (.str _ t) q⟩
theorem reads_strs {xs : List V} {vs : List Value} {l : List (List Nat)} (e : strsV xs = some l) (r : VRs B σ φ h xs vs) : ∃ as, ReadsAll h vs (l.map fun y => PyData.str ⟨y.toArray⟩) as := reads_texts (strs_get e ▸ r)
theorem strs_lay : ∀ {l : List (List Nat)}, l.all strFine = true → PyData.canLayAll0 (l.map fun y => PyData.str ⟨y.toArray⟩) = true
  | [], _ => rfl
  | x :: r, hl => by
    rw [List.all_cons, Bool.and_eq_true] at hl
    rw [List.map_cons, PyData.canLayAll0, strs_lay hl.2, Bool.and_true, PyData.canLay0]
    simpa [PyData.strOk, strFine] using hl.1
theorem strs_any {z : List Nat} : ∀ (l : List (List Nat)), ((l.map fun y => PyData.str ⟨y.toArray⟩).any fun y => PyData.eqv y (.str ⟨z.toArray⟩)) = l.any fun y => y == z
  | [] => rfl
  | x :: r => by rw [List.map_cons, List.any_cons, List.any_cons, strs_any r, PyData.eqv, str_beq]
theorem op_in_strs {z : List Nat} {cx cc : Value} {ys : List V} {l : List (List Nat)} (H : Holds3 B σ φ s.heap cc ys) (hl : strsV ys = some l) (hz : strFine z = true) (hf : l.all strFine = true)
    (rx : VR B σ φ s.heap (.str z) cx) (hu : A.units + 64 < cLine) : WI prog w A E s Q cx cc (l.any fun y => y == z) := by
  have l1 : (PyData.str ⟨z.toArray⟩).canLay0 = true := by rw [PyData.canLay0]; simpa [PyData.strOk, strFine] using hz
  refine inText (z := fun cx => WI prog w A E s Q cx cc (l.any fun y => y == z)) rx fun t _ => in_data H (fun vs rs => reads_strs hl rs) (.str _ t) (strs_lay hf) l1 ?_ (strs_any l)
  have := Nat.min_le_right (PyData.depthAll (l.map fun y => PyData.str ⟨y.toArray⟩)) (PyData.str ⟨z.toArray⟩).depth
  have : (PyData.str ⟨z.toArray⟩).depth = 0 := by rw [PyData.depth]
  omega

theorem room63 {n : Nat} (hn : n ≤ roomy) : ((n : Nat) : Int) < 2 ^ 63 := by unfold roomy at hn; omega
theorem strLen (x : List Nat) : (⟨x.toArray⟩ : Str).length = x.length := by simp [Str.length]
/-- what a live cell bears -/
theorem cell_elim {α : Type} {f : List V → Option α} {g : List Int → Option α} {k : List (List Int) → Option α} {c : Option Cell} {a : α} {z : Prop} (e : (match c with | some (.lst xs) => f xs | some (.dictI ks) => g ks | some (.dictP ks) => k ks | _ => none) = some a)
    (k1 : ∀ xs, c = some (.lst xs) → f xs = some a → z) (k2 : ∀ ks, c = some (.dictI ks) → g ks = some a → z) (k3 : ∀ ks, c = some (.dictP ks) → k ks = some a → z) : z := by
  cases c with
  | none => exact no_some e
  | some c => cases c with
    | lst xs => exact k1 xs rfl e
    | dictI ks => exact k2 ks rfl e
    | dictP ks => exact k3 ks rfl e
    | dead => exact no_some e
theorem cell_lst {α : Type} {f : List V → Option α} {c : Option Cell} {a : α} {z : Prop} (e : (match c with | some (.lst xs) => f xs | _ => none) = some a) (k : ∀ xs, c = some (.lst xs) → f xs = some a → z) : z := by
  cases c with
  | none => exact no_some e
  | some c => cases c with
    | lst xs => exact k xs rfl e
    | _ => exact no_some e
noncomputable def WT (prog : Program) (w : World) (A : Around) (E : Value → Shared → Prop) (s : Shared) (Q : Bool → Shared → Prop) (t : Bool) (cv : Value) : Prop := (∀ tk, Q t { s with toks := tk }) → wpAny (model prog w) A (truthy cv) Q E s
theorem truthy_list {a : Addr} {xs : List V} {vs : List Value} {Q : Bool → Shared → Prop} (hl : s.heap.PlainList a vs.toArray) (rs : VRs B σ φ s.heap xs vs) (hn : xs.length ≤ roomy) : WT prog w A E s Q (!xs.isEmpty) (.ref a) := fun hq => by
  refine wpAny_truthy_list hl.isList (by rw [List.size_toArray, rs.length]; exact room63 hn) ?_
  have e2 : (!vs.toArray.isEmpty) = !xs.isEmpty := by
    cases xs with
    | nil => exact inNil (z := fun vs => (!vs.toArray.isEmpty) = false) rs rfl
    | cons x xs => exact inCons (z := fun vs => (!vs.toArray.isEmpty) = true) rs fun _ _ _ _ => rfl
  rw [e2]; exact hq _
theorem op_truthyW {v : V} {cv : Value} {t : Bool} {Q : Bool → Shared → Prop} (hv : vTrue σ v = some t) (R : SR B σ φ s.heap) (r : VR B σ φ s.heap v cv) : WT prog w A E s Q t cv := by
  cases v with
  | none => exact is_some (P := fun t => WT prog w A E s Q t cv) hv (inNone (z := WT prog w A E s Q false) r fun hq _ _ _ => hq s.toks)
  | bool b => exact is_some (P := fun t => WT prog w A E s Q t cv) hv (inBool (z := WT prog w A E s Q b) r fun hq => wpAny_truthy_bool (hq s.toks))
  | int i => exact is_some (P := fun t => WT prog w A E s Q t cv) hv (inInt (z := WT prog w A E s Q (i != 0)) r fun t hq => P.truthy_int (hq s.toks))
  | str x => exact is_some (P := fun t => WT prog w A E s Q t cv) hv (inText (z := WT prog w A E s Q (!x.isEmpty)) r fun t hs hq => by
      refine P.truthy_str (by rw [strLen]; exact Int.not_le.mpr (room63 hs)) ?_
      have e : (((⟨x.toArray⟩ : Str).length : Int) != 0) = (!x.isEmpty) := by
        cases x with
        | nil => rfl
        | cons c r => rw [strLen]; rfl
      rw [e]; exact hq _)
  | lst xs => exact is_some (P := fun t => WT prog w A E s Q t cv) hv (inLst (z := WT prog w A E s Q (!xs.isEmpty)) r fun a vs hl _ rs hn => truthy_list hl rs hn)
  | ref i => exact cell_lst hv fun xs hx hv => is_some (P := fun t => WT prog w A E s Q t cv) hv (live_list (z := WT prog w A E s Q (!xs.isEmpty)) R hx r fun a vs _ hl rs hn => truthy_list hl rs hn)
  | _ => exact no_some hv
theorem op_truthy {v : V} {cv : Value} {t : Bool} {Q : Bool → Shared → Prop} (hv : vTrue σ v = some t) (R : SR B σ φ s.heap) (r : VR B σ φ s.heap v cv)
    (hq : ∀ tk, Q t { s with toks := tk }) : wpAny (model prog w) A (truthy cv) Q E s := op_truthyW hv R r hq

/-- len of a dict, whatever its keys -/
theorem len_dictAny {d : Addr} {o : Obj} {es : Array DictEntry} {ep : Nat} (hd : (d == sysModules) = false) (ho : s.heap.get? d = some o) (hc : o.cls = .type "dict") (hdat : o.data = .dict es ep) (hfit : (es.size : Int) < 2 ^ 63)
    (h : Q (.int es.size (s.toks + 1)) { s with toks := s.toks + 1 + 1 }) : wpAny (model prog w) A (call (.builtin "len") [.ref d]) Q E s := by
  have meets : MeetsIn prog w (Builtin.«dict.__len__» ⟨[.ref d], []⟩) (fun _ R s' => s'.heap.get? d = some o ∧ R (.ok (.ret (.int es.size s'.toks))) { s' with toks := s'.toks + 1 }) :=
    .of_wp fun A R s' ⟨hm, h'⟩ => by
      show wpAny _ _ (dictSize d >>= _) _ _ s'
      unfold dictSize
      refine wpAny_bind (wpAny_bind (wpAny_dictEntries hm hdat (wpAny_pure ?_)))
      show wpAny _ _ (Builtin.Dict.pendingCount d >>= _) _ _ s'
      refine wpAny_bind (wpAny_pendingCount_other hd (wpAny_ret_mkInt ?_))
      rw [Nat.add_zero]; exact h'
  have hT : s.TypeIs (.ref d) "dict" := ⟨o, ho, hc⟩
  refine Calls.call_function_entry kind_len plain_len entry_len (args_len1 _) ?_
  unfold Builtin.«len»
  refine wpAny_bind (m := oneArg "len" _) (wpAny_pure ?_)
  refine wpAny_bind (m := callSpecial? (.ref d) (Str.ofString "__len__")) (wpAny_callSpecial?_slot (name := Str.ofString "__len__") hT F.slot_dict_len
    (call_meetsIn F.slot_dict_len hT F.entry_dict_len (F.args_dict_len_1 _) meets ⟨ho, ?_⟩))
  show wpAny _ _ _ _ _ { s with toks := s.toks + 1 }
  refine wpAny_bind (wpAny_holding (wpAny_pure ?_))
  refine wpAny_bind (wpAny_letGo ?_)
  show wpAny _ _ (if ((es.size : Nat) : Int) < 0 then _ else _) _ _ _
  rw [if_neg (by omega)]
  show wpAny _ _ (if ((es.size : Nat) : Int) ≥ 2 ^ 63 then _ else _) _ _ _
  rw [if_neg (by omega)]
  exact wpAny_bind (wpAny_mkInt (wpAny_pure ⟨_, rfl, h⟩))

noncomputable def WN (prog : Program) (w : World) (A : Around) (E : Value → Shared → Prop) (s : Shared) (Q : Value → Shared → Prop) (B : Bs) (σ : Sg) (φ : List Addr) (n : Nat) (cv : Value) : Prop := Grow B σ φ s (.int n) Q → wpAny (model prog w) A (call (.builtin "len") [cv]) Q E s
theorem len_list {a : Addr} {xs : List V} {vs : List Value} (hl : s.heap.PlainList a vs.toArray) (rs : VRs B σ φ s.heap xs vs) (hn : xs.length ≤ roomy) : WN prog w A E s Q B σ φ xs.length (.ref a) := fun hq => by
  refine Calls.call_len_list hl.isList (by rw [List.size_toArray, rs.length]; exact room63 hn) ?_
  rw [List.size_toArray, rs.length]
  exact hq _ _ _ same_heap (.int _ _)
theorem op_lenW {v : V} {cv : Value} {n : Nat} (hv : vLen σ v = some n) (hB : prog = B.prog ∧ w = B.w) (R : SR B σ φ s.heap) (r : VR B σ φ s.heap v cv) : WN prog w A E s Q B σ φ n cv := by
  cases v with
  | str x => exact is_some (P := fun n => WN prog w A E s Q B σ φ n cv) hv (inText (z := WN prog w A E s Q B σ φ x.length) r fun t hs hq => P.len_str (by rw [strLen]; exact Int.not_le.mpr (room63 hs)) (by rw [strLen]; exact hq _ _ _ same_heap (.int _ _)))
  | tup xs => exact is_some (P := fun n => WN prog w A E s Q B σ φ n cv) hv (inTup (z := WN prog w A E s Q B σ φ xs.length) r fun a vs ht rs hn hq => PyProof.Rows.len_tuple ht.isTup (by rw [List.size_toArray, rs.length]; exact room63 hn) (by rw [List.size_toArray, rs.length]; exact hq _ _ _ same_heap (.int _ _)))
  | lst xs => exact is_some (P := fun n => WN prog w A E s Q B σ φ n cv) hv (inLst (z := WN prog w A E s Q B σ φ xs.length) r fun a vs hl _ rs hn => len_list hl rs hn)
  | ref i =>
    refine cell_elim hv (fun xs hx hv => is_some (P := fun n => WN prog w A E s Q B σ φ n cv) hv (live_list (z := WN prog w A E s Q B σ φ xs.length) R hx r fun a vs _ hl rs hn => len_list hl rs hn)) (fun ks hk hv => ?_) (fun ks hk hv => ?_)
    · refine is_some (P := fun n => WN prog w A E s Q B σ φ n cv) hv (inRef (z := WN prog w A E s Q B σ φ ks.length) r fun a ha hq => ?_)
      obtain ⟨a', e1, ⟨kvs, D, ek⟩, hr⟩ := R.dictI i ks hk
      rw [← Option.some.inj (ha.symm.trans e1)] at D
      have el : kvs.length = ks.length := by rw [← ek, List.length_map]
      rw [hB.1, hB.2]
      exact call_len_dict (R.sys _ (List.mem_of_getElem? ha)) D (by rw [el]; exact room63 hr) (by rw [el]; exact hq _ _ _ same_heap (.int _ _))
    · refine is_some (P := fun n => WN prog w A E s Q B σ φ n cv) hv (inRef (z := WN prog w A E s Q B σ φ ks.length) r fun a ha hq => ?_)
      obtain ⟨a', e1, ⟨kvs, D, ek⟩, hr⟩ := R.dictP i ks hk
      rw [← Option.some.inj (ha.symm.trans e1)] at D
      obtain ⟨o, es, ep, ho, hc, hd, hes, _⟩ := D
      have el : es.size = ks.length := by rw [size_of_entries hes, ← ek, List.length_map]
      exact len_dictAny (R.sys _ (List.mem_of_getElem? ha)) ho hc.1 hd (by rw [el]; exact room63 hr) (by rw [el]; exact hq _ _ _ same_heap (.int _ _))
  | _ => exact no_some hv
theorem op_len {v : V} {cv : Value} {n : Nat} (hv : vLen σ v = some n) (hB : prog = B.prog ∧ w = B.w) (R : SR B σ φ s.heap) (r : VR B σ φ s.heap v cv)
    (hq : Grow B σ φ s (.int n) Q) : wpAny (model prog w) A (call (.builtin "len") [cv]) Q E s := op_lenW hv hB R r hq

theorem ints_get {xs : List V} {l : List Int} (e : intsV xs = some l) : xs = l.map V.int := by
  induction l generalizing xs with
  | nil => exact ints_elim (P := fun xs l => l = [] → xs = []) e (fun _ => rfl) (fun _ _ _ _ e => (List.cons_ne_nil _ _ e).elim) rfl
  | cons y l ih => exact ints_elim (P := fun xs l' => l' = y :: l → xs = (y :: l).map V.int) e (fun e => (List.cons_ne_nil _ _ e.symm).elim) (fun x r l' h e => by rw [ih (xs := r) ((List.cons.inj e).2 ▸ h), (List.cons.inj e).1]; rfl) rfl
theorem bools_get {xs : List V} {l : List Bool} (e : boolsV xs = some l) : xs = l.map V.bool := by
  induction l generalizing xs with
  | nil => exact bools_elim (P := fun xs l => l = [] → xs = []) e (fun _ => rfl) (fun _ _ _ _ e => (List.cons_ne_nil _ _ e).elim) rfl
  | cons y l ih => exact bools_elim (P := fun xs l' => l' = y :: l → xs = (y :: l).map V.bool) e (fun e => (List.cons_ne_nil _ _ e.symm).elim) (fun x r l' h e => by rw [ih (xs := r) ((List.cons.inj e).2 ▸ h), (List.cons.inj e).1]; rfl) rfl

theorem VRs.getV {xs : List V} {vs : List Value} (r : VRs B σ φ h xs vs) {k : Nat} {v : Value} (e : vs[k]? = some v) : ∃ x, xs[k]? = some x ∧ VR B σ φ h x v := by
  have hk : k < vs.length := (List.getElem?_eq_some_iff.mp e).1
  have hk' : k < xs.length := by rw [← r.length]; exact hk
  obtain ⟨v', e1, e2⟩ := r.get (List.getElem?_eq_getElem hk')
  exact ⟨_, List.getElem?_eq_getElem hk', Option.some.inj (e.symm.trans e1) ▸ e2⟩
theorem VRs.int_at {l : List Int} {vs : List Value} (r : VRs B σ φ h (l.map V.int) vs) {k : Nat} {v : Value} (e : vs[k]? = some v) : ∃ t, v = .int (l.getD k 0) t := by
  obtain ⟨x, e1, e2⟩ := r.getV e
  rw [List.getElem?_map] at e1
  exact opt_map (P := fun x => VR B σ φ h x v → ∃ t, v = .int (l.getD k 0) t) e1 (fun n hn r => by rw [List.getD_eq_getElem?_getD, hn]; exact r) e2
theorem VRs.bool_at {l : List Bool} {vs : List Value} (r : VRs B σ φ h (l.map V.bool) vs) {k : Nat} {v : Value} (e : vs[k]? = some v) : v = .bool (l.getD k false) := by
  obtain ⟨x, e1, e2⟩ := r.getV e
  rw [List.getElem?_map] at e1
  exact opt_map (P := fun x => VR B σ φ h x v → v = .bool (l.getD k false)) e1 (fun n hn r => by rw [List.getD_eq_getElem?_getD, hn]; exact r) e2
theorem VRs.len_map {α : Type} {l : List α} {f : α → V} {vs : List Value} (r : VRs B σ φ h (l.map f) vs) : vs.length = l.length := by rw [r.length, List.length_map]

theorem preSum_list (l : List Int) : ∀ n, n ≤ l.length → preSum (fun i => l.getD i 0) n = (l.take n).sum
  | 0, _ => by simp [preSum]
  | n + 1, hn => by
    rw [preSum, preSum_list l n (by omega)]
    have : l.take (n + 1) = l.take n ++ [l.getD n 0] := by
      rw [List.take_add_one]; simp [List.getD, List.getElem?_eq_getElem (by omega : n < l.length)]
    rw [this, List.sum_append]; simp

/-- the walk over a list of ours, as the built-ins ask for it -/
theorem list_walk {A : Around} {a : Addr} {vs : List Value} (hh : A.handled = none) (hl : s.heap.PlainList a vs.toArray) {K : Value → Shared → Prop}
    (k : Walks prog w A s.heap.objs.size [s.heap.objs.size, a] [s.heap.objs.size] vs.length (fun i v => vs[i]? = some v) (fun i h => h.IsListIter s.heap.objs.size a i ∧ h.IsList a vs.toArray) →
      (∀ b ∈ [s.heap.objs.size, a], b < (s.heap.push { cls := .type "list_iterator", data := .fields #[.ref a, .int 0 0] }).objs.size) →
      ((s.heap.push { cls := .type "list_iterator", data := .fields #[.ref a, .int 0 0] }).IsListIter s.heap.objs.size a 0 ∧ (s.heap.push { cls := .type "list_iterator", data := .fields #[.ref a, .int 0 0] }).IsList a vs.toArray) →
      (∀ (h' : Heap), (∀ b o, b ∉ [s.heap.objs.size] → (s.heap.push { cls := .type "list_iterator", data := .fields #[.ref a, .int 0 0] }).get? b = some o → h'.get? b = some o) → ∀ b o, s.heap.get? b = some o → h'.get? b = some o) →
      K (.ref s.heap.objs.size) { s with heap := s.heap.push { cls := .type "list_iterator", data := .fields #[.ref a, .int 0 0] } }) :
    wpAny (model prog w) A (pyIter (.ref a)) K E s := by
  obtain ⟨n, ho⟩ := id hl
  have ha : a < s.heap.objs.size := Heap.lt_size ho
  refine wpAny_pyIter_list hl.isList (k ?_ ?_ ?_ ?_)
  · have W := Walks.list (prog := prog) (w := w) hh s.heap.objs.size a (Nat.ne_of_lt ha) vs.toArray
    simpa using W
  · intro b hb
    rw [Heap.size_push]
    rcases List.mem_cons.mp hb with rfl | hb
    · exact Nat.lt_succ_self _
    · rw [List.mem_singleton.mp hb]; exact Nat.lt_succ_of_lt ha
  · exact ⟨⟨_, Heap.get?_push_size _ rfl, rfl, rfl⟩, hl.isList.push _⟩
  · intro h' hk b o e
    exact hk b o (fun hb => by rw [List.mem_singleton.mp hb, get_size] at e; cases e) (Heap.get?_push_of_some _ e)

theorem op_sum {v : V} {cv : Value} {xs : List V} {l : List Int} (hx : getL σ v = some xs) (hl : intsV xs = some l) (hh : A.handled = none) (R : SR B σ φ s.heap) (r : VR B σ φ s.heap v cv)
    (hq : Grow B σ φ s (.int l.sum) Q) : wpAny (model prog w) A (call (.builtin "sum") [cv]) Q E s := by
  rw [ints_get hl] at hx
  refine getL_elim (z := fun cv => wpAny (model prog w) A (call (.builtin "sum") [cv]) Q E s) R hx r fun a vs hp rs hn => ?_
  refine call_sum_walkG (list_walk (A := A.in1) hh hp fun W hb hst hk => ⟨_, _, _, _, _, _, fun i => l.getD i 0, rfl, W, hst, hb, fun i u hu => rs.int_at hu, fun h' tk t' hkeep => ?_⟩)
  rw [preSum_list l _ (Nat.le_of_eq rs.len_map), rs.len_map, List.take_length]
  exact hq _ _ _ (hk h' hkeep) (.int _ _)

theorem range_all (l : List Bool) : (List.range l.length).all (fun i => l.getD i false) = l.all id := by
  rw [Bool.eq_iff_iff]
  simp only [List.all_eq_true, List.mem_range, id]
  constructor
  · intro h x hx
    obtain ⟨i, hi, rfl⟩ := List.mem_iff_getElem.mp hx
    have := h i hi
    simpa [List.getD, List.getElem?_eq_getElem hi] using this
  · intro h i hi
    simp only [List.getD, List.getElem?_eq_getElem hi, Option.getD_some]
    exact h _ (List.getElem_mem hi)
theorem range_any (l : List Bool) : (List.range l.length).any (fun i => l.getD i false) = l.any id := by
  rw [Bool.eq_iff_iff]
  simp only [List.any_eq_true, List.mem_range, id]
  constructor
  · rintro ⟨i, hi, h⟩
    exact ⟨l[i], List.getElem_mem hi, by simpa [List.getD, List.getElem?_eq_getElem hi] using h⟩
  · rintro ⟨x, hx, h⟩
    obtain ⟨i, hi, rfl⟩ := List.mem_iff_getElem.mp hx
    exact ⟨i, hi, by simpa [List.getD, List.getElem?_eq_getElem hi] using h⟩

theorem op_all {v : V} {cv : Value} {xs : List V} {l : List Bool} (hx : getL σ v = some xs) (hl : boolsV xs = some l) (hh : A.handled = none) (R : SR B σ φ s.heap) (r : VR B σ φ s.heap v cv)
    (hq : Grow B σ φ s (.bool (l.all id)) Q) : wpAny (model prog w) A (call (.builtin "all") [cv]) Q E s := by
  rw [bools_get hl] at hx
  refine getL_elim (z := fun cv => wpAny (model prog w) A (call (.builtin "all") [cv]) Q E s) R hx r fun a vs hp rs hn => ?_
  refine call_all_walk (list_walk (A := A.in1) hh hp fun W hb hst hk => ⟨_, _, _, _, _, _, fun i => l.getD i false, rfl, W, hst, fun i u s' Q' E' hu hq' => by rw [rs.bool_at hu]; exact wpAny_truthy_bool hq', fun h' tk hkeep => ?_⟩)
  rw [rs.len_map, range_all]
  exact hq _ _ _ (hk h' hkeep) (.bool _)
theorem op_any {v : V} {cv : Value} {xs : List V} {l : List Bool} (hx : getL σ v = some xs) (hl : boolsV xs = some l) (hh : A.handled = none) (R : SR B σ φ s.heap) (r : VR B σ φ s.heap v cv)
    (hq : Grow B σ φ s (.bool (l.any id)) Q) : wpAny (model prog w) A (call (.builtin "any") [cv]) Q E s := by
  rw [bools_get hl] at hx
  refine getL_elim (z := fun cv => wpAny (model prog w) A (call (.builtin "any") [cv]) Q E s) R hx r fun a vs hp rs hn => ?_
  refine call_any_walk (list_walk (A := A.in1) hh hp fun W hb hst hk => ⟨_, _, _, _, _, _, fun i => l.getD i false, rfl, W, hst, fun i u s' Q' E' hu hq' => by rw [rs.bool_at hu]; exact wpAny_truthy_bool hq', fun h' tk hkeep => ?_⟩)
  rw [rs.len_map, range_any]
  exact hq _ _ _ (hk h' hkeep) (.bool _)

theorem argBest_max (l : List Int) (a : Int) (r : List Int) (e : l = a :: r) : ∀ k, k < l.length → argBest (fun i j => decide (l.getD i 0 > l.getD j 0)) k < l.length ∧
    l.getD (argBest (fun i j => decide (l.getD i 0 > l.getD j 0)) k) 0 = (r.take k).foldl max a
  | 0, hk => by subst e; simp [argBest, List.getD]
  | k + 1, hk => by
    obtain ⟨h1, h2⟩ := argBest_max l a r e k (by omega)
    have hr : k < r.length := by subst e; simpa using hk
    have e1 : r.take (k + 1) = r.take k ++ [r[k]] := by rw [List.take_add_one, List.getElem?_eq_getElem hr]; rfl
    have e2 : l.getD (k + 1) 0 = r[k] := by subst e; simp [List.getD, List.getElem?_eq_getElem hr]
    rw [e1, List.foldl_append, argBest, e2, h2]
    simp only [List.foldl_cons, List.foldl_nil]
    by_cases hgt : r[k] > (r.take k).foldl max a
    · rw [if_pos (by simpa using hgt)]
      exact ⟨hk, by rw [e2]; omega⟩
    · rw [if_neg (by simpa using hgt)]
      exact ⟨h1, by rw [h2]; omega⟩

theorem op_max1 {v : V} {cv : Value} {xs : List V} {a : Int} {l : List Int} (hx : getL σ v = some xs) (hl : intsV xs = some (a :: l)) (hh : A.handled = none) (R : SR B σ φ s.heap) (r : VR B σ φ s.heap v cv)
    (hq : Grow B σ φ s (.int (l.foldl max a)) Q) : wpAny (model prog w) A (call (.builtin "max") [cv]) Q E s := by
  rw [ints_get hl] at hx
  refine getL_elim (z := fun cv => wpAny (model prog w) A (call (.builtin "max") [cv]) Q E s) R hx r fun ad vs hp rs hn => ?_
  have hlen : vs.length = l.length + 1 := rs.len_map
  refine call_max_walk (list_walk (A := A.in1) hh hp fun W hb hst hk => ⟨_, _, _, _, _, _, fun i j => decide ((a :: l).getD i 0 > (a :: l).getD j 0), rfl, W, hst, hb, by rw [hlen]; exact Nat.succ_pos _, fun i j vi vj s' Q' E' hi hj hq' => ?_, fun u h' tk hu hkeep => ?_⟩)
  · obtain ⟨t, e1⟩ := rs.int_at hi
    obtain ⟨t', e2⟩ := rs.int_at hj
    rw [e1, e2]; exact P.gt_int hq'
  · have := (argBest_max (a :: l) a l rfl l.length (Nat.lt_succ_self _)).2
    rw [List.take_length] at this
    rw [hlen, Nat.add_sub_cancel] at hu
    obtain ⟨t, e1⟩ := rs.int_at hu
    rw [e1, this]
    exact hq _ _ _ (hk h' hkeep) (.int _ _)

theorem op_min2 {a b : Int} {t u : Tok} (hh : A.handled = none) (hq : Grow B σ φ s (.int (min a b)) Q) : wpAny (model prog w) A (call (.builtin "min") [.int a t, .int b u]) Q E s := by
  refine min_two_ints hh fun h' tk hk => ?_
  have e : min a b = if b < a then b else a := by split <;> omega
  rw [e] at hq
  split <;> rename_i hgt <;> simp only [hgt, if_true, if_false] at hq <;> exact hq _ _ _ hk (.int _ _)

theorem op_tuple {v : V} {cv : Value} {xs : List V} (hx : getL σ v = some xs) (R : SR B σ φ s.heap) (r : VR B σ φ s.heap v cv)
    (hq : Grow B σ φ s (.tup xs) Q) : wpAny (model prog w) A (call (.type "tuple") [cv]) Q E s :=
  getL_elim (z := fun cv => wpAny (model prog w) A (call (.type "tuple") [cv]) Q E s) R hx r fun a vs hp rs hn =>
    call_tuple_list hp.isList (fun h' hk => hq _ _ _ (fun b o e => Heap.get?_push_of_some _ (hk b o e)) (.tup ⟨0, Heap.get?_push_size _ rfl⟩ (rs.grow R fun b o e => Heap.get?_push_of_some _ (hk b o e)) hn)) (by rw [List.size_toArray, rs.length, ← roomy_eq]; exact hn)
theorem SR.fresh (R : SR B σ φ s.heap) : ¬ live σ φ s.heap.objs.size ∧ ¬ B.av s.heap.objs.size :=
  ⟨fun L => let ⟨_, ho⟩ := R.ex _ L.mem; no_some ((get_size s.heap).symm.trans ho), fun hv => let ⟨_, ho⟩ := R.avx _ hv; no_some ((get_size s.heap).symm.trans ho)⟩
theorem op_int {b : Bool} (hq : Grow B σ φ s (.int (if b then 1 else 0)) Q) : wpAny (model prog w) A (call (.type "int") [.bool b]) Q E s :=
  call_int_bool (hq _ _ _ (fun _ _ e => e) (.int _ _))
noncomputable def isaT : Bi → String
  | .isBool => "bool" | .isInt => "int" | .isStr => "str" | .isTup => "tuple" | _ => "list"

noncomputable def WY (prog : Program) (w : World) (A : Around) (E : Value → Shared → Prop) (s : Shared) (Q : Value → Shared → Prop) (T : String) (t : Bool) (cv : Value) : Prop := (∀ tk, Q (.bool t) { s with toks := tk }) → wpAny (model prog w) A (call (.builtin "isinstance") [cv, .type T]) Q E s
theorem isa_K {T : String} {n b i x t l : Bool} {v : V} {cv : Value} {u : Bool} (hv : isaK n b i x t l v = some u) (r : VR B σ φ s.heap v cv) (kn : WY prog w A E s Q T n .none) (kb : ∀ y, WY prog w A E s Q T b (.bool y)) (ki : ∀ y t, WY prog w A E s Q T i (.int y t)) (ks : ∀ y t, WY prog w A E s Q T x (.str y t))
    (kt : ∀ (a : Addr) (y : Array Value) n, s.heap.get? a = some { cls := .type "tuple", data := .seq y n } → WY prog w A E s Q T t (.ref a)) (kl : ∀ (a : Addr) (y : Array Value) n, s.heap.get? a = some { cls := .type "list", data := .seq y n } → WY prog w A E s Q T l (.ref a)) : WY prog w A E s Q T u cv := by
  cases v with
  | none => exact is_some (P := fun u => WY prog w A E s Q T u cv) hv (inNone (z := WY prog w A E s Q T n) r kn)
  | bool y => exact is_some (P := fun u => WY prog w A E s Q T u cv) hv (inBool (z := WY prog w A E s Q T b) r (kb y))
  | int y => exact is_some (P := fun u => WY prog w A E s Q T u cv) hv (inInt (z := WY prog w A E s Q T i) r fun t => ki y t)
  | str y => exact is_some (P := fun u => WY prog w A E s Q T u cv) hv (inText (z := WY prog w A E s Q T x) r fun t _ => ks _ t)
  | tup y => exact is_some (P := fun u => WY prog w A E s Q T u cv) hv (inTup (z := WY prog w A E s Q T t) r fun a vs ⟨n, h⟩ _ _ => kt a _ n h)
  | lst y => exact is_some (P := fun u => WY prog w A E s Q T u cv) hv (inLst (z := WY prog w A E s Q T l) r fun a vs ⟨n, h⟩ _ _ _ => kl a _ n h)
  | _ => exact no_some hv
theorem op_isa_bool {v : V} {cv : Value} {t : Bool} (hv : vIsa .isBool v = some t) (r : VR B σ φ s.heap v cv) : WY prog w A E s Q "bool" t cv :=
  isa_K hv r (fun k => IsiPair.NoneType_bool (k _)) (fun _ k => IsiPair.bool_bool (k _)) (fun _ _ k => IsiPair.int_bool (k _)) (fun _ _ k => IsiPair.str_bool (k _)) (fun _ _ _ e k => IsiPair.tuple_bool e rfl (k _)) (fun _ _ _ e k => IsiPair.list_bool e rfl (k _))
theorem op_isa_int {v : V} {cv : Value} {t : Bool} (hv : vIsa .isInt v = some t) (r : VR B σ φ s.heap v cv) : WY prog w A E s Q "int" t cv :=
  isa_K hv r (fun k => IsiPair.NoneType_int (k _)) (fun _ k => IsiPair.bool_int (k _)) (fun _ _ k => IsiPair.int_int (k _)) (fun _ _ k => IsiPair.str_int (k _)) (fun _ _ _ e k => IsiPair.tuple_int e rfl (k _)) (fun _ _ _ e k => IsiPair.list_int e rfl (k _))
theorem op_isa_tuple {v : V} {cv : Value} {t : Bool} (hv : vIsa .isTup v = some t) (r : VR B σ φ s.heap v cv) : WY prog w A E s Q "tuple" t cv :=
  isa_K hv r (fun k => IsiPair.NoneType_tuple (k _)) (fun _ k => IsiPair.bool_tuple (k _)) (fun _ _ k => IsiPair.int_tuple (k _)) (fun _ _ k => IsiPair.str_tuple (k _)) (fun _ _ _ e k => IsiPair.tuple_tuple e rfl (k _)) (fun _ _ _ e k => IsiPair.list_tuple e rfl (k _))
theorem op_isa_list {v : V} {cv : Value} {t : Bool} (hv : vIsa .isLst v = some t) (r : VR B σ φ s.heap v cv) : WY prog w A E s Q "list" t cv :=
  isa_K hv r (fun k => IsiPair.NoneType_list (k _)) (fun _ k => IsiPair.bool_list (k _)) (fun _ _ k => IsiPair.int_list (k _)) (fun _ _ k => IsiPair.str_list (k _)) (fun _ _ _ e k => IsiPair.tuple_list e rfl (k _)) (fun _ _ _ e k => IsiPair.list_list e rfl (k _))
theorem op_isa {b : Bi} {v : V} {cv : Value} {t : Bool} (hv : vIsa b v = some t) (hb : ∀ c, b ≠ .isExc c) (r : VR B σ φ s.heap v cv)
    (hq : Grow B σ φ s (.bool t) Q) : wpAny (model prog w) A (call (.builtin "isinstance") [cv, .type (isaT b)]) Q E s := by
  have k : ∀ tk, Q (.bool t) { s with toks := tk } := fun tk => hq _ _ tk same_heap (.bool _)
  cases b with
  | isBool => exact op_isa_bool hv r k
  | isInt => exact op_isa_int hv r k
  | isStr => cases hv
  | isTup => exact op_isa_tuple hv r k
  | isLst => exact op_isa_list hv r k
  | isExc c => exact (hb c rfl).elim
  | _ => exact no_some hv

theorem op_isaLst {i : Nat} {xs : List V} {cv : Value} (hi : σ[i]? = some (.lst xs)) (R : SR B σ φ s.heap) (r : VR B σ φ s.heap (.ref i) cv)
    (hq : Grow B σ φ s (.bool true) Q) : wpAny (model prog w) A (call (.builtin "isinstance") [cv, .type "list"]) Q E s :=
  live_list (z := fun cv => wpAny (model prog w) A (call (.builtin "isinstance") [cv, .type "list"]) Q E s) R hi r fun a vs _ ⟨_, e⟩ _ _ => IsiPair.list_list e rfl (hq _ _ _ same_heap (.bool _))
end

end Mine

namespace Mine
open PySem PyProof.Rows PySem.Calls

section
variable {prog : Program} {w : World} {A : Around} {E : Value → Shared → Prop} {s : Shared} {B : Bs} {σ : Sg} {φ : List Addr} {Q : Value → Shared → Prop} {h : Heap}

theorem nIdx_seq {i : Int} {n k : Nat} (e : nIdx i n = some k) : seqIndex? i n = some k ∧ k < n ∧ ((0 ≤ i ∧ k = i.toNat) ∨ (i < 0 ∧ -(n : Int) ≤ i ∧ k = (i + (n : Int)).toNat)) := by
  unfold nIdx at e
  unfold seqIndex?
  by_cases h0 : 0 ≤ i
  · rw [if_pos h0] at e
    refine if_some (P := fun k => _ ∧ k < n ∧ ((0 ≤ i ∧ k = i.toNat) ∨ _)) e fun h1 => ⟨?_, (Int.toNat_lt h0).mpr h1, .inl ⟨h0, rfl⟩⟩
    simp only [Int.not_lt.mpr h0, if_false]
    rw [if_pos (by rw [Bool.and_eq_true, decide_eq_true_eq, decide_eq_true_eq]; exact ⟨h0, h1⟩), Option.some.inj (e.symm.trans (if_pos h1))]
  · rw [if_neg h0] at e
    have h0' := Int.not_le.mp h0
    refine if_some (P := fun k => _ ∧ k < n ∧ (_ ∨ (i < 0 ∧ -(n : Int) ≤ i ∧ k = (i + (n : Int)).toNat))) e fun h1 => ⟨?_, by omega, .inr ⟨h0', by omega, rfl⟩⟩
    simp only [h0', if_true]
    rw [if_pos (by rw [Bool.and_eq_true, decide_eq_true_eq, decide_eq_true_eq]; exact ⟨h1, by omega⟩), Option.some.inj (e.symm.trans (if_pos h1))]

/-- what an item must show -/
noncomputable def WG (prog : Program) (w : World) (A : Around) (E : Value → Shared → Prop) (s : Shared) (Q : Value → Shared → Prop) (ci cv : Value) : Prop := (∃ T id, s.TypeIs cv T ∧ typeLookup (.type T) "__getitem__" = pure (some (.builtin id))) ∧ wpAny (model prog w) A (getItem cv ci) Q E s
theorem item_list {a : Addr} {xs : List V} {vs : List Value} {i : Int} {t : Tok} {k : Nat} {x : V} (hsm : -4611686018427387904 < i ∧ i < 4611686018427387904) (h3 : (0 ≤ i ∧ k = i.toNat) ∨ (i < 0 ∧ -(xs.length : Int) ≤ i ∧ k = (i + (xs.length : Int)).toNat)) (hx : xs[k]? = some x)
    (hl : s.heap.PlainList a vs.toArray) (rs : VRs B σ φ s.heap xs vs) (hq : Grow B σ φ s x Q) : WG prog w A E s Q (.int i t) (.ref a) := by
  obtain ⟨u, e1, e2⟩ := rs.get hx
  have e := rs.length
  have e1' : vs.toArray[k]? = some u := by simpa using e1
  refine ⟨⟨_, _, hl.isList.typeIs, slot_list_getitem.lookup⟩, ?_⟩
  rcases h3 with ⟨h4, h5⟩ | ⟨h4, h5, h6⟩
  · exact wpAny_getItem_list hl.isList h4 (by omega) (by rw [← h5]; exact e1') (hq _ _ _ same_heap e2)
  · exact wpAny_getItem_list_neg hl.isList h4 (by rw [List.size_toArray, e]; exact h5) (by omega) (by rw [List.size_toArray, e, ← h6]; exact e1') (hq _ _ _ same_heap e2)
theorem op_item {v : V} {cv : Value} {i : Int} {t : Tok} {x : V} (hv : vIdx σ v (.int i) = some x) (R : SR B σ φ s.heap) (r : VR B σ φ s.heap v cv)
    (hq : Grow B σ φ s x Q) : WG prog w A E s Q (.int i t) cv := by
  replace hv : (if small i then (getSeq σ v).bind fun xs => (nIdx i xs.length).bind fun k => xs[k]? else none) = some x := hv
  by_cases hs : small i = true
  case neg => rw [if_neg hs] at hv; exact no_some hv
  rw [if_pos hs] at hv
  have hsm := small_lo hs
  refine opt_bind hv fun xs hx hv1 => opt_bind hv1 fun k hk hg => ?_
  clear hv hv1
  obtain ⟨h1, h2, h3⟩ := nIdx_seq hk
  cases v with
  | tup ys =>
      refine inTup (z := WG prog w A E s Q (.int i t)) r fun a vs ht rs hn => ?_
      rw [← Option.some.inj hx] at h1 hg
      obtain ⟨u, e1, e2⟩ := rs.get hg
      refine ⟨⟨"tuple", _, (let ⟨_, ho⟩ := ht; ⟨_, ho, rfl⟩), PySem.F.slot_tuple_getitem.lookup⟩, ?_⟩
      exact PyProof.Rows.getItem_tuple ht.isTup (by omega) (by omega) (by rw [List.size_toArray, rs.length]; exact h1) (by simpa using e1) (hq _ _ _ same_heap e2)
  | str y =>
      refine inText (z := WG prog w A E s Q (.int i t)) r fun t' _ => ?_
      rw [← Option.some.inj hx, List.length_map] at h1
      rw [← Option.some.inj hx, List.getElem?_map] at hg
      refine opt_map (P := fun x => Grow B σ φ s x Q → WG prog w A E s Q (.int i t) (.str ⟨y.toArray⟩ t')) hg (fun c e1 hq => ⟨⟨"str", _, typeIs_str s _ t', PySem.F.slot_str_getitem.lookup⟩, ?_⟩) hq
      refine PyProof.Rows.getItem_str (c := c) (by rw [Bool.or_eq_false_iff]; exact ⟨decide_eq_false (by omega), decide_eq_false (by omega)⟩) ?_ (hq _ _ _ same_heap (.str [c] _ (by show 1 ≤ roomy; decide)))
      rw [strLen, h1]
      simpa using e1
  | lst ys =>
      refine inLst (z := WG prog w A E s Q (.int i t)) r fun a vs hl _ rs hn => ?_
      rw [← Option.some.inj hx] at h3 hg
      exact item_list hsm h3 hg hl rs hq
  | ref j => exact getL_elim (z := WG prog w A E s Q (.int i t)) R (show getL σ (.ref j) = some xs from hx) r fun a vs hl rs _ => item_list hsm h3 hg hl rs hq
  | _ => exact no_some hx

/-! cuts -/
theorem pick_from {α : Type} (xs : List α) : ∀ (m a : Nat), a + m ≤ xs.length → (List.range' a m).filterMap (xs[·]?) = (xs.drop a).take m
  | 0, _, _ => by simp
  | m + 1, a, hb => by
    have h1 : a < xs.length := by omega
    rw [List.range'_succ, List.filterMap_cons, List.getElem?_eq_getElem h1, pick_from xs m (a + 1) (by omega), List.drop_eq_getElem_cons h1, List.take_succ_cons]
theorem pick_range {α : Type} (xs : List α) (a b : Nat) (hb : b ≤ xs.length) : ((List.range (b - a)).map (a + ·)).filterMap (xs[·]?) = (xs.take b).drop a := by
  rw [← List.range'_eq_map_range]
  by_cases hab : a ≤ b
  · rw [pick_from xs (b - a) a (by omega), List.drop_take]
  · rw [show b - a = 0 by omega]
    rw [List.drop_eq_nil_of_le (by rw [List.length_take]; omega)]; rfl

theorem clip_eq (i : Int) (n : Nat) : max 0 (min (if i < 0 then i + (n : Int) else i) (n : Int)) = ((clamp i n : Nat) : Int) := by
  unfold clamp
  by_cases h : i < 0
  · rw [if_pos h, if_pos h, Int.toNat_eq_max, Int.min_eq_left (Int.le_of_lt (by omega)), Int.max_comm]
  · rw [if_neg h, if_neg h]; omega
theorem bounds_cut (lo hi : Option Int) (n : Nat) : sliceBounds lo hi none n = ((loOf lo n : Int), (hiOf hi n : Int), 1) := by
  cases lo with
  | none => cases hi with
    | none => rfl
    | some j => exact congrArg (fun x => ((0 : Int), x, (1 : Int))) (clip_eq j n)
  | some i => cases hi with
    | none => exact congrArg (fun x => (x, (n : Int), (1 : Int))) (clip_eq i n)
    | some j => exact (congrArg (fun x => (x, max 0 (min (if j < 0 then j + (n : Int) else j) (n : Int)), (1 : Int))) (clip_eq i n)).trans (congrArg (fun x => (((clamp i n : Nat) : Int), x, (1 : Int))) (clip_eq j n))

theorem clamp_le (i : Int) (n : Nat) : clamp i n ≤ n := by unfold clamp; split <;> omega
theorem hiOf_le (hi : Option Int) (n : Nat) : hiOf hi n ≤ n := by
  cases hi with
  | none => exact Nat.le_refl _
  | some i => exact clamp_le i _

theorem cut_eq {α : Type} (xs : List α) (lo hi : Option Int) :
    (sliceRange (sliceBounds lo hi none xs.length).1 (sliceBounds lo hi none xs.length).2.1 (sliceBounds lo hi none xs.length).2.2).filterMap (xs[·]?) = cut xs lo hi := by
  rw [bounds_cut]
  dsimp only
  rw [sliceRange_one, pick_range]
  · rfl
  · exact hiOf_le hi _

theorem pick_cut (vs : List Value) (lo hi : Option Int) : slicePick vs.toArray lo hi none = (cut vs lo hi).toArray := by
  unfold slicePick
  rw [← cut_eq vs lo hi]
  simp

theorem strIdx_cut (lo hi : Option Int) (n : Nat) : Builtin.Str.strSliceIndices lo hi 1 n = sliceRange (sliceBounds lo hi none n).1 (sliceBounds lo hi none n).2.1 (sliceBounds lo hi none n).2.2 := by
  unfold Builtin.Str.strSliceIndices sliceBounds
  rfl

theorem cut_length {α : Type} (xs : List α) (lo hi : Option Int) : (cut xs lo hi).length ≤ xs.length := by
  unfold cut
  simp only [List.length_drop, List.length_take]
  omega

theorem VRs.cut {xs : List V} {vs : List Value} (r : VRs B σ φ h xs vs) (lo hi : Option Int) : VRs B σ φ h (Mine.cut xs lo hi) (Mine.cut vs lo hi) := by
  unfold Mine.cut
  simp only [r.length]
  exact (r.take _).drop _

theorem str_cut (x : List Nat) (lo hi : Option Int) : (⟨((Builtin.Str.strSliceIndices lo hi 1 (⟨x.toArray⟩ : Str).length).filterMap ((⟨x.toArray⟩ : Str).cps[·]?)).toArray⟩ : Str) = ⟨(cut x lo hi).toArray⟩ := by
  have e : (⟨x.toArray⟩ : Str).length = x.length := by simp [Str.length]
  rw [e, strIdx_cut, ← cut_eq x lo hi]
  simp

theorem cut_whole {α : Type} (x : List α) (lo hi : Option Int) (h : (sliceRange (sliceBounds lo hi none x.length).1 (sliceBounds lo hi none x.length).2.1 (sliceBounds lo hi none x.length).2.2).length = x.length) : cut x lo hi = x := by
  rw [bounds_cut] at h
  dsimp only at h
  rw [sliceRange_one] at h
  simp only [List.length_map, List.length_range] at h
  unfold cut
  have h1 := hiOf_le hi x.length
  by_cases hx : x = []
  · subst hx; simp
  · have : 0 < x.length := List.length_pos_iff.mpr hx
    rw [show loOf lo x.length = 0 by omega, show hiOf hi x.length = x.length by omega]; simp

theorem part_of {v : Value} {o : Option Int} (p : IsPart v o) : ∃ l : Option (Int × Tok), partValue l = v ∧ l.map (·.1) = o := by
  cases p with
  | none => exact ⟨none, rfl, rfl⟩
  | int i t => exact ⟨some (i, t), rfl, rfl⟩
theorem cut_str {x : List Nat} {t : Tok} {lo hi : Option Int} {sl : Addr} {vl vu : Value} (hx : x.length ≤ roomy) (hs : s.heap.IsSliceOf sl vl vu .none) (pl : IsPart vl lo) (pu : IsPart vu hi)
    (hq : Grow B σ φ s (.str (cut x lo hi)) Q) : WG prog w A E s Q (.ref sl) (.str ⟨x.toArray⟩ t) := by
  refine ⟨⟨"str", _, typeIs_str s _ t, PySem.F.slot_str_getitem.lookup⟩, ?_⟩
  obtain ⟨o, ho, hc, hd⟩ := hs
  obtain ⟨l, e1, e3⟩ := part_of pl
  obtain ⟨u, e2, e4⟩ := part_of pu
  refine wpAny_getItem_str_slice (l := l) (u := u) (st := none) ⟨o, ho, hc, by rw [hd, e1, e2]; rfl⟩ rfl ?_
  unfold sliceMade slicePicked
  rw [e3, e4]
  dsimp only [Option.map_none, Option.getD_none]
  split
  · rename_i hw
    rw [Bool.and_eq_true, strIdx_cut, strLen] at hw
    rw [cut_whole x lo hi (beq_iff_eq.mp hw.2)] at hq
    exact hq _ _ _ same_heap (.str _ _ hx)
  · rw [str_cut]
    have hle : (cut x lo hi).length ≤ roomy := Nat.le_trans (cut_length _ _ _) hx
    exact ⟨by rw [← roomy_eq, strLen]; exact hle, hq _ _ _ same_heap (.str _ _ hle)⟩
theorem cut_tup {a : Addr} {xs : List V} {vs : List Value} {lo hi : Option Int} {sl : Addr} {vl vu : Value} (hc : (hi.isNone && decide (1 ≤ lo.getD 0 ∧ lo.getD 0 ≤ (xs.length : Int))) = true) (ht : PTup s.heap a vs.toArray) (rs : VRs B σ φ s.heap xs vs) (hn : xs.length ≤ roomy) (R : SR B σ φ s.heap)
    (hs : s.heap.IsSliceOf sl vl vu .none) (pl : IsPart vl lo) (pu : IsPart vu hi) (hq : Grow B σ φ s (.tup (cut xs lo hi)) Q) : WG prog w A E s Q (.ref sl) (.ref a) := by
  rw [Bool.and_eq_true, decide_eq_true_eq] at hc
  refine ⟨⟨"tuple", _, (let ⟨_, ho⟩ := ht; ⟨_, ho, rfl⟩), PySem.F.slot_tuple_getitem.lookup⟩, ?_⟩
  have e := rs.length
  cases pu with
  | int _ _ => exact Bool.noConfusion hc.1
  | none => cases pl with
    | none => exact absurd hc.2.1 (by decide)
    | int i t' =>
      have hc2 : 1 ≤ i ∧ i ≤ (xs.length : Int) := hc.2
      have ei : i = ((i.toNat : Nat) : Int) := by omega
      rw [ei] at hs
      refine getItem_tuple_from ht.isTup hs (by omega) (by rw [List.size_toArray, e]; omega) ?_ (by rw [List.size_toArray, e, ← roomy_eq]; exact hn)
      have ec : cut xs (some i) none = xs.drop i.toNat := by
        unfold cut loOf hiOf clamp
        dsimp only
        rw [if_neg (by omega), List.take_length, Nat.min_eq_left (by omega)]
      rw [ec] at hq
      exact hq _ _ _ (push_keeps _ _) (VR.newTup R (rs.drop _) (by rw [List.length_drop]; exact Nat.le_trans (Nat.sub_le _ _) hn) 0)
theorem cut_lst {v : V} {cv : Value} {x : V} {lo hi : Option Int} {sl : Addr} {vl vu : Value} (hv : ((getL σ v).map fun xs => V.lst (cut xs lo hi)) = some x) (R : SR B σ φ s.heap) (r : VR B σ φ s.heap v cv)
    (hs : s.heap.IsSliceOf sl vl vu .none) (pl : IsPart vl lo) (pu : IsPart vu hi) (hq : Grow B σ φ s x Q) : WG prog w A E s Q (.ref sl) cv :=
  opt_map (P := fun x => Grow B σ φ s x Q → WG prog w A E s Q (.ref sl) cv) hv (fun xs hx hq => getL_elim (z := WG prog w A E s Q (.ref sl)) R hx r fun a vs hl rs hn =>
    ⟨⟨_, _, hl.isList.typeIs, slot_list_getitem.lookup⟩, wpAny_getItem_list_slice hl.isList hs pl pu .none (by simp) (by rw [pick_cut]; exact hq _ _ _ (push_keeps _ _) (VR.newLst R (rs.cut lo hi) (Nat.le_trans (cut_length _ _ _) hn) 0)) (by rw [List.size_toArray, rs.length, ← roomy_eq]; exact hn)⟩) hq
/-- a cut, once its slice object stands -/
theorem op_cut {v : V} {cv : Value} {x : V} {lo hi : Option Int} {sl : Addr} {vl vu : Value} (hv : vCut σ v lo hi = some x) (R : SR B σ φ s.heap) (r : VR B σ φ s.heap v cv)
    (hs : s.heap.IsSliceOf sl vl vu .none) (pl : IsPart vl lo) (pu : IsPart vu hi)
    (hq : Grow B σ φ s x Q) : WG prog w A E s Q (.ref sl) cv := by
  unfold vCut at hv
  by_cases hsm : (smallO lo && smallO hi) = true
  case neg => rw [if_neg hsm] at hv; exact no_some hv
  rw [if_pos hsm] at hv
  cases v with
  | str x0 => exact is_some (P := fun x => Grow B σ φ s x Q → WG prog w A E s Q (.ref sl) cv) hv (fun hq => inText (z := WG prog w A E s Q (.ref sl)) r fun t hx => cut_str hx hs pl pu hq) hq
  | tup xs => exact if_some (P := fun x => Grow B σ φ s x Q → WG prog w A E s Q (.ref sl) cv) hv (fun hc hq => inTup (z := WG prog w A E s Q (.ref sl)) r fun a vs ht rs hn => cut_tup hc ht rs hn R hs pl pu hq) hq
  | lst xs => exact cut_lst (v := .lst xs) hv R r hs pl pu hq
  | ref i => exact cut_lst (v := .ref i) hv R r hs pl pu hq
  | _ => exact no_some hv
end

end Mine

namespace Mine
open PySem PyProof.Rows PySem.Calls

section
variable {prog : Program} {w : World} {A : Around} {E : Value → Shared → Prop} {s : Shared} {B : Bs} {σ : Sg} {φ : List Addr} {Q : Value → Shared → Prop} {h : Heap}

end

end Mine

namespace Mine
open PySem PyProof.Rows PySem.Calls

section
variable {prog : Program} {w : World} {A : Around} {E : Value → Shared → Prop} {s : Shared} {B : Bs} {σ : Sg} {φ : List Addr} {Q : Value → Shared → Prop} {h : Heap}

theorem valueAt_isSome (kvs : List (Int × Value)) (k : Int) : (valueAt kvs k).isSome = decide (k ∈ kvs.map (·.1)) := by
  unfold valueAt
  rw [Option.isSome_map, Bool.eq_iff_iff]
  simp [List.find?_isSome]
theorem atKey_isSome (kvs : List (List Int × Addr × Value)) (k : List Int) : (atKey kvs k).isSome = decide (k ∈ kvs.map (·.1)) := by
  unfold atKey
  rw [Option.isSome_map, Bool.eq_iff_iff]
  simp [List.find?_isSome]

theorem intKey (k : Int) (t : Tok) : (intKind prog w).is k (.int k t) = true := by simp [intKind, Value.isInt]

theorem ints_items : ∀ {l : List Int} {vs : List Value}, VRs B σ φ h (l.map V.int) vs → PySem.ItemsAre (intKind prog w) l vs
  | [], _, r => inNil (z := PySem.ItemsAre (intKind prog w) []) r .nil
  | i :: l, _, r => inCons (z := PySem.ItemsAre (intKind prog w) (i :: l)) r fun v ws a rs => inInt (z := fun v => PySem.ItemsAre (intKind prog w) (i :: l) (v :: ws)) a fun t => .cons (intKey i t) (ints_items rs)

theorem tupKey {a : Addr} {vs : List Value} {xs : List V} {l : List Int} (ht : PTup h a vs.toArray) (rs : VRs B σ φ h xs vs) (hl : intsV xs = some l) : (tupleKind (intKind prog w)).is h l a := by
  obtain ⟨n, e⟩ := ht
  exact ⟨_, _, n, e, rfl, rfl, ints_items (ints_get hl ▸ rs)⟩

theorem op_in_dictI {i : Nat} {ks : List Int} {k : Int} {ck cd : Value} (hi : σ[i]? = some (.dictI ks)) (hB : prog = B.prog ∧ w = B.w) (R : SR B σ φ s.heap) (rk : VR B σ φ s.heap (.int k) ck) (r : VR B σ φ s.heap (.ref i) cd) : WI prog w A E s Q ck cd (decide (k ∈ ks)) :=
  inInt (z := fun ck => WI prog w A E s Q ck cd (decide (k ∈ ks))) rk fun t => inRef (z := fun cd => WI prog w A E s Q (.int k t) cd (decide (k ∈ ks))) r fun a ha => by
    obtain ⟨a', e1, ⟨kvs, D, ek⟩, hr⟩ := R.dictI i ks hi
    rw [← Option.some.inj (ha.symm.trans e1)] at D
    have hs := R.sys _ (List.mem_of_getElem? ha)
    rw [hB.1, hB.2, ← ek, ← valueAt_isSome]
    exact ⟨fun hq => wpAny_in_of (intKey k t) hs D.mapOf (hq _), fun hq => wpAny_notIn_of (intKey k t) hs D.mapOf (hq _)⟩

theorem op_in_dictP {i : Nat} {ks : List (List Int)} {xs : List V} {l : List Int} {cd ck : Value} (hi : σ[i]? = some (.dictP ks)) (hl : intsV xs = some l) (hB : prog = B.prog ∧ w = B.w) (R : SR B σ φ s.heap)
    (rk : VR B σ φ s.heap (.tup xs) ck) (r : VR B σ φ s.heap (.ref i) cd) (hu : A.units + 64 < cLine) : WI prog w A E s Q ck cd (decide (l ∈ ks)) :=
  inTup (z := fun ck => WI prog w A E s Q ck cd (decide (l ∈ ks))) rk fun b vs ht rs _ => inRef (z := fun cd => WI prog w A E s Q (.ref b) cd (decide (l ∈ ks))) r fun a ha => by
    obtain ⟨a', e1, ⟨kvs, D, ek⟩, hr⟩ := R.dictP i ks hi
    rw [← Option.some.inj (ha.symm.trans e1)] at D
    have hs := R.sys _ (List.mem_of_getElem? ha)
    have hroom : (tupleKind (intKind B.prog B.w)).room A.in1 := tupleKind_room_in1 (by omega)
    rw [hB.1, hB.2, ← ek, ← atKey_isSome]
    exact ⟨fun hq => wpAny_in_heap hroom (tupKey ht rs hl) hs D (hq _), fun hq => wpAny_notIn_heap hroom (tupKey ht rs hl) hs D (hq _)⟩

theorem op_inG {a : V} {ca cb : Value} {ys : List V} {u : Bool} (hv : inG a ys = some u) (H : Holds3 B σ φ s.heap cb ys) (ra : VR B σ φ s.heap a ca) (hu : A.units + 64 < cLine) : WI prog w A E s Q ca cb u :=
  if_some (P := WI prog w A E s Q ca cb) hv fun hp => and_two hp fun h1 h2 => op_in_seq H h1 h2 ra hu
theorem op_inSeq {a : V} {ca cb : Value} {ys : List V} {u : Bool} (hv : inSeq a ys = some u) (H : Holds3 B σ φ s.heap cb ys) (ra : VR B σ φ s.heap a ca) (hu : A.units + 64 < cLine) : WI prog w A E s Q ca cb u := by
  cases a with
  | str z =>
    replace hv : (match strsV ys with | some l => inStrs z l | none => inG (.str z) ys) = some u := hv
    cases hl : strsV ys with
    | none => rw [hl] at hv; exact op_inG hv H ra hu
    | some l =>
      rw [hl] at hv
      exact if_some (P := WI prog w A E s Q ca cb) hv fun hp => and_two hp fun h1 h2 => op_in_strs H hl h1 h2 ra hu
  | _ => exact op_inG hv H ra hu
theorem in_sign {c : Nat} {x : List Nat} {t t' : Tok} : WI prog w A E s Q (.str ⟨[c].toArray⟩ t) (.str ⟨x.toArray⟩ t') (x.contains c) := by
  have e : Txt.contains ⟨x.toArray⟩ ⟨[c].toArray⟩ = x.contains c := by
    show (!(Builtin.Str.occurrences ⟨x.toArray⟩ ⟨#[c]⟩ 0 (⟨x.toArray⟩ : Str).length 1).isEmpty) = _
    rw [StrLaws.found_one]
    simp
  exact ⟨fun hq => SB.contains (by rw [e]; exact hq s.toks), fun hq => SB.notContains (by rw [e]; exact hq s.toks)⟩
theorem op_inStr {a : V} {ca cb : Value} {x : List Nat} {u : Bool} (hv : inStr a x = some u) (ra : VR B σ φ s.heap a ca) (rb : VR B σ φ s.heap (.str x) cb) : WI prog w A E s Q ca cb u := by
  cases a with
  | str z =>
    refine inText (z := fun ca => WI prog w A E s Q ca cb u) ra fun t _ => inText (z := fun cb => WI prog w A E s Q (.str ⟨z.toArray⟩ t) cb u) rb fun t' _ => ?_
    cases z with
    | nil => exact no_some hv
    | cons c r => cases r with
      | nil => exact is_some (P := WI prog w A E s Q (.str ⟨[c].toArray⟩ t) (.str ⟨x.toArray⟩ t')) hv in_sign
      | cons _ _ => exact no_some hv
  | _ => exact no_some hv
theorem op_inCell {a : V} {ca cb : Value} {i : Nat} {u : Bool} (hv : inCell a σ[i]? = some u) (hB : prog = B.prog ∧ w = B.w) (R : SR B σ φ s.heap) (ra : VR B σ φ s.heap a ca) (rb : VR B σ φ s.heap (.ref i) cb) (hu : A.units + 64 < cLine) : WI prog w A E s Q ca cb u := by
  cases hi : σ[i]? with
  | none => rw [hi] at hv; exact no_some hv
  | some c =>
    rw [hi] at hv
    cases c with
    | lst xs => exact op_inSeq hv (holds3 (.inr (.inr ⟨_, rfl, hi⟩)) R rb) ra hu
    | dictI ks => cases a with
      | int k => exact is_some (P := WI prog w A E s Q ca cb) hv (op_in_dictI hi hB R ra rb)
      | _ => exact no_some hv
    | dictP ks => cases a with
      | tup xs => exact opt_map (P := WI prog w A E s Q ca cb) hv fun l hl => op_in_dictP hi hl hB R ra rb hu
      | _ => exact no_some hv
    | dead => exact no_some hv
theorem op_in {a b : V} {ca cb : Value} {u : Bool} (hv : vIn σ a b = some u) (hB : prog = B.prog ∧ w = B.w) (R : SR B σ φ s.heap) (ra : VR B σ φ s.heap a ca) (rb : VR B σ φ s.heap b cb) (hu : A.units + 64 < cLine) : WI prog w A E s Q ca cb u := by
  cases b with
  | str x => exact op_inStr hv ra rb
  | ref i => exact op_inCell hv hB R ra rb hu
  | lst xs => exact op_inSeq hv (holds3 (.inl rfl) R rb) ra hu
  | tup xs => exact op_inSeq hv (holds3 (.inr (.inl rfl)) R rb) ra hu
  | _ => exact no_some hv

theorem not_map {o : Option Bool} {t : Bool} {z : Bool → Prop} (h : o.map not = some t) (k : ∀ u, o = some u → z (!u)) : z t := opt_map h k
theorem op_cmp {op : Cop} {a b : V} {ca cb : Value} {t : Bool} (hv : vCmp σ op a b = some t) (hB : prog = B.prog ∧ w = B.w) (R : SR B σ φ s.heap) (ra : VR B σ φ s.heap a ca) (rb : VR B σ φ s.heap b cb)
    (hu : A.units + 64 < cLine) (hq : ∀ tk, Q (.bool t) { s with toks := tk }) : WC prog w A E s Q (cop op) ca cb := by
  cases op with
  | eq => exact (op_eq hv R ra rb hu).1 (hq s.toks)
  | ne => exact not_map (z := fun t => (∀ tk, Q (.bool t) { s with toks := tk }) → WC prog w A E s Q .NotEq ca cb) hv (fun u h1 hq => (op_eq h1 R ra rb hu).2 (hq s.toks)) hq
  | isin => exact (op_in hv hB R ra rb hu).1 hq
  | notin => exact not_map (z := fun t => (∀ tk, Q (.bool t) { s with toks := tk }) → WC prog w A E s Q .NotIn ca cb) hv (fun u h1 hq => (op_in h1 hB R ra rb hu).2 hq) hq
  | is => exact (op_is hv ra rb).1 (hq s.toks)
  | isnot => exact not_map (z := fun t => (∀ tk, Q (.bool t) { s with toks := tk }) → WC prog w A E s Q .IsNot ca cb) hv (fun u h1 hq => (op_is h1 ra rb).2 (hq s.toks)) hq
  | lt => exact ii_VR (P := WC prog w A E s Q .Lt) hv ra rb fun i j t u e => P.lt_int (Option.some.inj e ▸ hq s.toks)
  | le => exact ii_VR (P := WC prog w A E s Q .LtE) hv ra rb fun i j t u e => P.le_int (Option.some.inj e ▸ hq s.toks)
  | gt => exact ii_VR (P := WC prog w A E s Q .Gt) hv ra rb fun i j t u e => P.gt_int (Option.some.inj e ▸ hq s.toks)
  | ge => cases hv
/-! what turns a live list -/
theorem plain_upd {a : Addr} {items : Array Value} (hl : h.PlainList a items) (f : Array Value → Array Value) :
    (h.update a (Obj.mapSeq f)).PlainList a (f items) ∧ ∀ b o, b ≠ a → h.get? b = some o → (h.update a (Obj.mapSeq f)).get? b = some o := by
  obtain ⟨n, ho⟩ := hl
  refine ⟨⟨_, (Heap.get?_update_self _ ho rfl).trans rfl⟩, fun b o hb e => ?_⟩
  rw [Heap.get?_update_other _ _ (Ne.symm hb)]; exact e

theorem upd_list {i : Nat} {xs ys : List V} {a : Addr} {vs ws : List Value} (f : Array Value → Array Value) (R : SR B σ φ h) (hi : σ[i]? = some (.lst xs)) (ha : φ[i]? = some a) (hl : h.PlainList a vs.toArray)
    (e : f vs.toArray = ws.toArray) (r : VRs B σ φ h ys ws) (hx : ys.length ≤ roomy) :
    SR B (σ.set i (.lst ys)) φ (h.update a (Obj.mapSeq f)) ∧ Stp W0 σ φ h (σ.set i (.lst ys)) φ (h.update a (Obj.mapSeq f)) := by
  obtain ⟨h1, h2⟩ := plain_upd hl f
  exact R.updL hi ha h2 (e ▸ h1) r hx

/-- what a step into a new state hands on -/
noncomputable def Post (B : Bs) (s : Shared) (σ : Sg) (φ : List Addr) (σ' : Sg) (v : V) (cv : Value) (s' : Shared) : Prop :=
  ∃ φ' h' tk, s' = { s with heap := h', toks := tk } ∧ SR B σ' φ' h' ∧ Stp W0 σ φ s.heap σ' φ' h' ∧ VR B σ' φ' h' v cv

/-- what turns a list must show -/
noncomputable def WM (prog : Program) (w : World) (A : Around) (E : Value → Shared → Prop) (s : Shared) (pos : Pos) (nm : String) (Q : Value → Shared → Prop) (co : Value) : Prop := ∃ a, co = .ref a ∧ wpAny (model prog w) A (callWith pos (.builtin nm) [co] [] []) Q E s
theorem ref_elim {α : Type} {f : Nat → Option α} {o : V} {a : α} {z : V → Prop} (e : (match o with | .ref r => f r | _ => none) = some a) (k : ∀ r, f r = some a → z (.ref r)) : z o := by
  cases o with
  | ref r => exact k r e
  | _ => exact no_some e
theorem pop_arr (vs : List Value) (h : 0 < vs.length) : vs.toArray.eraseIdxIfInBounds (vs.length - 1) = vs.dropLast.toArray := by
  unfold Array.eraseIdxIfInBounds
  rw [dif_pos (by rw [List.size_toArray]; exact Nat.sub_lt h Nat.zero_lt_one), List.eraseIdx_toArray, List.eraseIdx_eq_take_drop_succ, List.drop_eq_nil_of_le (by omega), List.append_nil, List.dropLast_eq_take]
theorem op_pop {o v : V} {co : Value} {σ' : Sg} {pos : Pos} (hv : vPop σ o = some (v, σ')) (R : SR B σ φ s.heap) (ro : VR B σ φ s.heap o co) : WM prog w A E s pos "list.pop" (Post B s σ φ σ' v) co :=
  ref_elim (z := fun o => VR B σ φ s.heap o co → WM prog w A E s pos "list.pop" (Post B s σ φ σ' v) co) hv (fun r hv ro => cell_lst hv fun xs hx hv => live_list (z := WM prog w A E s pos "list.pop" (Post B s σ φ σ' v)) R hx ro fun a vs ha hl rs hn => by
    refine opt_map (P := fun p => p = (v, σ') → WM prog w A E s pos "list.pop" (Post B s σ φ σ' v) (.ref a)) hv (fun x hxl ep => ?_) rfl
    have hlen := rs.length
    rw [List.getLast?_eq_getElem?, ← hlen] at hxl
    obtain ⟨u, e2, e3⟩ := rs.get hxl
    have hpos : 0 < vs.length := Nat.lt_of_le_of_lt (Nat.zero_le _) (List.getElem?_eq_some_iff.mp e2).1
    obtain ⟨h1, h2⟩ := upd_list (fun xs => xs.eraseIdxIfInBounds (vs.length - 1)) R hx ha hl (pop_arr vs hpos) (by rw [List.dropLast_eq_take]; exact rs.take (vs.length - 1)) (by rw [List.length_take]; exact Nat.le_trans (Nat.min_le_right _ _) hn)
    obtain ⟨n, hl⟩ := hl
    rw [hlen, ← List.dropLast_eq_take, (Prod.mk.inj ep).2] at h1 h2
    have e4 := (Prod.mk.inj ep).1 ▸ e3.mono R h2 Apart.none
    refine ⟨_, rfl, P.pop_list hl (y := u) (by rw [List.size_toArray]; simpa using e2) ?_ (by rw [List.size_toArray, rs.length, ← roomy_eq]; exact hn)⟩
    rw [List.size_toArray, hlen]
    exact ⟨φ, _, _, rfl, h1, h2, e4⟩) ro

theorem op_app {o x : V} {co cx : Value} {σ' : Sg} (hv : vApp σ o x = some σ') (R : SR B σ φ s.heap) (ro : VR B σ φ s.heap o co) (rx : VR B σ φ s.heap x cx) :
    ∃ (a : Addr) (items : Array Value) (n : Nat), co = .ref a ∧ items.size ≤ sizeLine ∧ IsL s.heap a items n ∧ Post B s σ φ σ' .none .none { s with heap := s.heap.update a (Obj.mapSeq fun xs => xs.push cx) } :=
  ref_elim (z := fun o => VR B σ φ s.heap o co → _) hv (fun r hv ro => cell_lst hv fun xs hx hv => live_list (z := fun co => ∃ (a : Addr) (items : Array Value) (n : Nat), co = .ref a ∧ items.size ≤ sizeLine ∧ IsL s.heap a items n ∧ Post B s σ φ σ' .none .none { s with heap := s.heap.update a (Obj.mapSeq fun xs => xs.push cx) }) R hx ro fun a vs ha hl rs hn =>
    if_some (P := fun σ' => ∃ (b : Addr) (items : Array Value) (n : Nat), Value.ref a = .ref b ∧ items.size ≤ sizeLine ∧ IsL s.heap b items n ∧ Post B s σ φ σ' .none .none { s with heap := s.heap.update b (Obj.mapSeq fun xs => xs.push cx) }) hv fun hsz => by
      obtain ⟨h1, h2⟩ := upd_list (fun xs => xs.push cx) R hx ha hl (by simp) (rs.append (.cons rx .nil)) (by rw [List.length_append, List.length_singleton]; exact hsz)
      obtain ⟨n, hl⟩ := hl
      exact ⟨_, _, n, rfl, by rw [List.size_toArray, rs.length, ← roomy_eq]; exact hn, hl, φ, _, _, rfl, h1, h2, .none⟩) ro

theorem stored_keys (kvs : List (Int × Value)) (k : Int) (v : Value) : (stored kvs k v).map (·.1) = if k ∈ kvs.map (·.1) then kvs.map (·.1) else kvs.map (·.1) ++ [k] := by
  unfold stored
  by_cases hk : k ∈ kvs.map (·.1)
  · have : (kvs.any fun kv => decide (kv.1 = k)) = true := by
      obtain ⟨p, hp, rfl⟩ := List.mem_map.mp hk
      exact List.any_eq_true.mpr ⟨p, hp, by simp⟩
    rw [if_pos hk, if_pos this, List.map_map]
    apply List.map_congr_left
    intro p _
    simp only [Function.comp]
    split <;> rfl
  · have : (kvs.any fun kv => decide (kv.1 = k)) = false := by
      rw [List.any_eq_false]
      intro p hp hq
      exact hk (List.mem_map.mpr ⟨p, hp, by simpa using hq⟩)
    rw [if_neg hk, this]; simp
theorem storedH_keys (kvs : List (List Int × Addr × Value)) (k : List Int) (a : Addr) (v : Value) : (storedH kvs k a v).map (·.1) = if k ∈ kvs.map (·.1) then kvs.map (·.1) else kvs.map (·.1) ++ [k] := by
  unfold storedH
  by_cases hk : k ∈ kvs.map (·.1)
  · have : (atKey kvs k).isSome = true := by rw [atKey_isSome]; simpa using hk
    rw [if_pos hk, if_pos this, keys_map_putAt]
  · have : (atKey kvs k).isSome = false := by rw [atKey_isSome]; simpa using hk
    rw [if_neg hk, this]; simp

/-- what a store must show -/
noncomputable def WS (prog : Program) (w : World) (A : Around) (E : Value → Shared → Prop) (s : Shared) (B : Bs) (σ : Sg) (φ : List Addr) (Q : Unit → Shared → Prop) (cx co ci : Value) (σ' : Sg) : Prop :=
  (∀ h' tk, SR B σ' φ h' → Stp W0 σ φ s.heap σ' φ h' → Q () { s with heap := h', toks := tk }) → wpAny (model prog w) A (setItem co ci cx) Q E s
theorem room_ins {α : Type} {k : α} {ks : List α} {p : Prop} [Decidable p] (h : ks.length < roomy) : (if p then ks else ks ++ [k]).length ≤ roomy := by
  split
  · exact Nat.le_of_lt h
  · rw [List.length_append, List.length_singleton]; exact h
theorem store_L {r : Nat} {xs : List V} {i : Int} {x : V} {co ci cx : Value} {Q : Unit → Shared → Prop} (hx : σ[r]? = some (.lst xs)) (hk : 0 ≤ i ∧ i < (xs.length : Int)) (R : SR B σ φ s.heap) (ro : VR B σ φ s.heap (.ref r) co) (ri : VR B σ φ s.heap (.int i) ci) (rx : VR B σ φ s.heap x cx) :
    WS prog w A E s B σ φ Q cx co ci (σ.set r (.lst (xs.set i.toNat x))) :=
  live_list (z := fun co => WS prog w A E s B σ φ Q cx co ci (σ.set r (.lst (xs.set i.toNat x)))) R hx ro fun a vs ha hl rs hn => inInt (z := fun ci => WS prog w A E s B σ φ Q cx (.ref a) ci (σ.set r (.lst (xs.set i.toNat x)))) ri fun t hq => by
    obtain ⟨h1, h2⟩ := upd_list (fun x => x.setIfInBounds i.toNat cx) R hx ha hl (by simp) (rs.set rx i.toNat) (by rw [List.length_set]; exact hn)
    obtain ⟨n, hl⟩ := hl
    have hn' : (xs.length : Int) ≤ 16777216 := Int.ofNat_le.mpr hn
    exact W.ki_setAt hl hk.1 (by omega) (by rw [List.size_toArray, rs.length]; exact hk.2) (hq _ _ h1 h2)
theorem store_I {r : Nat} {ks : List Int} {k : Int} {co ci cx : Value} {Q : Unit → Shared → Prop} (hx : σ[r]? = some (.dictI ks)) (hsz : ks.length < roomy) (hB : prog = B.prog ∧ w = B.w) (R : SR B σ φ s.heap) (ro : VR B σ φ s.heap (.ref r) co) (ri : VR B σ φ s.heap (.int k) ci) :
    WS prog w A E s B σ φ Q cx co ci (σ.set r (.dictI (if k ∈ ks then ks else ks ++ [k]))) :=
  inRef (z := fun co => WS prog w A E s B σ φ Q cx co ci (σ.set r (.dictI (if k ∈ ks then ks else ks ++ [k])))) ro fun a ha => inInt (z := fun ci => WS prog w A E s B σ φ Q cx (.ref a) ci (σ.set r (.dictI (if k ∈ ks then ks else ks ++ [k])))) ri fun t hq => by
    obtain ⟨a', e1, ⟨kvs, D, ek⟩, hr⟩ := R.dictI r ks hx
    rw [← Option.some.inj (ha.symm.trans e1)] at D
    have el : kvs.length = ks.length := by rw [← ek, List.length_map]
    rw [hB.1, hB.2]
    refine wpAny_setItem_pairs (intKey k t) D (fun h' D' hs => ?_) (by rw [el, ← roomy_eq]; exact Nat.le_of_lt hsz)
    obtain ⟨o', es, ep, ho, _⟩ := id D'
    have ex : (stored kvs k cx).map (·.1) = if k ∈ ks then ks else ks ++ [k] := by rw [stored_keys, ek]
    exact hq _ _ (R.updAny hx (fun x => Cell.noConfusion x) ha (fun b o hb e => hs.extBut b o hb e) ho (fun xs e => Cell.noConfusion e) (fun ks' e => by rw [← Cell.dictI.inj e]; exact ⟨⟨_, D', ex⟩, room_ins hsz⟩) (fun ks' e => Cell.noConfusion e)) (Stp.upd hx (fun x => Cell.noConfusion x) ha (fun b o hb e => hs.extBut b o hb e) ⟨_, ho⟩)
theorem store_P' {r : Nat} {ks : List (List Int)} {xs : List V} {k : List Int} {co ci cx : Value} {Q : Unit → Shared → Prop} (hx : σ[r]? = some (.dictP ks)) (hsz : ks.length < roomy) (hk : intsV xs = some k) (hB : prog = B.prog ∧ w = B.w) (R : SR B σ φ s.heap) (ro : VR B σ φ s.heap (.ref r) co) (ri : VR B σ φ s.heap (.tup xs) ci) (hu : A.units + 64 < cLine) :
    WS prog w A E s B σ φ Q cx co ci (σ.set r (.dictP (if k ∈ ks then ks else ks ++ [k]))) :=
  inRef (z := fun co => WS prog w A E s B σ φ Q cx co ci (σ.set r (.dictP (if k ∈ ks then ks else ks ++ [k])))) ro fun a ha => inTup (z := fun ci => WS prog w A E s B σ φ Q cx (.ref a) ci (σ.set r (.dictP (if k ∈ ks then ks else ks ++ [k])))) ri fun b vs ht rs hn hq => by
    obtain ⟨a', e1, ⟨kvs, D, ek⟩, hr⟩ := R.dictP r ks hx
    rw [← Option.some.inj (ha.symm.trans e1)] at D
    have el : kvs.length = ks.length := by rw [← ek, List.length_map]
    have hroom : (tupleKind (intKind B.prog B.w)).room A.in1 := tupleKind_room_in1 (by omega)
    rw [hB.1, hB.2]
    refine wpAny_setItem_heap hroom (tupKey ht rs hk) D (fun h' D' hs => ?_) (by rw [el, ← roomy_eq]; exact Nat.le_of_lt hsz)
    obtain ⟨o', es, ep, ho, _⟩ := id D'
    have ex : ∀ a, (storedH kvs k a cx).map (·.1) = if k ∈ ks then ks else ks ++ [k] := fun a => by rw [storedH_keys, ek]
    exact hq _ _ (R.updAny hx (fun x => Cell.noConfusion x) ha (fun b o hb e => hs.extBut b o hb e) ho (fun xs e => Cell.noConfusion e) (fun ks' e => Cell.noConfusion e) (fun ks' e => by rw [← Cell.dictP.inj e]; exact ⟨⟨_, D', ex _⟩, room_ins hsz⟩)) (Stp.upd hx (fun x => Cell.noConfusion x) ha (fun b o hb e => hs.extBut b o hb e) ⟨_, ho⟩)
/-- o[i] = x -/
theorem op_store {o i x : V} {co ci cx : Value} {σ' : Sg} {Q : Unit → Shared → Prop} (hv : vStore σ o i x = some σ') (hB : prog = B.prog ∧ w = B.w) (R : SR B σ φ s.heap) (ro : VR B σ φ s.heap o co) (ri : VR B σ φ s.heap i ci)
    (rx : VR B σ φ s.heap x cx) (hu : A.units + 64 < cLine) : WS prog w A E s B σ φ Q cx co ci σ' := by
  cases o with
  | ref r =>
    refine cell_elim hv (fun xs hx hv => ?_) (fun ks hx hv => ?_) (fun ks hx hv => ?_)
    · cases i with
      | int i => exact if_some (P := WS prog w A E s B σ φ Q cx co ci) hv fun hk => store_L hx hk R ro ri rx
      | _ => exact no_some hv
    · cases i with
      | int i => exact if_some (P := WS prog w A E s B σ φ Q cx co ci) hv fun hk => store_I hx hk hB R ro ri
      | _ => exact no_some hv
    · cases i with
      | tup ys =>
        by_cases hk : ks.length < roomy
        · exact opt_map (P := WS prog w A E s B σ φ Q cx co ci) ((if_pos hk).symm.trans hv) fun k hi => store_P' hx hk hi hB R ro ri hu
        · exact no_some ((if_neg hk).symm.trans hv)
      | _ => exact no_some hv
  | _ => exact no_some hv
end
end Mine

set_option maxRecDepth 100000
namespace Mine
open PySem PyProof.Rows PySem.Calls

namespace Rev
theorem owner : Manifest.owners.lookup (String.ofList ['d', 'e', 's', 'r', 'e', 'v', 'e', 'r'].reverse) = some Manifest.sig_reversed := by kernel_rfl
theorem slot_next : Slot "reversed" "__next__" "reversed.__next__" :=
  .of (owner := "reversed") (n := "__next__") (by rw [typeLookup_type, builtinLookup_eq_fast]; kernel_rfl) (by decide +kernel) (by decide +kernel) (by decide +kernel)
    (by first | exact .inl (by decide +kernel) | exact .inr (by decide +kernel)) (by rw [isSubtype_type]; kernel_rfl)
theorem entry_next : entryFor table "reversed.__next__" = some Builtin.«reversed.__next__» := entryFor_of_tree (by kernel_rfl)
theorem args_next (a : Value) : argsOk "reversed.__next__" ⟨[a], []⟩ := by
  unfold argsOk; rw [signature?_of (id := "reversed.__next__") (n := ['_', '_', 't', 'x', 'e', 'n', '_', '_']) (o := ['d', 'e', 's', 'r', 'e', 'v', 'e', 'r']) (by kernel_rfl) owner]; kernel_rfl
theorem slot_iter : Slot "reversed" "__iter__" "reversed.__iter__" :=
  .of (owner := "reversed") (n := "__iter__") (by rw [typeLookup_type, builtinLookup_eq_fast]; kernel_rfl) (by decide +kernel) (by decide +kernel) (by decide +kernel)
    (by first | exact .inl (by decide +kernel) | exact .inr (by decide +kernel)) (by rw [isSubtype_type]; kernel_rfl)
theorem args_iter (a : Value) : argsOk "reversed.__iter__" ⟨[a], []⟩ := by
  unfold argsOk; rw [signature?_of (id := "reversed.__iter__") (n := ['_', '_', 'r', 'e', 't', 'i', '_', '_']) (o := ['d', 'e', 's', 'r', 'e', 'v', 'e', 'r']) (by kernel_rfl) owner]; kernel_rfl
theorem entry_iter : entryFor table "reversed.__iter__" = some Builtin.«dict_keyiterator.__iter__» :=
  entryFor_alias (id' := "dict_keyiterator.__iter__") (by kernel_rfl) (by first | rfl | decide +kernel | (unfold String.splitOn; simp +decide [String.splitOnAux])) (by decide +kernel) (by kernel_rfl)
theorem no_reversed : typeLookup (.type "tuple") "__reversed__" = pure none := by rw [typeLookup_type, builtinLookup_eq_fast]; kernel_rfl
theorem no_dict : isSubtype (.type "tuple") (.type "dict") = pure false := by rw [isSubtype_type]; kernel_rfl
end Rev

section
variable {prog : Program} {w : World} {A : Around} {E : Value → Shared → Prop} {s : Shared}

noncomputable def trevObj (l : Addr) (i : Int) : Obj := { cls := .type "reversed", data := .fields #[.ref l, rawInt i] }
noncomputable def IsTRev (h : Heap) (a l : Addr) (i : Int) : Prop := ∃ o, h.get? a = some o ∧ o.cls = .type "reversed" ∧ o.data = .fields #[.ref l, rawInt i]
theorem IsTRev.typeIs {a l : Addr} {i : Int} (x : IsTRev s.heap a l i) : s.TypeIs (.ref a) "reversed" := let ⟨o, ho, hc, _⟩ := x; ⟨o, ho, hc⟩
theorem IsTRev.at {h h' : Heap} {a l : Addr} {i : Int} (x : IsTRev h a l i) (e : ∀ o, h.get? a = some o → h'.get? a = some o) : IsTRev h' a l i := let ⟨o, ho, r⟩ := x; ⟨o, e _ ho, r⟩

theorem code_treversed_new {l : Addr} {items : Array Value} {Q₁ : Value → Shared → Prop} (hl : IsTup s.heap l items) (hn : (items.size : Int) < 2 ^ 63)
    (h : ∀ tk, Q₁ (.ref s.heap.objs.size) { s with heap := s.heap.push (trevObj l ((items.size : Int) - 1)), toks := tk }) :
    codeAny (model prog w) A (.call (.builtin "reversed.__new__") ⟨[.type "reversed", .ref l], []⟩) (wants Q₁ E) s := by
  refine codeAny_of_tree ?_
  show wpAny _ A.in1 (do checkBuiltinCall "reversed.__new__" ⟨[.type "reversed", .ref l], []⟩; again (.builtin "reversed.__new__" ⟨[.type "reversed", .ref l], []⟩)) _ _ s
  refine wpAny_bind (wpAny_of_eq (F.newCall_reversed_1 _) (wpAny_pure ⟨plainId_quiet F.plain_reversed_new _, codeAny_builtin F.entry_reversed_new ?_⟩))
  rw [Around.under_plainId F.plain_reversed_new _]
  unfold Builtin.«reversed.__new__»
  refine wpAny_bind (wpAny_of_eq (newClass_reversed _) ?_)
  try dsimp only
  refine wpAny_bind (wpAny_of_eq (a := ()) (by first | rfl | kernel_rfl) ?_)
  refine wpAny_bind (wpAny_of_eq (a := ()) (by first | rfl | kernel_rfl) ?_)
  try dsimp only
  refine wpAny_bind (wpAny_specialOf hl.typeIs Rev.no_reversed ?_)
  try dsimp only
  refine wpAny_bind (show wpAny _ _ (isInstance (.ref l) (.type "dict") >>= _) _ _ _ from wpAny_bind (wpAny_isInstance hl.typeIs Rev.no_dict ?_))
  show wpAny _ _ (specialOf (.ref l) "__getitem__" >>= _) _ _ s
  refine wpAny_bind (wpAny_specialOf hl.typeIs slot_tuple_getitem.lookup ?_)
  show wpAny _ _ (if ["tuple.__getitem__", "str.__getitem__", "bytes.__getitem__", "bytearray.__getitem__", "memoryview.__getitem__", "numpy.ndarray.__getitem__", "sqlite3.Row.__getitem__"].contains "tuple.__getitem__" = true then pure true else _) _ _ s
  rw [if_pos (by decide +kernel)]
  refine wpAny_pure ?_
  show wpAny _ _ (if (!true) = true then _ else _) _ _ s
  rw [if_neg (by decide)]
  refine wpAny_bind (len_tuple hl hn ?_)
  refine wpAny_bind (m := asInt? (.int (items.size : Int) _)) (wpAny_pure ?_)
  show wpAny _ _ (Builtin.SmallTypes.newRecord (Value.type "reversed") [Value.ref l, rawInt ((items.size : Int) - 1)] >>= _) _ _ _
  refine wpAny_bind ?_
  show wpAny _ _ (newObj (.type "reversed") (.fields #[Value.ref l, rawInt ((items.size : Int) - 1)])) _ _ _
  refine wpAny_newObj_type ?_ (by size_fits)
  exact wpAny_pure (h _)

namespace Rev
theorem slot_init : Slot "reversed" "__init__" "object.__init__" :=
  .of (owner := "object") (n := "__init__") (by rw [typeLookup_type, builtinLookup_eq_fast]; kernel_rfl) (by decide +kernel) (by decide +kernel) (by decide +kernel)
    (by first | exact .inl (by decide +kernel) | exact .inr (by decide +kernel)) (by rw [isSubtype_type]; kernel_rfl)
theorem called : TypeCalled "reversed" "reversed.__new__" "object.__init__" :=
  ⟨by decide +kernel, F.create_reversed, ⟨_, _, F.mro_reversed⟩, F.made_reversed, F.plain_reversed_new, F.sub_reversed_self, slot_init⟩
end Rev

theorem call_treversed {l : Addr} {items : Array Value} {Q : Value → Shared → Prop} (hl : IsTup s.heap l items) (hn : (items.size : Int) < 2 ^ 63)
    (h : ∀ tk, Q (.ref s.heap.objs.size) { s with heap := s.heap.push (trevObj l ((items.size : Int) - 1)), toks := tk }) : wpAny (model prog w) A (call (.type "reversed") [.ref l]) Q E s := by
  refine callType_codes (Q₁ := fun obj s₁ => s₁.TypeIs obj "reversed" ∧ Q obj s₁) Rev.called (F.typeCall_reversed_1 _) F.entry_object_init
    (code_treversed_new hl hn fun tk => ⟨⟨_, Heap.get?_push_size _ rfl, rfl⟩, h tk⟩) fun obj s₁ h₁ => ?_
  exact ⟨h₁.1, F.args_object_init_2 obj _, object_init_meets Rev.called.init.lookup Rev.called.made (by decide) prog w A.in1 _ s₁ ⟨h₁.1, rfl, h₁.2⟩⟩

theorem next_trev_item {it l : Addr} {i : Nat} {items : Array Value} {x : Value} {Q : Option Value → Shared → Prop} (hit : IsTRev s.heap it l (i : Int)) (hl : IsTup s.heap l items) (hx : items[i]? = some x) (hn : (items.size : Int) < 2 ^ 63)
    (hQ : ∀ h' tk, IsTRev h' it l ((i : Int) - 1) → Heap.SameBut it s.heap h' → Q (some x) { s with heap := h', toks := tk }) : wpAny (model prog w) A (pyNext (.ref it)) Q E s := by
  obtain ⟨o, ho, hc, hd⟩ := id hit
  have hi : i < items.size := (Array.getElem?_eq_some_iff.mp hx).1
  unfold pyNext
  refine wpAny_bind (wpAny_attempt (wpAny_callSpecial?_slot (name := Str.ofString "__next__") hit.typeIs Rev.slot_next
    (wpAny_call_entry Rev.slot_next hit.typeIs Rev.entry_next ?_ (Rev.args_next _))))
  unfold Builtin.«reversed.__next__»
  refine wpAny_bind (wpAny_of_eq (a := (Value.ref it, [])) rfl ?_)
  try dsimp only
  refine wpAny_bind (wpAny_field ho hd (x := .ref l) rfl ?_)
  show wpAny _ _ (field (.ref it) 1 >>= _) _ _ s
  refine wpAny_bind (wpAny_field ho hd (x := rawInt (i : Int)) rfl ?_)
  show wpAny _ _ (if (i : Int) < 0 then _ else _) _ _ s
  rw [if_neg (by omega)]
  show wpAny _ _ (specialOf (.ref l) "__getitem__" >>= _) _ _ s
  refine wpAny_bind (wpAny_specialOf hl.typeIs slot_tuple_getitem.lookup ?_)
  show wpAny _ _ (mkInt (i : Int) >>= _) _ _ s
  refine wpAny_bind (wpAny_mkInt ?_)
  refine wpAny_bind (wpAny_attempt (getItem_tuple hl (by omega) (by omega) (j := i) ?_ hx ?_))
  · unfold seqIndex?; simp; omega
  show wpAny _ _ (field (.ref it) 1 >>= _) _ _ _
  refine wpAny_bind (wpAny_field ho hd (x := rawInt (i : Int)) rfl ?_)
  show wpAny _ _ (setField (.ref it) 1 (rawInt ((i : Int) - 1)) >>= _) _ _ _
  refine wpAny_bind (wpAny_setField ho hd (by simp) ?_)
  refine wpAny_pure ⟨x, rfl, wpAny_pure (hQ _ _ ?_ (Heap.SameBut.update ..))⟩
  exact ⟨_, Heap.get?_update_self _ ho (Obj.isFreed_of_fields (Obj.data_mapFields hd _)), (Obj.cls_mapFields ..).trans hc, by
    rw [Obj.data_mapFields hd]; simp⟩

theorem next_trev_end {it l : Addr} {Q : Option Value → Shared → Prop} (hh : A.handled = none) (hit : IsTRev s.heap it l (-1))
    (hQ : ∀ h', Heap.ExtBut it s.heap h' → Q none { s with heap := h' }) : wpAny (model prog w) A (pyNext (.ref it)) Q E s := by
  obtain ⟨o, ho, hc, hd⟩ := id hit
  unfold pyNext
  refine wpAny_bind (wpAny_attempt (wpAny_callSpecial?_slot (name := Str.ofString "__next__") hit.typeIs Rev.slot_next
    (wpAny_call_entry Rev.slot_next hit.typeIs Rev.entry_next ?_ (Rev.args_next _))))
  unfold Builtin.«reversed.__next__»
  refine wpAny_bind (wpAny_of_eq (a := (Value.ref it, [])) rfl ?_)
  try dsimp only
  refine wpAny_bind (wpAny_field ho hd (x := .ref l) rfl ?_)
  show wpAny _ _ (field (.ref it) 1 >>= _) _ _ s
  refine wpAny_bind (wpAny_field ho hd (x := rawInt (-1)) rfl ?_)
  show wpAny _ _ (if (-1 : Int) < 0 then _ else _) _ _ s
  rw [if_pos (by decide)]
  refine wpAny_bind (wpAny_rule ?_)
  refine wpAny_bind (show wpAny _ _ (setField (.ref it) 1 (rawInt (-1)) >>= fun _ => setField (.ref it) 0 .none) _ _ _ from wpAny_bind (wpAny_setField ho hd (by simp) ?_))
  have ho2 := Heap.get?_update_self (h := s.heap) (a := it) (fun o => o.mapFields fun fs => fs.set! 1 (rawInt (-1))) ho (Obj.isFreed_of_fields (Obj.data_mapFields hd _))
  refine wpAny_setField ho2 (Obj.data_mapFields hd _) (by simp) ?_
  first
  | show wpAny _ _ (newExc (.type "StopIteration") [] >>= _) _ _ _
  | (refine wpAny_bind ?_; show wpAny _ _ (newExc (.type "StopIteration") [] >>= _) _ _ _)
  refine wpAny_bind ?_
  simp only [newExc, newTuple]
  refine wpAny_bind (wpAny_newObj_type ?_ (by size_fits))
  refine wpAny_bind (m := firstArgMember _ _) (wpAny_of_eq (a := Value.none) (by first | rfl | (simp only [firstArgMember]; rfl)) ?_)
  refine wpAny_newObj_type ?_ (by size_fits)
  simp only [raiseNew]
  refine wpAny_bind (wpAny_handled ?_)
  first | rw [show A.in1.handled = none from hh] | rw [hh]
  refine wpAny_bind (wpAny_pure (wpAny_throw ?_))
  refine wpAny_bind (wpAny_isInstance (T := "StopIteration") (b := true) ⟨_, Heap.get?_push_size _ rfl, rfl⟩ isSubtype_stop ?_)
  exact wpAny_pure (hQ _ ((((Heap.ExtBut.refl _ _).trans (Heap.SameBut.update ..).extBut |>.trans (Heap.SameBut.update ..).extBut).push _).push _))

theorem iter_trev {it l : Addr} {i : Int} {Q : Value → Shared → Prop} (hit : IsTRev s.heap it l i) (h : Q (.ref it) s) : wpAny (model prog w) A (pyIter (.ref it)) Q E s := by
  refine wpAny_pyIter_slot hit.typeIs Rev.slot_iter (wpAny_call_entry Rev.slot_iter hit.typeIs Rev.entry_iter ?_ (Rev.args_iter _))
  show wpAny _ _ (ret (.ref it)) _ _ s
  exact wpAny_pure ⟨_, rfl, "reversed", _, hit.typeIs, Rev.slot_next.lookup, h⟩
end

theorem Walks.tupRev {prog : Program} {w : World} {A : Around} (hh : A.handled = none) (I l : Addr) (hne : l ≠ I) (items : Array Value) (hn : (items.size : Int) < 2 ^ 63) :
    Walks prog w A I [I, l] [I] items.size (fun i v => items[items.size - 1 - i]? = some v) (fun i h => i ≤ items.size ∧ IsTRev h I l ((items.size : Int) - 1 - (i : Int)) ∧ IsTup h l items) where
  sub := fun b hb => by simp at hb; simp [hb]
  frame := fun _ _ _ x hk => ⟨x.1, x.2.1.at fun o e => hk I (by simp) o e, let ⟨o, e, r⟩ := x.2.2; ⟨o, hk l (by simp) o e, r⟩⟩
  item := fun i s Q E hi x hQ => by
    have e : (items.size : Int) - 1 - (i : Int) = ((items.size - 1 - i : Nat) : Int) := by omega
    have hit := x.2.1
    rw [e] at hit
    have hx : items[items.size - 1 - i]? = some (items[items.size - 1 - i]'(by omega)) := Array.getElem?_eq_getElem (by omega)
    refine next_trev_item hit x.2.2 hx hn fun h' tk hit' hs' => ?_
    have e2 : ((items.size - 1 - i : Nat) : Int) - 1 = (items.size : Int) - 1 - ((i + 1 : Nat) : Int) := by omega
    rw [e2] at hit'
    exact hQ _ h' tk hx ⟨hi, hit', let ⟨o, eo, r⟩ := x.2.2; ⟨o, (hs'.2 l hne).trans eo, r⟩⟩ fun b o hb eo => hs'.extBut b o (fun h => hb (by simp [h])) eo
  done := fun s Q E x hQ => by
    have e : (items.size : Int) - 1 - (items.size : Int) = -1 := by omega
    have hit := x.2.1
    rw [e] at hit
    exact next_trev_end hh hit fun h' he' => hQ h' s.toks fun b o hb eo => he' b o (fun h => hb (by simp [h])) eo
  self := fun _ _ _ _ x hQ => iter_trev x.2.1 hQ
end Mine

namespace Mine
open PySem PyProof.Rows PySem.Calls

noncomputable def Fixed (h : Heap) (b : Addr) : Prop := ∃ o, h.get? b = some o ∧ ((∃ xs n, o.data = .seq xs n) ∨ ((∃ fs, o.data = .fields fs) ∧ ∃ T, o.cls = .type T))

/-- an iterator that goes through items -/
structure Iter (B : Bs) (A : Around) (σ : Sg) (φ : List Addr) (h : Heap) (items : List V) (I : Addr) (fp wr : List Addr) (n : Nat) (P : Nat → Value → Prop) (St : Nat → Heap → Prop) : Prop where
  walks : Walks B.prog B.w A I fp wr n P St
  len : n = items.length
  st : St 0 h
  wr : ∀ b ∈ wr, b = I
  fix : ∀ i h', St i h' → ∀ b ∈ fp, Fixed h' b
  self : ∀ i h', St i h' → ∃ o, h'.get? I = some o ∧ (∃ fs, o.data = .fields fs) ∧ ∃ T, o.cls = .type T
  nl : ∀ b ∈ fp, ¬ live σ φ b
  nI : I ∉ φ
  val : ∀ i v, P i v → ∃ x, items[i]? = some x ∧ VR B σ φ h x v

noncomputable def IterAt (B : Bs) (A : Around) (h₀ : Heap) (σ : Sg) (φ : List Addr) (s : Shared) (items : List V) (it : Value) (s' : Shared) : Prop :=
  ∃ I h' tk fp wr n P St, it = .ref I ∧ s' = { s with heap := h', toks := tk } ∧ (∀ b o, s.heap.get? b = some o → h'.get? b = some o) ∧ h₀.get? I = none ∧ Iter B A σ φ h' items I fp wr n P St

/-- a value that may be iterated over, and what it yields -/
inductive ItV (B : Bs) (h₀ : Heap) (σ : Sg) (φ : List Addr) (h : Heap) : List V → Value → Prop
  | val {v : V} {cv : Value} {items : List V} : vItems .val v .none = some items → VR B σ φ h v cv → ItV B h₀ σ φ h items cv
  | rng {lo hi : Int} {r : Addr} {t u v : Tok} : small lo = true → small hi = true → IsRange h r lo hi 1 t u v → ItV B h₀ σ φ h (rangeL lo hi) (.ref r)
  | rev {xs : List V} {vs : List Value} {a I : Addr} : h.PlainList a vs.toArray → ¬ live σ φ a → VRs B σ φ h xs vs → h.IsRevIter I a ((vs.length : Int) - 1) → I ∉ φ → a ≠ I → h₀.get? I = none → ItV B h₀ σ φ h xs.reverse (.ref I)
  | trev {xs : List V} {vs : List Value} {a I : Addr} : IsTup h a vs.toArray → ¬ live σ φ a → VRs B σ φ h xs vs → xs.length ≤ roomy → IsTRev h I a ((vs.length : Int) - 1) → I ∉ φ → a ≠ I → h₀.get? I = none → ItV B h₀ σ φ h xs.reverse (.ref I)

theorem IterAt.of {B : Bs} {A : Around} {h₀ : Heap} {σ : Sg} {φ : List Addr} {s : Shared} {items : List V} {I : Addr} {h' : Heap} {tk : Nat} {fp wr : List Addr} {n : Nat} {P : Nat → Value → Prop} {St : Nat → Heap → Prop}
    (W : Walks B.prog B.w A I fp wr n P St) (hk : ∀ b o, s.heap.get? b = some o → h'.get? b = some o) (hI : h₀.get? I = none) (it : Walks B.prog B.w A I fp wr n P St → Iter B A σ φ h' items I fp wr n P St) :
    IterAt B A h₀ σ φ s items (.ref I) { s with heap := h', toks := tk } := ⟨I, h', tk, fp, wr, n, P, St, rfl, rfl, hk, hI, it W⟩

section
variable {A : Around} {E : Value → Shared → Prop} {s : Shared} {B : Bs} {σ : Sg} {φ : List Addr} {h h₀ : Heap}

theorem SR.fresh_notmem (R : SR B σ φ s.heap) : s.heap.objs.size ∉ φ := fun L => by
  obtain ⟨o, ho⟩ := R.ex _ L
  rw [get_size] at ho; cases ho
theorem SR.fresh_notlive (R : SR B σ φ s.heap) : ¬ live σ φ s.heap.objs.size := fun L => by
  obtain ⟨o, ho⟩ := R.ex _ L.mem
  rw [get_size] at ho; cases ho

theorem rangeL_get (lo hi : Int) {i : Nat} (h : i < (hi - lo).toNat) : (rangeL lo hi)[i]? = some (.int (lo + i)) := by
  unfold rangeL
  rw [List.getElem?_map, List.getElem?_range h]; rfl
theorem rangeL_length (lo hi : Int) : (rangeL lo hi).length = (hi - lo).toNat := by simp [rangeL]
theorem rangeSize_one (lo hi : Int) : Builtin.Range.rangeSize lo hi 1 = ((hi - lo).toNat : Int) := by
  unfold Builtin.Range.rangeSize
  rw [if_pos (by omega)]
  split
  · rw [Int.ediv_one]; omega
  · omega

theorem iter_tup {a : Addr} {xs : List V} {vs : List Value} (hh : A.handled = none) (R : SR B σ φ s.heap) (fresh : h₀.get? s.heap.objs.size = none) (ht : PTup s.heap a vs.toArray) (rs : VRs B σ φ s.heap xs vs) : wpAny (model B.prog B.w) A (pyIter (.ref a)) (IterAt B A h₀ σ φ s xs) E s := by
  obtain ⟨n, ho⟩ := id ht
  have ha : a < s.heap.objs.size := Heap.lt_size ho
  have hT : s.heap.IsTuple a vs.toArray := ⟨_, ho, rfl, n, rfl⟩
  refine wpAny_pyIter_tuple hT ⟨_, _, _, [s.heap.objs.size, a], [s.heap.objs.size], vs.toArray.size, (fun i v => vs.toArray[i]? = some v), (fun i h => h.IsTupleIter s.heap.objs.size a i ∧ h.IsTuple a vs.toArray), rfl, rfl, push_keeps _ _, fresh, ?_⟩
  refine ⟨Walks.tuple hh _ a (Nat.ne_of_lt ha) vs.toArray, by rw [List.size_toArray, rs.length], ⟨⟨_, Heap.get?_push_size _ rfl, rfl, rfl⟩, hT.push _⟩, fun b hb => List.mem_singleton.mp hb, fun i h' st b hb => ?_, fun i h' st => ?_, fun b hb => ?_, R.fresh_notmem, fun i u hu => ?_⟩
  · obtain ⟨⟨o, h1, h2, h3⟩, ⟨o', h4, h5, n', h6⟩⟩ := st
    rcases List.mem_cons.mp hb with rfl | hb
    · exact ⟨o, h1, .inr ⟨⟨_, h3⟩, _, h2⟩⟩
    · rw [List.mem_singleton.mp hb]; exact ⟨o', h4, .inl ⟨_, _, h6⟩⟩
  · obtain ⟨⟨o, h1, h2, h3⟩, _⟩ := st
    exact ⟨o, h1, ⟨_, h3⟩, _, h2⟩
  · rcases List.mem_cons.mp hb with rfl | hb
    · exact R.fresh_notlive
    · rw [List.mem_singleton.mp hb]; exact R.notlive_tup ht
  · obtain ⟨x, e1, e2⟩ := rs.getV (k := i) (v := u) (by simpa using hu)
    exact ⟨x, e1, e2.grow R (push_keeps _ _)⟩
theorem iter_lst {a : Addr} {xs : List V} {vs : List Value} (hh : A.handled = none) (R : SR B σ φ s.heap) (fresh : h₀.get? s.heap.objs.size = none) (hl : s.heap.PlainList a vs.toArray) (nl : ¬ live σ φ a) (rs : VRs B σ φ s.heap xs vs) : wpAny (model B.prog B.w) A (pyIter (.ref a)) (IterAt B A h₀ σ φ s xs) E s := by
  obtain ⟨n, ho⟩ := id hl
  have ha : a < s.heap.objs.size := Heap.lt_size ho
  refine wpAny_pyIter_list hl.isList ⟨_, _, _, [s.heap.objs.size, a], [s.heap.objs.size], vs.toArray.size, (fun i v => vs.toArray[i]? = some v), (fun i h => h.IsListIter s.heap.objs.size a i ∧ h.IsList a vs.toArray), rfl, rfl, push_keeps _ _, fresh, ?_⟩
  refine ⟨Walks.list hh _ a (Nat.ne_of_lt ha) vs.toArray, by rw [List.size_toArray, rs.length], ⟨⟨_, Heap.get?_push_size _ rfl, rfl, rfl⟩, hl.isList.push _⟩, fun b hb => List.mem_singleton.mp hb, fun i h' st b hb => ?_, fun i h' st => ?_, fun b hb => ?_, R.fresh_notmem, fun i u hu => ?_⟩
  · obtain ⟨⟨o, h1, h2, h3⟩, ⟨o', h4, h5, n', h6⟩⟩ := st
    rcases List.mem_cons.mp hb with rfl | hb
    · exact ⟨o, h1, .inr ⟨⟨_, h3⟩, _, h2⟩⟩
    · rw [List.mem_singleton.mp hb]; exact ⟨o', h4, .inl ⟨_, _, h6⟩⟩
  · obtain ⟨⟨o, h1, h2, h3⟩, _⟩ := st
    exact ⟨o, h1, ⟨_, h3⟩, _, h2⟩
  · rcases List.mem_cons.mp hb with rfl | hb
    · exact R.fresh_notlive
    · rw [List.mem_singleton.mp hb]; exact nl
  · obtain ⟨x, e1, e2⟩ := rs.getV (k := i) (v := u) (by simpa using hu)
    exact ⟨x, e1, e2.grow R (push_keeps _ _)⟩
theorem iter_str {x : List Nat} {t : Tok} (hh : A.handled = none) (R : SR B σ φ s.heap) (fresh : h₀.get? s.heap.objs.size = none) : wpAny (model B.prog B.w) A (pyIter (.str ⟨x.toArray⟩ t)) (IterAt B A h₀ σ φ s (x.map fun c => .str [c])) E s := by
  have go : ∀ T, Walks B.prog B.w A s.heap.objs.size [s.heap.objs.size] [s.heap.objs.size] (⟨x.toArray⟩ : Str).cps.size (SignAt ⟨x.toArray⟩) (fun i h => h.IsStrIter s.heap.objs.size T ⟨x.toArray⟩ t i) →
      IterAt B A h₀ σ φ s (x.map fun c => .str [c]) (.ref s.heap.objs.size) { s with heap := s.heap.push { cls := .type T, data := .fields #[.str ⟨x.toArray⟩ t, .int 0 0] } } := by
    intro T W
    refine IterAt.of (tk := s.toks) W (push_keeps _ _) fresh fun W => ?_
    refine ⟨W, by simp, ⟨_, Heap.get?_push_size _ rfl, rfl, rfl⟩, fun b hb => List.mem_singleton.mp hb, fun i h' st b hb => ?_, fun i h' st => ?_, fun b hb => ?_, R.fresh_notmem, fun i u hu => ?_⟩
    · obtain ⟨o, h1, h2, h3⟩ := st
      rw [List.mem_singleton.mp hb]; exact ⟨o, h1, .inr ⟨⟨_, h3⟩, _, h2⟩⟩
    · obtain ⟨o, h1, h2, h3⟩ := st
      exact ⟨o, h1, ⟨_, h3⟩, _, h2⟩
    · rw [List.mem_singleton.mp hb]; exact R.fresh_notlive
    · obtain ⟨c, u', e1, rfl⟩ := hu
      exact ⟨.str [c], by rw [List.getElem?_map, show x[i]? = some c by simpa using e1]; rfl, .str [c] u' (by simp [roomy])⟩
  cases ha : (⟨x.toArray⟩ : Str).cps.all (· < 128)
  · exact wpAny_pyIter_wide ha (go _ (Walks.strWide hh _ _ t))
  · exact wpAny_pyIter_ascii ha (go _ (Walks.strAscii hh _ _ t))
theorem op_iter {cv : Value} {items : List V} (hv : ItV B h₀ σ φ s.heap items cv) (hh : A.handled = none) (R : SR B σ φ s.heap) (hx : ∀ b o, h₀.get? b = some o → ∃ o', s.heap.get? b = some o') :
    wpAny (model B.prog B.w) A (pyIter cv) (IterAt B A h₀ σ φ s items) E s := by
  have fresh : h₀.get? s.heap.objs.size = none := by
    cases e : h₀.get? s.heap.objs.size with
    | none => rfl
    | some o => obtain ⟨o', e'⟩ := hx _ o e; exact no_some ((get_size s.heap).symm.trans e')
  cases hv with
  | val hv r =>
    rename_i v
    cases v with
    | tup xs => exact is_some (P := fun items => wpAny (model B.prog B.w) A (pyIter cv) (IterAt B A h₀ σ φ s items) E s) hv (inTup (z := fun cv => wpAny (model B.prog B.w) A (pyIter cv) (IterAt B A h₀ σ φ s xs) E s) r fun a vs ht rs _ => iter_tup hh R fresh ht rs)
    | lst xs => exact is_some (P := fun items => wpAny (model B.prog B.w) A (pyIter cv) (IterAt B A h₀ σ φ s items) E s) hv (inLst (z := fun cv => wpAny (model B.prog B.w) A (pyIter cv) (IterAt B A h₀ σ φ s xs) E s) r fun a vs hl nl rs _ => iter_lst hh R fresh hl nl.1 rs)
    | str x => exact is_some (P := fun items => wpAny (model B.prog B.w) A (pyIter cv) (IterAt B A h₀ σ φ s items) E s) hv (inText (z := fun cv => wpAny (model B.prog B.w) A (pyIter cv) (IterAt B A h₀ σ φ s (x.map fun c => .str [c])) E s) r fun t _ => iter_str hh R fresh)
    | _ => exact no_some hv
  | rng h1 h2 hr =>
    rename_i lo hi r t u v
    have s1 := small_lo h1
    have s2 := small_lo h2
    have hsz := rangeSize_one lo hi
    have hsmall : Builtin.Range.small lo hi 1 = true := by
      unfold Builtin.Range.small
      rw [hsz]
      simp only [Builtin.Range.rangeFitsLong, Bool.and_eq_true, Bool.or_eq_true, decide_eq_true_eq, if_true, beq_iff_eq]
      simp
      omega
    refine wpAny_pyIter_range hr hsmall (IterAt.of (tk := s.toks) (Walks.range hh s.heap.objs.size lo 1 (hi - lo).toNat).bound (push_keeps _ _) fresh fun W => ?_)
    refine ⟨W, by rw [rangeL_length], ?_, fun b hb => List.mem_singleton.mp hb, fun i h' st b hb => ?_, fun i h' st => ?_, fun b hb => ?_, R.fresh_notmem, fun i u hu => ?_⟩
    · show IsRangeIter _ _ _ _ _
      rw [hsz]
      simpa using Heap.get?_push_size _ rfl
    · rw [List.mem_singleton.mp hb]; exact ⟨_, st, .inr ⟨⟨_, rfl⟩, _, rfl⟩⟩
    · exact ⟨_, st, ⟨_, rfl⟩, _, rfl⟩
    · rw [List.mem_singleton.mp hb]; exact R.fresh_notlive
    · obtain ⟨hi', t', rfl⟩ := hu
      exact ⟨.int (lo + i), rangeL_get lo hi hi', by rw [Int.mul_one]; exact .int _ _⟩
  | rev hl nl rs hr nI hne hI =>
    rename_i xs vs a I
    obtain ⟨o, ho, hc, hd⟩ := id hr
    have W := Walks.listRev (prog := B.prog) (w := B.w) hh I a hne vs.toArray
    have st0 : (0 : Nat) ≤ vs.toArray.size ∧ s.heap.IsRevIter I a ((vs.toArray.size : Int) - 1 - ((0 : Nat) : Int)) ∧ s.heap.IsList a vs.toArray := ⟨Nat.zero_le _, (by simpa using hr), hl.isList⟩
    refine W.self 0 s _ E st0 (IterAt.of (h' := s.heap) (tk := s.toks) W.bound (fun _ _ e => e) hI fun W => ?_)
    refine ⟨W, by rw [List.size_toArray, List.length_reverse, rs.length], st0, fun b hb => List.mem_singleton.mp hb, fun i h' st b hb => ?_, fun i h' st => ?_, fun b hb => ?_, nI, fun i u hu => ?_⟩
    · obtain ⟨_, ⟨o, h1, h2, h3⟩, ⟨o', h4, h5, n', h6⟩⟩ := st
      rcases List.mem_cons.mp hb with rfl | hb
      · exact ⟨o, h1, .inr ⟨⟨_, h3⟩, _, h2⟩⟩
      · rw [List.mem_singleton.mp hb]; exact ⟨o', h4, .inl ⟨_, _, h6⟩⟩
    · obtain ⟨_, ⟨o, h1, h2, h3⟩, _⟩ := st
      exact ⟨o, h1, ⟨_, h3⟩, _, h2⟩
    · rcases List.mem_cons.mp hb with rfl | hb
      · exact fun L => nI L.mem
      · rw [List.mem_singleton.mp hb]; exact nl
    · obtain ⟨hlt, hu⟩ := hu
      rw [List.size_toArray] at hlt hu
      have hu' : vs.reverse[i]? = some u := by
        rw [List.getElem?_reverse hlt]; simpa using hu
      exact rs.reverse.getV hu'
  | trev hl nl rs hn hr nI hne hI =>
    rename_i xs vs a I
    obtain ⟨o, ho, hc, hd⟩ := id hr
    have W := Walks.tupRev (prog := B.prog) (w := B.w) hh I a hne vs.toArray (by rw [List.size_toArray, rs.length]; exact room63 hn)
    have st0 : (0 : Nat) ≤ vs.toArray.size ∧ IsTRev s.heap I a ((vs.toArray.size : Int) - 1 - ((0 : Nat) : Int)) ∧ IsTup s.heap a vs.toArray := ⟨Nat.zero_le _, (by simpa using hr), hl⟩
    refine W.self 0 s _ E st0 (IterAt.of (h' := s.heap) (tk := s.toks) W.bound (fun _ _ e => e) hI fun W => ?_)
    refine ⟨W, by rw [List.size_toArray, List.length_reverse, rs.length], st0, fun b hb => List.mem_singleton.mp hb, fun i h' st b hb => ?_, fun i h' st => ?_, fun b hb => ?_, nI, fun i u hu => ?_⟩
    · obtain ⟨_, ⟨o, h1, h2, h3⟩, ⟨o', h4, h5, n', h6⟩⟩ := st
      rcases List.mem_cons.mp hb with rfl | hb
      · exact ⟨o, h1, .inr ⟨⟨_, h3⟩, _, h2⟩⟩
      · rw [List.mem_singleton.mp hb]; exact ⟨o', h4, .inl ⟨_, _, h6⟩⟩
    · obtain ⟨_, ⟨o, h1, h2, h3⟩, _⟩ := st
      exact ⟨o, h1, ⟨_, h3⟩, _, h2⟩
    · rcases List.mem_cons.mp hb with rfl | hb
      · exact fun L => nI L.mem
      · rw [List.mem_singleton.mp hb]; exact nl
    · obtain ⟨hlt, hu⟩ := hu
      rw [List.size_toArray] at hlt hu
      have hu' : vs.reverse[i]? = some u := by
        rw [List.getElem?_reverse hlt]; simpa using hu
      exact rs.reverse.getV hu'
end
end Mine

namespace Mine
open PySem PyProof.Rows PySem.Calls

noncomputable def own (env : Env) (b : Addr) : Prop := b = env.locals ∨ ∃ x, (x, b) ∈ env.cells

structure FR (B : Bs) (tbl : List (Str × Nat)) (env : Env) (Γ : Fm) (σ : Sg) (φ : List Addr) (h : Heap) : Prop where
  kind : env.scope.kind = .function
  gl : env.globals = mainGlobals
  bi : env.builtins = builtinsNs
  ns : ∃ m, h.Ns env.locals m ∧ ∀ x i v, tbl.lookup x = some i → getV Γ i = some v → env.kindOf x = some .local → ∃ cv, m x = some cv ∧ VR B σ φ h v cv
  cell : ∀ x i v, tbl.lookup x = some i → getV Γ i = some v → (env.kindOf x = some .cell ∨ env.kindOf x = some .free) → ∃ c cv, env.cells.lookup x = some c ∧ h.IsCell c (some cv) ∧ VR B σ φ h v cv
  nl : ¬ live σ φ env.locals
  cells : ∀ x c, (x, c) ∈ env.cells → ∃ v, h.IsCell c v
  newL : B.hb.get? env.locals = none
  newC : ∀ x c, (x, c) ∈ env.cells → B.hb.get? c = none
  has : ∀ x, env.kindOf x = some .cell → (env.cells.lookup x).isSome = true

section
variable {B : Bs} {W : Addr → Prop} {tbl : List (Str × Nat)} {env : Env} {Γ : Fm} {σ σ₁ σ₂ : Sg} {φ φ₁ φ₂ : List Addr} {h h₁ h₂ : Heap}

theorem SR.notlive_cell (R : SR B σ φ h) {c : Addr} {v : Option Value} (hc : h.IsCell c v) : ¬ live σ φ c := fun L => by
  obtain ⟨o, ho, hd⟩ := hc
  obtain ⟨o', ho', x⟩ := R.liveObj L
  rw [ho] at ho'; cases ho'
  rcases x with ⟨_, _, _, x⟩ | ⟨_, _, _, x⟩ <;> rw [hd] at x <;> cases x

theorem FR.apart (F : FR B tbl env Γ σ φ h) : Apart B (own env) h := by
  rintro b hb o ho
  rcases hb with rfl | ⟨x, hx⟩
  · obtain ⟨m, ⟨o', es, ep, ho', hd, _⟩, _⟩ := F.ns
    rw [ho] at ho'; cases ho'
    exact .inr ⟨fun xs n e => (by rw [hd] at e; cases e), fun fs e => (by rw [hd] at e; cases e)⟩
  · obtain ⟨v, o', ho', hd⟩ := F.cells x b hx
    rw [ho] at ho'; cases ho'
    exact .inr ⟨fun xs n e => (by rw [hd] at e; cases e), fun fs e => (by rw [hd] at e; cases e)⟩

theorem FR.fresh (F : FR B tbl env Γ σ φ h) : ∀ b, own env b → B.hb.get? b = none := by
  rintro b (rfl | ⟨x, hx⟩)
  · exact F.newL
  · exact F.newC x b hx

/-- a step that leaves the frame alone -/
theorem FR.monoq (F : FR B tbl env Γ σ φ h) (R : SR B σ φ h) (S : Stq W σ φ h σ₁ φ₁ h₁) (hw : Apart B W h) (hL : ¬ W env.locals) (hC : ∀ x c, (x, c) ∈ env.cells → ¬ W c) : FR B tbl env Γ σ₁ φ₁ h₁ := by
  obtain ⟨m, hm, hv⟩ := F.ns
  obtain ⟨o, es, ep, ho, hd, hk, hf⟩ := id hm
  have cellK : ∀ x c v, (x, c) ∈ env.cells → h.IsCell c v → h₁.IsCell c v := by
    rintro x c v hx hc
    have nl := R.notlive_cell hc
    obtain ⟨o, ho, hd⟩ := hc
    exact ⟨o, S.keep c o ho nl (hC x c hx), hd⟩
  refine ⟨F.kind, F.gl, F.bi, ⟨m, ⟨o, es, ep, S.keep _ o ho F.nl hL, hd, hk, hf⟩, fun x i v e1 e2 e3 => ?_⟩, fun x i v e1 e2 e3 => ?_, fun L => ?_, fun x c hx => ?_, F.newL, F.newC, F.has⟩
  · obtain ⟨cv, e4, e5⟩ := hv x i v e1 e2 e3
    exact ⟨cv, e4, e5.monoq R S hw⟩
  · obtain ⟨c, cv, e4, e5, e6⟩ := F.cell x i v e1 e2 e3
    exact ⟨c, cv, e4, cellK x c _ (mem_of_lookup e4) e5, e6.monoq R S hw⟩
  · rcases S.live R.len L with x | x
    · exact F.nl x
    · rw [ho] at x; cases x
  · obtain ⟨v, hv⟩ := F.cells x c hx
    exact ⟨v, cellK x c v hx hv⟩
theorem FR.mono (F : FR B tbl env Γ σ φ h) (R : SR B σ φ h) (S : Stp W σ φ h σ₁ φ₁ h₁) (hw : Apart B W h) (hL : ¬ W env.locals) (hC : ∀ x c, (x, c) ∈ env.cells → ¬ W c) : FR B tbl env Γ σ₁ φ₁ h₁ := F.monoq R S.q hw hL hC
theorem FR.mono0 (F : FR B tbl env Γ σ φ h) (R : SR B σ φ h) (S : Stp W0 σ φ h σ₁ φ₁ h₁) : FR B tbl env Γ σ₁ φ₁ h₁ := F.mono R S Apart.none (fun x => x) fun _ _ _ x => x

theorem getV_set {i j : Nat} {v x : V} (e : getV (Γ.set i v) j = some x) : (i = j ∧ x = v) ∨ (i ≠ j ∧ getV Γ j = some x) := by
  unfold getV at e ⊢
  by_cases hij : i = j
  · subst hij
    left
    by_cases hl : i < Γ.length
    · rw [List.getElem?_set_self hl] at e
      refine ⟨rfl, ?_⟩
      split at e
      · cases e
      · exact (Option.some.inj e).symm
    · rw [List.set_eq_of_length_le (by omega), List.getElem?_eq_none (by omega)] at e
      simp at e
  · right
    rw [List.getElem?_set_ne hij] at e
    exact ⟨hij, e⟩
end

section
variable {prog : Program} {w : World} {A : Around} {E : Value → Shared → Prop} {s : Shared} {B : Bs} {tbl : List (Str × Nat)} {env : Env} {Γ : Fm} {σ : Sg} {φ : List Addr}

theorem load_var {x : Str} {i : Nat} {v : V} {M : Model} {Q : Value → Shared → Prop} (F : FR B tbl env Γ σ φ s.heap) (hx : tbl.lookup x = some i) (hv : getV Γ i = some v)
    (hk : env.kindOf x = some .local ∨ env.kindOf x = some .cell ∨ env.kindOf x = some .free) (hd : x ≠ ("__classdict__" : Str)) (hq : ∀ cv, VR B σ φ s.heap v cv → Q cv s) : wpAny M A (loadName env x) Q E s := by
  rcases hk with hk | hk | hk
  · obtain ⟨m, hm, hval⟩ := F.ns
    obtain ⟨cv, e1, e2⟩ := hval x i v hx hv hk
    exact wpAny_loadName_local F.kind hk hm e1 (hq cv e2)
  · obtain ⟨c, cv, e1, e2, e3⟩ := F.cell x i v hx hv (.inl hk)
    exact wpAny_loadName_cell F.kind hk e1 e2 (hq cv e3)
  · obtain ⟨c, cv, e1, e2, e3⟩ := F.cell x i v hx hv (.inr hk)
    exact wpAny_loadName_free F.kind hk e1 e2 (hq cv e3) (by simpa using hd)

noncomputable def TInj (tbl : List (Str × Nat)) : Prop := ∀ x y i, tbl.lookup x = some i → tbl.lookup y = some i → x = y

theorem store_var {x : Str} {i : Nat} {v : V} {cv : Value} {M : Model} {Q : Unit → Shared → Prop} (R : SR B σ φ s.heap) (F : FR B tbl env Γ σ φ s.heap) (T : TInj tbl) (hap : env.cells.Pairwise fun x y => x.2 ≠ y.2) (hx : tbl.lookup x = some i)
    (hk : env.kindOf x = some .local ∨ (env.kindOf x = some .cell ∧ (env.cells.lookup x).isSome = true)) (r : VR B σ φ s.heap v cv)
    (hq : ∀ h' tk, SR B σ φ h' → FR B tbl env (Γ.set i v) σ φ h' → Stp (own env) σ φ s.heap σ φ h' → Q () { s with heap := h', toks := tk }) : wpAny M A (storeName env x cv) Q E s := by
  have liveKeep : ∀ c h', (c = env.locals ∨ ∃ y, (y, c) ∈ env.cells) → Heap.SameBut c s.heap h' → (∀ a o, live σ φ a → s.heap.get? a = some o → h'.get? a = some o) := by
    intro c h' hc hs a o L e
    refine hs.extBut a o (fun q => ?_) e
    subst q
    rcases hc with rfl | ⟨y, hy⟩
    · exact F.nl L
    · obtain ⟨u, hu⟩ := F.cells y a hy
      exact R.notlive_cell hu L
  have stp : ∀ c h', (c = env.locals ∨ ∃ y, (y, c) ∈ env.cells) → Heap.SameBut c s.heap h' → (∃ o, h'.get? c = some o) → Stp (own env) σ φ s.heap σ φ h' := by
    intro c h' hc hs hx
    refine ⟨fun _ _ e => e, fun j b hj e => (by rw [List.getElem?_eq_none hj] at e; cases e), fun _ e => e, fun b o e hl hW => hs.extBut b o (fun q => hW (q ▸ hc)) e, fun b o e => ?_⟩
    by_cases q : b = c
    · rw [q]; exact hx
    · exact ⟨o, hs.extBut b o q e⟩
  obtain ⟨m, hm, hval⟩ := F.ns
  have cellNe : ∀ y c u, (y, c) ∈ env.cells → s.heap.IsCell c u → c ≠ env.locals := by
    rintro y c u hy ⟨o, ho, hd⟩ rfl
    obtain ⟨o', es, ep, ho', hd', _⟩ := hm
    rw [ho] at ho'; cases ho'
    rw [hd] at hd'; cases hd'
  rcases hk with hk | ⟨hk, hc⟩
  · refine wpAny_storeName_local hk hm (fun h' hn hs => ?_) (by rw [F.kind]; rfl)
    have S := stp env.locals h' (.inl rfl) hs (let ⟨o, _, _, e, _⟩ := hn; ⟨o, e⟩)
    have R' := R.carry S F.apart (liveKeep _ h' (.inl rfl) hs) F.fresh
    refine hq h' _ R' ⟨F.kind, F.gl, F.bi, ⟨_, hn, fun y j u e1 e2 e3 => ?_⟩, fun y j u e1 e2 e3 => ?_, F.nl, fun y c hy => ?_, F.newL, F.newC, F.has⟩ S
    · rcases getV_set e2 with ⟨rfl, rfl⟩ | ⟨hij, e2⟩
      · have : y = x := T y x i e1 hx
        subst this
        exact ⟨cv, by simp, r.mono R S F.apart⟩
      · have : y ≠ x := fun q => hij (by rw [q, hx] at e1; exact Option.some.inj e1)
        obtain ⟨cu, e4, e5⟩ := hval y j u e1 e2 e3
        exact ⟨cu, by simp [this, e4], e5.mono R S F.apart⟩
    · rcases getV_set e2 with ⟨rfl, rfl⟩ | ⟨hij, e2⟩
      · have : y = x := T y x i e1 hx
        subst this
        rw [hk] at e3
        rcases e3 with e3 | e3 <;> cases e3
      · obtain ⟨c, cu, e4, e5, e6⟩ := F.cell y j u e1 e2 e3
        exact ⟨c, cu, e4, e5.sameBut hs (cellNe y c _ (mem_of_lookup e4) e5), e6.mono R S F.apart⟩
    · obtain ⟨u, hu⟩ := F.cells y c hy
      exact ⟨u, hu.sameBut hs (cellNe y c u hy hu)⟩
  · obtain ⟨c, hc⟩ := Option.isSome_iff_exists.mp hc
    have hmem := mem_of_lookup hc
    obtain ⟨v₀, hv₀⟩ := F.cells x c hmem
    refine wpAny_storeName_cell F.kind hk hc hv₀ fun h' hc' hs => ?_
    have S := stp c h' (.inr ⟨x, hmem⟩) hs (let ⟨o, e, _⟩ := hc'; ⟨o, e⟩)
    have R' := R.carry S F.apart (liveKeep _ h' (.inr ⟨x, hmem⟩) hs) F.fresh
    have hne := cellNe x c v₀ hmem hv₀
    refine hq h' _ R' ⟨F.kind, F.gl, F.bi, ⟨m, hm.sameBut hs (Ne.symm hne), fun y j u e1 e2 e3 => ?_⟩, fun y j u e1 e2 e3 => ?_, F.nl, fun y d hy => ?_, F.newL, F.newC, F.has⟩ S
    · rcases getV_set e2 with ⟨rfl, rfl⟩ | ⟨hij, e2⟩
      · have : y = x := T y x i e1 hx
        subst this
        rw [hk] at e3; cases e3
      · obtain ⟨cu, e4, e5⟩ := hval y j u e1 e2 e3
        exact ⟨cu, e4, e5.mono R S F.apart⟩
    · rcases getV_set e2 with ⟨rfl, rfl⟩ | ⟨hij, e2⟩
      · have : y = x := T y x i e1 hx
        subst this
        exact ⟨c, cv, hc, hc', r.mono R S F.apart⟩
      · have hyx : y ≠ x := fun q => hij (by rw [q, hx] at e1; exact Option.some.inj e1)
        obtain ⟨d, cu, e4, e5, e6⟩ := F.cell y j u e1 e2 e3
        refine ⟨d, cu, e4, e5.sameBut hs fun q => hyx (name_of_addr hap (mem_of_lookup e4) (q ▸ hmem)), e6.mono R S F.apart⟩
    · by_cases q : d = c
      · subst q; exact ⟨_, hc'⟩
      · obtain ⟨u, hu⟩ := F.cells y d hy
        exact ⟨u, hu.sameBut hs q⟩
end
end Mine

namespace Mine
open PySem PyProof.Rows PySem.Calls

/-- names of the text's own defs and of its written constants -/
structure Nm where
  fns : List Str
  gns : List Str

noncomputable def eqS (a b : Str) : Bool := a.cps.toList == b.cps.toList
theorem eqS_iff {a b : Str} : eqS a b = true ↔ a = b := by
  unfold eqS
  constructor
  · intro h
    obtain ⟨⟨a⟩⟩ := a
    obtain ⟨⟨b⟩⟩ := b
    have : a = b := by simpa using h
    rw [this]
  · rintro rfl; simp

noncomputable def lkS {α : Type} : List (Str × α) → Str → Option α
  | [], _ => none
  | (k, v) :: r, x => if eqS x k then some v else lkS r x
theorem lkS_eq {α : Type} : ∀ (l : List (Str × α)) (x : Str), lkS l x = l.lookup x
  | [], _ => rfl
  | (k, v) :: r, x => by
    rw [lkS, List.lookup_cons, lkS_eq r x]
    cases h : eqS x k with
    | true => rw [eqS_iff.mp h]; simp
    | false =>
      have : (x == k) = false := by
        cases hb : x == k with
        | false => rfl
        | true => rw [beq_iff_eq.mp hb, eqS_iff.mpr rfl] at h; cases h
      rw [this]; rfl

noncomputable def isVar : Option NameKind → Bool
  | some .local => true
  | some .cell => true
  | some .free => true
  | _ => false
noncomputable def isGlob : Option NameKind → Bool
  | some .globalImplicit => true
  | _ => false
noncomputable def isLoc : Option NameKind → Bool
  | some .local => true
  | _ => false
noncomputable def isCel : Option NameKind → Bool
  | some .cell => true
  | _ => false
noncomputable def isFree : NameKind → Bool
  | .free => true
  | _ => false
noncomputable def okId (id : Str) : Bool := !(eqS id (Str.ofString "__debug__")) && !(eqS id (Str.ofString "__classdict__"))

noncomputable def opIs (o : Bop) (c : Operator) : Bool := decide (c = bop o)
theorem opIs_eq {o : Bop} {c : Operator} (h : opIs o c = true) : c = bop o := of_decide_eq_true h
noncomputable def copIs (o : Cop) (c : CmpOp) : Bool := decide (c = cop o)
theorem copIs_eq {o : Cop} {c : CmpOp} (h : copIs o c = true) : c = cop o := of_decide_eq_true h

/-- the built-ins by name -/
noncomputable def biOf : Bi → Option (Str × Value)
  | .len => some (Str.ofString "len", .builtin "len")
  | .sum => some (Str.ofString "sum", .builtin "sum")
  | .all => some (Str.ofString "all", .builtin "all")
  | .any => some (Str.ofString "any", .builtin "any")
  | .max1 => some (Str.ofString "max", .builtin "max")
  | .max2 => some (Str.ofString "max", .builtin "max")
  | .min2 => some (Str.ofString "min", .builtin "min")
  | .tuple => some (Str.ofString "tuple", .type "tuple")
  | .list => some (Str.ofString "list", .type "list")
  | .int => some (Str.ofString "int", .type "int")
  | _ => none
noncomputable def isaOf : Bi → Option (Str × String)
  | .isBool => some (Str.ofString "bool", "bool")
  | .isInt => some (Str.ofString "int", "int")
  | .isStr => some (Str.ofString "str", "str")
  | .isTup => some (Str.ofString "tuple", "tuple")
  | .isLst => some (Str.ofString "list", "list")
  | _ => none
noncomputable def sInst : Str := Str.ofString "isinstance"
noncomputable def sRange : Str := Str.ofString "range"
noncomputable def sRev : Str := Str.ofString "reversed"
noncomputable def baseOk : Expr → Bool
  | .Name .. => true
  | .Subscript .. => true
  | .Constant .. => true
  | _ => false
noncomputable def setOk : Expr → Bool
  | .Set .. => false
  | _ => true

noncomputable def plainTest : Expr → Bool
  | .UnaryOp .. => false
  | .BoolOp .. => false
  | .IfExp .. => false
  | .Compare .. => false
  | _ => true

noncomputable def relab (csc : List (Str × NameKind)) : List (Str × NameKind) := csc.map fun y => if isFree y.2 then (y.1, .cell) else y
noncomputable def scopeOk (sc : List (Str × NameKind)) (tbl : List (Str × Nat)) (nl : Nat) (csc : List (Str × NameKind)) (x : Str) : Bool :=
  isLoc (lkS csc x) && tbl.all (fun y => y.2 < nl) && csc.all (fun y => match y.2 with
    | .cell => false
    | .local => isLoc (lkS csc y.1) && (eqS y.1 x || (lkS tbl y.1).isNone)
    | .free => isCel (lkS sc y.1)
    | _ => true)

/-! ### looks at one node -/
structure Hn where
  name : Str → Bool
  const : Const → Bool
  boolOp : BoolOp → List Expr → Bool
  unary : UnaryOp → Expr → Bool
  bin : Expr → Operator → Expr → Bool
  cmp : Expr → List CmpOp → List Expr → Bool
  ifx : Expr → Expr → Expr → Bool
  tup : List Expr → Bool
  lst : List Expr → Bool
  comp : Expr → List Comprehension → Scope → Bool
  call : Expr → List Expr → List Keyword → Pos → Bool
  attr : Expr → Str → Pos → Bool
  sub : Expr → Expr → Bool
  slc : Option Expr → Option Expr → Option Expr → Bool
noncomputable def hn0 : Hn := ⟨fun _ => false, fun _ => false, fun _ _ => false, fun _ _ => false, fun _ _ _ => false, fun _ _ _ => false, fun _ _ _ => false, fun _ => false, fun _ => false, fun _ _ _ => false, fun _ _ _ _ => false, fun _ _ _ => false, fun _ _ => false, fun _ _ _ => false⟩
noncomputable def runE (h : Hn) (e : Expr) : Bool := match e with
  | .Name id _ => h.name id
  | .Constant c _ _ => h.const c
  | .BoolOp o l _ => h.boolOp o l
  | .UnaryOp o x _ => h.unary o x
  | .BinOp l o r _ => h.bin l o r
  | .Compare l o r _ => h.cmp l o r
  | .IfExp t u v _ => h.ifx t u v
  | .Tuple es _ _ => h.tup es
  | .List es _ => h.lst es
  | .ListComp x g s _ => h.comp x g s
  | .Call f es kw p => h.call f es kw p
  | .Attribute o n p => h.attr o n p
  | .Subscript v i _ => h.sub v i
  | .Slice a b c _ => h.slc a b c
  | _ => false
noncomputable def onName (e : Expr) (B : Str → Bool) : Bool := runE ⟨B, hn0.const, hn0.boolOp, hn0.unary, hn0.bin, hn0.cmp, hn0.ifx, hn0.tup, hn0.lst, hn0.comp, hn0.call, hn0.attr, hn0.sub, hn0.slc⟩ e
noncomputable def onConst (e : Expr) (B : Const → Bool) : Bool := runE ⟨hn0.name, B, hn0.boolOp, hn0.unary, hn0.bin, hn0.cmp, hn0.ifx, hn0.tup, hn0.lst, hn0.comp, hn0.call, hn0.attr, hn0.sub, hn0.slc⟩ e
noncomputable def onBoolOp (e : Expr) (B : BoolOp → List Expr → Bool) : Bool := runE ⟨hn0.name, hn0.const, B, hn0.unary, hn0.bin, hn0.cmp, hn0.ifx, hn0.tup, hn0.lst, hn0.comp, hn0.call, hn0.attr, hn0.sub, hn0.slc⟩ e
noncomputable def onUnary (e : Expr) (B : UnaryOp → Expr → Bool) : Bool := runE ⟨hn0.name, hn0.const, hn0.boolOp, B, hn0.bin, hn0.cmp, hn0.ifx, hn0.tup, hn0.lst, hn0.comp, hn0.call, hn0.attr, hn0.sub, hn0.slc⟩ e
noncomputable def onBin (e : Expr) (B : Expr → Operator → Expr → Bool) : Bool := runE ⟨hn0.name, hn0.const, hn0.boolOp, hn0.unary, B, hn0.cmp, hn0.ifx, hn0.tup, hn0.lst, hn0.comp, hn0.call, hn0.attr, hn0.sub, hn0.slc⟩ e
noncomputable def onCompare (e : Expr) (B : Expr → List CmpOp → List Expr → Bool) : Bool := runE ⟨hn0.name, hn0.const, hn0.boolOp, hn0.unary, hn0.bin, B, hn0.ifx, hn0.tup, hn0.lst, hn0.comp, hn0.call, hn0.attr, hn0.sub, hn0.slc⟩ e
noncomputable def onIfExp (e : Expr) (B : Expr → Expr → Expr → Bool) : Bool := runE ⟨hn0.name, hn0.const, hn0.boolOp, hn0.unary, hn0.bin, hn0.cmp, B, hn0.tup, hn0.lst, hn0.comp, hn0.call, hn0.attr, hn0.sub, hn0.slc⟩ e
noncomputable def onTuple (e : Expr) (B : List Expr → Bool) : Bool := runE ⟨hn0.name, hn0.const, hn0.boolOp, hn0.unary, hn0.bin, hn0.cmp, hn0.ifx, B, hn0.lst, hn0.comp, hn0.call, hn0.attr, hn0.sub, hn0.slc⟩ e
noncomputable def onList (e : Expr) (B : List Expr → Bool) : Bool := runE ⟨hn0.name, hn0.const, hn0.boolOp, hn0.unary, hn0.bin, hn0.cmp, hn0.ifx, hn0.tup, B, hn0.comp, hn0.call, hn0.attr, hn0.sub, hn0.slc⟩ e
noncomputable def onComp (e : Expr) (B : Expr → List Comprehension → Scope → Bool) : Bool := runE ⟨hn0.name, hn0.const, hn0.boolOp, hn0.unary, hn0.bin, hn0.cmp, hn0.ifx, hn0.tup, hn0.lst, B, hn0.call, hn0.attr, hn0.sub, hn0.slc⟩ e
noncomputable def onCall (e : Expr) (B : Expr → List Expr → List Keyword → Pos → Bool) : Bool := runE ⟨hn0.name, hn0.const, hn0.boolOp, hn0.unary, hn0.bin, hn0.cmp, hn0.ifx, hn0.tup, hn0.lst, hn0.comp, B, hn0.attr, hn0.sub, hn0.slc⟩ e
noncomputable def onAttr (e : Expr) (B : Expr → Str → Pos → Bool) : Bool := runE ⟨hn0.name, hn0.const, hn0.boolOp, hn0.unary, hn0.bin, hn0.cmp, hn0.ifx, hn0.tup, hn0.lst, hn0.comp, hn0.call, B, hn0.sub, hn0.slc⟩ e
noncomputable def onSub (e : Expr) (B : Expr → Expr → Bool) : Bool := runE ⟨hn0.name, hn0.const, hn0.boolOp, hn0.unary, hn0.bin, hn0.cmp, hn0.ifx, hn0.tup, hn0.lst, hn0.comp, hn0.call, hn0.attr, B, hn0.slc⟩ e
noncomputable def onSlice (e : Expr) (B : Option Expr → Option Expr → Option Expr → Bool) : Bool := runE ⟨hn0.name, hn0.const, hn0.boolOp, hn0.unary, hn0.bin, hn0.cmp, hn0.ifx, hn0.tup, hn0.lst, hn0.comp, hn0.call, hn0.attr, hn0.sub, B⟩ e
noncomputable def onDict (e : Expr) (B : Bool → Bool) : Bool := match e with | .Dict ks vs _ => B (ks.isEmpty && vs.isEmpty) | _ => false
noncomputable def notStar : Expr → Bool
  | .Starred .. => false
  | _ => true
noncomputable def notSlice : Expr → Bool
  | .Slice .. => false
  | _ => true
noncomputable def nilL {α : Type} : List α → Bool
  | [] => true
  | _ => false
noncomputable def on1 {α : Type} (l : List α) (B : α → Bool) : Bool := match l with | [x] => B x | _ => false
noncomputable def on2 {α : Type} (l : List α) (B : α → α → Bool) : Bool := match l with | [x, y] => B x y | _ => false
noncomputable def onTwo {α : Type} (l : List α) (B : α → α → List α → Bool) : Bool := match l with | x :: y :: r => B x y r | _ => false
noncomputable def onO {α : Type} (o : Option α) (B : α → Bool) : Bool := match o with | some x => B x | none => false

theorem no_true {p : Prop} (h : false = true) : p := (Bool.false_ne_true h).elim

theorem runE_elim {h : Hn} {e : Expr} {P : Expr → Prop} (r : runE h e = true) (k0 : ∀ id p, h.name id = true → P (.Name id p)) (k1 : ∀ c k p, h.const c = true → P (.Constant c k p)) (k2 : ∀ o l p, h.boolOp o l = true → P (.BoolOp o l p)) (k3 : ∀ o x p, h.unary o x = true → P (.UnaryOp o x p)) (k4 : ∀ l o r p, h.bin l o r = true → P (.BinOp l o r p)) (k5 : ∀ l o r p, h.cmp l o r = true → P (.Compare l o r p)) (k6 : ∀ t u v p, h.ifx t u v = true → P (.IfExp t u v p)) (k7 : ∀ es o p, h.tup es = true → P (.Tuple es o p)) (k8 : ∀ es p, h.lst es = true → P (.List es p)) (k9 : ∀ x g s p, h.comp x g s = true → P (.ListComp x g s p)) (k10 : ∀ f es kw p, h.call f es kw p = true → P (.Call f es kw p)) (k11 : ∀ o n p, h.attr o n p = true → P (.Attribute o n p)) (k12 : ∀ v i p, h.sub v i = true → P (.Subscript v i p)) (k13 : ∀ a b c p, h.slc a b c = true → P (.Slice a b c p)) : P e := by
  cases e with
  | Name id p => exact k0 _ _ r
  | Constant c k p => exact k1 _ _ _ r
  | BoolOp o l p => exact k2 _ _ _ r
  | UnaryOp o x p => exact k3 _ _ _ r
  | BinOp l o r p => exact k4 _ _ _ _ r
  | Compare l o r p => exact k5 _ _ _ _ r
  | IfExp t u v p => exact k6 _ _ _ _ r
  | Tuple es o p => exact k7 _ _ _ r
  | List es p => exact k8 _ _ r
  | ListComp x g s p => exact k9 _ _ _ _ r
  | Call f es kw p => exact k10 _ _ _ _ r
  | Attribute o n p => exact k11 _ _ _ r
  | Subscript v i p => exact k12 _ _ _ r
  | Slice a b c p => exact k13 _ _ _ _ r
  | _ => exact no_true r
theorem on_name {e : Expr} {B : Str → Bool} (h : onName e B = true) : ∃ id p, e = .Name id p ∧ B id = true := runE_elim (h := ⟨B, hn0.const, hn0.boolOp, hn0.unary, hn0.bin, hn0.cmp, hn0.ifx, hn0.tup, hn0.lst, hn0.comp, hn0.call, hn0.attr, hn0.sub, hn0.slc⟩) (P := fun e => ∃ id p, e = .Name id p ∧ B id = true) h (fun id p hb0 => ⟨id, p, rfl, hb0⟩) (fun _ _ _ f => no_true f) (fun _ _ _ f => no_true f) (fun _ _ _ f => no_true f) (fun _ _ _ _ f => no_true f) (fun _ _ _ _ f => no_true f) (fun _ _ _ _ f => no_true f) (fun _ _ _ f => no_true f) (fun _ _ f => no_true f) (fun _ _ _ _ f => no_true f) (fun _ _ _ _ f => no_true f) (fun _ _ _ f => no_true f) (fun _ _ _ f => no_true f) (fun _ _ _ _ f => no_true f)
theorem on_const {e : Expr} {B : Const → Bool} (h : onConst e B = true) : ∃ c k p, e = .Constant c k p ∧ B c = true := runE_elim (h := ⟨hn0.name, B, hn0.boolOp, hn0.unary, hn0.bin, hn0.cmp, hn0.ifx, hn0.tup, hn0.lst, hn0.comp, hn0.call, hn0.attr, hn0.sub, hn0.slc⟩) (P := fun e => ∃ c k p, e = .Constant c k p ∧ B c = true) h (fun _ _ f => no_true f) (fun c k p hb0 => ⟨c, k, p, rfl, hb0⟩) (fun _ _ _ f => no_true f) (fun _ _ _ f => no_true f) (fun _ _ _ _ f => no_true f) (fun _ _ _ _ f => no_true f) (fun _ _ _ _ f => no_true f) (fun _ _ _ f => no_true f) (fun _ _ f => no_true f) (fun _ _ _ _ f => no_true f) (fun _ _ _ _ f => no_true f) (fun _ _ _ f => no_true f) (fun _ _ _ f => no_true f) (fun _ _ _ _ f => no_true f)
theorem on_boolOp {e : Expr} {B : BoolOp → List Expr → Bool} (h : onBoolOp e B = true) : ∃ o l p, e = .BoolOp o l p ∧ B o l = true := runE_elim (h := ⟨hn0.name, hn0.const, B, hn0.unary, hn0.bin, hn0.cmp, hn0.ifx, hn0.tup, hn0.lst, hn0.comp, hn0.call, hn0.attr, hn0.sub, hn0.slc⟩) (P := fun e => ∃ o l p, e = .BoolOp o l p ∧ B o l = true) h (fun _ _ f => no_true f) (fun _ _ _ f => no_true f) (fun o l p hb0 => ⟨o, l, p, rfl, hb0⟩) (fun _ _ _ f => no_true f) (fun _ _ _ _ f => no_true f) (fun _ _ _ _ f => no_true f) (fun _ _ _ _ f => no_true f) (fun _ _ _ f => no_true f) (fun _ _ f => no_true f) (fun _ _ _ _ f => no_true f) (fun _ _ _ _ f => no_true f) (fun _ _ _ f => no_true f) (fun _ _ _ f => no_true f) (fun _ _ _ _ f => no_true f)
theorem on_unary {e : Expr} {B : UnaryOp → Expr → Bool} (h : onUnary e B = true) : ∃ o x p, e = .UnaryOp o x p ∧ B o x = true := runE_elim (h := ⟨hn0.name, hn0.const, hn0.boolOp, B, hn0.bin, hn0.cmp, hn0.ifx, hn0.tup, hn0.lst, hn0.comp, hn0.call, hn0.attr, hn0.sub, hn0.slc⟩) (P := fun e => ∃ o x p, e = .UnaryOp o x p ∧ B o x = true) h (fun _ _ f => no_true f) (fun _ _ _ f => no_true f) (fun _ _ _ f => no_true f) (fun o x p hb0 => ⟨o, x, p, rfl, hb0⟩) (fun _ _ _ _ f => no_true f) (fun _ _ _ _ f => no_true f) (fun _ _ _ _ f => no_true f) (fun _ _ _ f => no_true f) (fun _ _ f => no_true f) (fun _ _ _ _ f => no_true f) (fun _ _ _ _ f => no_true f) (fun _ _ _ f => no_true f) (fun _ _ _ f => no_true f) (fun _ _ _ _ f => no_true f)
theorem on_bin {e : Expr} {B : Expr → Operator → Expr → Bool} (h : onBin e B = true) : ∃ l o r p, e = .BinOp l o r p ∧ B l o r = true := runE_elim (h := ⟨hn0.name, hn0.const, hn0.boolOp, hn0.unary, B, hn0.cmp, hn0.ifx, hn0.tup, hn0.lst, hn0.comp, hn0.call, hn0.attr, hn0.sub, hn0.slc⟩) (P := fun e => ∃ l o r p, e = .BinOp l o r p ∧ B l o r = true) h (fun _ _ f => no_true f) (fun _ _ _ f => no_true f) (fun _ _ _ f => no_true f) (fun _ _ _ f => no_true f) (fun l o r p hb0 => ⟨l, o, r, p, rfl, hb0⟩) (fun _ _ _ _ f => no_true f) (fun _ _ _ _ f => no_true f) (fun _ _ _ f => no_true f) (fun _ _ f => no_true f) (fun _ _ _ _ f => no_true f) (fun _ _ _ _ f => no_true f) (fun _ _ _ f => no_true f) (fun _ _ _ f => no_true f) (fun _ _ _ _ f => no_true f)
theorem on_compare {e : Expr} {B : Expr → List CmpOp → List Expr → Bool} (h : onCompare e B = true) : ∃ l o r p, e = .Compare l o r p ∧ B l o r = true := runE_elim (h := ⟨hn0.name, hn0.const, hn0.boolOp, hn0.unary, hn0.bin, B, hn0.ifx, hn0.tup, hn0.lst, hn0.comp, hn0.call, hn0.attr, hn0.sub, hn0.slc⟩) (P := fun e => ∃ l o r p, e = .Compare l o r p ∧ B l o r = true) h (fun _ _ f => no_true f) (fun _ _ _ f => no_true f) (fun _ _ _ f => no_true f) (fun _ _ _ f => no_true f) (fun _ _ _ _ f => no_true f) (fun l o r p hb0 => ⟨l, o, r, p, rfl, hb0⟩) (fun _ _ _ _ f => no_true f) (fun _ _ _ f => no_true f) (fun _ _ f => no_true f) (fun _ _ _ _ f => no_true f) (fun _ _ _ _ f => no_true f) (fun _ _ _ f => no_true f) (fun _ _ _ f => no_true f) (fun _ _ _ _ f => no_true f)
theorem on_ifExp {e : Expr} {B : Expr → Expr → Expr → Bool} (h : onIfExp e B = true) : ∃ t u v p, e = .IfExp t u v p ∧ B t u v = true := runE_elim (h := ⟨hn0.name, hn0.const, hn0.boolOp, hn0.unary, hn0.bin, hn0.cmp, B, hn0.tup, hn0.lst, hn0.comp, hn0.call, hn0.attr, hn0.sub, hn0.slc⟩) (P := fun e => ∃ t u v p, e = .IfExp t u v p ∧ B t u v = true) h (fun _ _ f => no_true f) (fun _ _ _ f => no_true f) (fun _ _ _ f => no_true f) (fun _ _ _ f => no_true f) (fun _ _ _ _ f => no_true f) (fun _ _ _ _ f => no_true f) (fun t u v p hb0 => ⟨t, u, v, p, rfl, hb0⟩) (fun _ _ _ f => no_true f) (fun _ _ f => no_true f) (fun _ _ _ _ f => no_true f) (fun _ _ _ _ f => no_true f) (fun _ _ _ f => no_true f) (fun _ _ _ f => no_true f) (fun _ _ _ _ f => no_true f)
theorem on_tuple {e : Expr} {B : List Expr → Bool} (h : onTuple e B = true) : ∃ es o p, e = .Tuple es o p ∧ B es = true := runE_elim (h := ⟨hn0.name, hn0.const, hn0.boolOp, hn0.unary, hn0.bin, hn0.cmp, hn0.ifx, B, hn0.lst, hn0.comp, hn0.call, hn0.attr, hn0.sub, hn0.slc⟩) (P := fun e => ∃ es o p, e = .Tuple es o p ∧ B es = true) h (fun _ _ f => no_true f) (fun _ _ _ f => no_true f) (fun _ _ _ f => no_true f) (fun _ _ _ f => no_true f) (fun _ _ _ _ f => no_true f) (fun _ _ _ _ f => no_true f) (fun _ _ _ _ f => no_true f) (fun es o p hb0 => ⟨es, o, p, rfl, hb0⟩) (fun _ _ f => no_true f) (fun _ _ _ _ f => no_true f) (fun _ _ _ _ f => no_true f) (fun _ _ _ f => no_true f) (fun _ _ _ f => no_true f) (fun _ _ _ _ f => no_true f)
theorem on_list {e : Expr} {B : List Expr → Bool} (h : onList e B = true) : ∃ es p, e = .List es p ∧ B es = true := runE_elim (h := ⟨hn0.name, hn0.const, hn0.boolOp, hn0.unary, hn0.bin, hn0.cmp, hn0.ifx, hn0.tup, B, hn0.comp, hn0.call, hn0.attr, hn0.sub, hn0.slc⟩) (P := fun e => ∃ es p, e = .List es p ∧ B es = true) h (fun _ _ f => no_true f) (fun _ _ _ f => no_true f) (fun _ _ _ f => no_true f) (fun _ _ _ f => no_true f) (fun _ _ _ _ f => no_true f) (fun _ _ _ _ f => no_true f) (fun _ _ _ _ f => no_true f) (fun _ _ _ f => no_true f) (fun es p hb0 => ⟨es, p, rfl, hb0⟩) (fun _ _ _ _ f => no_true f) (fun _ _ _ _ f => no_true f) (fun _ _ _ f => no_true f) (fun _ _ _ f => no_true f) (fun _ _ _ _ f => no_true f)
theorem on_comp {e : Expr} {B : Expr → List Comprehension → Scope → Bool} (h : onComp e B = true) : ∃ x g s p, e = .ListComp x g s p ∧ B x g s = true := runE_elim (h := ⟨hn0.name, hn0.const, hn0.boolOp, hn0.unary, hn0.bin, hn0.cmp, hn0.ifx, hn0.tup, hn0.lst, B, hn0.call, hn0.attr, hn0.sub, hn0.slc⟩) (P := fun e => ∃ x g s p, e = .ListComp x g s p ∧ B x g s = true) h (fun _ _ f => no_true f) (fun _ _ _ f => no_true f) (fun _ _ _ f => no_true f) (fun _ _ _ f => no_true f) (fun _ _ _ _ f => no_true f) (fun _ _ _ _ f => no_true f) (fun _ _ _ _ f => no_true f) (fun _ _ _ f => no_true f) (fun _ _ f => no_true f) (fun x g s p hb0 => ⟨x, g, s, p, rfl, hb0⟩) (fun _ _ _ _ f => no_true f) (fun _ _ _ f => no_true f) (fun _ _ _ f => no_true f) (fun _ _ _ _ f => no_true f)
theorem on_call {e : Expr} {B : Expr → List Expr → List Keyword → Pos → Bool} (h : onCall e B = true) : ∃ f es kw p, e = .Call f es kw p ∧ B f es kw p = true := runE_elim (h := ⟨hn0.name, hn0.const, hn0.boolOp, hn0.unary, hn0.bin, hn0.cmp, hn0.ifx, hn0.tup, hn0.lst, hn0.comp, B, hn0.attr, hn0.sub, hn0.slc⟩) (P := fun e => ∃ f es kw p, e = .Call f es kw p ∧ B f es kw p = true) h (fun _ _ f => no_true f) (fun _ _ _ f => no_true f) (fun _ _ _ f => no_true f) (fun _ _ _ f => no_true f) (fun _ _ _ _ f => no_true f) (fun _ _ _ _ f => no_true f) (fun _ _ _ _ f => no_true f) (fun _ _ _ f => no_true f) (fun _ _ f => no_true f) (fun _ _ _ _ f => no_true f) (fun f es kw p hb0 => ⟨f, es, kw, p, rfl, hb0⟩) (fun _ _ _ f => no_true f) (fun _ _ _ f => no_true f) (fun _ _ _ _ f => no_true f)
theorem on_attr {e : Expr} {B : Expr → Str → Pos → Bool} (h : onAttr e B = true) : ∃ o n p, e = .Attribute o n p ∧ B o n p = true := runE_elim (h := ⟨hn0.name, hn0.const, hn0.boolOp, hn0.unary, hn0.bin, hn0.cmp, hn0.ifx, hn0.tup, hn0.lst, hn0.comp, hn0.call, B, hn0.sub, hn0.slc⟩) (P := fun e => ∃ o n p, e = .Attribute o n p ∧ B o n p = true) h (fun _ _ f => no_true f) (fun _ _ _ f => no_true f) (fun _ _ _ f => no_true f) (fun _ _ _ f => no_true f) (fun _ _ _ _ f => no_true f) (fun _ _ _ _ f => no_true f) (fun _ _ _ _ f => no_true f) (fun _ _ _ f => no_true f) (fun _ _ f => no_true f) (fun _ _ _ _ f => no_true f) (fun _ _ _ _ f => no_true f) (fun o n p hb0 => ⟨o, n, p, rfl, hb0⟩) (fun _ _ _ f => no_true f) (fun _ _ _ _ f => no_true f)
theorem on_sub {e : Expr} {B : Expr → Expr → Bool} (h : onSub e B = true) : ∃ v i p, e = .Subscript v i p ∧ B v i = true := runE_elim (h := ⟨hn0.name, hn0.const, hn0.boolOp, hn0.unary, hn0.bin, hn0.cmp, hn0.ifx, hn0.tup, hn0.lst, hn0.comp, hn0.call, hn0.attr, B, hn0.slc⟩) (P := fun e => ∃ v i p, e = .Subscript v i p ∧ B v i = true) h (fun _ _ f => no_true f) (fun _ _ _ f => no_true f) (fun _ _ _ f => no_true f) (fun _ _ _ f => no_true f) (fun _ _ _ _ f => no_true f) (fun _ _ _ _ f => no_true f) (fun _ _ _ _ f => no_true f) (fun _ _ _ f => no_true f) (fun _ _ f => no_true f) (fun _ _ _ _ f => no_true f) (fun _ _ _ _ f => no_true f) (fun _ _ _ f => no_true f) (fun v i p hb0 => ⟨v, i, p, rfl, hb0⟩) (fun _ _ _ _ f => no_true f)
theorem on_slice {e : Expr} {B : Option Expr → Option Expr → Option Expr → Bool} (h : onSlice e B = true) : ∃ a b c p, e = .Slice a b c p ∧ B a b c = true := runE_elim (h := ⟨hn0.name, hn0.const, hn0.boolOp, hn0.unary, hn0.bin, hn0.cmp, hn0.ifx, hn0.tup, hn0.lst, hn0.comp, hn0.call, hn0.attr, hn0.sub, B⟩) (P := fun e => ∃ a b c p, e = .Slice a b c p ∧ B a b c = true) h (fun _ _ f => no_true f) (fun _ _ _ f => no_true f) (fun _ _ _ f => no_true f) (fun _ _ _ f => no_true f) (fun _ _ _ _ f => no_true f) (fun _ _ _ _ f => no_true f) (fun _ _ _ _ f => no_true f) (fun _ _ _ f => no_true f) (fun _ _ f => no_true f) (fun _ _ _ _ f => no_true f) (fun _ _ _ _ f => no_true f) (fun _ _ _ f => no_true f) (fun _ _ _ f => no_true f) (fun a b c p hb0 => ⟨a, b, c, p, rfl, hb0⟩)
theorem on_dict {e : Expr} (h : onDict e (fun b => b) = true) : ∃ p, e = .Dict [] [] p := by
  cases e with
  | Dict ks vs p => cases ks with
    | cons _ _ => exact no_true h
    | nil => cases vs with
      | cons _ _ => exact no_true h
      | nil => exact ⟨p, rfl⟩
  | _ => exact no_true h
theorem nilL_eq {α : Type} {l : List α} (h : nilL l = true) : l = [] := by cases l with | nil => rfl | cons _ _ => exact no_true h
theorem on_1 {α : Type} {l : List α} {B : α → Bool} (h : on1 l B = true) : ∃ x, l = [x] ∧ B x = true := by
  match l, h with
  | [x], h => exact ⟨x, rfl, h⟩
theorem on_2 {α : Type} {l : List α} {B : α → α → Bool} (h : on2 l B = true) : ∃ x y, l = [x, y] ∧ B x y = true := by
  match l, h with
  | [x, y], h => exact ⟨x, y, rfl, h⟩
theorem on_two {α : Type} {l : List α} {B : α → α → List α → Bool} (h : onTwo l B = true) : ∃ x y r, l = x :: y :: r ∧ B x y r = true := by
  match l, h with
  | x :: y :: r, h => exact ⟨x, y, r, rfl, h⟩
theorem on_o {α : Type} {o : Option α} {B : α → Bool} (h : onO o B = true) : ∃ x, o = some x ∧ B x = true := by
  cases o with
  | none => exact no_true h
  | some x => exact ⟨x, rfl, h⟩
theorem both {a b : Bool} (h : (a && b) = true) : a = true ∧ b = true := (Bool.and_eq_true _ _).mp h

/-- a call of a plain name -/
noncomputable def onCallN (e : Expr) (B : Str → List Expr → Bool) : Bool := onCall e fun f es kw _ => nilL kw && onName f fun id => B id es
theorem on_callN {e : Expr} {B : Str → List Expr → Bool} (h : onCallN e B = true) : ∃ id p es q, e = .Call (.Name id p) es [] q ∧ B id es = true := by
  obtain ⟨f, es, kw, q, rfl, h⟩ := on_call h
  obtain ⟨h1, h2⟩ := both h
  obtain ⟨id, p, rfl, h3⟩ := on_name h2
  rw [nilL_eq h1]
  exact ⟨id, p, es, q, rfl, h3⟩
/-- a call of a method on one line -/
noncomputable def onMeth (e : Expr) (B : Expr → Str → List Expr → Bool) : Bool := onCall e fun f es kw pos => nilL kw && onAttr f fun o n ap => baseOk o && ap.endLine == pos.line && B o n es
theorem on_meth {e : Expr} {B : Expr → Str → List Expr → Bool} (h : onMeth e B = true) : ∃ o n ap es q, e = .Call (.Attribute o n ap) es [] q ∧ baseOk o = true ∧ (ap.endLine == q.line) = true ∧ B o n es = true := by
  obtain ⟨f, es, kw, q, rfl, h⟩ := on_call h
  obtain ⟨h1, h2⟩ := both h
  obtain ⟨o, n, ap, rfl, h3⟩ := on_attr h2
  obtain ⟨h4, h5⟩ := both h3
  obtain ⟨h6, h7⟩ := both h4
  rw [nilL_eq h1]
  exact ⟨o, n, ap, es, q, rfl, h6, h7, h5⟩

noncomputable def isNoneX : Ex → Bool
  | .cNone => true
  | _ => false
theorem isNoneX_eq {x : Ex} (h : isNoneX x = true) : x = .cNone := by cases x <;> first | rfl | exact no_true h
noncomputable def isConstN : Const → Bool
  | .none => true
  | _ => false
noncomputable def isConstB (b : Bool) : Const → Bool
  | .bool c => b == c
  | _ => false
noncomputable def isConstI (i : Int) : Const → Bool
  | .int j => i == j
  | _ => false
noncomputable def isConstS (s : List Nat) : Const → Bool
  | .str t => t.cps.toList == s && s.length ≤ 1000
  | _ => false
noncomputable def isAnd : BoolOp → Bool
  | .And => true
  | _ => false
noncomputable def isNot : UnaryOp → Bool
  | .Not => true
  | _ => false
noncomputable def isUSub : UnaryOp → Bool
  | .USub => true
  | _ => false
noncomputable def isFn : ScopeKind → Bool
  | .function => true
  | _ => false
theorem isFn_eq {k : ScopeKind} (h : isFn k = true) : k = .function := by cases k <;> first | rfl | exact no_true h
noncomputable def nameAt (l : List Str) (f : Nat) (id : Str) : Bool := onO l[f]? fun y => eqS y id
theorem nameAt_eq {l : List Str} {f : Nat} {id : Str} (h : nameAt l f id = true) : l[f]? = some id := by
  obtain ⟨y, h1, h2⟩ := on_o h
  rw [h1, eqS_iff.mp h2]
noncomputable def globOk (sc : List (Str × NameKind)) (id : Str) : Bool := isGlob (lkS sc id) && okId id

/-- the shapes whose truth is asked plainly -/
noncomputable def exTest : Ex → Bool
  | .not _ | .neg _ | .and _ _ | .or _ _ | .ite _ _ _ | .cmp _ _ _ | .cmp2 _ _ _ _ _ => false
  | _ => true
noncomputable def tstOk (e : Expr) (x : Ex) : Bool := !exTest x || plainTest e

mutual
noncomputable def chkE (N : Nm) : Nat → List (Str × NameKind) → List (Str × Nat) → Nat → Expr → Ex → Bool
  | 0, _, _, _, _, _ => false
  | n + 1, sc, tbl, nl, e, x => match x with
    | .frz x => plainTest e && chkE N n sc tbl nl e x
    | .cNone => onConst e isConstN
    | .cBool b => onConst e (isConstB b)
    | .cInt i => onConst e (isConstI i)
    | .cStr s => onConst e (isConstS s)
    | .var i => onName e fun id => lkS tbl id == some i && isVar (lkS sc id) && okId id
    | .glob g => onName e fun id => nameAt N.gns g id && globOk sc id
    | .and a b => onBoolOp e fun o l => isAnd o && onTwo l fun v w r => tstOk v a && (chkE N n sc tbl nl v a && chkL N n sc tbl nl true w r b)
    | .or a b => onBoolOp e fun o l => !isAnd o && onTwo l fun v w r => tstOk v a && (chkE N n sc tbl nl v a && chkL N n sc tbl nl false w r b)
    | .not a => onUnary e fun o x => isNot o && (tstOk x a && chkE N n sc tbl nl x a)
    | .neg a => onUnary e fun o x => isUSub o && chkE N n sc tbl nl x a
    | .bin o a b => onBin e fun l op r => opIs o op && (chkE N n sc tbl nl l a && chkE N n sc tbl nl r b)
    | .cmp o a b => onCompare e fun l ops rs => on1 ops fun op => on1 rs fun r => copIs o op && (setOk r && (chkE N n sc tbl nl l a && chkE N n sc tbl nl r b))
    | .cmp2 o1 o2 a b c => onCompare e fun l ops rs => on2 ops fun p1 p2 => on2 rs fun m r => copIs o1 p1 && (copIs o2 p2 && (setOk m && (setOk r && (chkE N n sc tbl nl l a && (chkE N n sc tbl nl m b && chkE N n sc tbl nl r c)))))
    | .ite c a b => onIfExp e fun t u v => tstOk t c && (tstOk u a && (tstOk v b && (chkE N n sc tbl nl t c && (chkE N n sc tbl nl u a && chkE N n sc tbl nl v b))))
    | .tup xs => onTuple e fun es => chkEs N n sc tbl nl es xs
    | .lst _ xs => onList e fun es => chkEs N n sc tbl nl es xs
    | .dict _ => onDict e fun b => b
    | .comp _ elt ik a b cond => onComp e fun ee gs csc => on1 gs fun g => onName g.target fun cx =>
        g.is_async == 0 && (isFn csc.kind && (scopeOk sc tbl nl csc.names cx && (chkI N n sc tbl nl g.iter ik a b &&
          (chkE N n (relab csc.names) ((cx, nl) :: tbl) (nl + 1) ee elt && chkIf N n (relab csc.names) ((cx, nl) :: tbl) (nl + 1) g.ifs cond))))
    | .compL _ _ => false
    | .call f xs => onCallN e fun id es => nameAt N.fns f id && (globOk sc id && (!es.isEmpty && (es.length ≤ 20 && chkEs N n sc tbl nl es xs)))
    | .bi b xs => (match isaOf b with
      | some y => onCallN e fun id es => on2 es fun e ty => on1 xs fun x => onName ty fun ty => eqS id sInst && (eqS ty y.1 && (globOk sc id && (globOk sc ty && (notStar e && chkE N n sc tbl nl e x))))
      | none => onO (biOf b) fun y => onCallN e fun id es => eqS id y.1 && (globOk sc id && (!es.isEmpty && (es.length ≤ 20 && chkEs N n sc tbl nl es xs))))
    | .slice x lo hi => onSub e fun v i => onSlice i fun lo' hi' st => st.isNone && (chkE N n sc tbl nl v x && (chkO N n sc tbl nl lo' lo && chkO N n sc tbl nl hi' hi))
    | .idx x i => onSub e fun v j => notSlice j && (chkE N n sc tbl nl v x && chkE N n sc tbl nl j i)
    | .app ox ax => onMeth e fun o name es => on1 es fun e => eqS name (Str.ofString "append") && (notStar e && (chkE N n sc tbl nl o ox && chkE N n sc tbl nl e ax))
    | .join _ _ => false
    | .pop ox => onMeth e fun o name es => nilL es && (eqS name (Str.ofString "pop") && chkE N n sc tbl nl o ox)
    | .clear _ => false
    | .rvs _ => false
termination_by structural n => n
noncomputable def chkEs (N : Nm) : Nat → List (Str × NameKind) → List (Str × Nat) → Nat → List Expr → List Ex → Bool
  | 0, _, _, _, _, _ => false
  | _ + 1, _, _, _, [], [] => true
  | n + 1, sc, tbl, nl, e :: es, x :: xs => notStar e && (chkE N n sc tbl nl e x && chkEs N n sc tbl nl es xs)
  | _ + 1, _, _, _, _, _ => false
termination_by structural n => n
noncomputable def chkL (N : Nm) : Nat → List (Str × NameKind) → List (Str × Nat) → Nat → Bool → Expr → List Expr → Ex → Bool
  | 0, _, _, _, _, _, _, _ => false
  | n + 1, sc, tbl, nl, o, v, r, x => match r with
    | [] => tstOk v x && chkE N n sc tbl nl v x
    | w :: r => (match x with
      | .and a b => o && (tstOk v a && (chkE N n sc tbl nl v a && chkL N n sc tbl nl o w r b))
      | .or a b => !o && (tstOk v a && (chkE N n sc tbl nl v a && chkL N n sc tbl nl o w r b))
      | _ => false)
termination_by structural n => n
noncomputable def chkIf (N : Nm) : Nat → List (Str × NameKind) → List (Str × Nat) → Nat → List Expr → Option Ex → Bool
  | 0, _, _, _, _, _ => false
  | n + 1, sc, tbl, nl, l, x => match x with
    | none => nilL l
    | some x => on1 l fun e => tstOk e x && chkE N n sc tbl nl e x
termination_by structural n => n
noncomputable def chkO (N : Nm) : Nat → List (Str × NameKind) → List (Str × Nat) → Nat → Option Expr → Option Ex → Bool
  | 0, _, _, _, _, _ => false
  | n + 1, sc, tbl, nl, o, x => match x with
    | none => o.isNone
    | some x => onO o fun e => chkE N n sc tbl nl e x
termination_by structural n => n
noncomputable def chkI (N : Nm) : Nat → List (Str × NameKind) → List (Str × Nat) → Nat → Expr → IK → Ex → Ex → Bool
  | 0, _, _, _, _, _, _, _ => false
  | n + 1, sc, tbl, nl, e, ik, a, b => setOk e && (match ik with
    | .val => isNoneX b && chkE N n sc tbl nl e a
    | .rng1 => onCallN e fun id es => on1 es fun e => isNoneX b && (eqS id sRange && (globOk sc id && (notStar e && chkE N n sc tbl nl e a)))
    | .rng2 => onCallN e fun id es => on2 es fun e f => eqS id sRange && (globOk sc id && (notStar e && (notStar f && (chkE N n sc tbl nl e a && chkE N n sc tbl nl f b))))
    | .rev => onCallN e fun id es => on1 es fun e => isNoneX b && (eqS id sRev && (globOk sc id && (notStar e && chkE N n sc tbl nl e a))))
termination_by structural n => n
end

/-- a name that the frame stores -/
noncomputable def stoOk (sc : List (Str × NameKind)) (tbl : List (Str × Nat)) (id : Str) (i : Nat) : Bool := lkS tbl id == some i && (isLoc (lkS sc id) || isCel (lkS sc id)) && okId id
noncomputable def isComp : Ex → Bool
  | .comp .. => true
  | _ => false
noncomputable def compOf : Expr → Bool
  | .ListComp .. => true
  | .SetComp .. => true
  | .DictComp .. => true
  | _ => false

structure Hs where
  exprS : Expr → Bool
  ret : Option Expr → Bool
  asg : List Expr → Expr → Bool
  ifs : Expr → List Stmt → List Stmt → Bool
  whl : Expr → List Stmt → List Stmt → Bool
  fr : Expr → Expr → List Stmt → List Stmt → Bool
noncomputable def hs0 : Hs := ⟨fun _ => false, fun _ => false, fun _ _ => false, fun _ _ _ => false, fun _ _ _ => false, fun _ _ _ _ => false⟩
noncomputable def runS (h : Hs) (s : Stmt) : Bool := match s with
  | .Expr e _ => h.exprS e
  | .Return e _ => h.ret e
  | .Assign t e _ => h.asg t e
  | .If t a b _ => h.ifs t a b
  | .While t a b _ => h.whl t a b
  | .For t e a b _ => h.fr t e a b
  | _ => false
noncomputable def onExprS (s : Stmt) (B : Expr → Bool) : Bool := runS ⟨B, hs0.ret, hs0.asg, hs0.ifs, hs0.whl, hs0.fr⟩ s
noncomputable def onReturn (s : Stmt) (B : Option Expr → Bool) : Bool := runS ⟨hs0.exprS, B, hs0.asg, hs0.ifs, hs0.whl, hs0.fr⟩ s
noncomputable def onAssign (s : Stmt) (B : List Expr → Expr → Bool) : Bool := runS ⟨hs0.exprS, hs0.ret, B, hs0.ifs, hs0.whl, hs0.fr⟩ s
noncomputable def onIf (s : Stmt) (B : Expr → List Stmt → List Stmt → Bool) : Bool := runS ⟨hs0.exprS, hs0.ret, hs0.asg, B, hs0.whl, hs0.fr⟩ s
noncomputable def onWhile (s : Stmt) (B : Expr → List Stmt → List Stmt → Bool) : Bool := runS ⟨hs0.exprS, hs0.ret, hs0.asg, hs0.ifs, B, hs0.fr⟩ s
noncomputable def onFor (s : Stmt) (B : Expr → Expr → List Stmt → List Stmt → Bool) : Bool := runS ⟨hs0.exprS, hs0.ret, hs0.asg, hs0.ifs, hs0.whl, B⟩ s

mutual
noncomputable def chkS (N : Nm) : Nat → List (Str × NameKind) → List (Str × Nat) → Nat → Stmt → St → Bool
  | 0, _, _, _, _, _ => false
  | n + 1, sc, tbl, nl, s, x => match x with
    | .expr x => onExprS s fun e => !compOf e && chkE N n sc tbl nl e x
    | .ret x => onReturn s fun o => onO o fun e => chkE N n sc tbl nl e x
    | .asg i x => onAssign s fun t e => on1 t fun t => onName t fun id => stoOk sc tbl id i && ((!compOf e || isComp x) && chkE N n sc tbl nl e x)
    | .sto xo xi xe => onAssign s fun t e => on1 t fun t => onSub t fun o i => !compOf e && (chkE N n sc tbl nl e xe && (chkE N n sc tbl nl o xo && chkE N n sc tbl nl i xi))
    | .ite c x y => onIf s fun t a b => tstOk t c && (chkE N n sc tbl nl t c && (chkB N n sc tbl nl a x && chkB N n sc tbl nl b y))
    | .while c x => onWhile s fun t a b => nilL b && (tstOk t c && (chkE N n sc tbl nl t c && chkB N n sc tbl nl a x))
    | .for i ik x y bd => onFor s fun t e a b => nilL b && onName t fun id => stoOk sc tbl id i && (chkI N n sc tbl nl e ik x y && chkB N n sc tbl nl a bd)
    | .raise _ => true
    | .try _ _ => false
termination_by structural n => n
noncomputable def chkB (N : Nm) : Nat → List (Str × NameKind) → List (Str × Nat) → Nat → List Stmt → List St → Bool
  | 0, _, _, _, _, _ => false
  | _ + 1, _, _, _, [], [] => true
  | n + 1, sc, tbl, nl, s :: r, x :: y => chkS N n sc tbl nl s x && chkB N n sc tbl nl r y
  | _ + 1, _, _, _, _, _ => false
termination_by structural n => n
end

theorem runS_elim {h : Hs} {s : Stmt} {P : Stmt → Prop} (r : runS h s = true) (k0 : ∀ e p, h.exprS e = true → P (.Expr e p)) (k1 : ∀ e p, h.ret e = true → P (.Return e p)) (k2 : ∀ t e p, h.asg t e = true → P (.Assign t e p)) (k3 : ∀ t a b p, h.ifs t a b = true → P (.If t a b p)) (k4 : ∀ t a b p, h.whl t a b = true → P (.While t a b p)) (k5 : ∀ t e a b p, h.fr t e a b = true → P (.For t e a b p)) : P s := by
  cases s with
  | Expr e p => exact k0 _ _ r
  | Return e p => exact k1 _ _ r
  | Assign t e p => exact k2 _ _ _ r
  | If t a b p => exact k3 _ _ _ _ r
  | While t a b p => exact k4 _ _ _ _ r
  | For t e a b p => exact k5 _ _ _ _ _ r
  | _ => exact no_true r
theorem on_exprS {s : Stmt} {B : Expr → Bool} (h : onExprS s B = true) : ∃ e p, s = .Expr e p ∧ B e = true := runS_elim (h := ⟨B, hs0.ret, hs0.asg, hs0.ifs, hs0.whl, hs0.fr⟩) (P := fun s => ∃ e p, s = .Expr e p ∧ B e = true) h (fun e p hb0 => ⟨e, p, rfl, hb0⟩) (fun _ _ f => no_true f) (fun _ _ _ f => no_true f) (fun _ _ _ _ f => no_true f) (fun _ _ _ _ f => no_true f) (fun _ _ _ _ _ f => no_true f)
theorem on_return {s : Stmt} {B : Option Expr → Bool} (h : onReturn s B = true) : ∃ e p, s = .Return e p ∧ B e = true := runS_elim (h := ⟨hs0.exprS, B, hs0.asg, hs0.ifs, hs0.whl, hs0.fr⟩) (P := fun s => ∃ e p, s = .Return e p ∧ B e = true) h (fun _ _ f => no_true f) (fun e p hb0 => ⟨e, p, rfl, hb0⟩) (fun _ _ _ f => no_true f) (fun _ _ _ _ f => no_true f) (fun _ _ _ _ f => no_true f) (fun _ _ _ _ _ f => no_true f)
theorem on_assign {s : Stmt} {B : List Expr → Expr → Bool} (h : onAssign s B = true) : ∃ t e p, s = .Assign t e p ∧ B t e = true := runS_elim (h := ⟨hs0.exprS, hs0.ret, B, hs0.ifs, hs0.whl, hs0.fr⟩) (P := fun s => ∃ t e p, s = .Assign t e p ∧ B t e = true) h (fun _ _ f => no_true f) (fun _ _ f => no_true f) (fun t e p hb0 => ⟨t, e, p, rfl, hb0⟩) (fun _ _ _ _ f => no_true f) (fun _ _ _ _ f => no_true f) (fun _ _ _ _ _ f => no_true f)
theorem on_if {s : Stmt} {B : Expr → List Stmt → List Stmt → Bool} (h : onIf s B = true) : ∃ t a b p, s = .If t a b p ∧ B t a b = true := runS_elim (h := ⟨hs0.exprS, hs0.ret, hs0.asg, B, hs0.whl, hs0.fr⟩) (P := fun s => ∃ t a b p, s = .If t a b p ∧ B t a b = true) h (fun _ _ f => no_true f) (fun _ _ f => no_true f) (fun _ _ _ f => no_true f) (fun t a b p hb0 => ⟨t, a, b, p, rfl, hb0⟩) (fun _ _ _ _ f => no_true f) (fun _ _ _ _ _ f => no_true f)
theorem on_while {s : Stmt} {B : Expr → List Stmt → List Stmt → Bool} (h : onWhile s B = true) : ∃ t a b p, s = .While t a b p ∧ B t a b = true := runS_elim (h := ⟨hs0.exprS, hs0.ret, hs0.asg, hs0.ifs, B, hs0.fr⟩) (P := fun s => ∃ t a b p, s = .While t a b p ∧ B t a b = true) h (fun _ _ f => no_true f) (fun _ _ f => no_true f) (fun _ _ _ f => no_true f) (fun _ _ _ _ f => no_true f) (fun t a b p hb0 => ⟨t, a, b, p, rfl, hb0⟩) (fun _ _ _ _ _ f => no_true f)
theorem on_for {s : Stmt} {B : Expr → Expr → List Stmt → List Stmt → Bool} (h : onFor s B = true) : ∃ t e a b p, s = .For t e a b p ∧ B t e a b = true := runS_elim (h := ⟨hs0.exprS, hs0.ret, hs0.asg, hs0.ifs, hs0.whl, B⟩) (P := fun s => ∃ t e a b p, s = .For t e a b p ∧ B t e a b = true) h (fun _ _ f => no_true f) (fun _ _ f => no_true f) (fun _ _ _ f => no_true f) (fun _ _ _ _ f => no_true f) (fun _ _ _ _ f => no_true f) (fun t e a b p hb0 => ⟨t, e, a, b, p, rfl, hb0⟩)
end Mine

namespace Mine
open PySem PyProof.Rows PySem.Calls

structure Cx where
  B : Bs
  mg : Str → Option Value
  mb : Str → Option Value
  N : Nm
  P : List Def
  gl : List V

abbrev Cx.M (C : Cx) : Model := model C.B.prog C.B.w

/-! the goal as a variable: what is taken apart ahead of it then costs little -/
theorem hide3 {α β γ : Type} {G : α → β → γ → Prop} {a : α} {b : β} {c : γ} (h : ∀ P : α → β → γ → Prop, (∀ a b c, G a b c → P a b c) → P a b c) : G a b c := h G fun _ _ _ x => x
structure Room (d : Nat) (A : Around) : Prop where
  hh : A.handled = none
  dep : A.depth + d ≤ recursionLimit
  un : A.units + 3 * d + 100 ≤ cLine

theorem Room.u64 {d : Nat} {A : Around} (R : Room d A) : A.units + 64 < cLine := by have := R.un; omega

noncomputable def bnames : List (Str × Value) := [
  (Str.ofString "len", .builtin "len"), (Str.ofString "sum", .builtin "sum"), (Str.ofString "all", .builtin "all"), (Str.ofString "any", .builtin "any"),
  (Str.ofString "max", .builtin "max"), (Str.ofString "min", .builtin "min"), (Str.ofString "tuple", .type "tuple"), (Str.ofString "list", .type "list"),
  (Str.ofString "int", .type "int"), (Str.ofString "isinstance", .builtin "isinstance"), (Str.ofString "range", .type "range"), (Str.ofString "reversed", .type "reversed"),
  (Str.ofString "bool", .type "bool"), (Str.ofString "str", .type "str")]

structure Cx.Ok (C : Cx) : Prop where
  g : C.B.hb.Ns mainGlobals C.mg
  b : C.B.hb.Ns builtinsNs C.mb
  nolimit : C.B.hb.NoLimit
  bins : ∀ p ∈ bnames, C.mg p.1 = none ∧ C.mb p.1 = some p.2
  glob : ∀ (g : Nat) (v : V), C.gl[g]? = some v → ∃ y cv, C.N.gns[g]? = some y ∧ C.mg y = some cv ∧ ∀ B σ φ h, VR B σ φ h v cv
  fn : ∀ (f : Nat) (y : Str), C.N.fns[f]? = some y → ∃ a o fd, C.mg y = some (.ref a) ∧ C.B.hb.get? a = some o ∧ o.data = .func fd

/-- what a call of a def gives, d calls deep -/
noncomputable def CallSim (C : Cx) (d : Nat) : Prop := ∀ (f : Nat) (y : Str) (a : Addr) (vs : List V) (σ : Sg) (v : V) (σ' : Sg), callF C.gl C.P d f vs σ = .ok v σ' → C.N.fns[f]? = some y → C.mg y = some (.ref a) →
  ∀ (A : Around) (s : Shared) (φ : List Addr) (cvs : List Value) (E : Value → Shared → Prop), Room d A → SR C.B σ φ s.heap → VRs C.B σ φ s.heap vs cvs → wpAny C.M A (call (.ref a) cvs) (Post C.B s σ φ σ' v) E s

noncomputable def PostU (B : Bs) (s : Shared) (σ : Sg) (φ : List Addr) (σ' : Sg) (s' : Shared) : Prop :=
  ∃ φ' h' tk, s' = { s with heap := h', toks := tk } ∧ SR B σ' φ' h' ∧ Stp W0 σ φ s.heap σ' φ' h'
noncomputable def PostL (B : Bs) (s : Shared) (σ : Sg) (φ : List Addr) (σ' : Sg) (vs : List V) (cvs : List Value) (s' : Shared) : Prop :=
  ∃ φ' h' tk, s' = { s with heap := h', toks := tk } ∧ SR B σ' φ' h' ∧ Stp W0 σ φ s.heap σ' φ' h' ∧ VRs B σ' φ' h' vs cvs
noncomputable def PostI (B : Bs) (s : Shared) (σ : Sg) (φ : List Addr) (σ' : Sg) (items : List V) (cv : Value) (s' : Shared) : Prop :=
  ∃ φ' h' tk, s' = { s with heap := h', toks := tk } ∧ SR B σ' φ' h' ∧ Stp W0 σ φ s.heap σ' φ' h' ∧ ItV B s.heap σ' φ' h' items cv
noncomputable def PostO (B : Bs) (s : Shared) (σ : Sg) (φ : List Addr) (σ' : Sg) (i : Option Int) (cv : Value) (s' : Shared) : Prop :=
  ∃ φ' h' tk, s' = { s with heap := h', toks := tk } ∧ SR B σ' φ' h' ∧ Stp W0 σ φ s.heap σ' φ' h' ∧ IsPart cv i

section
variable {M : Model} {B : Bs} {A : Around} {E : Value → Shared → Prop} {s : Shared} {σ σ₁ σ₂ : Sg} {φ φ₁ : List Addr} {h₁ : Heap} {tk : Nat}

theorem post_mono {t : Sem Value} {v : V} {Q : Value → Shared → Prop} (h : wpAny M A t (Post B s σ φ σ₁ v) E s)
    (k : ∀ cv φ₁ h₁ tk, SR B σ₁ φ₁ h₁ → Stp W0 σ φ s.heap σ₁ φ₁ h₁ → VR B σ₁ φ₁ h₁ v cv → Q cv { s with heap := h₁, toks := tk }) : wpAny M A t Q E s :=
  wpAny_mono h (fun cv s' ⟨φ', h', tk, e, R, S, r⟩ => by subst e; exact k cv φ' h' tk R S r) fun _ _ e => e

theorem Post.trans {v : V} {cv : Value} {s' : Shared} (hl : φ.length = σ.length) (S : Stp W0 σ φ s.heap σ₁ φ₁ h₁) (P : Post B { s with heap := h₁, toks := tk } σ₁ φ₁ σ₂ v cv s') : Post B s σ φ σ₂ v cv s' := by
  obtain ⟨φ', h', tk', e, R, S', r⟩ := P
  exact ⟨φ', h', tk', e, R, S.trans S' hl, r⟩
theorem PostU.trans {s' : Shared} (hl : φ.length = σ.length) (S : Stp W0 σ φ s.heap σ₁ φ₁ h₁) (P : PostU B { s with heap := h₁, toks := tk } σ₁ φ₁ σ₂ s') : PostU B s σ φ σ₂ s' := by
  obtain ⟨φ', h', tk', e, R, S'⟩ := P
  exact ⟨φ', h', tk', e, R, S.trans S' hl⟩
theorem PostL.trans {vs : List V} {cvs : List Value} {s' : Shared} (hl : φ.length = σ.length) (S : Stp W0 σ φ s.heap σ₁ φ₁ h₁) (P : PostL B { s with heap := h₁, toks := tk } σ₁ φ₁ σ₂ vs cvs s') : PostL B s σ φ σ₂ vs cvs s' := by
  obtain ⟨φ', h', tk', e, R, S', r⟩ := P
  exact ⟨φ', h', tk', e, R, S.trans S' hl, r⟩

/-- a made value, the heap grown: a step that leaves the live objects -/
theorem grow_post {v : V} {Q : Value → Shared → Prop} (R : SR B σ φ s.heap) (k : ∀ cv s', Post B s σ φ σ v cv s' → Q cv s') : Grow B σ φ s v Q :=
  fun cv h' tk hk r => k cv _ ⟨φ, h', tk, rfl, R.grow hk, Stp.grow hk, r⟩
theorem grow_post0 {v : V} (R : SR B σ φ s.heap) : Grow B σ φ s v (Post B s σ φ σ v) := grow_post R fun _ _ p => p

noncomputable def FzV (B : Bs) (φ : List Addr) (h : Heap) (σ : Sg) (cv : Value) (p : V × Sg) : Prop := SR B p.2 φ h ∧ Stp W0 σ φ h p.2 φ h ∧ VR B p.2 φ h p.1 cv
noncomputable def FzVs (B : Bs) (φ : List Addr) (h : Heap) (σ : Sg) (n : Nat) (vs : List Value) (p : List V × Sg) : Prop := SR B p.2 φ h ∧ Stp W0 σ φ h p.2 φ h ∧ VRs B p.2 φ h p.1 vs ∧ p.1.length = n
mutual
theorem freeze_to {h : Heap} : ∀ (v : V) {σ : Sg} {p : V × Sg} {cv : Value}, freeze σ v = some p → SR B σ φ h → VR B σ φ h v cv → FzV B φ h σ cv p
  | .ref i, σ, _, cv, e, R, r => cell_lst e fun xs hx e => is_some (P := FzV B φ h σ cv) e (inRef (z := fun cv => FzV B φ h σ cv (.lst xs, σ.set i .dead)) r fun a ha => let ⟨h1, h2, _, h3, h4⟩ := R.freeze (W := W0) hx; ⟨h1, h2, Option.some.inj (ha.symm.trans h3) ▸ h4⟩)
  | .tup xs, σ, _, cv, e, R, r => opt_map (P := FzV B φ h σ cv) e fun p e => inTup (z := fun cv => FzV B φ h σ cv (.tup p.1, p.2)) r fun a vs ht rs hn => let ⟨h1, h2, h3, h4⟩ := freezes_to xs e R rs; ⟨h1, h2, .tup ht h3 (h4 ▸ hn)⟩
  | .undef, _, _, _, _, _, r => r.elim
  | .none, _, _, _, e, R, r => is_some e ⟨R, .refl, r⟩
  | .bool _, _, _, _, e, R, r => is_some e ⟨R, .refl, r⟩
  | .int _, _, _, _, e, R, r => is_some e ⟨R, .refl, r⟩
  | .str _, _, _, _, e, R, r => is_some e ⟨R, .refl, r⟩
  | .lst _, _, _, _, e, R, r => is_some e ⟨R, .refl, r⟩
  | .exc _, _, _, _, e, R, r => is_some e ⟨R, .refl, r⟩
theorem freezes_to {h : Heap} : ∀ (xs : List V) {σ : Sg} {p : List V × Sg} {vs : List Value}, freezes σ xs = some p → SR B σ φ h → VRs B σ φ h xs vs → FzVs B φ h σ xs.length vs p
  | [], _, _, _, e, R, r => is_some e ⟨R, .refl, r, rfl⟩
  | x :: xs, σ, _, vs, e, R, r => opt_bind e fun q e1 e2 => opt_map (P := FzVs B φ h σ (xs.length + 1) vs) e2 fun q' e3 => inCons (z := fun vs => FzVs B φ h σ (xs.length + 1) vs (q.1 :: q'.1, q'.2)) r fun v ws a rs =>
      let ⟨h1, h2, h3⟩ := freeze_to x e1 R a; let ⟨k1, k2, k3, k4⟩ := freezes_to xs e3 h1 (rs.mono R h2 Apart.none); ⟨k1, h2.trans k2 R.len, .cons (h3.mono h1 k2 Apart.none) k3, congrArg (· + 1) k4⟩
end
theorem freeze_VR {h : Heap} (v : V) {σ σ₁ : Sg} {v' : V} {cv : Value} (e : freeze σ v = some (v', σ₁)) (R : SR B σ φ h) (r : VR B σ φ h v cv) : SR B σ₁ φ h ∧ Stp W0 σ φ h σ₁ φ h ∧ VR B σ₁ φ h v' cv := freeze_to v e R r
end

section
variable {C : Cx} {A : Around} {E : Value → Shared → Prop} {s : Shared} {tbl : List (Str × Nat)} {env : Env} {Γ : Fm} {σ : Sg} {φ : List Addr}

theorem SR.ns {B : Bs} {h : Heap} {a : Addr} {m : Str → Option Value} (R : SR B σ φ h) (hn : B.hb.Ns a m) : h.Ns a m := hn.keeps R.based

theorem isGlob_eq {k : Option NameKind} (h : isGlob k = true) : k = some .globalImplicit := by
  cases k with
  | none => cases h
  | some k => cases k <;> first | rfl | cases h
theorem isVar_eq {k : Option NameKind} (h : isVar k = true) : k = some .local ∨ k = some .cell ∨ k = some .free := by
  cases k with
  | none => cases h
  | some k => cases k <;> first | exact .inl rfl | exact .inr (.inl rfl) | exact .inr (.inr rfl) | cases h
theorem isLoc_eq {k : Option NameKind} (h : isLoc k = true) : k = some .local := by
  cases k with
  | none => cases h
  | some k => cases k <;> first | rfl | cases h
theorem isCel_eq {k : Option NameKind} (h : isCel k = true) : k = some .cell := by
  cases k with
  | none => cases h
  | some k => cases k <;> first | rfl | cases h
theorem okId_eq {id : Str} (h : okId id = true) : (id == ("__debug__" : Str)) = false ∧ id ≠ ("__classdict__" : Str) := by
  unfold okId at h
  rw [Bool.and_eq_true, Bool.not_eq_true', Bool.not_eq_true'] at h
  refine ⟨?_, fun e => ?_⟩
  · cases hb : id == ("__debug__" : Str) with
    | false => rfl
    | true => rw [beq_iff_eq.mp hb, eqS_iff.mpr rfl] at h; cases h.1
  · rw [e, eqS_iff.mpr rfl] at h; cases h.2

theorem eval_glob {id : Str} {p : Pos} {cv : Value} {Q : Value → Shared → Prop} (R : SR C.B σ φ s.heap) (F : FR C.B tbl env Γ σ φ s.heap) (ok : C.Ok) (hk : isGlob (lkS env.scope.names id) = true) (hid : okId id = true)
    (hv : C.mg id = some cv) (hq : Q cv s) : wpAny C.M A (eval (.Name id p) env) Q E s := by
  rw [lkS_eq] at hk
  exact Name_function_global F.kind (isGlob_eq hk) (loadGlobal_global (mg := C.mg) (by rw [F.gl]; exact R.ns ok.g) hv hq) (okId_eq hid).1
theorem eval_bin {id : Str} {p : Pos} {cv : Value} {Q : Value → Shared → Prop} (R : SR C.B σ φ s.heap) (F : FR C.B tbl env Γ σ φ s.heap) (ok : C.Ok) (hk : isGlob (lkS env.scope.names id) = true) (hid : okId id = true)
    (hm : (id, cv) ∈ bnames) (hq : Q cv s) : wpAny C.M A (eval (.Name id p) env) Q E s := by
  rw [lkS_eq] at hk
  obtain ⟨h1, h2⟩ := ok.bins _ hm
  exact Name_function_global F.kind (isGlob_eq hk) (loadGlobal_builtin (mg := C.mg) (mb := C.mb) (by rw [F.gl]; exact R.ns ok.g) h1 (by rw [F.bi]; exact R.ns ok.b) h2 hq) (okId_eq hid).1
end
end Mine

namespace Mine
open PySem PyProof.Rows PySem.Calls

section
variable {env : Env}

theorem star_of {e : Expr} (h : notStar e = true) (rest : List Expr) : starEach (e :: rest) env = (false, eval e env) :: starEach rest env := by
  cases e with
  | Starred v p => exact no_true h
  | _ => rfl
theorem sub_of {e : Expr} (h : notSlice e = true) (o i : Value) : subscripted e false o i = operate [o, i] (getItem o i) := by
  cases e with
  | Slice a b c p => exact no_true h
  | _ => rfl
theorem folded_of {e : Expr} (h : setOk e = true) (x : Value) : foldedSetIterable e env x = pure x := by
  cases e with
  | Set a b c => exact no_true h
  | _ => rfl
theorem marks_of {e : Expr} (h : setOk e = true) (op : CmpOp) : behindInMarks op e = false := by
  cases e with
  | Set a b c => exact no_true h
  | _ => rfl
theorem marked_of {e : Expr} (h : setOk e = true) (op : CmpOp) (t : Sem Value) : markedBehindIn op e t = t := markedBehindIn_of_false (marks_of h op)
theorem base_of {o : Expr} (h : baseOk o = true) (name : Str) (t : Sem Value) : attributeBase o name env t = t := by
  cases o with
  | Name a b => rfl
  | Subscript a b c => rfl
  | Constant a b c => rfl
  | _ => exact no_true h
theorem test_of {e : Expr} (h : plainTest e = true) (t : Sem Value) : isTrue e env t = (do let v ← t; standAt e.pos; holding [v] (truthy v)) := by
  cases e with
  | UnaryOp a b c => exact no_true h
  | BoolOp a b c => exact no_true h
  | IfExp a b c d => exact no_true h
  | Compare a b c d => exact no_true h
  | _ => rfl
end
end Mine

namespace Mine
open PySem PyProof.Rows PySem.Calls

section
variable {M : Model} {A : Around} {E : Value → Shared → Prop} {s : Shared}

theorem callWith_plain {pos : Pos} {f : Value} {first : List Value} {args : List (Bool × Sem Value)} {Q : Value → Shared → Prop} (hf : (∃ id, f = .builtin id) ∨ ∃ T, f = .type T) (hs : args.any (·.1) = false)
    (h : wpAny M A (evalArgs f true args []) (fun x s₁ => wpAny M A (call f (first ++ x.pos) x.kw) Q E s₁) E s) : wpAny M A (callWith pos f first args []) Q E s := by
  have tail : ∀ {t : Sem Value} {s₁ : Shared}, wpAny M A t Q E s₁ → wpAny M A (t >>= fun r => holding [r] point >>= fun _ => pure r) Q E s₁ :=
    fun ht => wpAny_bind (wpAny_mono ht (fun r s₂ hr => wpAny_bind (wpAny_holding (wpAny_point (wpAny_pure hr)))) fun _ _ x => x)
  unfold callWith
  refine wpAny_bind (wpAny_holding (wpAny_mono h (fun x s₁ h₁ => wpAny_bind (wpAny_standAt ?_)) fun _ _ x => x))
  rw [hs]
  rcases hf with ⟨id, rfl⟩ | ⟨T, rfl⟩
  · exact wpAny_bind (m := keeperOf (.builtin id)) (wpAny_pure (tail h₁))
  · exact wpAny_bind (m := keeperOf (.type T)) (wpAny_pure (tail h₁))

theorem evalArgs_star {f : Value} {e : Expr} {rest : List Expr} {env : Env} {pos : Pos} {Q : Args → Shared → Prop} (he : starEach (e :: rest) env = (false, eval e env) :: starEach rest env)
    (h : wpAny M A (spliced (backTo pos (starEach (e :: rest) env))) (fun vs s' => Q ⟨vs, []⟩ s') E s) : wpAny M A (evalArgs f true (backTo pos (starEach (e :: rest) env)) []) Q E s := by
  rw [he] at h ⊢
  exact evalArgs_plain h
end

theorem back_any {env : Env} {pos : Pos} {N : Nm} {sc : List (Str × NameKind)} {tbl : List (Str × Nat)} {nl : Nat} : ∀ {n : Nat} {es : List Expr} {xs : List Ex}, chkEs N n sc tbl nl es xs = true → (backTo pos (starEach es env)).any (·.1) = false
  | 0, _, _, h => by simp [chkEs] at h
  | n + 1, [], _, _ => rfl
  | n + 1, e :: es, [], h => by simp [chkEs] at h
  | n + 1, e :: es, x :: xs, h => by
    have h : (notStar e && (chkE N n sc tbl nl e x && chkEs N n sc tbl nl es xs)) = true := h
    rw [star_of (both h).1]
    have := back_any (env := env) (pos := pos) (both (both h).2).2
    simp only [backTo, List.map_cons, List.any_cons, Bool.false_or] at this ⊢
    exact this
theorem chk_star {N : Nm} {sc : List (Str × NameKind)} {tbl : List (Str × Nat)} {nl : Nat} {n : Nat} {e : Expr} {es : List Expr} {xs : List Ex} (h : chkEs N n sc tbl nl (e :: es) xs = true) : notStar e = true := by
  cases n with
  | zero => exact no_true h
  | succ n => cases xs with
    | nil => exact no_true h
    | cons x xs => exact (both (show (notStar e && (chkE N n sc tbl nl e x && chkEs N n sc tbl nl es xs)) = true from h)).1
end Mine

namespace Mine
open PySem PyProof.Rows PySem.Calls

noncomputable def SE (C : Cx) (d n : Nat) : Prop := ∀ (e : Expr) (x : Ex) (env : Env) (tbl : List (Str × Nat)) (Γ : Fm) (σ : Sg) (v : V) (σ' : Sg) (A : Around) (s : Shared) (φ : List Addr) (E : Value → Shared → Prop),
  chkE C.N n env.scope.names tbl Γ.length e x = true → evE C.gl (callF C.gl C.P d) x Γ σ = .ok v σ' → Room d A → SR C.B σ φ s.heap → FR C.B tbl env Γ σ φ s.heap →
  wpAny C.M A (eval e env) (Post C.B s σ φ σ' v) E s
noncomputable def ST (C : Cx) (d n : Nat) : Prop := ∀ (e : Expr) (x : Ex) (env : Env) (tbl : List (Str × Nat)) (Γ : Fm) (σ : Sg) (v : V) (t : Bool) (σ' : Sg) (A : Around) (s : Shared) (φ : List Addr) (E : Value → Shared → Prop),
  tstOk e x = true → chkE C.N n env.scope.names tbl Γ.length e x = true → evE C.gl (callF C.gl C.P d) x Γ σ = .ok v σ' → vTrue σ' v = some t → Room d A → SR C.B σ φ s.heap → FR C.B tbl env Γ σ φ s.heap →
  wpAny C.M A (isTrue e env (eval e env)) (fun b s' => b = t ∧ PostU C.B s σ φ σ' s') E s
noncomputable def SEs (C : Cx) (d n : Nat) : Prop := ∀ (es : List Expr) (xs : List Ex) (env : Env) (tbl : List (Str × Nat)) (Γ : Fm) (σ : Sg) (vs : List V) (σ' : Sg) (A : Around) (s : Shared) (φ : List Addr) (E : Value → Shared → Prop) (pos : Pos),
  chkEs C.N n env.scope.names tbl Γ.length es xs = true → evEs C.gl (callF C.gl C.P d) xs Γ σ = .ok vs σ' → Room d A → SR C.B σ φ s.heap → FR C.B tbl env Γ σ φ s.heap →
  wpAny C.M A (spliced (backTo pos (starEach es env))) (PostL C.B s σ φ σ' vs) E s
noncomputable def SL (C : Cx) (d n : Nat) : Prop := ∀ (op : BoolOp) (w : Expr) (r : List Expr) (x : Ex) (env : Env) (tbl : List (Str × Nat)) (Γ : Fm) (σ : Sg) (v : V) (σ' : Sg) (A : Around) (s : Shared) (φ : List Addr) (E : Value → Shared → Prop) (pos : Pos),
  chkL C.N n env.scope.names tbl Γ.length (isAnd op) w r x = true → evE C.gl (callF C.gl C.P d) x Γ σ = .ok v σ' → Room d A → SR C.B σ φ s.heap → FR C.B tbl env Γ σ φ s.heap →
  wpAny C.M A (boolOp pos op (evalEach (w :: r) env)) (Post C.B s σ φ σ' v) E s ∧
  ∀ t, vTrue σ' v = some t → wpAny C.M A (allTrue op (w :: r) env) (fun b s' => b = t ∧ PostU C.B s σ φ σ' s') E s
noncomputable def SO (C : Cx) (d n : Nat) : Prop := ∀ (e : Option Expr) (x : Option Ex) (env : Env) (tbl : List (Str × Nat)) (Γ : Fm) (σ : Sg) (i : Option Int) (σ' : Sg) (A : Around) (s : Shared) (φ : List Addr) (E : Value → Shared → Prop),
  chkO C.N n env.scope.names tbl Γ.length e x = true → evO C.gl (callF C.gl C.P d) x Γ σ = .ok i σ' → Room d A → SR C.B σ φ s.heap → FR C.B tbl env Γ σ φ s.heap →
  wpAny C.M A (evalPart e env) (PostO C.B s σ φ σ' i) E s
noncomputable def SI (C : Cx) (d n : Nat) : Prop := ∀ (e : Expr) (ik : IK) (x y : Ex) (env : Env) (tbl : List (Str × Nat)) (Γ : Fm) (σ : Sg) (a : V) (σ₁ : Sg) (b : V) (σ₂ : Sg) (items : List V) (A : Around) (s : Shared) (φ : List Addr) (E : Value → Shared → Prop),
  chkI C.N n env.scope.names tbl Γ.length e ik x y = true → evE C.gl (callF C.gl C.P d) x Γ σ = .ok a σ₁ → evE C.gl (callF C.gl C.P d) y Γ σ₁ = .ok b σ₂ → vItems ik a b = some items → Room d A → SR C.B σ φ s.heap → FR C.B tbl env Γ σ φ s.heap →
  wpAny C.M A (eval e env) (PostI C.B s σ φ σ₂ items) E s

section
variable {C : Cx} {d n : Nat} {env : Env} {tbl : List (Str × Nat)} {Γ : Fm} {σ σ' : Sg} {v : V} {A : Around} {s : Shared} {φ : List Addr} {E : Value → Shared → Prop}

theorem sEs_succ (hE : SE C d n) (hEs : SEs C d n) : SEs C d (n + 1) := by
  intro es xs env tbl Γ σ vs σ' A s φ E pos hc he hr R F
  cases es with
  | nil =>
    cases xs with
    | nil => cases he; exact spliced_nil ⟨φ, s.heap, s.toks, rfl, R, .refl, .nil⟩
    | cons x xs => exact no_true hc
  | cons e es =>
    cases xs with
    | nil => exact no_true hc
    | cons x xs =>
      have hc : (notStar e && (chkE C.N n env.scope.names tbl Γ.length e x && chkEs C.N n env.scope.names tbl Γ.length es xs)) = true := hc
      obtain ⟨hst, hc⟩ := both hc
      have hc := both hc
      rw [evEs_cons] at he
      obtain ⟨v, σ₁, h1, he⟩ := bind_eq_ok he
      obtain ⟨ws, σ₂, h2, he⟩ := bind_eq_ok he
      cases he
      rw [star_of hst]
      show wpAny C.M A (spliced ((false, eval e env) :: backTo pos (starEach es env))) _ E s
      refine spliced_cons (post_mono (hE e x env tbl Γ σ v σ₁ A s φ E hc.1 h1 hr R F) fun cv φ₁ h₁ tk R₁ S₁ r₁ => ?_)
      refine wpAny_mono (hEs es xs env tbl Γ σ₁ ws σ' A _ φ₁ E pos hc.2 h2 hr R₁ (F.mono0 R S₁)) (fun cvs s₂ P => ?_) fun _ _ e => e
      obtain ⟨φ₂, h₂, tk₂, rfl, R₂, S₂, r₂⟩ := P
      exact ⟨φ₂, h₂, tk₂, rfl, R₂, S₁.trans S₂ R.len, .cons (r₁.mono R₁ S₂ Apart.none) r₂⟩

theorem sO_succ (hE : SE C d n) : SO C d (n + 1) := by
  intro e x env tbl Γ σ i σ' A s φ E hc he hr R F
  cases x with
  | none =>
    have hc : e.isNone = true := hc
    cases e with
    | some e => exact no_true hc
    | none => cases he; rw [evalPart_none]; exact wpAny_pure ⟨φ, s.heap, s.toks, rfl, R, .refl, .none⟩
  | some x =>
    obtain ⟨e, rfl, hc⟩ := on_o (show onO e (fun e => chkE C.N n env.scope.names tbl Γ.length e x) = true from hc)
    rw [evO_some] at he
    obtain ⟨v, σ₁, h1, he⟩ := bind_eq_ok he
    obtain ⟨j, h2, he⟩ := bind_of_ok he
    cases he
    show wpAny C.M A (eval e env) _ E s
    refine post_mono (hE e x env tbl Γ σ v σ' A s φ E hc h1 hr R F) fun cv φ₁ h₁ tk R₁ S₁ r₁ => ⟨φ₁, h₁, tk, rfl, R₁, S₁, ?_⟩
    cases v with
    | int i => exact inInt (z := fun cv => IsPart cv (some j)) r₁ fun t => Option.some.inj h2 ▸ .int _ _
    | _ => exact no_some h2

theorem sL_succ (hE : SE C d n) (hT : ST C d n) (hL : SL C d n) : SL C d (n + 1) := by
  intro op w r x env tbl Γ σ v σ' A s φ E pos hc he hr R F
  cases r with
  | nil =>
    obtain ⟨hts, hc⟩ := both (show (tstOk w x && chkE C.N n env.scope.names tbl Γ.length w x) = true from hc)
    refine ⟨hE w x env tbl Γ σ v σ' A s φ E hc he hr R F, fun t ht => ?_⟩
    show wpAny C.M A (isTrue w env (eval w env) >>= _) _ E s
    refine wpAny_bind (wpAny_mono (hT w x env tbl Γ σ v t σ' A s φ E hts hc he ht hr R F) (fun b s' hb => ?_) fun _ _ e => e)
    obtain ⟨rfl, P⟩ := hb
    cases op <;> cases b <;> exact wpAny_pure ⟨rfl, P⟩
  | cons w' r =>
    cases op with
    | And =>
      cases x with
      | and a b =>
        obtain ⟨_, hc⟩ := both (show (true && (tstOk w a && (chkE C.N n env.scope.names tbl Γ.length w a && chkL C.N n env.scope.names tbl Γ.length (isAnd .And) w' r b))) = true from hc)
        obtain ⟨hts, hc⟩ := both hc
        have hc := both hc
        rw [evE_and] at he
        obtain ⟨u, σ₁, h1, he⟩ := bind_eq_ok he
        obtain ⟨t, h2, he⟩ := bind_of_ok he
        constructor
        · show wpAny C.M A (eval w env >>= _) _ E s
          refine wpAny_bind (post_mono (hE w a env tbl Γ σ u σ₁ A s φ E hc.1 h1 hr R F) fun cv φ₁ h₁ tk R₁ S₁ r₁ => ?_)
          refine wpAny_bind (wpAny_standAt (wpAny_bind (wpAny_holding (op_truthy h2 R₁ r₁ fun tk' => ?_))))
          cases t with
          | false => cases he; exact wpAny_pure ⟨φ₁, h₁, tk', rfl, R₁, S₁, r₁⟩
          | true =>
            exact wpAny_mono (hL .And w' r b env tbl Γ σ₁ v σ' A _ φ₁ E pos hc.2 he hr R₁ (F.mono0 R S₁)).1 (fun cv s₂ P => P.trans R.len S₁) fun _ _ e => e
        · intro t' ht'
          show wpAny C.M A (isTrue w env (eval w env) >>= _) _ E s
          refine wpAny_bind (wpAny_mono (hT w a env tbl Γ σ u t σ₁ A s φ E hts hc.1 h1 h2 hr R F) (fun b' s' hb => ?_) fun _ _ e => e)
          obtain ⟨rfl, P⟩ := hb
          cases b' with
          | false => cases he; rw [h2] at ht'; cases ht'; exact wpAny_pure ⟨rfl, P⟩
          | true =>
            obtain ⟨φ₁, h₁, tk, rfl, R₁, S₁⟩ := P
            exact wpAny_mono ((hL .And w' r b env tbl Γ σ₁ v σ' A _ φ₁ E pos hc.2 he hr R₁ (F.mono0 R S₁)).2 t' ht') (fun b s₂ P => ⟨P.1, P.2.trans R.len S₁⟩) fun _ _ e => e
      | _ => exact no_true hc
    | Or =>
      cases x with
      | or a b =>
        obtain ⟨_, hc⟩ := both (show (!false && (tstOk w a && (chkE C.N n env.scope.names tbl Γ.length w a && chkL C.N n env.scope.names tbl Γ.length (isAnd .Or) w' r b))) = true from hc)
        obtain ⟨hts, hc⟩ := both hc
        have hc := both hc
        rw [evE_or] at he
        obtain ⟨u, σ₁, h1, he⟩ := bind_eq_ok he
        obtain ⟨t, h2, he⟩ := bind_of_ok he
        constructor
        · show wpAny C.M A (eval w env >>= _) _ E s
          refine wpAny_bind (post_mono (hE w a env tbl Γ σ u σ₁ A s φ E hc.1 h1 hr R F) fun cv φ₁ h₁ tk R₁ S₁ r₁ => ?_)
          refine wpAny_bind (wpAny_standAt (wpAny_bind (wpAny_holding (op_truthy h2 R₁ r₁ fun tk' => ?_))))
          cases t with
          | true => cases he; exact wpAny_pure ⟨φ₁, h₁, tk', rfl, R₁, S₁, r₁⟩
          | false =>
            exact wpAny_mono (hL .Or w' r b env tbl Γ σ₁ v σ' A _ φ₁ E pos hc.2 he hr R₁ (F.mono0 R S₁)).1 (fun cv s₂ P => P.trans R.len S₁) fun _ _ e => e
        · intro t' ht'
          show wpAny C.M A (isTrue w env (eval w env) >>= _) _ E s
          refine wpAny_bind (wpAny_mono (hT w a env tbl Γ σ u t σ₁ A s φ E hts hc.1 h1 h2 hr R F) (fun b' s' hb => ?_) fun _ _ e => e)
          obtain ⟨rfl, P⟩ := hb
          cases b' with
          | true => cases he; rw [h2] at ht'; cases ht'; exact wpAny_pure ⟨rfl, P⟩
          | false =>
            obtain ⟨φ₁, h₁, tk, rfl, R₁, S₁⟩ := P
            exact wpAny_mono ((hL .Or w' r b env tbl Γ σ₁ v σ' A _ φ₁ E pos hc.2 he hr R₁ (F.mono0 R S₁)).2 t' ht') (fun b s₂ P => ⟨P.1, P.2.trans R.len S₁⟩) fun _ _ e => e
      | _ => exact no_true hc
end
end Mine

namespace Mine
open PySem PyProof.Rows PySem.Calls

section
variable {C : Cx} {d n : Nat}

theorem post_pure {B : Bs} {s : Shared} {σ : Sg} {φ : List Addr} {v : V} {cv : Value} (R : SR B σ φ s.heap) (tk : Nat) (r : VR B σ φ s.heap v cv) : Post B s σ φ σ v cv { s with toks := tk } :=
  ⟨φ, s.heap, tk, rfl, R, .refl, r⟩

theorem SR.sysOk {B : Bs} {s : Shared} {σ : Sg} {φ : List Addr} (R : SR B σ φ s.heap) : (s.heap.objs.size == sysModules) = false := by
  obtain ⟨o, ho⟩ := R.main
  have h : (3 : Nat) < s.heap.objs.size := Heap.lt_size ho
  have hne : ¬ s.heap.objs.size = (1 : Nat) := by omega
  exact beq_eq_false_iff_ne.mpr hne

/-- a new list of related items, live or frozen -/
theorem put_new {m : Bool} {xs : List V} {vs : List Value} {B : Bs} {s : Shared} {σ σ' : Sg} {φ : List Addr} {v : V} (h : putL m xs σ = .ok v σ') (R : SR B σ φ s.heap) (r : VRs B σ φ s.heap xs vs) (tk : Nat) :
    Post B s σ φ σ' v (.ref s.heap.objs.size) { s with heap := s.heap.push { cls := .type "list", data := .seq vs.toArray }, toks := tk } := by
  unfold putL at h
  split at h
  · rename_i hn
    cases m with
    | true =>
      cases h
      have hk := push_keeps s.heap { cls := .type "list", data := .seq vs.toArray }
      refine ⟨φ ++ [s.heap.objs.size], _, tk, rfl, R.allocL (get_size _) hk ⟨_, Heap.get?_push_size _ rfl⟩ r hn R.sysOk, Stp.alloc R.len (get_size _) hk, .ref ?_⟩
      rw [← R.len]; simp
    | false =>
      cases h
      exact ⟨φ, _, tk, rfl, R.grow (push_keeps _ _), Stp.grow (push_keeps _ _), VR.newLst R r hn 0⟩
  · cases h

theorem sE_const {e : Expr} {x : Ex} {env : Env} {tbl : List (Str × Nat)} {Γ : Fm} {σ : Sg} {v : V} {σ' : Sg} {A : Around} {s : Shared} {φ : List Addr} {E : Value → Shared → Prop}
    (hx : x = .cNone ∨ (∃ b, x = .cBool b) ∨ (∃ i, x = .cInt i) ∨ ∃ l, x = .cStr l)
    (hc : chkE C.N (n + 1) env.scope.names tbl Γ.length e x = true) (he : evE C.gl (callF C.gl C.P d) x Γ σ = .ok v σ') (R : SR C.B σ φ s.heap) :
    wpAny C.M A (eval e env) (Post C.B s σ φ σ' v) E s := by
  rcases hx with rfl | ⟨b, rfl⟩ | ⟨i, rfl⟩ | ⟨l, rfl⟩
  · replace hc := on_const (show onConst e isConstN = true from hc)
    obtain ⟨c, k, p, rfl, hc⟩ := hc
    cases c with
    | none => cases he; exact wpAny_pure (post_pure R s.toks .none)
    | _ => exact no_true hc
  · replace hc := on_const (show onConst e (isConstB b) = true from hc)
    obtain ⟨c, k, p, rfl, hc⟩ := hc
    cases c with
    | bool b' => cases he; rw [← beq_iff_eq.mp (show (b == b') = true from hc)]; exact wpAny_pure (post_pure R s.toks (.bool b))
    | _ => exact no_true hc
  · replace hc := on_const (show onConst e (isConstI i) = true from hc)
    obtain ⟨c, k, p, rfl, hc⟩ := hc
    cases c with
    | int i' => cases he; rw [← beq_iff_eq.mp (show (i == i') = true from hc)]; exact wpAny_Constant_int (post_pure R _ (.int i _))
    | _ => exact no_true hc
  · replace hc := on_const (show onConst e (isConstS l) = true from hc)
    obtain ⟨c, k, p, rfl, hc⟩ := hc
    cases c with
    | str s' =>
      cases he
      replace hc := both (show (s'.cps.toList == l && decide (l.length ≤ 1000)) = true from hc)
      obtain ⟨hc1, hc2⟩ := hc
      refine wpAny_mkText ?_
      have e : s' = ⟨l.toArray⟩ := by
        obtain ⟨⟨a⟩⟩ := s'
        have := beq_iff_eq.mp hc1
        simp at this
        rw [this]
      rw [e]
      exact post_pure R _ (.str l _ (by have := of_decide_eq_true hc2; unfold roomy; omega))
    | _ => exact no_true hc

theorem sE_names (ok : C.Ok) {e : Expr} {x : Ex} {env : Env} {tbl : List (Str × Nat)} {Γ : Fm} {σ : Sg} {v : V} {σ' : Sg} {A : Around} {s : Shared} {φ : List Addr} {E : Value → Shared → Prop}
    (hx : (∃ i, x = .var i) ∨ ∃ g, x = .glob g)
    (hc : chkE C.N (n + 1) env.scope.names tbl Γ.length e x = true) (he : evE C.gl (callF C.gl C.P d) x Γ σ = .ok v σ') (R : SR C.B σ φ s.heap) (F : FR C.B tbl env Γ σ φ s.heap) :
    wpAny C.M A (eval e env) (Post C.B s σ φ σ' v) E s := by
  rcases hx with ⟨i, rfl⟩ | ⟨g, rfl⟩
  · replace hc := on_name (show onName e (fun id => lkS tbl id == some i && isVar (lkS env.scope.names id) && okId id) = true from hc)
    obtain ⟨id, p, rfl, hc⟩ := hc
    rw [Bool.and_eq_true, Bool.and_eq_true, beq_iff_eq, lkS_eq, lkS_eq] at hc
    obtain ⟨h1, e1⟩ := of_eq_ok he
    subst e1
    obtain ⟨k1, k2⟩ := okId_eq hc.2
    exact wpAny_Name (load_var F hc.1.1 h1 (isVar_eq hc.1.2) k2 fun cv r => post_pure R s.toks r) k1
  · replace hc := on_name (show onName e (fun id => nameAt C.N.gns g id && globOk env.scope.names id) = true from hc)
    obtain ⟨id, p, rfl, hc⟩ := hc
    replace hc := both hc
    obtain ⟨hc1, hc2⟩ := hc
    obtain ⟨hc2, hc3⟩ := both hc2
    obtain ⟨h1, e1⟩ := of_eq_ok he
    subst e1
    obtain ⟨y, cv, k1, k2, k3⟩ := ok.glob g v h1
    rw [nameAt_eq hc1] at k1
    cases k1
    exact eval_glob R F ok hc2 hc3 k2 (post_pure R s.toks (k3 _ _ _ _))

theorem sE_bools (hE : SE C d n) (hT : ST C d n) (hL : SL C d n) {e : Expr} {x : Ex} {env : Env} {tbl : List (Str × Nat)} {Γ : Fm} {σ : Sg} {v : V} {σ' : Sg} {A : Around} {s : Shared} {φ : List Addr} {E : Value → Shared → Prop}
    (hx : (∃ a b, x = .and a b) ∨ ∃ a b, x = .or a b)
    (hc : chkE C.N (n + 1) env.scope.names tbl Γ.length e x = true) (he : evE C.gl (callF C.gl C.P d) x Γ σ = .ok v σ') (hr : Room d A) (R : SR C.B σ φ s.heap) (F : FR C.B tbl env Γ σ φ s.heap) :
    wpAny C.M A (eval e env) (Post C.B s σ φ σ' v) E s ∧ ∀ t, vTrue σ' v = some t → wpAny C.M A (isTrue e env (eval e env)) (fun b s' => b = t ∧ PostU C.B s σ φ σ' s') E s := by
  rcases hx with ⟨a, b, rfl⟩ | ⟨a, b, rfl⟩
  · replace hc := on_boolOp (show onBoolOp e (fun o l => isAnd o && onTwo l fun v w r => tstOk v a && (chkE C.N n env.scope.names tbl Γ.length v a && chkL C.N n env.scope.names tbl Γ.length true w r b)) = true from hc)
    obtain ⟨o, l, p, rfl, hc⟩ := hc
    replace hc := both hc
    obtain ⟨h1, hc⟩ := hc
    replace hc := on_two hc
    obtain ⟨u, w, r, rfl, hc⟩ := hc
    cases o with
    | Or => exact no_true h1
    | And => exact sL_succ hE hT hL .And u (w :: r) (.and a b) env tbl Γ σ v σ' A s φ E p hc he hr R F
  · replace hc := on_boolOp (show onBoolOp e (fun o l => !isAnd o && onTwo l fun v w r => tstOk v a && (chkE C.N n env.scope.names tbl Γ.length v a && chkL C.N n env.scope.names tbl Γ.length false w r b)) = true from hc)
    obtain ⟨o, l, p, rfl, hc⟩ := hc
    replace hc := both hc
    obtain ⟨h1, hc⟩ := hc
    replace hc := on_two hc
    obtain ⟨u, w, r, rfl, hc⟩ := hc
    cases o with
    | And => exact no_true h1
    | Or => exact sL_succ hE hT hL .Or u (w :: r) (.or a b) env tbl Γ σ v σ' A s φ E p hc he hr R F

theorem sE_not (hE : SE C d n) (hT : ST C d n) {e : Expr} {a : Ex} {env : Env} {tbl : List (Str × Nat)} {Γ : Fm} {σ : Sg} {v : V} {σ' : Sg} {A : Around} {s : Shared} {φ : List Addr} {E : Value → Shared → Prop}
    (hc : chkE C.N (n + 1) env.scope.names tbl Γ.length e (.not a) = true) (he : evE C.gl (callF C.gl C.P d) (.not a) Γ σ = .ok v σ') (hr : Room d A) (R : SR C.B σ φ s.heap) (F : FR C.B tbl env Γ σ φ s.heap) :
    wpAny C.M A (eval e env) (Post C.B s σ φ σ' v) E s ∧ ∀ t, vTrue σ' v = some t → wpAny C.M A (isTrue e env (eval e env)) (fun b s' => b = t ∧ PostU C.B s σ φ σ' s') E s := by
  replace hc := on_unary (show onUnary e (fun o x => isNot o && (tstOk x a && chkE C.N n env.scope.names tbl Γ.length x a)) = true from hc)
  obtain ⟨o, e, p, rfl, hc⟩ := hc
  replace hc := both hc
  obtain ⟨h0, hc⟩ := hc
  replace hc := both hc
  obtain ⟨hts, hc⟩ := hc
  cases o with
  | Not =>
    rw [evE_not] at he
    obtain ⟨u, σ₁, h1, he⟩ := bind_eq_ok he
    obtain ⟨t, h2, he⟩ := bind_of_ok he
    cases he
    constructor
    · show wpAny C.M A (eval e env >>= _) _ E s
      refine wpAny_bind (post_mono (hE e a env tbl Γ σ u _ A s φ E hc h1 hr R F) fun cv φ₁ h₁ tk R₁ S₁ r₁ => ?_)
      refine wpAny_bind (wpAny_standAt (wpAny_holding (not_value (op_truthy h2 R₁ r₁ fun tk' => ?_))))
      exact ⟨φ₁, h₁, tk', rfl, R₁, S₁, .bool _⟩
    · intro t' ht'
      cases ht'
      refine PyProof.Rows.isTrue_not (wpAny_mono (hT e a env tbl Γ σ u t _ A s φ E hts hc h1 h2 hr R F) (fun b s' hb => ?_) fun _ _ e => e)
      exact ⟨by rw [hb.1], hb.2⟩
  | _ => exact no_true h0

theorem sE_neg (hE : SE C d n) {e : Expr} {a : Ex} {env : Env} {tbl : List (Str × Nat)} {Γ : Fm} {σ : Sg} {v : V} {σ' : Sg} {A : Around} {s : Shared} {φ : List Addr} {E : Value → Shared → Prop}
    (hc : chkE C.N (n + 1) env.scope.names tbl Γ.length e (.neg a) = true) (he : evE C.gl (callF C.gl C.P d) (.neg a) Γ σ = .ok v σ') (hr : Room d A) (R : SR C.B σ φ s.heap) (F : FR C.B tbl env Γ σ φ s.heap) :
    wpAny C.M A (eval e env) (Post C.B s σ φ σ' v) E s ∧ ∃ x p, e = .UnaryOp .USub x p := by
  replace hc := on_unary (show onUnary e (fun o x => isUSub o && chkE C.N n env.scope.names tbl Γ.length x a) = true from hc)
  obtain ⟨o, e, p, rfl, hc⟩ := hc
  replace hc := both hc
  obtain ⟨h0, hc⟩ := hc
  cases o with
  | USub =>
    rw [evE_neg] at he
    obtain ⟨u, σ₁, h1, he⟩ := bind_eq_ok he
    obtain ⟨h2, e2⟩ := of_eq_ok he
    subst e2
    refine ⟨?_, _, _, rfl⟩
    show wpAny C.M A (eval e env >>= _) _ E s
    refine wpAny_bind (post_mono (hE e a env tbl Γ σ u _ A s φ E hc h1 hr R F) fun cv φ₁ h₁ tk R₁ S₁ r₁ => ?_)
    refine wpAny_bind (wpAny_standAt (wpAny_holding ?_))
    cases u with
    | int i => exact inInt (z := fun cv => wpAny C.M A (unaryOp .USub cv) (Post C.B s σ φ σ₁ v) E { s with heap := h₁, toks := tk }) r₁ fun t => P.neg_int ⟨φ₁, h₁, _, rfl, R₁, S₁, Option.some.inj h2 ▸ .int _ _⟩
    | _ => exact no_some h2
  | _ => exact no_true h0

theorem sE_bin (hE : SE C d n) {e : Expr} {o : Bop} {a b : Ex} {env : Env} {tbl : List (Str × Nat)} {Γ : Fm} {σ : Sg} {v : V} {σ' : Sg} {A : Around} {s : Shared} {φ : List Addr} {E : Value → Shared → Prop}
    (hc : chkE C.N (n + 1) env.scope.names tbl Γ.length e (.bin o a b) = true) (he : evE C.gl (callF C.gl C.P d) (.bin o a b) Γ σ = .ok v σ') (hr : Room d A) (R : SR C.B σ φ s.heap) (F : FR C.B tbl env Γ σ φ s.heap) :
    wpAny C.M A (eval e env) (Post C.B s σ φ σ' v) E s := by
  replace hc := on_bin (show onBin e (fun l op r => opIs o op && (chkE C.N n env.scope.names tbl Γ.length l a && chkE C.N n env.scope.names tbl Γ.length r b)) = true from hc)
  obtain ⟨l, op, r, p, rfl, hc⟩ := hc
  replace hc := both hc
  obtain ⟨h0, hc⟩ := hc
  have hc := both hc
  have := opIs_eq h0
  subst this
  · rw [evE_bin] at he
    obtain ⟨u, σ₁, h1, he⟩ := bind_eq_ok he
    obtain ⟨w, σ₂, h2, he⟩ := bind_eq_ok he
    obtain ⟨h3, e3⟩ := of_eq_ok he
    subst e3
    refine wpAny_BinOp (post_mono (hE l a env tbl Γ σ u σ₁ A s φ E hc.1 h1 hr R F) fun cv φ₁ h₁ tk R₁ S₁ r₁ => ?_)
    refine post_mono (hE r b env tbl Γ σ₁ w σ₂ A _ φ₁ E hc.2 h2 hr R₁ (F.mono0 R S₁)) fun cw φ₂ h₂ tk₂ R₂ S₂ r₂ => ?_
    exact op_bin h3 R₂ (r₁.mono R₁ S₂ Apart.none) r₂ (grow_post R₂ fun cv s' P => P.trans R.len (S₁.trans S₂ R.len))

theorem sE_cmp (hE : SE C d n) {e : Expr} {o : Cop} {a b : Ex} {env : Env} {tbl : List (Str × Nat)} {Γ : Fm} {σ : Sg} {v : V} {σ' : Sg} {A : Around} {s : Shared} {φ : List Addr} {E : Value → Shared → Prop}
    (hc : chkE C.N (n + 1) env.scope.names tbl Γ.length e (.cmp o a b) = true) (he : evE C.gl (callF C.gl C.P d) (.cmp o a b) Γ σ = .ok v σ') (hr : Room d A) (R : SR C.B σ φ s.heap) (F : FR C.B tbl env Γ σ φ s.heap) :
    wpAny C.M A (eval e env) (Post C.B s σ φ σ' v) E s ∧ ∀ t, vTrue σ' v = some t → wpAny C.M A (isTrue e env (eval e env)) (fun b s' => b = t ∧ PostU C.B s σ φ σ' s') E s := by
  replace hc := on_compare (show onCompare e (fun l ops rs => on1 ops fun op => on1 rs fun r => copIs o op && (setOk r && (chkE C.N n env.scope.names tbl Γ.length l a && chkE C.N n env.scope.names tbl Γ.length r b))) = true from hc)
  obtain ⟨l, ops, rs, p, rfl, hc⟩ := hc
  replace hc := on_1 hc
  obtain ⟨op, rfl, hc⟩ := hc
  replace hc := on_1 hc
  obtain ⟨r, rfl, hc⟩ := hc
  replace hc := both hc
  obtain ⟨h0, hc⟩ := hc
  replace hc := both hc
  obtain ⟨hs, hc⟩ := hc
  have hc := both hc
  have := copIs_eq h0
  subst this
  · rw [evE_cmp] at he
    obtain ⟨u, σ₁, h1, he⟩ := bind_eq_ok he
    obtain ⟨w, σ₂, h2, he⟩ := bind_eq_ok he
    obtain ⟨t, h3, he⟩ := bind_of_ok he
    cases he
    constructor
    · refine wpAny_Compare1 (post_mono (hE l a env tbl Γ σ u σ₁ A s φ E hc.1 h1 hr R F) fun cv φ₁ h₁ tk R₁ S₁ r₁ => ?_) (marks_of hs _)
      refine post_mono (hE r b env tbl Γ σ₁ w _ A _ φ₁ E hc.2 h2 hr R₁ (F.mono0 R S₁)) fun cw φ₂ h₂ tk₂ R₂ S₂ r₂ => ?_
      exact op_cmp h3 ⟨rfl, rfl⟩ R₂ (r₁.mono R₁ S₂ Apart.none) r₂ hr.u64 fun tk => ⟨φ₂, h₂, tk, rfl, R₂, S₁.trans S₂ R.len, .bool _⟩
    · intro t' ht'
      cases ht'
      refine wpAny_isTrue_Compare1 (post_mono (hE l a env tbl Γ σ u σ₁ A s φ E hc.1 h1 hr R F) fun cv φ₁ h₁ tk R₁ S₁ r₁ => ?_) (marks_of hs _)
      refine post_mono (hE r b env tbl Γ σ₁ w _ A _ φ₁ E hc.2 h2 hr R₁ (F.mono0 R S₁)) fun cw φ₂ h₂ tk₂ R₂ S₂ r₂ => ?_
      exact op_cmp h3 ⟨rfl, rfl⟩ R₂ (r₁.mono R₁ S₂ Apart.none) r₂ hr.u64 fun tk => wpAny_truthy_bool ⟨rfl, φ₂, h₂, tk, rfl, R₂, S₁.trans S₂ R.len⟩
end
end Mine

namespace Mine
open PySem PyProof.Rows PySem.Calls

section
variable {C : Cx} {d n : Nat}

theorem rel_any {M : Model} {A : Around} {E : Value → Shared → Prop} {s : Shared} {vs ks : List Value} {Q : Unit → Shared → Prop} (h : Q () s) : wpAny M A (release vs ks) Q E s :=
  fun Γ p hΓ => by rw [Sem.wp_release]; exact h

theorem sE_cmp2 (hE : SE C d n) {e : Expr} {o1 o2 : Cop} {a b c : Ex} {env : Env} {tbl : List (Str × Nat)} {Γ : Fm} {σ : Sg} {v : V} {σ' : Sg} {A : Around} {s : Shared} {φ : List Addr} {E : Value → Shared → Prop}
    (hc : chkE C.N (n + 1) env.scope.names tbl Γ.length e (.cmp2 o1 o2 a b c) = true) (he : evE C.gl (callF C.gl C.P d) (.cmp2 o1 o2 a b c) Γ σ = .ok v σ') (hr : Room d A) (R : SR C.B σ φ s.heap) (F : FR C.B tbl env Γ σ φ s.heap) :
    wpAny C.M A (eval e env) (Post C.B s σ φ σ' v) E s ∧ ∀ t, vTrue σ' v = some t → wpAny C.M A (isTrue e env (eval e env)) (fun b s' => b = t ∧ PostU C.B s σ φ σ' s') E s := by
  replace hc := on_compare (show onCompare e (fun l ops rs => on2 ops fun p1 p2 => on2 rs fun m r => copIs o1 p1 && (copIs o2 p2 && (setOk m && (setOk r && (chkE C.N n env.scope.names tbl Γ.length l a && (chkE C.N n env.scope.names tbl Γ.length m b && chkE C.N n env.scope.names tbl Γ.length r c)))))) = true from hc)
  obtain ⟨l, ops, rs, p, rfl, hc⟩ := hc
  replace hc := on_2 hc
  obtain ⟨p1, p2, rfl, hc⟩ := hc
  replace hc := on_2 hc
  obtain ⟨m, r, rfl, hc⟩ := hc
  replace hc := both hc
  obtain ⟨q1, hc⟩ := hc
  replace hc := both hc
  obtain ⟨q2, hc⟩ := hc
  replace hc := both hc
  obtain ⟨q3, hc⟩ := hc
  replace hc := both hc
  obtain ⟨q4, hc⟩ := hc
  replace hc := both hc
  obtain ⟨q5, hc⟩ := hc
  replace hc := both hc
  obtain ⟨q6, q7⟩ := hc
  · skip
    have := copIs_eq q1
    subst this
    have := copIs_eq q2
    subst this
    rw [evE_cmp2] at he
    obtain ⟨x, σ₁, h1, he⟩ := bind_eq_ok he
    obtain ⟨y, σ₂, h2, he⟩ := bind_eq_ok he
    obtain ⟨t, h3, he⟩ := bind_of_ok he
    constructor
    · show wpAny C.M A (eval l env >>= _) _ E s
      refine wpAny_bind (post_mono (hE l a env tbl Γ σ x σ₁ A s φ E q5 h1 hr R F) fun cv φ₁ h₁ tk R₁ S₁ r₁ => ?_)
      show wpAny C.M A (holding [cv] (eval m env) >>= _) _ E _
      refine wpAny_bind (wpAny_holding (post_mono (hE m b env tbl Γ σ₁ y σ₂ A _ φ₁ E q6 h2 hr R₁ (F.mono0 R S₁)) fun cw φ₂ h₂ tk₂ R₂ S₂ r₂ => ?_))
      have S12 := S₁.trans S₂ R.len
      refine wpAny_bind (wpAny_standAt (wpAny_bind (wpAny_holding (op_cmp h3 ⟨rfl, rfl⟩ R₂ (r₁.mono R₁ S₂ Apart.none) r₂ hr.u64 fun tk' => ?_))))
      refine wpAny_bind (rel_any (wpAny_bind (wpAny_holding (wpAny_truthy_bool ?_))))
      cases t with
      | false => cases he; exact wpAny_pure ⟨φ₂, h₂, tk', rfl, R₂, S12, .bool _⟩
      | true =>
        obtain ⟨z, σ₃, h4, he⟩ := bind_eq_ok he
        obtain ⟨u, h5, he⟩ := bind_of_ok he
        cases he
        show wpAny C.M A (holding [cw] (markedBehindIn (cop o2) r (eval r env)) >>= _) _ E _
        rw [marked_of q4]
        refine wpAny_bind (wpAny_holding (post_mono (hE r c env tbl Γ σ₂ z _ A _ φ₂ E q7 h4 hr R₂ (F.mono0 R S12)) fun cz φ₃ h₃ tk₃ R₃ S₃ r₃ => ?_))
        refine wpAny_bind (wpAny_standAt (wpAny_operating (op_cmp h5 ⟨rfl, rfl⟩ R₃ (r₂.mono R₂ S₃ Apart.none) r₃ hr.u64 fun tk' => ?_)))
        exact ⟨φ₃, h₃, tk', rfl, R₃, S12.trans S₃ R.len, .bool _⟩
    · intro t' ht'
      show wpAny C.M A (eval l env >>= _) _ E s
      refine wpAny_bind (post_mono (hE l a env tbl Γ σ x σ₁ A s φ E q5 h1 hr R F) fun cv φ₁ h₁ tk R₁ S₁ r₁ => ?_)
      show wpAny C.M A (holding [cv] (eval m env) >>= _) _ E _
      refine wpAny_bind (wpAny_holding (post_mono (hE m b env tbl Γ σ₁ y σ₂ A _ φ₁ E q6 h2 hr R₁ (F.mono0 R S₁)) fun cw φ₂ h₂ tk₂ R₂ S₂ r₂ => ?_))
      have S12 := S₁.trans S₂ R.len
      refine wpAny_bind (wpAny_standAt (wpAny_bind (wpAny_holding (op_cmp h3 ⟨rfl, rfl⟩ R₂ (r₁.mono R₁ S₂ Apart.none) r₂ hr.u64 fun tk' => ?_))))
      refine wpAny_bind (rel_any (wpAny_bind (wpAny_holding (wpAny_truthy_bool ?_))))
      cases t with
      | false => cases he; cases ht'; exact wpAny_pure ⟨rfl, φ₂, h₂, tk', rfl, R₂, S12⟩
      | true =>
        obtain ⟨z, σ₃, h4, he⟩ := bind_eq_ok he
        obtain ⟨u, h5, he⟩ := bind_of_ok he
        cases he
        cases ht'
        show wpAny C.M A (holding [cw] (markedBehindIn (cop o2) r (eval r env)) >>= _) _ E _
        rw [marked_of q4]
        refine wpAny_bind (wpAny_holding (post_mono (hE r c env tbl Γ σ₂ z _ A _ φ₂ E q7 h4 hr R₂ (F.mono0 R S12)) fun cz φ₃ h₃ tk₃ R₃ S₃ r₃ => ?_))
        refine wpAny_bind (wpAny_standAt (wpAny_bind (wpAny_operating (op_cmp h5 ⟨rfl, rfl⟩ R₃ (r₂.mono R₂ S₃ Apart.none) r₃ hr.u64 fun tk' => ?_))))
        exact wpAny_holding (wpAny_truthy_bool ⟨rfl, φ₃, h₃, tk', rfl, R₃, S12.trans S₃ R.len⟩)

theorem sE_ite (hE : SE C d n) (hT : ST C d n) {e : Expr} {c a b : Ex} {env : Env} {tbl : List (Str × Nat)} {Γ : Fm} {σ : Sg} {v : V} {σ' : Sg} {A : Around} {s : Shared} {φ : List Addr} {E : Value → Shared → Prop}
    (hc : chkE C.N (n + 1) env.scope.names tbl Γ.length e (.ite c a b) = true) (he : evE C.gl (callF C.gl C.P d) (.ite c a b) Γ σ = .ok v σ') (hr : Room d A) (R : SR C.B σ φ s.heap) (F : FR C.B tbl env Γ σ φ s.heap) :
    wpAny C.M A (eval e env) (Post C.B s σ φ σ' v) E s ∧ ∀ t, vTrue σ' v = some t → wpAny C.M A (isTrue e env (eval e env)) (fun b s' => b = t ∧ PostU C.B s σ φ σ' s') E s := by
  replace hc := on_ifExp (show onIfExp e (fun t u v => tstOk t c && (tstOk u a && (tstOk v b && (chkE C.N n env.scope.names tbl Γ.length t c && (chkE C.N n env.scope.names tbl Γ.length u a && chkE C.N n env.scope.names tbl Γ.length v b))))) = true from hc)
  obtain ⟨te, u, w, p, rfl, hc⟩ := hc
  replace hc := both hc
  obtain ⟨t1, hc⟩ := hc
  replace hc := both hc
  obtain ⟨t2, hc⟩ := hc
  replace hc := both hc
  obtain ⟨t3, hc⟩ := hc
  replace hc := both hc
  obtain ⟨q1, hc⟩ := hc
  replace hc := both hc
  obtain ⟨q2, q3⟩ := hc
  · rw [evE_ite] at he
    obtain ⟨x, σ₁, h1, he⟩ := bind_eq_ok he
    obtain ⟨t, h2, he⟩ := bind_of_ok he
    constructor
    · refine wpAny_IfExp (wpAny_mono (hT te c env tbl Γ σ x t σ₁ A s φ E t1 q1 h1 h2 hr R F) (fun b' s' hb => ?_) fun _ _ e => e)
      obtain ⟨rfl, φ₁, h₁, tk, rfl, R₁, S₁⟩ := hb
      cases b' with
      | true => exact wpAny_mono (hE u a env tbl Γ σ₁ v σ' A _ φ₁ E q2 he hr R₁ (F.mono0 R S₁)) (fun cv s₂ P => P.trans R.len S₁) fun _ _ e => e
      | false => exact wpAny_mono (hE w b env tbl Γ σ₁ v σ' A _ φ₁ E q3 he hr R₁ (F.mono0 R S₁)) (fun cv s₂ P => P.trans R.len S₁) fun _ _ e => e
    · intro t' ht'
      refine PyProof.Rows.isTrue_IfExp (wpAny_mono (hT te c env tbl Γ σ x t σ₁ A s φ E t1 q1 h1 h2 hr R F) (fun b' s' hb => ?_) fun _ _ e => e)
      obtain ⟨rfl, φ₁, h₁, tk, rfl, R₁, S₁⟩ := hb
      cases b' with
      | true => exact wpAny_mono (hT u a env tbl Γ σ₁ v t' σ' A _ φ₁ E t2 q2 he ht' hr R₁ (F.mono0 R S₁)) (fun b s₂ P => ⟨P.1, P.2.trans R.len S₁⟩) fun _ _ e => e
      | false => exact wpAny_mono (hT w b env tbl Γ σ₁ v t' σ' A _ φ₁ E t3 q3 he ht' hr R₁ (F.mono0 R S₁)) (fun b s₂ P => ⟨P.1, P.2.trans R.len S₁⟩) fun _ _ e => e

theorem sE_tup (hEs : SEs C d n) {e : Expr} {xs : List Ex} {env : Env} {tbl : List (Str × Nat)} {Γ : Fm} {σ : Sg} {v : V} {σ' : Sg} {A : Around} {s : Shared} {φ : List Addr} {E : Value → Shared → Prop}
    (hc : chkE C.N (n + 1) env.scope.names tbl Γ.length e (.tup xs) = true) (he : evE C.gl (callF C.gl C.P d) (.tup xs) Γ σ = .ok v σ') (hr : Room d A) (R : SR C.B σ φ s.heap) (F : FR C.B tbl env Γ σ φ s.heap) :
    wpAny C.M A (eval e env) (Post C.B s σ φ σ' v) E s := by
  replace hc := on_tuple (show onTuple e (fun es => chkEs C.N n env.scope.names tbl Γ.length es xs) = true from hc)
  obtain ⟨es, k, p, rfl, hc⟩ := hc
  · rw [evE_tup] at he
    obtain ⟨vs, σ₁, h1, he⟩ := bind_eq_ok he
    split at he
    · rename_i hn
      cases he
      refine Tuple_ (wpAny_mono (hEs es xs env tbl Γ σ vs _ A s φ E p hc h1 hr R F) (fun cvs s₁ P => ?_) fun _ _ e => e)
      obtain ⟨φ₁, h₁, tk, rfl, R₁, S₁, r₁⟩ := P
      refine wpAny_newObj_type ?_ (by show cvs.toArray.size ≤ sizeLine; rw [List.size_toArray, r₁.length, ← roomy_eq]; exact hn)
      exact ⟨φ₁, _, tk, rfl, R₁.grow (push_keeps _ _), S₁.trans (Stp.grow (push_keeps _ _)) R.len, VR.newTup (s := { s with heap := h₁, toks := tk }) R₁ r₁ hn 0⟩
    · cases he

theorem sE_lst (hEs : SEs C d n) {e : Expr} {m : Bool} {xs : List Ex} {env : Env} {tbl : List (Str × Nat)} {Γ : Fm} {σ : Sg} {v : V} {σ' : Sg} {A : Around} {s : Shared} {φ : List Addr} {E : Value → Shared → Prop}
    (hc : chkE C.N (n + 1) env.scope.names tbl Γ.length e (.lst m xs) = true) (he : evE C.gl (callF C.gl C.P d) (.lst m xs) Γ σ = .ok v σ') (hr : Room d A) (R : SR C.B σ φ s.heap) (F : FR C.B tbl env Γ σ φ s.heap) :
    wpAny C.M A (eval e env) (Post C.B s σ φ σ' v) E s := by
  replace hc := on_list (show onList e (fun es => chkEs C.N n env.scope.names tbl Γ.length es xs) = true from hc)
  obtain ⟨es, p, rfl, hc⟩ := hc
  · rw [evE_lst] at he
    obtain ⟨vs, σ₁, h1, he⟩ := bind_eq_ok he
    have hn : vs.length ≤ roomy := putL_len he
    refine List_ (wpAny_mono (hEs es xs env tbl Γ σ vs _ A s φ E p hc h1 hr R F) (fun cvs s₁ P => ?_) fun _ _ e => e)
    obtain ⟨φ₁, h₁, tk, rfl, R₁, S₁, r₁⟩ := P
    refine wpAny_newObj_type ?_ (by show cvs.toArray.size ≤ sizeLine; rw [List.size_toArray, r₁.length, ← roomy_eq]; exact hn)
    exact (put_new (s := { s with heap := h₁, toks := tk }) he R₁ r₁ tk).trans R.len S₁

theorem sE_dict (hEs : SEs C d n) {e : Expr} {p : Bool} {env : Env} {tbl : List (Str × Nat)} {Γ : Fm} {σ : Sg} {v : V} {σ' : Sg} {A : Around} {s : Shared} {φ : List Addr} {E : Value → Shared → Prop}
    (hc : chkE C.N (n + 1) env.scope.names tbl Γ.length e (.dict p) = true) (he : evE C.gl (callF C.gl C.P d) (.dict p) Γ σ = .ok v σ') (hr : Room d A) (R : SR C.B σ φ s.heap) (F : FR C.B tbl env Γ σ φ s.heap) :
    wpAny C.M A (eval e env) (Post C.B s σ φ σ' v) E s := by
  replace hc := on_dict (show onDict e (fun b => b) = true from hc)
  obtain ⟨q, rfl⟩ := hc
  · cases he
    refine wpAny_Dict_empty ?_
    have hk := push_keeps s.heap { cls := .type "dict", data := .dict #[] }
    refine ⟨φ ++ [s.heap.objs.size], _, s.toks, rfl, R.allocAny (get_size _) hk (Heap.get?_push_size _ rfl) (fun xs e => ?_) (fun ks e => ?_) (fun ks e => ?_) R.sysOk, Stp.alloc R.len (get_size _) hk, .ref (by rw [← R.len]; simp)⟩
    · cases p <;> cases e
    · cases p
      · cases e; exact ⟨⟨[], Heap.DictOf.new _, rfl⟩, by simp [roomy]⟩
      · cases e
    · cases p
      · cases e
      · cases e; exact ⟨⟨[], Heap.DictOfH.new _, rfl⟩, by simp [roomy]⟩

theorem sE_frz (hE : SE C d n) {e : Expr} {a : Ex} {env : Env} {tbl : List (Str × Nat)} {Γ : Fm} {σ : Sg} {v : V} {σ' : Sg} {A : Around} {s : Shared} {φ : List Addr} {E : Value → Shared → Prop}
    (hc : chkE C.N (n + 1) env.scope.names tbl Γ.length e (.frz a) = true) (he : evE C.gl (callF C.gl C.P d) (.frz a) Γ σ = .ok v σ') (hr : Room d A) (R : SR C.B σ φ s.heap) (F : FR C.B tbl env Γ σ φ s.heap) :
    wpAny C.M A (eval e env) (Post C.B s σ φ σ' v) E s := by
  have hc := both (show (plainTest e && chkE C.N n env.scope.names tbl Γ.length e a) = true from hc)
  rw [evE_frz] at he
  obtain ⟨u, σ₁, h1, he⟩ := bind_eq_ok he
  have h2 := vs_eq_ok he
  refine post_mono (hE e a env tbl Γ σ u σ₁ A s φ E hc.2 h1 hr R F) fun cv φ₁ h₁ tk R₁ S₁ r₁ => ?_
  obtain ⟨k1, k2, k3⟩ := freeze_VR u h2 R₁ r₁
  exact ⟨φ₁, h₁, tk, rfl, k1, S₁.trans k2 R.len, k3⟩

theorem sE_idx (hE : SE C d n) {e : Expr} {a b : Ex} {env : Env} {tbl : List (Str × Nat)} {Γ : Fm} {σ : Sg} {v : V} {σ' : Sg} {A : Around} {s : Shared} {φ : List Addr} {E : Value → Shared → Prop}
    (hc : chkE C.N (n + 1) env.scope.names tbl Γ.length e (.idx a b) = true) (he : evE C.gl (callF C.gl C.P d) (.idx a b) Γ σ = .ok v σ') (hr : Room d A) (R : SR C.B σ φ s.heap) (F : FR C.B tbl env Γ σ φ s.heap) :
    wpAny C.M A (eval e env) (Post C.B s σ φ σ' v) E s := by
  replace hc := on_sub (show onSub e (fun v j => notSlice j && (chkE C.N n env.scope.names tbl Γ.length v a && chkE C.N n env.scope.names tbl Γ.length j b)) = true from hc)
  obtain ⟨l, r, p, rfl, hc⟩ := hc
  replace hc := both hc
  obtain ⟨q0, hc⟩ := hc
  have hc := both hc
  · rw [evE_idx] at he
    obtain ⟨u, σ₁, h1, he⟩ := bind_eq_ok he
    obtain ⟨w, σ₂, h2, he⟩ := bind_eq_ok he
    obtain ⟨h3, e3⟩ := of_eq_ok he
    subst e3
    refine Subscript_ (post_mono (hE l a env tbl Γ σ u σ₁ A s φ E hc.1 h1 hr R F) fun cv φ₁ h₁ tk R₁ S₁ r₁ => ?_)
    refine post_mono (hE r b env tbl Γ σ₁ w σ₂ A _ φ₁ E hc.2 h2 hr R₁ (F.mono0 R S₁)) fun cw φ₂ h₂ tk₂ R₂ S₂ r₂ => ?_
    cases w with
    | int i =>
      obtain ⟨t, rfl⟩ := r₂
      obtain ⟨⟨T, id, hT, hl⟩, hg⟩ := op_item (prog := C.B.prog) (w := C.B.w) (A := A) (E := E) (s := { s with heap := h₂, toks := tk₂ }) (t := t) h3 R₂ (r₁.mono R₁ S₂ Apart.none) (grow_post R₂ fun cv s' P => P.trans R.len (S₁.trans S₂ R.len))
      exact tail_any hT hl hg (sub_of q0 _ _)
    | _ => exact no_some h3

theorem sE_slice (hE : SE C d n) (hO : SO C d n) {e : Expr} {a : Ex} {lo hi : Option Ex} {env : Env} {tbl : List (Str × Nat)} {Γ : Fm} {σ : Sg} {v : V} {σ' : Sg} {A : Around} {s : Shared} {φ : List Addr} {E : Value → Shared → Prop}
    (hc : chkE C.N (n + 1) env.scope.names tbl Γ.length e (.slice a lo hi) = true) (he : evE C.gl (callF C.gl C.P d) (.slice a lo hi) Γ σ = .ok v σ') (hr : Room d A) (R : SR C.B σ φ s.heap) (F : FR C.B tbl env Γ σ φ s.heap) :
    wpAny C.M A (eval e env) (Post C.B s σ φ σ' v) E s := by
  replace hc := on_sub (show onSub e (fun v i => onSlice i fun lo' hi' st => st.isNone && (chkE C.N n env.scope.names tbl Γ.length v a && (chkO C.N n env.scope.names tbl Γ.length lo' lo && chkO C.N n env.scope.names tbl Γ.length hi' hi))) = true from hc)
  obtain ⟨l, sl, p, rfl, hc⟩ := hc
  replace hc := on_slice hc
  obtain ⟨lo', hi', st, p', rfl, hc⟩ := hc
  replace hc := both hc
  obtain ⟨q0, hc⟩ := hc
  cases st with
  | some _ => exact no_true q0
  | none =>
    replace hc := both hc
    obtain ⟨q1, hc⟩ := hc
    have hc := both hc
    rw [evE_slice] at he
    obtain ⟨u, σ₁, h1, he⟩ := bind_eq_ok he
    obtain ⟨i, σ₂, h2, he⟩ := bind_eq_ok he
    obtain ⟨j, σ₃, h3, he⟩ := bind_eq_ok he
    obtain ⟨h4, e4⟩ := of_eq_ok he
    subst e4
    refine Subscript_ (post_mono (hE l a env tbl Γ σ u σ₁ A s φ E q1 h1 hr R F) fun cv φ₁ h₁ tk R₁ S₁ r₁ => ?_)
    refine wpAny_Slice (wpAny_mono (hO lo' lo env tbl Γ σ₁ i σ₂ A _ φ₁ E hc.1 h2 hr R₁ (F.mono0 R S₁)) (fun ci s₂ P => ?_) fun _ _ e => e)
    obtain ⟨φ₂, h₂, tk₂, rfl, R₂, S₂, pi⟩ := P
    have S12 := S₁.trans S₂ R.len
    refine wpAny_mono (hO hi' hi env tbl Γ σ₂ j σ₃ A _ φ₂ E hc.2 h3 hr R₂ (F.mono0 R S12)) (fun cj s₃ P => ?_) fun _ _ e => e
    obtain ⟨φ₃, h₃, tk₃, rfl, R₃, S₃, pj⟩ := P
    have S13 := S12.trans S₃ R.len
    rw [evalPart_none]
    refine wpAny_pure ?_
    have hk := push_keeps h₃ { cls := .type "slice", data := .fields #[ci, cj, .none] }
    have R₄ : SR C.B σ₃ φ₃ (h₃.push { cls := .type "slice", data := .fields #[ci, cj, .none] }) := R₃.grow hk
    have S14 := S13.trans (Stp.grow hk) R.len
    obtain ⟨⟨T, id, hT, hl⟩, hg⟩ := op_cut (prog := C.B.prog) (w := C.B.w) (A := A) (E := E) (s := { s with heap := h₃.push { cls := .type "slice", data := .fields #[ci, cj, .none] }, toks := tk₃ }) h4 R₄ (((r₁.mono R₁ S₂ Apart.none).mono R₂ S₃ Apart.none).grow R₃ hk) (Heap.IsSliceOf.new ..) pi pj (grow_post R₄ fun cv s' P => P.trans R.len S14)
    exact tail_any hT hl hg rfl
end
end Mine

namespace Mine
open PySem PyProof.Rows PySem.Calls

section
variable {C : Cx} {d n : Nat}

theorem sE_call (ok : C.Ok) (hcs : CallSim C d) (hEs : SEs C d n) {e : Expr} {f : Nat} {xs : List Ex} {env : Env} {tbl : List (Str × Nat)} {Γ : Fm} {σ : Sg} {v : V} {σ' : Sg} {A : Around} {s : Shared} {φ : List Addr} {E : Value → Shared → Prop}
    (hc : chkE C.N (n + 1) env.scope.names tbl Γ.length e (.call f xs) = true) (he : evE C.gl (callF C.gl C.P d) (.call f xs) Γ σ = .ok v σ') (hr : Room d A) (R : SR C.B σ φ s.heap) (F : FR C.B tbl env Γ σ φ s.heap) :
    wpAny C.M A (eval e env) (Post C.B s σ φ σ' v) E s := by
  replace hc := on_callN (show onCallN e (fun id es => nameAt C.N.fns f id && (globOk env.scope.names id && (!es.isEmpty && (es.length ≤ 20 && chkEs C.N n env.scope.names tbl Γ.length es xs)))) = true from hc)
  obtain ⟨y, p, es, p', rfl, hc⟩ := hc
  replace hc := both hc
  obtain ⟨q1, hc⟩ := hc
  replace hc := both hc
  obtain ⟨q2, hc⟩ := hc
  replace hc := both hc
  obtain ⟨q4, hc⟩ := hc
  replace hc := both hc
  obtain ⟨q5, q6⟩ := hc
  obtain ⟨q2, q3⟩ := both q2
  · · have hy := nameAt_eq q1
      obtain ⟨a, o, fd, k1, k2, k3⟩ := ok.fn f y hy
      rw [evE_call] at he
      obtain ⟨vs, σ₁, h1, he⟩ := bind_eq_ok he
      refine wpAny_Call_NameR (eval_glob R F ok q2 q3 k1 (callWith_function (o := o) (fd := fd) ?_))
      cases es with
      | nil => cases q4
      | cons e0 es =>
        have he0 := star_of (env := env) (chk_star q6) es
        refine evalArgs_star he0 (wpAny_mono (hEs (e0 :: es) xs env tbl Γ σ vs σ₁ A s φ E p' q6 h1 hr R F) (fun cvs s₁ P => ?_) fun _ _ e => e)
        obtain ⟨φ₁, h₁, tk, rfl, R₁, S₁, r₁⟩ := P
        refine ⟨⟨R₁.based _ _ k2, k3⟩, ?_⟩
        rw [List.nil_append]
        exact wpAny_mono (hcs f y a vs σ₁ v σ' he hy k1 A _ φ₁ cvs E hr R₁ r₁) (fun cv s₂ P => P.trans R.len S₁) fun _ _ e => e

noncomputable def WF (C : Cx) (A : Around) (E : Value → Shared → Prop) (s : Shared) (σ : Sg) (φ : List Addr) (v : V) (cv : Value) (cvs : List Value) : Prop := wpAny C.M A (call cv cvs) (Post C.B s σ φ σ v) E s
theorem intOf_elim {x v : V} {P : V → V → Prop} (h : intOf x = some v) (k : ∀ b : Bool, P (.bool b) (.int (if b then 1 else 0))) : P x v := by
  cases x with
  | bool b => exact is_some (P := P (.bool b)) h (k b)
  | _ => exact no_some h
theorem max_elim {l : List Int} {v : V} {P : List Int → V → Prop} (h : vMax l = some v) (k : ∀ a r, P (a :: r) (.int (r.foldl max a))) : P l v := by
  cases l with
  | nil => exact no_some h
  | cons a r => exact is_some (P := P (a :: r)) h (k a r)
section
variable {A : Around} {E : Value → Shared → Prop} {s : Shared} {σ : Sg} {φ : List Addr}
/-- a built-in applied to one related value -/
theorem bi_apply1 {b : Bi} {y : Str} {cv cx : Value} {x v : V} (hb : biOf b = some (y, cv)) (hv : vBi1 σ b x = some v) (hr : Room d A) (R : SR C.B σ φ s.heap) (a : VR C.B σ φ s.heap x cx) : WF C A E s σ φ v cv [cx] := by
        cases b with
        | len => exact is_some (P := fun p : Str × Value => WF C A E s σ φ v p.2 [cx]) hb (opt_map (P := fun v => WF C A E s σ φ v (.builtin "len") [cx]) hv fun k h1 => op_len h1 ⟨rfl, rfl⟩ R a (grow_post0 R))
        | sum => exact is_some (P := fun p : Str × Value => WF C A E s σ φ v p.2 [cx]) hb (opt_bind hv fun xs h1 hv => opt_map (P := fun v => WF C A E s σ φ v (.builtin "sum") [cx]) hv fun l h2 => op_sum h1 h2 hr.hh R a (grow_post0 R))
        | all => exact is_some (P := fun p : Str × Value => WF C A E s σ φ v p.2 [cx]) hb (opt_bind hv fun xs h1 hv => opt_map (P := fun v => WF C A E s σ φ v (.builtin "all") [cx]) hv fun l h2 => op_all h1 h2 hr.hh R a (grow_post0 R))
        | any => exact is_some (P := fun p : Str × Value => WF C A E s σ φ v p.2 [cx]) hb (opt_bind hv fun xs h1 hv => opt_map (P := fun v => WF C A E s σ φ v (.builtin "any") [cx]) hv fun l h2 => op_any h1 h2 hr.hh R a (grow_post0 R))
        | max1 => exact is_some (P := fun p : Str × Value => WF C A E s σ φ v p.2 [cx]) hb (opt_bind hv fun xs h1 hv => opt_bind hv fun l h2 hv => max_elim (P := fun l v => intsV xs = some l → WF C A E s σ φ v (.builtin "max") [cx]) hv (fun i l h2 => op_max1 h1 h2 hr.hh R a (grow_post0 R)) h2)
        | tuple => exact is_some (P := fun p : Str × Value => WF C A E s σ φ v p.2 [cx]) hb (opt_map (P := fun v => WF C A E s σ φ v (.type "tuple") [cx]) hv fun xs h1 => op_tuple h1 R a (grow_post0 R))
        | list => cases hv
        | int => exact is_some (P := fun p : Str × Value => WF C A E s σ φ v p.2 [cx]) hb (intOf_elim (P := fun x v => VR C.B σ φ s.heap x cx → WF C A E s σ φ v (.type "int") [cx]) hv (fun b a => inBool (z := fun cx => WF C A E s σ φ (.int (if b then 1 else 0)) (.type "int") [cx]) a (op_int (grow_post0 R))) a)
        | max2 => exact no_some hv
        | min2 => exact no_some hv
        | _ => exact no_some hb
theorem bi_apply2 {b : Bi} {y : Str} {cv ca cb : Value} {x z v : V} (hb : biOf b = some (y, cv)) (hv : vBi2 b x z = some v) (hr : Room d A) (R : SR C.B σ φ s.heap) (a : VR C.B σ φ s.heap x ca) (a' : VR C.B σ φ s.heap z cb) : WF C A E s σ φ v cv [ca, cb] := by
        cases b with
        | max2 => cases hv
        | min2 => exact is_some (P := fun p : Str × Value => WF C A E s σ φ v p.2 [ca, cb]) hb (ii_VR (P := fun ca cb => WF C A E s σ φ v (.builtin "min") [ca, cb]) hv a a' fun i j t u e => is_some (P := fun v => WF C A E s σ φ v (.builtin "min") [.int i t, .int j u]) e (op_min2 hr.hh (grow_post0 R)))
        | _ => exact no_some hv
theorem bi_apply {b : Bi} {y : Str} {cv : Value} {vs : List V} {cvs : List Value} {v : V} (hb : biOf b = some (y, cv)) (hv : vBi σ b vs = some v) (hr : Room d A) (R : SR C.B σ φ s.heap) (r : VRs C.B σ φ s.heap vs cvs) : WF C A E s σ φ v cv cvs := by
  cases vs with
  | nil => exact no_some hv
  | cons x vs =>
    refine inCons (z := WF C A E s σ φ v cv) r fun cx cvs a r => ?_
    cases vs with
    | nil => exact inNil (z := fun cvs => WF C A E s σ φ v cv (cx :: cvs)) r (bi_apply1 hb hv hr R a)
    | cons z vs =>
      refine inCons (z := fun cvs => WF C A E s σ φ v cv (cx :: cvs)) r fun cz cvs a' r => ?_
      cases vs with
      | nil => exact inNil (z := fun cvs => WF C A E s σ φ v cv (cx :: cz :: cvs)) r (bi_apply2 hb hv hr R a a')
      | cons _ _ => exact no_some hv
end

theorem biOf_mem {b : Bi} {y : Str} {cv : Value} (h : biOf b = some (y, cv)) : (y, cv) ∈ bnames ∧ ((∃ id, cv = .builtin id) ∨ ∃ T, cv = .type T) := by
  cases b <;> cases h <;> exact ⟨by first | exact List.mem_of_getElem? (i := 0) rfl | exact List.mem_of_getElem? (i := 1) rfl | exact List.mem_of_getElem? (i := 2) rfl | exact List.mem_of_getElem? (i := 3) rfl | exact List.mem_of_getElem? (i := 4) rfl | exact List.mem_of_getElem? (i := 5) rfl | exact List.mem_of_getElem? (i := 6) rfl | exact List.mem_of_getElem? (i := 7) rfl | exact List.mem_of_getElem? (i := 8) rfl | exact List.mem_of_getElem? (i := 9) rfl | exact List.mem_of_getElem? (i := 10) rfl | exact List.mem_of_getElem? (i := 11) rfl | exact List.mem_of_getElem? (i := 12) rfl | exact List.mem_of_getElem? (i := 13) rfl, by first | exact .inl ⟨_, rfl⟩ | exact .inr ⟨_, rfl⟩⟩
theorem isaOf_mem {b : Bi} {y : Str} {T : String} (h : isaOf b = some (y, T)) : (y, Value.type T) ∈ bnames ∧ T = isaT b ∧ ∀ c, b ≠ .isExc c := by
  cases b <;> cases h <;> exact ⟨by first | exact List.mem_of_getElem? (i := 0) rfl | exact List.mem_of_getElem? (i := 1) rfl | exact List.mem_of_getElem? (i := 2) rfl | exact List.mem_of_getElem? (i := 3) rfl | exact List.mem_of_getElem? (i := 4) rfl | exact List.mem_of_getElem? (i := 5) rfl | exact List.mem_of_getElem? (i := 6) rfl | exact List.mem_of_getElem? (i := 7) rfl | exact List.mem_of_getElem? (i := 8) rfl | exact List.mem_of_getElem? (i := 9) rfl | exact List.mem_of_getElem? (i := 10) rfl | exact List.mem_of_getElem? (i := 11) rfl | exact List.mem_of_getElem? (i := 12) rfl | exact List.mem_of_getElem? (i := 13) rfl, rfl, by intro c h; cases h⟩

/-- the two ways in which an isinstance says something -/
theorem isa_or {σ : Sg} {b : Bi} {y : Str × String} {u v : V} (hy : isaOf b = some y) (h : vBi1 σ b u = some v) :
    (∃ t, vIsa b u = some t ∧ v = .bool t) ∨ ∃ i xs, b = .isLst ∧ u = .ref i ∧ σ[i]? = some (.lst xs) ∧ v = .bool true := by
  have gen : ∀ {o : Option Bool}, o.map V.bool = some v → ∃ t, o = some t ∧ v = .bool t := fun {o} h => by
    cases o with
    | none => cases h
    | some t => cases h; exact ⟨t, rfl, rfl⟩
  cases b with
  | isLst =>
    cases u with
    | ref i =>
      replace h : isLstC σ[i]? = some v := h
      cases hi : σ[i]? with
      | none => rw [hi] at h; cases h
      | some c =>
        rw [hi] at h
        cases c with
        | lst xs => cases h; exact .inr ⟨i, xs, rfl, rfl, hi, rfl⟩
        | _ => cases h
    | _ => exact .inl (gen h)
  | isBool => exact .inl (gen h)
  | isInt => exact .inl (gen h)
  | isStr => exact .inl (gen h)
  | isTup => exact .inl (gen h)
  | _ => cases hy

theorem sE_bi (ok : C.Ok) (hE : SE C d n) (hEs : SEs C d n) {e : Expr} {b : Bi} {xs : List Ex} {env : Env} {tbl : List (Str × Nat)} {Γ : Fm} {σ : Sg} {v : V} {σ' : Sg} {A : Around} {s : Shared} {φ : List Addr} {E : Value → Shared → Prop}
    (hc : chkE C.N (n + 1) env.scope.names tbl Γ.length e (.bi b xs) = true) (he : evE C.gl (callF C.gl C.P d) (.bi b xs) Γ σ = .ok v σ') (hr : Room d A) (R : SR C.B σ φ s.heap) (F : FR C.B tbl env Γ σ φ s.heap) :
    wpAny C.M A (eval e env) (Post C.B s σ φ σ' v) E s := by
  rw [evE_bi] at he
  obtain ⟨vs, σ₁, h1, he⟩ := bind_eq_ok he
  obtain ⟨h2, e2⟩ := of_eq_ok he
  subst e2
  replace hc : (match isaOf b with
      | some y => onCallN e fun id es => on2 es fun e ty => on1 xs fun x => onName ty fun ty => eqS id sInst && (eqS ty y.1 && (globOk env.scope.names id && (globOk env.scope.names ty && (notStar e && chkE C.N n env.scope.names tbl Γ.length e x))))
      | none => onO (biOf b) fun y => onCallN e fun id es => eqS id y.1 && (globOk env.scope.names id && (!es.isEmpty && (es.length ≤ 20 && chkEs C.N n env.scope.names tbl Γ.length es xs)))) = true := hc
  cases hy : isaOf b with
  | some y =>
    rw [hy] at hc
    obtain ⟨y, T⟩ := y
    obtain ⟨k1, k2, k3⟩ := isaOf_mem hy
    replace hc := on_callN hc
    obtain ⟨id, p, es, p3, rfl, hc⟩ := hc
    replace hc := on_2 hc
    obtain ⟨e0, ty0, rfl, hc⟩ := hc
    replace hc := on_1 hc
    obtain ⟨x, rfl, hc⟩ := hc
    replace hc := on_name hc
    obtain ⟨ty, p2, rfl, hc⟩ := hc
    replace hc := both hc
    obtain ⟨q1, hc⟩ := hc
    replace hc := both hc
    obtain ⟨q2, hc⟩ := hc
    replace hc := both hc
    obtain ⟨q3, hc⟩ := hc
    replace hc := both hc
    obtain ⟨q4, hc⟩ := hc
    replace hc := both hc
    obtain ⟨qs, q7⟩ := hc
    obtain ⟨q3, q5⟩ := both q3
    obtain ⟨q4, q6⟩ := both q4
    have e1 := eqS_iff.mp q1
    have e2 := eqS_iff.mp q2
    subst e2
    rw [evEs_cons] at h1
    obtain ⟨u, σ₂, h3, h1⟩ := bind_eq_ok h1
    cases h1
    refine wpAny_Call_NameR (eval_bin (cv := .builtin "isinstance") R F ok q3 q5 (by rw [e1]; simp [bnames, sInst]) (callWith_plain (.inl ⟨_, rfl⟩) ?_ ?_))
    · rw [star_of qs]; rfl
    · refine evalArgs_star (star_of qs _) ?_
      rw [star_of qs]
      show wpAny C.M A (spliced ((false, eval e0 env) :: (false, eval (.Name ty p2) env) :: [])) _ E s
      refine spliced_cons (post_mono (hE e0 x env tbl Γ σ u _ A s φ E q7 h3 hr R F) fun cv φ₁ h₁ tk R₁ S₁ r₁ => ?_)
      refine spliced_cons (eval_bin (cv := .type T) R₁ (F.mono0 R S₁) ok q4 q6 k1 (spliced_nil ?_))
      show wpAny C.M A (call (.builtin "isinstance") [cv, .type T]) _ E _
      replace h2 : vBi1 σ₁ b u = some v := h2
      have fin : ∀ cv s', Post C.B { s with heap := h₁, toks := tk } σ₁ φ₁ σ₁ v cv s' → Post C.B s σ φ σ₁ v cv s' := fun cv s' P => P.trans R.len S₁
      rw [k2]
      rcases isa_or hy h2 with ⟨t, ht, rfl⟩ | ⟨i, xs, rfl, rfl, hi, rfl⟩
      · exact op_isa ht k3 r₁ (grow_post R₁ fin)
      · exact op_isaLst hi R₁ r₁ (grow_post R₁ fin)
  | none =>
    rw [hy] at hc
    replace hc := on_o hc
    obtain ⟨y, hb, hc⟩ := hc
    obtain ⟨y, cv⟩ := y
    obtain ⟨k1, k2⟩ := biOf_mem hb
    replace hc := on_callN hc
    obtain ⟨id, p, es, p', rfl, hc⟩ := hc
    replace hc := both hc
    obtain ⟨q1, hc⟩ := hc
    replace hc := both hc
    obtain ⟨q2, hc⟩ := hc
    replace hc := both hc
    obtain ⟨q4, hc⟩ := hc
    replace hc := both hc
    obtain ⟨q5, q6⟩ := hc
    obtain ⟨q2, q3⟩ := both q2
    have := eqS_iff.mp q1
    subst this
    cases es with
    | nil => cases q4
    | cons e0 es =>
      have he0 := star_of (env := env) (chk_star q6) es
      refine wpAny_Call_NameR (eval_bin R F ok q2 q3 k1 (callWith_plain k2 (back_any q6) ?_))
      refine evalArgs_star he0 (wpAny_mono (hEs (e0 :: es) xs env tbl Γ σ vs σ₁ A s φ E p' q6 h1 hr R F) (fun cvs s₁ P => ?_) fun _ _ e => e)
      obtain ⟨φ₁, h₁, tk, rfl, R₁, S₁, r₁⟩ := P
      rw [List.nil_append]
      exact wpAny_mono (bi_apply (d := d) hb h2 hr R₁ r₁) (fun cv s₂ P => P.trans R.len S₁) fun _ _ e => e
end
end Mine

namespace Mine
open PySem PyProof.Rows PySem.Calls

section
variable {C : Cx} {d n : Nat}

theorem live_type {σ : Sg} {φ : List Addr} {s : Shared} {i : Nat} {xs : List V} {cv : Value} (hi : σ[i]? = some (.lst xs)) (R : SR C.B σ φ s.heap) (r : VR C.B σ φ s.heap (.ref i) cv) :
    s.TypeIs cv "list" ∧ ∀ a, cv = .ref a → ∃ ob, s.heap.get? a = some ob ∧ ob.dict = none :=
  live_list (z := fun cv => s.TypeIs cv "list" ∧ ∀ a, cv = .ref a → ∃ ob, s.heap.get? a = some ob ∧ ob.dict = none) R hi r fun a vs _ ⟨_, e2⟩ _ _ => ⟨⟨_, e2, rfl⟩, fun b e => ⟨_, Value.ref.inj e ▸ e2, rfl⟩⟩

theorem live_of {σ : Sg} {u : V} {k : Unit} (h : liveL σ u = some k) : ∃ i xs, u = .ref i ∧ σ[i]? = some (.lst xs) :=
  ref_elim (z := fun u => ∃ i xs, u = .ref i ∧ σ[i]? = some (.lst xs)) h fun i h => cell_lst h fun xs hx _ => ⟨i, xs, rfl, hx⟩
theorem live_if {α : Type} {σ : Sg} {i : Nat} {f : List V → Option α} {a : α} (h : (match σ[i]? with | some (.lst xs) => f xs | _ => none) = some a) : ∃ xs, σ[i]? = some (.lst xs) := cell_lst h fun xs hx _ => ⟨xs, hx⟩

theorem sE_app (hE : SE C d n) {e : Expr} {a b : Ex} {env : Env} {tbl : List (Str × Nat)} {Γ : Fm} {σ : Sg} {v : V} {σ' : Sg} {A : Around} {s : Shared} {φ : List Addr} {E : Value → Shared → Prop}
    (hc : chkE C.N (n + 1) env.scope.names tbl Γ.length e (.app a b) = true) (he : evE C.gl (callF C.gl C.P d) (.app a b) Γ σ = .ok v σ') (hr : Room d A) (R : SR C.B σ φ s.heap) (F : FR C.B tbl env Γ σ φ s.heap) :
    wpAny C.M A (eval e env) (Post C.B s σ φ σ' v) E s := by
  replace hc := on_meth (show onMeth e (fun o name es => on1 es fun e => eqS name (Str.ofString "append") && (notStar e && (chkE C.N n env.scope.names tbl Γ.length o a && chkE C.N n env.scope.names tbl Γ.length e b))) = true from hc)
  obtain ⟨o, name, apos, es, pos, rfl, q2, q3, hc⟩ := hc
  replace hc := on_1 hc
  obtain ⟨e1, rfl, hc⟩ := hc
  replace hc := both hc
  obtain ⟨q1, hc⟩ := hc
  replace hc := both hc
  obtain ⟨q0, hc⟩ := hc
  replace hc := both hc
  obtain ⟨q4, q5⟩ := hc
  have := eqS_iff.mp q1
  subst this
  have hst : starEach [e1] env = [(false, eval e1 env)] := star_of q0 []
  rw [evE_app] at he
  obtain ⟨u, σ₁, h1, he⟩ := bind_eq_ok he
  obtain ⟨_, h2, he⟩ := bind_of_ok he
  obtain ⟨w, σ₂, h3, he⟩ := bind_eq_ok he
  obtain ⟨rfl, h4⟩ := st_eq_ok he
  obtain ⟨r, xs, rfl, hx⟩ := live_of h2
  refine wpAny_Call_method (T := "list") (id := "list.append") (base_of q2 _ _) (by rw [hst]; rfl) q3 PySem.F.plainAttrs_list PySem.F.slot_list_append PySem.F.type_list_append
    (post_mono (hE o a env tbl Γ σ _ σ₁ A s φ E q4 h1 hr R F) fun cv φ₁ h₁ tk R₁ S₁ r₁ => ?_)
  obtain ⟨t1, t2⟩ := live_type (s := { s with heap := h₁, toks := tk }) hx R₁ r₁
  refine ⟨t1, t2, ?_⟩
  rw [hst]
  obtain ⟨ad, rfl, ha⟩ := r₁
  show wpAny C.M A (callWith pos (.builtin "list.append") _ [(false, eval e1 env)] []) _ E _
  refine P.append_list (post_mono (hE e1 b env tbl Γ σ₁ w σ₂ A _ φ₁ E q5 h3 hr R₁ (F.mono0 R S₁)) fun cw φ₂ h₂ tk₂ R₂ S₂ r₂ => ?_)
  obtain ⟨l, items, k, e0, z1, z2, P⟩ := op_app (s := { s with heap := h₂, toks := tk₂ }) h4 R₂ (VR.mono (W := W0) R₁ S₂ Apart.none (.ref ha)) r₂
  cases e0
  exact ⟨items, k, z1, z2, P.trans R.len (S₁.trans S₂ R.len)⟩

theorem on_meth0 {e : Expr} {nm : Str} {g : Expr → Bool} (hc : onMeth e (fun o name es => nilL es && (eqS name nm && g o)) = true) : ∃ o ap q, e = .Call (.Attribute o nm ap) [] [] q ∧ baseOk o = true ∧ (ap.endLine == q.line) = true ∧ g o = true := by
  replace hc := on_meth hc
  obtain ⟨o, name, apos, es, pos, rfl, q2, q3, hc⟩ := hc
  replace hc := both hc
  obtain ⟨q0, hc⟩ := hc
  replace hc := both hc
  obtain ⟨q1, q4⟩ := hc
  rw [nilL_eq q0, eqS_iff.mp q1]
  exact ⟨o, apos, pos, rfl, q2, q3, q4⟩

theorem sE_pop (hE : SE C d n) {e : Expr} {a : Ex} {env : Env} {tbl : List (Str × Nat)} {Γ : Fm} {σ : Sg} {v : V} {σ' : Sg} {A : Around} {s : Shared} {φ : List Addr} {E : Value → Shared → Prop}
    (hc : chkE C.N (n + 1) env.scope.names tbl Γ.length e (.pop a) = true) (he : evE C.gl (callF C.gl C.P d) (.pop a) Γ σ = .ok v σ') (hr : Room d A) (R : SR C.B σ φ s.heap) (F : FR C.B tbl env Γ σ φ s.heap) :
    wpAny C.M A (eval e env) (Post C.B s σ φ σ' v) E s := by
  replace hc := on_meth0 (show onMeth e (fun o name es => nilL es && (eqS name (Str.ofString "pop") && chkE C.N n env.scope.names tbl Γ.length o a)) = true from hc)
  obtain ⟨o, apos, pos, rfl, q2, q3, q4⟩ := hc
  rw [evE_pop] at he
  obtain ⟨u, σ₁, h1, he⟩ := bind_eq_ok he
  have h4 := vs_eq_ok he
  cases u with
  | ref i =>
    obtain ⟨xs, hi⟩ := live_if h4
    refine wpAny_Call_method (T := "list") (id := "list.pop") (base_of q2 _ _) rfl q3 PySem.F.plainAttrs_list PySem.F.slot_list_pop PySem.F.type_list_pop
      (post_mono (hE o a env tbl Γ σ _ σ₁ A s φ E q4 h1 hr R F) fun cv φ₁ h₁ tk R₁ S₁ r₁ => ?_)
    obtain ⟨t1, t2⟩ := live_type (s := { s with heap := h₁, toks := tk }) hi R₁ r₁
    refine ⟨t1, t2, ?_⟩
    obtain ⟨l, e0, hw⟩ := op_pop (prog := C.B.prog) (w := C.B.w) (A := A) (E := E) (s := { s with heap := h₁, toks := tk }) (pos := pos) h4 R₁ r₁
    exact wpAny_mono hw (fun cv s₂ P => P.trans R.len S₁) fun _ _ e => e
  | _ => cases h4

end
end Mine

namespace Mine
open PySem PyProof.Rows PySem.Calls

section
variable {C : Cx} {d n : Nat}

theorem sI_succ (ok : C.Ok) (hE : SE C d n) : SI C d (n + 1) := by
  intro e ik x y env tbl Γ σ a σ₁ b σ₂ items A s φ E hc h1 h2 hv hr R F
  refine hide3 (G := fun e items σ₂ => wpAny C.M A (eval e env) (PostI C.B s σ φ σ₂ items) E s) fun P hP => ?_
  cases ik with
  | val =>
    replace hc := both (show (setOk e && (isNoneX y && chkE C.N n env.scope.names tbl Γ.length e x)) = true from hc)
    obtain ⟨q0, hc⟩ := hc
    replace hc := both hc
    obtain ⟨q1, hc⟩ := hc
    rw [isNoneX_eq q1] at h2
    cases h2
    exact hP _ _ _ (post_mono (hE _ _ env _ Γ σ a _ A s φ E hc h1 hr R F) fun cv φ₁ h₁ tk R₁ S₁ r₁ => ⟨φ₁, h₁, tk, rfl, R₁, S₁, .val hv r₁⟩)
  | rng1 =>
    replace hc := on_callN (both (show (setOk e && (onCallN e fun id es => on1 es fun e => isNoneX y && (eqS id sRange && (globOk env.scope.names id && (notStar e && chkE C.N n env.scope.names tbl Γ.length e x))))) = true from hc)).2
    obtain ⟨id, p, es, p', rfl, hc⟩ := hc
    replace hc := on_1 hc
    obtain ⟨e1, rfl, hc⟩ := hc
    replace hc := both hc
    obtain ⟨qn, hc⟩ := hc
    replace hc := both hc
    obtain ⟨q1, hc⟩ := hc
    replace hc := both hc
    obtain ⟨q2, hc⟩ := hc
    replace hc := both hc
    obtain ⟨q0, q4⟩ := hc
    obtain ⟨q2, q3⟩ := both q2
    have e1' := eqS_iff.mp q1
    subst e1'
    rw [isNoneX_eq qn] at h2
    cases h2
    cases a with
    | int k =>
      replace hv : (if small k = true then some (rangeL 0 k) else none) = some items := hv
      by_cases hs : small k = true
      · rw [if_pos hs] at hv
        cases hv
        have hst : starEach [e1] env = [(false, eval e1 env)] := star_of q0 []
        refine hP _ _ _ (wpAny_Call_NameR (eval_bin (cv := .type "range") R F ok q2 q3 (by simp [bnames, sRange]) ?_))
        rw [hst]
        refine callWith_plain (.inr ⟨_, rfl⟩) rfl (evalArgs_plain (spliced_cons (post_mono (hE _ _ env _ Γ σ _ _ A s φ E q4 h1 hr R F) fun cv φ₁ h₁ tk R₁ S₁ r₁ => spliced_nil ?_)))
        obtain ⟨t, rfl⟩ := r₁
        refine call_range_1 ?_
        exact ⟨φ₁, _, _, rfl, R₁.grow (push_keeps _ _), S₁.trans (Stp.grow (push_keeps _ _)) R.len, .rng (by decide) hs (Heap.get?_push_size _ rfl)⟩
      · rw [if_neg hs] at hv; cases hv
    | _ => cases hv
  | rng2 => cases hv
  | rev =>
    replace hc := on_callN (both (show (setOk e && (onCallN e fun id es => on1 es fun e => isNoneX y && (eqS id sRev && (globOk env.scope.names id && (notStar e && chkE C.N n env.scope.names tbl Γ.length e x))))) = true from hc)).2
    obtain ⟨id, p, es, p', rfl, hc⟩ := hc
    replace hc := on_1 hc
    obtain ⟨e1, rfl, hc⟩ := hc
    replace hc := both hc
    obtain ⟨qn, hc⟩ := hc
    replace hc := both hc
    obtain ⟨q1, hc⟩ := hc
    replace hc := both hc
    obtain ⟨q2, hc⟩ := hc
    replace hc := both hc
    obtain ⟨q0, q4⟩ := hc
    obtain ⟨q2, q3⟩ := both q2
    have e1' := eqS_iff.mp q1
    subst e1'
    rw [isNoneX_eq qn] at h2
    cases h2
    have hst : starEach [e1] env = [(false, eval e1 env)] := star_of q0 []
    refine hP _ _ _ (wpAny_Call_NameR (eval_bin (cv := .type "reversed") R F ok q2 q3 (by simp [bnames, sRev]) ?_))
    rw [hst]
    refine callWith_plain (.inr ⟨_, rfl⟩) rfl (evalArgs_plain (spliced_cons (post_mono (hE _ _ env _ Γ σ _ _ A s φ E q4 h1 hr R F) fun cv φ₁ h₁ tk R₁ S₁ r₁ => spliced_nil ?_)))
    have fresh : s.heap.get? h₁.objs.size = none := by
      cases e : s.heap.get? h₁.objs.size with
      | none => rfl
      | some o => obtain ⟨o', e'⟩ := S₁.ex _ o e; rw [get_size] at e'; cases e'
    cases a with
    | lst xs =>
      obtain ⟨ad, vs, rfl, hl, nl, rs, hn⟩ := r₁
      cases hv
      obtain ⟨k, ho⟩ := id hl
      have ha : ad < h₁.objs.size := Heap.lt_size ho
      refine call_reversed_list hl.isList ?_
      have hk := push_keeps h₁ (revObj ad ((vs.toArray.size : Int) - 1))
      exact ⟨φ₁, _, _, rfl, R₁.grow hk, S₁.trans (Stp.grow hk) R.len, .rev (h := h₁.push (revObj ad ((vs.toArray.size : Int) - 1))) ⟨k, hk _ _ ho⟩ nl.1 (rs.grow R₁ hk) ⟨_, Heap.get?_push_size _ rfl, rfl, by simp [revObj]⟩ (R₁.fresh_notmem (s := { s with heap := h₁, toks := tk })) (Nat.ne_of_lt ha) fresh⟩
    | tup xs =>
      obtain ⟨ad, vs, rfl, ht, rs, hn⟩ := r₁
      cases hv
      obtain ⟨k, ho⟩ := id ht
      have ha : ad < h₁.objs.size := Heap.lt_size ho
      refine call_treversed ht.isTup (by rw [List.size_toArray, rs.length]; exact room63 hn) fun tk' => ?_
      have hk := push_keeps h₁ (trevObj ad ((vs.toArray.size : Int) - 1))
      exact ⟨φ₁, _, _, rfl, R₁.grow hk, S₁.trans (Stp.grow hk) R.len, .trev (h := h₁.push (trevObj ad ((vs.toArray.size : Int) - 1))) ⟨_, hk _ _ ho, rfl, k, rfl⟩ (R₁.notlive_tup ht) (rs.grow R₁ hk) hn ⟨_, Heap.get?_push_size _ rfl, rfl, by simp [trevObj]⟩ (R₁.fresh_notmem (s := { s with heap := h₁, toks := tk })) (Nat.ne_of_lt ha) fresh⟩
    | _ => exact no_some hv
end
end Mine

namespace Mine
open PySem PyProof.Rows PySem.Calls

noncomputable def Bs.wav (B : Bs) (D : Addr) : Bs := { B with av := fun b => B.av b ∨ b = D }
noncomputable def Cx.wav (C : Cx) (D : Addr) : Cx := { C with B := C.B.wav D }
theorem Cx.Ok.wav {C : Cx} (ok : C.Ok) (D : Addr) : (C.wav D).Ok := ⟨ok.g, ok.b, ok.nolimit, ok.bins, ok.glob, ok.fn⟩

section
variable {B : Bs} {σ : Sg} {φ : List Addr} {h h' : Heap} {D : Addr}

theorem carry_to (hD : h.get? D = none) (hk : ∀ b o, h.get? b = some o → h'.get? b = some o) : Carry B (B.wav D) σ σ φ φ h h' :=
  ⟨fun _ _ ⟨n, e⟩ => ⟨n, hk _ _ e⟩, fun _ _ ⟨n, e⟩ nl => ⟨⟨n, hk _ _ e⟩, nl.1, fun x => x.elim nl.2 fun q => no_some (hD.symm.trans (q ▸ e))⟩, fun _ _ e => e, fun _ _ _ _ h1 h2 _ _ => ⟨h1, hk _ _ h2⟩⟩
theorem VRs.to (hD : h.get? D = none) (hk : ∀ b o, h.get? b = some o → h'.get? b = some o) {xs : List V} {vs : List Value} (r : VRs B σ φ h xs vs) : VRs (B.wav D) σ φ h' xs vs := (carry_to hD hk).vs xs r
theorem VR.to (hD : h.get? D = Option.none) (hk : ∀ b o, h.get? b = some o → h'.get? b = some o) {x : V} {v : Value} (r : VR B σ φ h x v) : VR (B.wav D) σ φ h' x v := (carry_to hD hk).v x r
theorem carry_fro : Carry (B.wav D) B σ σ φ φ h h := ⟨fun _ _ e => e, fun _ _ e nl => ⟨e, nl.1, fun x => nl.2 (.inl x)⟩, fun _ _ e => e, fun _ _ _ _ h1 h2 _ _ => ⟨h1, h2⟩⟩
theorem VRs.fro {xs : List V} {vs : List Value} (r : VRs (B.wav D) σ φ h xs vs) : VRs B σ φ h xs vs := carry_fro.vs xs r
theorem VR.fro {x : V} {v : Value} (r : VR (B.wav D) σ φ h x v) : VR B σ φ h x v := carry_fro.v x r

theorem carry_adopt {c : Cell} (hl : φ.length = σ.length) : Carry (B.wav D) B σ (σ ++ [c]) φ (φ ++ [D]) h h :=
  ⟨fun _ _ e => e, fun _ _ e nl => ⟨e, fun L => (live_snoc hl L).elim nl.1 fun q => nl.2 (.inr q), fun x => nl.2 (.inl x)⟩, fun _ _ e => getElem?_snoc_lt e, fun _ _ _ _ h1 h2 _ _ => ⟨h1, h2⟩⟩
theorem VRs.adopt {c : Cell} (hl : φ.length = σ.length) {xs : List V} {vs : List Value} (r : VRs (B.wav D) σ φ h xs vs) : VRs B (σ ++ [c]) (φ ++ [D]) h xs vs := (carry_adopt hl).vs xs r
theorem VR.adopt {c : Cell} (hl : φ.length = σ.length) {x : V} {v : Value} (r : VR (B.wav D) σ φ h x v) : VR B (σ ++ [c]) (φ ++ [D]) h x v := (carry_adopt hl).v x r

theorem DictP.at' {a : Addr} {ks : List (List Int)} (d : DictP B h a ks) (hk : ∀ b o, h.get? b = some o → h'.get? b = some o) : DictP B h' a ks := by
  obtain ⟨kvs, ⟨o, es, ep, ho, hx, hd, hes, his, hn⟩, e⟩ := d
  refine ⟨kvs, ⟨o, es, ep, hk _ o ho, hx, hd, hes, fun x hx => ?_, hn⟩, e⟩
  obtain ⟨o', items, n, h1, h2, h3, h4⟩ := his x hx
  exact ⟨o', items, n, hk _ o' h1, h2, h3, h4⟩

theorem SR.to (R : SR B σ φ h) (hD : h.get? D = none) (hk : ∀ b o, h.get? b = some o → h'.get? b = some o) (hx : ∃ o, h'.get? D = some o) : SR (B.wav D) σ φ h' := by
  refine ⟨R.len, R.inj, fun a ha => (let ⟨o, e⟩ := R.ex a ha; ⟨o, hk _ _ e⟩), fun i xs e => ?_, fun i ks e => ?_, fun i ks e => ?_, (let ⟨o, e⟩ := R.main; ⟨o, hk _ _ e⟩), R.sys, fun b o e => hk _ _ (R.based b o e), R.new, fun b hb => ?_, fun a ha hv => ?_⟩
  · obtain ⟨a, vs, e1, ⟨n, e2⟩, e3, e4⟩ := R.lst i xs e
    exact ⟨a, vs, e1, ⟨n, hk _ _ e2⟩, e3.to hD hk, e4⟩
  · obtain ⟨a, e1, d, e2⟩ := R.dictI i ks e
    exact ⟨a, e1, d.mono fun o e => hk _ o e, e2⟩
  · obtain ⟨a, e1, d, e2⟩ := R.dictP i ks e
    exact ⟨a, e1, d.at' hk, e2⟩
  · rcases hb with hb | rfl
    · obtain ⟨o, e⟩ := R.avx b hb; exact ⟨o, hk _ _ e⟩
    · exact hx
  · rcases hv with hv | rfl
    · exact R.avn a ha hv
    · obtain ⟨o, e⟩ := R.ex _ ha.mem; rw [hD] at e; cases e

theorem SR.fro (R : SR (B.wav D) σ φ h) : SR B σ φ h := by
  refine ⟨R.len, R.inj, R.ex, fun i xs e => ?_, R.dictI, R.dictP, R.main, R.sys, R.based, R.new, fun b hb => R.avx b (.inl hb), fun a ha hv => R.avn a ha (.inl hv)⟩
  obtain ⟨a, vs, e1, e2, e3, e4⟩ := R.lst i xs e
  exact ⟨a, vs, e1, e2, e3.fro, e4⟩

/-- the list that a loop has filled becomes a live cell -/
theorem SR.adopt {xs : List V} {vs : List Value} (R : SR (B.wav D) σ φ h) (hp : h.PlainList D vs.toArray) (r : VRs (B.wav D) σ φ h xs vs) (hn : xs.length ≤ roomy) (hs : (D == sysModules) = false) (hb : B.hb.get? D = none) (hv : ¬ B.av D) (hmem : D ∉ φ) :
    SR B (σ ++ [.lst xs]) (φ ++ [D]) h := by
  obtain ⟨k, ho⟩ := id hp
  refine ⟨by rw [List.length_append, List.length_append, R.len]; rfl, ?_, fun b hb => ?_, fun i ys e => ?_, fun i ks e => ?_, fun i ks e => ?_, R.main, fun b hb => ?_, R.based, fun b hb => ?_, fun b hb => R.avx b (.inl hb), fun b hb hv' => ?_⟩
  · refine List.nodup_append.mpr ⟨R.inj, (by simp), fun x hx y hy e => ?_⟩
    rw [List.mem_singleton.mp hy] at e
    exact hmem (e ▸ hx)
  · rcases List.mem_append.mp hb with hb | hb
    · exact R.ex b hb
    · rw [List.mem_singleton.mp hb]; exact ⟨_, ho⟩
  · rcases getElem?_snoc e with e | ⟨rfl, e'⟩
    · obtain ⟨a, ws, e1, e2, e3, e4⟩ := R.lst i ys e
      exact ⟨a, ws, getElem?_snoc_lt e1, e2, e3.adopt R.len, e4⟩
    · cases e'
      exact ⟨D, vs, (by rw [← R.len]; simp), hp, r.adopt R.len, hn⟩
  · rcases getElem?_snoc e with e | ⟨rfl, e'⟩
    · obtain ⟨a, e1, d, e2⟩ := R.dictI i ks e
      exact ⟨a, getElem?_snoc_lt e1, d, e2⟩
    · cases e'
  · rcases getElem?_snoc e with e | ⟨rfl, e'⟩
    · obtain ⟨a, e1, d, e2⟩ := R.dictP i ks e
      exact ⟨a, getElem?_snoc_lt e1, d, e2⟩
    · cases e'
  · rcases List.mem_append.mp hb with hb | hb
    · exact R.sys b hb
    · rw [List.mem_singleton.mp hb]; exact hs
  · rename_i hb'
    rcases List.mem_append.mp hb with hb | hb
    · exact R.new b hb
    · rw [List.mem_singleton.mp hb]; exact hb'
  · rcases live_snoc R.len hb with hb | hb
    · exact R.avn b hb (.inl hv')
    · rw [hb] at hv'; exact hv hv'

theorem FR.to {tbl : List (Str × Nat)} {env : Env} {Γ : Fm} (F : FR B tbl env Γ σ φ h) (hD : h.get? D = none) (hk : ∀ b o, h.get? b = some o → h'.get? b = some o) : FR (B.wav D) tbl env Γ σ φ h' := by
  obtain ⟨m, ⟨o, es, ep, ho, hd, hk', hf⟩, hv⟩ := F.ns
  refine ⟨F.kind, F.gl, F.bi, ⟨m, ⟨o, es, ep, hk _ _ ho, hd, hk', hf⟩, fun x i v e1 e2 e3 => ?_⟩, fun x i v e1 e2 e3 => ?_, F.nl, fun x c hx => ?_, F.newL, F.newC, F.has⟩
  · obtain ⟨cv, e4, e5⟩ := hv x i v e1 e2 e3
    exact ⟨cv, e4, e5.to hD hk⟩
  · obtain ⟨c, cv, e4, ⟨o, e5, e6⟩, e7⟩ := F.cell x i v e1 e2 e3
    exact ⟨c, cv, e4, ⟨o, hk _ _ e5, e6⟩, e7.to hD hk⟩
  · obtain ⟨v, o, e1, e2⟩ := F.cells x c hx
    exact ⟨v, o, hk _ _ e1, e2⟩

/-- one object that is neither live nor data is turned -/
theorem SR.one {b0 : Addr} (R : SR B σ φ h) (hb0 : B.hb.get? b0 = none) (ha : Apart B (· = b0) h) (nl : ¬ live σ φ b0) (hk : ∀ b o, b ≠ b0 → h.get? b = some o → h'.get? b = some o) (hx : ∃ o, h'.get? b0 = some o) :
    SR B σ φ h' ∧ Stp (· = b0) σ φ h σ φ h' := by
  have S : Stp (· = b0) σ φ h σ φ h' := ⟨fun _ _ e => e, fun i a hi e => (by rw [List.getElem?_eq_none hi] at e; cases e), fun _ e => e, fun b o e _ hW => hk b o hW e, fun b o e => by
    by_cases q : b = b0
    · rw [q]; exact hx
    · exact ⟨o, hk b o q e⟩⟩
  exact ⟨R.carry S ha (fun a o L e => hk a o (fun q => nl (q ▸ L)) e) fun b hb => (by rw [show b = b0 from hb]; exact hb0), S⟩

theorem Stp.drop {W : Addr → Prop} {σ₁ : Sg} {φ₁ : List Addr} {h₁ : Heap} (S : Stp W σ φ h σ₁ φ₁ h₁) (hw : ∀ b, W b → h.get? b = none) : Stp W0 σ φ h σ₁ φ₁ h₁ :=
  ⟨S.pre, S.new, S.dead, fun b o e hl _ => S.keep b o e hl fun x => (by rw [hw b x] at e; cases e), S.ex⟩

theorem Apart.ns {K : Addr} {m : Str → Option Value} (hn : h.Ns K m) : Apart B (· = K) h := by
  rintro b rfl o ho
  obtain ⟨o', es, ep, ho', hd, _⟩ := hn
  rw [ho] at ho'; cases ho'
  exact .inr ⟨fun xs n e => (by rw [hd] at e; cases e), fun fs e => (by rw [hd] at e; cases e)⟩
end

/-! ### closures -/
noncomputable def clos (cells : List (Str × Addr)) : List (Str × NameKind) → List (Str × Addr) → List (Str × Addr)
  | [], cs => cs
  | (y, k) :: r, cs => clos cells r (if k == .free then (y, (cells.lookup y).getD 0) :: cs else cs)

theorem clos_eq {env : Env} {scope : Scope} (h : ∀ x ∈ scope.names, x.2 = .free → (env.cells.lookup x.1).isSome = true) : closureFor scope env = pure (clos env.cells scope.names []) := by
  simp only [closureFor]
  have go : ∀ (l : List (Str × NameKind)) (cs : List (Str × Addr)), (∀ x ∈ l, x.2 = .free → (env.cells.lookup x.1).isSome = true) →
      (forIn l cs fun x cs => if (x.2 == NameKind.free) = true then do let a ← cellOf env x.1; pure (ForInStep.yield ((x.1, a) :: cs)) else pure (ForInStep.yield cs) : Sem (List (Str × Addr))) = pure (clos env.cells l cs) := by
    intro l
    induction l with
    | nil => intro cs _; rfl
    | cons x l ih =>
      intro cs hl
      obtain ⟨y, k⟩ := x
      rw [List.forIn_cons, clos]
      cases hk : k == NameKind.free with
      | false => simp only [Bool.false_eq_true, if_false, pure_bind]; exact ih _ fun z hz => hl z (List.mem_cons_of_mem _ hz)
      | true =>
        obtain ⟨c, hc⟩ := Option.isSome_iff_exists.mp (hl (y, k) List.mem_cons_self (by simpa using hk))
        have e : cellOf env y = pure c := by unfold cellOf; rw [hc]
        simp only [if_true, e, pure_bind, hc, Option.getD_some]
        exact ih _ fun z hz => hl z (List.mem_cons_of_mem _ hz)
  have := go scope.names [] h
  first
    | exact this
    | (rw [← this]; rfl)
    | simpa using this

theorem mem_clos {cells : List (Str × Addr)} {y : Str} {c : Addr} : ∀ {l : List (Str × NameKind)} {cs : List (Str × Addr)}, (∀ x ∈ l, x.2 = .free → (cells.lookup x.1).isSome = true) → (y, c) ∈ clos cells l cs → (y, c) ∈ cs ∨ cells.lookup y = some c
  | [], cs, _, h => .inl h
  | (z, k) :: r, cs, hl, h => by
    rw [clos] at h
    rcases mem_clos (fun x hx => hl x (List.mem_cons_of_mem _ hx)) h with h | h
    · cases hk : k == NameKind.free with
      | false => rw [hk] at h; exact .inl h
      | true =>
        rw [hk] at h
        simp only [if_true] at h
        rcases List.mem_cons.mp h with h | h
        · cases h
          obtain ⟨c, hc⟩ := Option.isSome_iff_exists.mp (hl (y, k) List.mem_cons_self (by simpa using hk))
          rw [hc]; exact .inr rfl
        · exact .inl h
    · exact .inr h

theorem has_clos {cells : List (Str × Addr)} {y : Str} : ∀ {l : List (Str × NameKind)} {cs : List (Str × Addr)}, ((y, NameKind.free) ∈ l ∨ ∃ c, (y, c) ∈ cs) → ∃ c, (y, c) ∈ clos cells l cs
  | [], cs, h => by
    rcases h with h | h
    · cases h
    · exact h
  | (z, k) :: r, cs, h => by
    rw [clos]
    refine has_clos ?_
    rcases h with h | ⟨c, h⟩
    · rcases List.mem_cons.mp h with h | h
      · cases h; exact .inr ⟨_, List.mem_cons_self⟩
      · exact .inl h
    · right
      cases k == NameKind.free with
      | false => exact ⟨c, h⟩
      | true => exact ⟨c, List.mem_cons_of_mem _ h⟩

theorem lookup_has {α : Type} {y : Str} {c : α} : ∀ {l : List (Str × α)}, (y, c) ∈ l → ∃ c', l.lookup y = some c'
  | [], h => by cases h
  | (z, k) :: r, h => by
    rw [List.lookup_cons]
    cases hz : y == z with
    | true => exact ⟨_, rfl⟩
    | false =>
      rcases List.mem_cons.mp h with h | h
      · cases h; simp at hz
      · exact lookup_has h
end Mine

namespace Mine
open PySem PyProof.Rows PySem.Calls

theorem all_mem {α : Type} {p : α → Bool} {l : List α} (h : l.all p = true) {x : α} (hx : x ∈ l) : p x = true := List.all_eq_true.mp h x hx

/-- what the checker knows of a comprehension's scope -/
structure ScOk (sc : List (Str × NameKind)) (tbl : List (Str × Nat)) (nl : Nat) (csc : List (Str × NameKind)) (cx : Str) : Prop where
  loc : csc.lookup cx = some .local
  low : ∀ y i, tbl.lookup y = some i → i < nl
  nocell : ∀ y ∈ csc, y.2 ≠ .cell
  locs : ∀ y ∈ csc, y.2 = .local → csc.lookup y.1 = some .local ∧ (y.1 = cx ∨ tbl.lookup y.1 = none)
  free : ∀ y ∈ csc, y.2 = .free → sc.lookup y.1 = some .cell

theorem ScOk.of {sc : List (Str × NameKind)} {tbl : List (Str × Nat)} {nl : Nat} {csc : List (Str × NameKind)} {cx : Str} (h : scopeOk sc tbl nl csc cx = true) : ScOk sc tbl nl csc cx := by
  unfold scopeOk at h
  rw [Bool.and_eq_true, Bool.and_eq_true, lkS_eq] at h
  obtain ⟨⟨h1, h2⟩, h3⟩ := h
  refine ⟨isLoc_eq h1, fun y i e => by simpa using all_mem h2 (mem_of_lookup e), fun y hy hk => ?_, fun y hy hk => ?_, fun y hy hk => ?_⟩
  · have := all_mem h3 hy
    rw [hk] at this; cases this
  · have := all_mem h3 hy
    rw [hk] at this
    simp only [Bool.and_eq_true, Bool.or_eq_true, lkS_eq] at this
    exact ⟨isLoc_eq this.1, this.2.elim (fun q => .inl (eqS_iff.mp q)) fun q => .inr (by simpa using q)⟩
  · have := all_mem h3 hy
    rw [hk] at this
    simp only [lkS_eq] at this
    exact isCel_eq this

theorem relabel_eq {env : Env} {scope : Scope} (hk : env.scope.kind = .function) (hf : ∀ y ∈ scope.names, y.2 = .free → env.scope.names.lookup y.1 = some .cell) : (relabel scope env).names = relab scope.names := by
  unfold relabel relab
  refine List.map_congr_left fun y hy => ?_
  obtain ⟨n, k⟩ := y
  cases k <;> try rfl
  have e : env.kindOf n = some .cell := hf _ hy rfl
  simp [hk, e, isFree]

theorem mem_relab {csc : List (Str × NameKind)} {y : Str} {k : NameKind} (h : (y, k) ∈ relab csc) : (k = .cell ∧ (y, NameKind.free) ∈ csc) ∨ ((y, k) ∈ csc ∧ k ≠ .free) := by
  unfold relab at h
  obtain ⟨z, hz, e⟩ := List.mem_map.mp h
  obtain ⟨n, k'⟩ := z
  cases k' <;> simp [isFree] at e <;> obtain ⟨rfl, rfl⟩ := e
  all_goals first
    | exact .inl ⟨rfl, hz⟩
    | exact .inr ⟨hz, by intro x; cases x⟩

theorem getV_snoc {Γ : Fm} {x v : V} (h : getV (Γ ++ [x]) Γ.length = some v) : v = x := by
  unfold getV at h
  rw [List.getElem?_concat_length] at h
  split at h
  · cases h
  · exact (Option.some.inj h).symm
theorem getV_snoc_lt {Γ : Fm} {x v : V} {i : Nat} (hi : i < Γ.length) (h : getV (Γ ++ [x]) i = some v) : getV Γ i = some v := by
  unfold getV at h ⊢
  rw [List.getElem?_append_left hi] at h
  exact h

section
variable {B : Bs} {σ : Sg} {φ : List Addr} {h : Heap} {tbl : List (Str × Nat)} {env : Env} {Γ : Fm} {scope : Scope} {K : Addr} {m : Str → Option Value} {cx : Str} {x : V} {cv : Value}

theorem FR.comp (F : FR B tbl env Γ σ φ h) (O : ScOk env.scope.names tbl Γ.length scope.names cx) (hk : scope.kind = .function) (hn : h.Ns K m) (hm : m cx = some cv) (r : VR B σ φ h x cv) (nl : ¬ live σ φ K) (hb : B.hb.get? K = none) :
    FR B ((cx, Γ.length) :: tbl) (compEnvC scope (clos env.cells scope.names []) K env) (Γ ++ [x]) σ φ h := by
  have hfree : ∀ y ∈ scope.names, y.2 = .free → (env.cells.lookup y.1).isSome = true := fun y hy e => F.has y.1 (O.free y hy e)
  have hnm : (relabel scope env).names = relab scope.names := relabel_eq F.kind O.free
  have hcl : ∀ y c, (y, c) ∈ clos env.cells scope.names [] → env.cells.lookup y = some c := fun y c hc => (mem_clos hfree hc).elim (fun x => by cases x) id
  have hlk : ∀ y, (y, NameKind.free) ∈ scope.names → (clos env.cells scope.names []).lookup y = env.cells.lookup y := fun y hy => by
    obtain ⟨c, hc⟩ := has_clos (cells := env.cells) (l := scope.names) (cs := []) (.inl hy)
    obtain ⟨c', hc'⟩ := lookup_has hc
    rw [hc', hcl y c' (mem_of_lookup hc')]
  have kind : ∀ y k, (compEnvC scope (clos env.cells scope.names []) K env).kindOf y = some k → (k = .cell ∧ (y, NameKind.free) ∈ scope.names) ∨ ((y, k) ∈ scope.names ∧ k ≠ .free) := by
    intro y k e
    have e : (relabel scope env).names.lookup y = some k := e
    rw [hnm] at e
    exact mem_relab (mem_of_lookup e)
  have cellF : ∀ y, (compEnvC scope (clos env.cells scope.names []) K env).kindOf y = some .cell → (y, NameKind.free) ∈ scope.names := fun y e => by
    rcases kind y _ e with ⟨_, h⟩ | ⟨h, _⟩
    · exact h
    · exact (O.nocell _ h rfl).elim
  have tl : ∀ y i, y ≠ cx → ((cx, Γ.length) :: tbl).lookup y = some i → tbl.lookup y = some i := fun y i hy e => by
    rw [List.lookup_cons] at e
    have : (y == cx) = false := by simpa using hy
    rw [this] at e; exact e
  refine ⟨hk, F.gl, F.bi, ⟨m, hn, fun y i v e1 e2 e3 => ?_⟩, fun y i v e1 e2 e3 => ?_, nl, fun y c hc => ?_, hb, fun y c hc => ?_, fun y e => ?_⟩
  · by_cases hy : y = cx
    · subst hy
      rw [List.lookup_cons] at e1
      simp at e1
      subst e1
      rw [getV_snoc e2]
      exact ⟨cv, hm, r⟩
    · rcases kind y _ e3 with ⟨h, _⟩ | ⟨h, _⟩
      · cases h
      · rcases (O.locs _ h rfl).2 with q | q
        · exact (hy q).elim
        · rw [tl y i hy e1] at q; cases q
  · have hfr : (y, NameKind.free) ∈ scope.names := by
      rcases e3 with e3 | e3
      · exact cellF y e3
      · rcases kind y _ e3 with ⟨h, _⟩ | ⟨_, h⟩
        · cases h
        · exact (h rfl).elim
    have hy : y ≠ cx := fun q => by
      subst q
      have h1 := F.kind
      rcases e3 with e3 | e3 <;> (have e3 : (relabel scope env).names.lookup y = some _ := e3) <;> (have := lookup_relabel_local (env := env) O.loc) <;> (rw [show (relabel scope env).names.lookup y = some .local from this] at e3) <;> cases e3
    have e1' := tl y i hy e1
    obtain ⟨c, cu, k1, k2, k3⟩ := F.cell y i v e1' (getV_snoc_lt (O.low y i e1') e2) (.inl (O.free _ hfr rfl))
    exact ⟨c, cu, (hlk y hfr).trans k1, k2, k3⟩
  · exact F.cells y c (mem_of_lookup (hcl y c hc))
  · exact F.newC y c (mem_of_lookup (hcl y c hc))
  · show ((clos env.cells scope.names []).lookup y).isSome = true
    rw [hlk y (cellF y e)]
    exact F.has y (O.free _ (cellF y e) rfl)
end

noncomputable def SF (C : Cx) (d n : Nat) : Prop := ∀ (ifs : List Expr) (x : Option Ex) (env : Env) (tbl : List (Str × Nat)) (Γ : Fm) (σ : Sg) (t : Bool) (σ' : Sg) (A : Around) (s : Shared) (φ : List Addr) (E : Value → Shared → Prop),
  chkIf C.N n env.scope.names tbl Γ.length ifs x = true → evT C.gl (callF C.gl C.P d) x Γ σ = .ok t σ' → Room d A → SR C.B σ φ s.heap → FR C.B tbl env Γ σ φ s.heap →
  wpAny C.M A (forIn ifs true fun c r => if r = true then do let ok ← isTrue c env (eval c env); pure (ForInStep.yield ok) else pure (ForInStep.yield r)) (fun b s' => b = t ∧ PostU C.B s σ φ σ' s') E s

theorem sF_succ {C : Cx} {d n : Nat} (hT : ST C d n) : SF C d (n + 1) := by
  intro ifs x env tbl Γ σ t σ' A s φ E hc he hr R F
  cases x with
  | none =>
    rw [nilL_eq (show nilL ifs = true from hc)]
    cases he
    exact wpAny_pure ⟨rfl, φ, s.heap, s.toks, rfl, R, .refl⟩
  | some x =>
    replace hc := on_1 (show on1 ifs (fun e => tstOk e x && chkE C.N n env.scope.names tbl Γ.length e x) = true from hc)
    obtain ⟨e, rfl, hc⟩ := hc
    replace hc := both hc
    obtain ⟨hts, hc⟩ := hc
    rw [evT_some] at he
    obtain ⟨v, σ₁, h1, he⟩ := bind_eq_ok he
    obtain ⟨h2, e2⟩ := of_eq_ok he
    subst e2
    rw [List.forIn_cons]
    simp only [if_true]
    refine wpAny_bind (wpAny_bind (wpAny_mono (hT e x env tbl Γ σ v t _ A s φ E hts hc h1 h2 hr R F) (fun b s' hb => wpAny_pure (wpAny_pure hb)) fun _ _ e => e))

theorem compGo_len {test : Fm → Sg → Res Bool} {elt : Fm → Sg → Res V} {Γ : Fm} : ∀ {items acc : List V} {σ : Sg} {vs : List V} {σ' : Sg}, compGo test elt Γ items acc σ = .ok vs σ' → acc.length ≤ vs.length
  | [], acc, σ, vs, σ', h => by cases h; exact Nat.le_refl _
  | x :: r, acc, σ, vs, σ', h => by
    rw [compGo_cons] at h
    obtain ⟨b, σ₁, h1, h⟩ := bind_eq_ok h
    cases b with
    | false => exact compGo_len h
    | true =>
      obtain ⟨v, σ₂, h2, h⟩ := bind_eq_ok h
      have := compGo_len h
      rw [List.length_append] at this
      exact Nat.le_trans (Nat.le_add_right _ _) this
end Mine

namespace Mine
open PySem PyProof.Rows PySem.Calls

section
variable {C : Cx} {d n : Nat} {A : Around} {tbl : List (Str × Nat)} {env : Env} {Γ : Fm} {scope : Scope} {cx : Str}

/-- what a comprehension's loop keeps -/
inductive CoInv (C : Cx) (d : Nat) (elt : Ex) (cond : Option Ex) (Γ : Fm) (items : List V) (I K D : Addr) (N : Nat) (St : Nat → Heap → Prop) (s : Shared) (σ₁ : Sg) (φ₁ : List Addr) (vs : List V) (σ' : Sg) (k : Nat) : Shared → Prop
  | mk (H : Heap) (tk : Nat) (σk : Sg) (φk : List Addr) (acc : List V) (ys : List Value) (m' : Str → Option Value) (j : Nat) : SR C.B σk φk H → Stp (fun b => b = I ∨ b = K ∨ b = D) σ₁ φ₁ s.heap σk φk H → St j H → H.PlainList D (List.toArray ys) → H.Ns K m' →
    VRs C.B σk φk H acc ys → compGo (evT C.gl (callF C.gl C.P d) cond) (evE C.gl (callF C.gl C.P d) elt) Γ (items.drop j) acc σk = .ok vs σ' → j ≤ N → k = N + 1 - j → CoInv C d elt cond Γ items I K D N St s σ₁ φ₁ vs σ' k { s with heap := H, toks := tk }

theorem comp_loop (hE : SE C d n) (hF : SF C d n) (hr : Room d A) {ee iter : Expr} {ifs : List Expr} {elt : Ex} {cond : Option Ex} {px pos : Pos} {RR : Result → Shared → Prop} {s : Shared} {σ₁ : Sg} {φ₁ : List Addr}
    {items : List V} {I K D : Addr} {fp wr : List Addr} {N : Nat} {P : Nat → Value → Prop} {St : Nat → Heap → Prop} {vs : List V} {σ' : Sg} {m : Str → Option Value}
    (O : ScOk env.scope.names tbl Γ.length scope.names cx) (hk : scope.kind = .function) (F : FR C.B tbl env Γ σ₁ φ₁ s.heap) (R : SR C.B σ₁ φ₁ s.heap) (It : Iter C.B A σ₁ φ₁ s.heap items I fp wr N P St)
    (c1 : chkE C.N n (relab scope.names) ((cx, Γ.length) :: tbl) (Γ.length + 1) ee elt = true) (c2 : chkIf C.N n (relab scope.names) ((cx, Γ.length) :: tbl) (Γ.length + 1) ifs cond = true)
    (hgo : compGo (evT C.gl (callF C.gl C.P d) cond) (evE C.gl (callF C.gl C.P d) elt) Γ items [] σ₁ = .ok vs σ') (hlen : vs.length ≤ roomy)
    (hav : C.B.av D) (hD : s.heap.PlainList D #[]) (hK : s.heap.Ns K m) (hbI : C.B.hb.get? I = none) (hbK : C.B.hb.get? K = none) (hbD : C.B.hb.get? D = none)
    (hDK : D ≠ K) (hDf : D ∉ fp) (hKf : K ∉ fp) (hDI : D ≠ I) (hKI : K ≠ I) (hown : ∀ b, own env b → b ≠ I ∧ b ≠ K ∧ b ≠ D) (hIm : I ≠ mainGlobals) (hIv : ¬ C.B.av I) {hB : Heap} {σB : Sg} {φB : List Addr} (hlB : φB.length = σB.length) (SB : Stp W0 σB φB hB σ₁ φ₁ s.heap) (hBn : ∀ b, (b = I ∨ b = K ∨ b = D) → hB.get? b = none) (nK : K ∉ φ₁) (nD : D ∉ φ₁)
    (hRR : ∀ H tk φ' ys m', SR C.B σ' φ' H → Stp W0 σB φB hB σ' φ' H → K ∉ φ' → D ∉ φ' → H.PlainList D (List.toArray ys) → H.Ns K m' → VRs C.B σ' φ' H vs ys → RR (.ok .next) { s with heap := H, toks := tk }) :
    codeAny C.M A (.compLoop (.ListComp ee [⟨.Name cx px, iter, ifs, 0⟩] scope pos) 0 (.ref I) (.ref D) (compEnvC scope (clos env.cells scope.names []) K env)) RR s := by
  have hnm : (compEnvC scope (clos env.cells scope.names []) K env).scope.names = relab scope.names := relabel_eq F.kind O.free
  obtain ⟨W, eN, st0, hwr, hfix, hself, hnlf, hnI, hval⟩ := It
  have nlI : ¬ live σ₁ φ₁ I := fun L => hnI L.mem
  have nlK : ¬ live σ₁ φ₁ K := fun L => nK L.mem
  have nlD : ¬ live σ₁ φ₁ D := fun L => nD L.mem
  refine codeAny_compLoop_tests (CoInv C d elt cond Γ items I K D N St s σ₁ φ₁ vs σ') ?_ (N + 1) (.mk s.heap s.toks σ₁ φ₁ [] [] m 0 R .refl st0 hD hK .nil hgo (Nat.zero_le _) rfl)
  intro k s' J
  cases J with
  | mk H tk σk φk acc ys m' j Rk Sk stk hDk hKk rk hgk hj hkj =>
  subst hkj
  have apart0 : Apart C.B (fun b => b = I ∨ b = K ∨ b = D) s.heap := by
    rintro b (rfl | rfl | rfl) o ho
    · obtain ⟨o', e1, ⟨fs, e2⟩, T, e3⟩ := hself 0 _ st0
      rw [ho] at e1; cases e1
      exact .inr ⟨fun xs n e => (by rw [e2] at e; cases e), fun fs' e C' e' => (by rw [e3] at e'; cases e')⟩
    · exact Apart.ns hK b rfl o ho
    · obtain ⟨k, e⟩ := hD
      rw [ho] at e; cases e
      exact .inl ⟨hav, rfl⟩
  have notlive : ∀ {σx : Sg} {φx : List Addr} {hx : Heap}, Stp (fun b => b = I ∨ b = K ∨ b = D) σ₁ φ₁ s.heap σx φx hx → ∀ b o, s.heap.get? b = some o → ¬ live σ₁ φ₁ b → ¬ live σx φx b := by
    intro σx φx hx S b o e nl L
    rcases S.live R.len L with x | x
    · exact nl x
    · rw [e] at x; cases x
  have exK : ∃ o, s.heap.get? K = some o := by obtain ⟨o, _, _, e, _⟩ := hK; exact ⟨o, e⟩
  have exD : ∃ o, s.heap.get? D = some o := by obtain ⟨k, e⟩ := hD; exact ⟨_, e⟩
  have exI : ∃ o, s.heap.get? I = some o := by obtain ⟨o, e, _⟩ := hself 0 _ st0; exact ⟨_, e⟩
  have stI : ∀ {h₁ : Heap} {tk₁ : Nat}, (∀ b o, b ∉ wr → H.get? b = some o → h₁.get? b = some o) → (∃ o, h₁.get? I = some o) → SR C.B σk φk h₁ ∧ Stp (· = I) σk φk H σk φk h₁ := by
    intro h₁ tk₁ hk₁ hx
    refine Rk.one hbI ?_ (let ⟨o, e⟩ := exI; notlive Sk I o e nlI) (fun b o hb e => hk₁ b o (fun hw => hb (hwr b hw)) e) hx
    rintro b rfl o ho
    obtain ⟨o', e1, ⟨fs, e2⟩, T, e3⟩ := hself j _ stk
    rw [ho] at e1; cases e1
    exact .inr ⟨fun xs n e => (by rw [e2] at e; cases e), fun fs' e C' e' => (by rw [e3] at e'; cases e')⟩
  have apI : Apart C.B (· = I) H := by
    rintro b rfl o ho
    obtain ⟨o', e1, ⟨fs, e2⟩, T, e3⟩ := hself j _ stk
    rw [ho] at e1; cases e1
    exact .inr ⟨fun xs n e => (by rw [e2] at e; cases e), fun fs' e C' e' => (by rw [e3] at e'; cases e')⟩
  have hKw : K ∉ wr := fun h => hKI (hwr K h)
  have hDw : D ∉ wr := fun h => hDI (hwr D h)
  by_cases hlt : j < N
  · refine W.item j _ _ _ hlt stk fun v h₁ tk₁ hPv hst₁ hk₁ => ?_
    obtain ⟨x, ex, rx⟩ := hval j v hPv
    obtain ⟨R₁, S₁⟩ := stI (tk₁ := tk₁) hk₁ (let ⟨o, e, _⟩ := hself (j + 1) _ hst₁; ⟨o, e⟩)
    have hK₁ : h₁.Ns K m' := hKk.at' fun o e => hk₁ _ o hKw e
    refine wpAny_assign_Name (wpAny_storeName_local (lookup_relabel_local O.loc) hK₁ (fun h₂ hn₂ hs₂ => ?_) (by simp [compEnvC, relabel, hk]))
    have hn₂ : h₂.Ns K _ := hn₂
    have hs₂ : Heap.SameBut K h₁ h₂ := hs₂
    have nlKk : ¬ live σk φk K := let ⟨o, e⟩ := exK; notlive Sk K o e nlK
    have nlDk : ¬ live σk φk D := let ⟨o, e⟩ := exD; notlive Sk D o e nlD
    obtain ⟨R₂, S₂⟩ := R₁.one hbK (Apart.ns hK₁) nlKk (fun b o hb e => hs₂.extBut b o hb e) (let ⟨o, _, _, e, _⟩ := hn₂; ⟨o, e⟩)
    have T₁ : Stp (fun b => b = I ∨ b = K ∨ b = D) σ₁ φ₁ s.heap σk φk h₁ := Sk.trans (S₁.weaken fun b hb => .inl hb) R.len
    have T₂ : Stp (fun b => b = I ∨ b = K ∨ b = D) σ₁ φ₁ s.heap σk φk h₂ := T₁.trans (S₂.weaken fun b hb => .inr (.inl hb)) R.len
    have F₂ : FR C.B tbl env Γ σk φk h₂ := F.mono R T₂ apart0 (fun hb => by
      obtain ⟨a, b, c⟩ := hown env.locals (.inl rfl)
      rcases hb with hb | hb | hb
      · exact a hb
      · exact b hb
      · exact c hb) fun y c hc hb => by
      obtain ⟨a, b, c⟩ := hown c (.inr ⟨y, hc⟩)
      rcases hb with hb | hb | hb
      · exact a hb
      · exact b hb
      · exact c hb
    have rx₂ : VR C.B σk φk h₂ x v := rx.mono R T₂ apart0
    have FC₂ := F₂.comp O hk hn₂ (by simp) rx₂ nlKk hbK
    have st₂ : St (j + 1) h₂ := W.frame _ _ _ hst₁ fun b hb o e => hs₂.extBut b o (fun q => hKf (q ▸ hb)) e
    have rk₁ := rk.mono Rk S₁ apI
    have rk₂ := rk₁.mono R₁ S₂ (Apart.ns hK₁)
    have hdrop : items.drop j = x :: items.drop (j + 1) := by
      have hjl : j < items.length := by rw [← eN]; exact hlt
      rw [List.drop_eq_getElem_cons hjl]
      rw [List.getElem?_eq_getElem hjl] at ex
      rw [Option.some.inj ex]
    rw [hdrop] at hgk
    rw [compGo_cons] at hgk
    obtain ⟨t, σ₃, g1, hgk⟩ := bind_eq_ok hgk
    refine wpAny_mono (hF ifs cond _ _ (Γ ++ [x]) σk t σ₃ A _ φk _ (by rw [hnm, List.length_append]; exact c2) g1 hr R₂ FC₂) (fun ok s₃ h₃ => ?_) fun _ _ e => e
    obtain ⟨rfl, φ₃, h₃, tk₃, rfl, R₃, S₃⟩ := h₃
    have T₃ : Stp (fun b => b = I ∨ b = K ∨ b = D) σ₁ φ₁ s.heap σ₃ φ₃ h₃ := T₂.trans (S₃.weaken fun _ hb => hb.elim) R.len
    have st₃ : St (j + 1) h₃ := W.frame _ _ _ st₂ fun b hb o e => S₃.keep b o e (let ⟨o', e', _⟩ := hfix 0 _ st0 b hb; notlive T₂ b o' e' (hnlf b hb)) fun x => x
    have hD₂ : h₂.PlainList D ys.toArray := by
      obtain ⟨k, e⟩ := hDk
      exact ⟨k, hs₂.extBut _ _ hDK (hk₁ _ _ hDw e)⟩
    have hD₃ : h₃.PlainList D ys.toArray := by
      obtain ⟨k, e⟩ := hD₂
      exact ⟨k, S₃.keep _ _ e nlDk fun x => x⟩
    have hK₃ : h₃.Ns K (fun y => if y = cx then some v else m' y) := hn₂.at' fun o e => S₃.keep _ _ e nlKk fun x => x
    have rk₃ := rk₂.mono R₂ S₃ Apart.none
    cases ok with
    | false =>
      simp only [Bool.false_eq_true, if_false]
      exact ⟨N + 1 - (j + 1), Nat.sub_lt_sub_left (Nat.lt_succ_of_lt hlt) (Nat.lt_succ_self j), .mk h₃ tk₃ σ₃ φ₃ acc ys _ (j + 1) R₃ T₃ st₃ hD₃ hK₃ rk₃ hgk hlt rfl⟩
    | true =>
      simp only [if_true]
      obtain ⟨u, σ₄, g2, hgk⟩ := bind_eq_ok hgk
      have nlK₃ : ¬ live σ₃ φ₃ K := let ⟨o, e⟩ := exK; notlive T₃ K o e nlK
      have nlD₃ : ¬ live σ₃ φ₃ D := let ⟨o, e⟩ := exD; notlive T₃ D o e nlD
      have FC₃ := FC₂.mono0 R₂ S₃
      refine post_mono (s := { s with heap := h₃, toks := tk₃ }) (hE ee elt _ _ (Γ ++ [x]) σ₃ u σ₄ A _ φ₃ _ (by rw [hnm, List.length_append]; exact c1) g2 hr R₃ FC₃) fun cv φ₄ h₄ tk₄ R₄ S₄ r₄ => ?_
      have T₄ : Stp (fun b => b = I ∨ b = K ∨ b = D) σ₁ φ₁ s.heap σ₄ φ₄ h₄ := T₃.trans (S₄.weaken fun _ hb => hb.elim) R.len
      have st₄ : St (j + 1) h₄ := W.frame _ _ _ st₃ fun b hb o e => S₄.keep b o e (let ⟨o', e', _⟩ := hfix 0 _ st0 b hb; notlive T₃ b o' e' (hnlf b hb)) fun x => x
      have hD₄ : h₄.PlainList D ys.toArray := by
        obtain ⟨k, e⟩ := hD₃
        exact ⟨k, S₄.keep _ _ e nlD₃ fun x => x⟩
      have hK₄ : h₄.Ns K (fun y => if y = cx then some v else m' y) := hK₃.at' fun o e => S₄.keep _ _ e nlK₃ fun x => x
      have rk₄ := rk₃.mono R₃ S₄ Apart.none
      have nlD₄ : ¬ live σ₄ φ₄ D := let ⟨o, e⟩ := exD; notlive T₄ D o e nlD
      refine wpAny_list_append_plain (s := { s with heap := h₄, toks := tk₄ }) hD₄ (fun h₅ hl₅ hs₅ => ?_) ?_
      · have hs₅ : Heap.SameBut D h₄ h₅ := hs₅
        have ap₄ : Apart C.B (· = D) h₄ := by
          rintro b rfl o ho
          obtain ⟨k, e⟩ := hD₄
          rw [ho] at e; cases e
          exact .inl ⟨hav, rfl⟩
        obtain ⟨R₅, S₅⟩ := R₄.one hbD ap₄ nlD₄ (fun b o hb e => hs₅.extBut b o hb e) (let ⟨k, e⟩ := hl₅; ⟨_, e⟩)
        have e5 : (ys.toArray.push cv) = (ys ++ [cv]).toArray := by simp
        rw [e5] at hl₅
        refine ⟨N + 1 - (j + 1), Nat.sub_lt_sub_left (Nat.lt_succ_of_lt hlt) (Nat.lt_succ_self j), .mk h₅ tk₄ σ₄ φ₄ (acc ++ [u]) (ys ++ [cv]) _ (j + 1) R₅ (T₄.trans (S₅.weaken fun b hb => .inr (.inr hb)) R.len) ?_ hl₅ (hK₄.sameBut hs₅ (Ne.symm hDK)) ((rk₄.append (.cons r₄ .nil)).mono R₄ S₅ ap₄) hgk hlt rfl⟩
        exact W.frame _ _ _ st₄ fun b hb o e => hs₅.extBut b o (fun q => hDf (q ▸ hb)) e
      · have := compGo_len hgk
        rw [List.length_append, List.length_singleton] at this
        have e := rk.length
        rw [List.size_toArray, e, ← roomy_eq]
        omega
  · have hjn : j = N := Nat.le_antisymm hj (Nat.le_of_not_lt hlt)
    subst hjn
    have hd : items.drop j = [] := List.drop_eq_nil_of_le (Nat.le_of_eq eN.symm)
    rw [hd] at hgk
    cases hgk
    refine W.done _ _ _ stk fun h₁ tk₁ hk₁ => ?_
    have hk₁' : ∀ b o, b ≠ I → H.get? b = some o → h₁.get? b = some o := fun b o hb e => hk₁ b o (fun hw => hb (hwr b hw)) e
    have S0 : Stp W0 σB φB hB σ' φk H := (Stp.trans (W := fun b => b = I ∨ b = K ∨ b = D) (SB.weaken fun _ x => x.elim) Sk hlB).drop hBn
    have nBI : ∀ b o, hB.get? b = some o → b ≠ I := fun b o e q => by rw [hBn b (.inl q)] at e; cases e
    have notin : ∀ b o, b ∉ φ₁ → s.heap.get? b = some o → b ∉ φk := fun b o hb e hm => by
      obtain ⟨i, hi⟩ := List.getElem?_of_mem hm
      by_cases hlt : i < φ₁.length
      · have e4 := Sk.pre i φ₁[i] (List.getElem?_eq_getElem hlt)
        rw [hi] at e4
        exact hb (Option.some.inj e4 ▸ List.getElem_mem hlt)
      · have := Sk.new i b (Nat.le_of_not_lt hlt) hi
        rw [e] at this; cases this
    have hnk : I ∉ φk := let ⟨o, e⟩ := exI; notin I o hnI e
    refine hRR h₁ tk₁ φk ys m' (Rk.lose hbI apI hnk hIm hIv hk₁') ⟨S0.pre, S0.new, S0.dead, fun b o e hl hw => hk₁' b o (nBI b o e) (S0.keep b o e hl hw), fun b o e => ?_⟩ (let ⟨o, e⟩ := exK; notin K o nK e) (let ⟨o, e⟩ := exD; notin D o nD e) ?_ (hKk.at' fun o e => hk₁ _ o hKw e) (rk.monoq Rk (Stq.one hk₁') apI)
    · obtain ⟨o', e'⟩ := S0.ex b o e
      exact ⟨o', hk₁' b o' (nBI b o e) e'⟩
    · obtain ⟨k, e⟩ := hDk
      exact ⟨k, hk₁ _ _ hDw e⟩
end
end Mine

namespace Mine
open PySem PyProof.Rows PySem.Calls

theorem Stp.lose {σ σ' : Sg} {φ φ' : List Addr} {h h' h'' : Heap} {K : Addr} {W : Addr → Prop} (S : Stp W σ φ h σ' φ' h') (hK : h.get? K = none) (hk : ∀ b o, b ≠ K → h'.get? b = some o → h''.get? b = some o) : Stp W σ φ h σ' φ' h'' := by
  have nK : ∀ b o, h.get? b = some o → b ≠ K := fun b o e q => by rw [q, hK] at e; cases e
  exact ⟨S.pre, S.new, S.dead, fun b o e hl hw => hk b o (nK b o e) (S.keep b o e hl hw), fun b o e => let ⟨o', e'⟩ := S.ex b o e; ⟨o', hk b o' (nK b o e) e'⟩⟩
theorem SR.newK {B : Bs} {σ : Sg} {φ : List Addr} {h : Heap} {K : Addr} (R : SR B σ φ h) (sK : h.get? K = none) : B.hb.get? K = none ∧ K ≠ mainGlobals ∧ ¬ B.av K := by
  refine ⟨?_, fun q => ?_, fun q => ?_⟩
  · cases e' : B.hb.get? K with
    | none => rfl
    | some o => rw [R.based K o e'] at sK; cases sK
  · obtain ⟨o, e⟩ := R.main; rw [q, e] at sK; cases sK
  · obtain ⟨o, e⟩ := R.avx K q; rw [e] at sK; cases sK

theorem chkI_set {N : Nm} {n : Nat} {sc : List (Str × NameKind)} {tbl : List (Str × Nat)} {nl : Nat} {e : Expr} {ik : IK} {a b : Ex} (h : chkI N n sc tbl nl e ik a b = true) : setOk e = true := by
  cases n with
  | zero => exact no_true h
  | succ n => cases ik <;> exact (both (show (setOk e && _) = true from h)).1

theorem chk_compG {I : Expr → Bool} {N : Nm} {n : Nat} {sc : List (Str × NameKind)} {tbl : List (Str × Nat)} {nl : Nat} {e : Expr} {elt : Ex} {cond : Option Ex}
    (hc : onComp e (fun ee gs csc => on1 gs fun g => onName g.target fun cx =>
        g.is_async == 0 && (isFn csc.kind && (scopeOk sc tbl nl csc.names cx && (I g.iter &&
          (chkE N n (relab csc.names) ((cx, nl) :: tbl) (nl + 1) ee elt && chkIf N n (relab csc.names) ((cx, nl) :: tbl) (nl + 1) g.ifs cond))))) = true) :
    ∃ ee cx px iter ifs csc pos, e = .ListComp ee [⟨.Name cx px, iter, ifs, 0⟩] csc pos ∧ csc.kind = .function ∧ scopeOk sc tbl nl csc.names cx = true ∧ I iter = true ∧
      chkE N n (relab csc.names) ((cx, nl) :: tbl) (nl + 1) ee elt = true ∧ chkIf N n (relab csc.names) ((cx, nl) :: tbl) (nl + 1) ifs cond = true := by
  replace hc := on_comp hc
  obtain ⟨ee, gs, csc, pos, rfl, hc⟩ := hc
  replace hc := on_1 hc
  obtain ⟨g, rfl, hc⟩ := hc
  obtain ⟨tg, iter, ifs, asy⟩ := g
  replace hc := on_name hc
  obtain ⟨cx, px, e1, hc⟩ := hc
  replace e1 : tg = .Name cx px := e1
  subst e1
  replace hc := both hc
  obtain ⟨q1, hc⟩ := hc
  replace hc := both hc
  obtain ⟨q2, hc⟩ := hc
  replace hc := both hc
  obtain ⟨q3, hc⟩ := hc
  replace hc := both hc
  obtain ⟨q4, hc⟩ := hc
  replace hc := both hc
  obtain ⟨q5, q6⟩ := hc
  have e1 : asy = 0 := beq_iff_eq.mp q1
  subst e1
  exact ⟨ee, cx, px, iter, ifs, csc, pos, rfl, isFn_eq q2, q3, q4, q5, q6⟩
theorem chk_comp {N : Nm} {n : Nat} {sc : List (Str × NameKind)} {tbl : List (Str × Nat)} {nl : Nat} {e : Expr} {m : Bool} {elt : Ex} {ik : IK} {a b : Ex} {cond : Option Ex} (hc : chkE N (n + 1) sc tbl nl e (.comp m elt ik a b cond) = true) :
    ∃ ee cx px iter ifs csc pos, e = .ListComp ee [⟨.Name cx px, iter, ifs, 0⟩] csc pos ∧ csc.kind = .function ∧ scopeOk sc tbl nl csc.names cx = true ∧ chkI N n sc tbl nl iter ik a b = true ∧
      chkE N n (relab csc.names) ((cx, nl) :: tbl) (nl + 1) ee elt = true ∧ chkIf N n (relab csc.names) ((cx, nl) :: tbl) (nl + 1) ifs cond = true :=
  chk_compG (I := fun x => chkI N n sc tbl nl x ik a b) hc

section
variable {C : Cx} {d n : Nat} {A : Around} {E : Value → Shared → Prop} {tbl : List (Str × Nat)} {env : Env} {Γ : Fm} {scope : Scope} {cx : Str} {s s' : Shared} {σ σ' : Sg} {φ : List Addr} {v : V}

/-- a comprehension from its first iterator on -/
theorem comp_tail (hE : ∀ D, SE (C.wav D) d n) (hF : ∀ D, SF (C.wav D) d n) (hr : Room d A) {ee iter : Expr} {ifs : List Expr} {elt : Ex} {cond : Option Ex} {px pos : Pos}
    {use : Option (Value → Sem Unit)} {Q : Value → Shared → Prop} {σ₂ σ₃ : Sg} {φ₁ : List Addr} {h₁ : Heap} {tk₁ : Nat} {items vs : List V} {cv : Value}
    (q2 : scope.kind = .function) (O : ScOk env.scope.names tbl Γ.length scope.names cx)
    (c1 : chkE C.N n (relab scope.names) ((cx, Γ.length) :: tbl) (Γ.length + 1) ee elt = true) (c2 : chkIf C.N n (relab scope.names) ((cx, Γ.length) :: tbl) (Γ.length + 1) ifs cond = true)
    (R : SR C.B σ φ s.heap) (F : FR C.B tbl env Γ σ φ s.heap) (R₁ : SR C.B σ₂ φ₁ h₁) (S₁ : Stp W0 σ φ s.heap σ₂ φ₁ h₁) (iv : IterAt C.B A s.heap σ₂ φ₁ { s with heap := h₁, toks := tk₁ } items cv s')
    (h4 : compGo (evT C.gl (callF C.gl C.P d) cond) (evE C.gl (callF C.gl C.P d) elt) Γ items [] σ₂ = .ok vs σ₃) (hv4 : vs.length ≤ roomy)
    (hfin : ∀ D K φ' h' tk m' ys, SR (C.B.wav D) σ₃ φ' h' → Stp W0 σ φ s.heap σ₃ φ' h' → h'.PlainList D (List.toArray ys) → VRs (C.B.wav D) σ₃ φ' h' vs ys → ¬ C.B.av D → D ∉ φ' → s.heap.get? D = none → D ≠ K → (D == sysModules) = false → h'.Ns K m' → K ∉ φ' → s.heap.get? K = none → compPost C.M A E use Q (.ref D) K (.ok .next) { s with heap := h', toks := tk }) :
    wpAny C.M A (newList []) (fun acc s₃ => wpAny C.M A (newFunctionEnv scope env.globals (clos env.cells scope.names []) [] env.qual none .none (some env)) (fun cenv s₄ =>
        codeAny C.M A (.compStart (.ListComp ee [⟨.Name cx px, iter, ifs, 0⟩] scope pos) 0 cv acc { cenv with scope := relabel scope env }) (compPost C.M A E use Q acc cenv.locals) s₄) E s₃) E s' := by
  obtain ⟨I, h₂, tk₂, fp, wr, N, P, St, rfl, rfl, hk₂, hI0, It⟩ := iv
  refine wpAny_newObj_type (wpAny_newFunctionEnv O.nocell (by intro y hy; simp at hy) (fun h₃ hns₃ hsb₃ => ?_) q2)
  have hk₂ : ∀ b o, h₁.get? b = some o → h₂.get? b = some o := hk₂
  dsimp only at hns₃ hsb₃ ⊢
  generalize hH2 : h₂.push { cls := .type "list", dict := none, data := .seq ([] : List Value).toArray } = H2 at hns₃ hsb₃ ⊢
  have hC : H2.objs.size = h₂.objs.size + 1 := by rw [← hH2, Heap.size_push]
  have hDK : h₂.objs.size ≠ H2.objs.size := by rw [hC]; exact Nat.ne_of_lt (Nat.lt_succ_self _)
  have below : ∀ b, b < h₂.objs.size → b ≠ H2.objs.size ∧ b ≠ h₂.objs.size := fun b hb => ⟨by rw [hC]; exact Nat.ne_of_lt (Nat.lt_succ_of_lt hb), Nat.ne_of_lt hb⟩
  have old : ∀ b o, h₂.get? b = some o → h₃.get? b = some o := fun b o e => hsb₃.extBut b o (below b (Heap.lt_size e)).1 (Heap.get?_push_of_some _ (hH2 ▸ Heap.get?_push_of_some _ e))
  have hacc : h₃.PlainList h₂.objs.size #[] := ⟨_, hsb₃.extBut _ _ hDK (Heap.get?_push_of_some _ (hH2 ▸ Heap.get?_push_size _ rfl))⟩
  have hns₃ : h₃.Ns H2.objs.size _ := hns₃
  have gone : ∀ {hx : Heap} {b : Addr}, (∀ c o, hx.get? c = some o → ∃ o', h₂.get? c = some o') → h₂.objs.size ≤ b → hx.get? b = none := fun {hx b} hh hb => by
    cases e : hx.get? b with
    | none => rfl
    | some o => obtain ⟨o', e'⟩ := hh b o e; exact absurd (Heap.lt_size e') (Nat.not_lt.mpr hb)
  have sub2 : ∀ c o, s.heap.get? c = some o → ∃ o', h₂.get? c = some o' := fun c o e => let ⟨o', e'⟩ := S₁.ex c o e; ⟨o', hk₂ _ _ e'⟩
  have hKge : h₂.objs.size ≤ H2.objs.size := by rw [hC]; exact Nat.le_succ _
  have D2 : h₂.get? h₂.objs.size = none := get_size _
  have R₂ : SR C.B σ₂ φ₁ h₂ := R₁.grow hk₂
  have F₂ : FR C.B tbl env Γ σ₂ φ₁ h₂ := (F.mono0 R S₁).mono0 R₁ (Stp.grow hk₂)
  have R₃ : SR (C.B.wav h₂.objs.size) σ₂ φ₁ h₃ := R₂.to D2 old (let ⟨k, e⟩ := hacc; ⟨_, e⟩)
  have F₃ : FR (C.B.wav h₂.objs.size) tbl env Γ σ₂ φ₁ h₃ := F₂.to D2 old
  have hbs : ∀ b, s.heap.get? b = none → C.B.hb.get? b = none := fun b e => by
    cases e' : C.B.hb.get? b with
    | none => rfl
    | some o => rw [R.based b o e'] at e; cases e
  have sD : s.heap.get? h₂.objs.size = none := gone sub2 (Nat.le_refl _)
  have sK : s.heap.get? H2.objs.size = none := gone sub2 hKge
  obtain ⟨W, eN, st0, hwr, hfix, hself, hnlf, hnI, hval⟩ := It
  have st0 : St 0 h₂ := st0
  have st3 : St 0 h₃ := W.frame _ _ _ st0 fun b _ o e => old b o e
  have fplt : ∀ b ∈ fp, b < h₂.objs.size := fun b hb => let ⟨o, e, _⟩ := hfix 0 h₂ st0 b hb; Heap.lt_size e
  have Ilt : I < h₂.objs.size := let ⟨o, e, _⟩ := hself 0 h₂ st0; Heap.lt_size e
  have It₃ : Iter (C.wav h₂.objs.size).B A σ₂ φ₁ h₃ items I fp wr N P St := ⟨W, eN, st3, hwr, hfix, hself, hnlf, hnI, fun i u hu => let ⟨x, e, r⟩ := hval i u hu; ⟨x, e, r.to D2 old⟩⟩
  have nm : ∀ b, h₂.objs.size ≤ b → b ∉ φ₁ := fun b hb L => by
    obtain ⟨o, e⟩ := R₂.ex b L
    exact absurd (Heap.lt_size e) (Nat.not_lt.mpr hb)
  have loop : ∀ tk, codeAny C.M A (.compLoop (.ListComp ee [⟨.Name cx px, iter, ifs, 0⟩] scope pos) 0 (.ref I) (.ref h₂.objs.size) (compEnvC scope (clos env.cells scope.names []) H2.objs.size env)) (compPost C.M A E use Q (.ref h₂.objs.size) H2.objs.size) { s with heap := h₃, toks := tk } := by
    intro tk
    refine comp_loop (C := C.wav h₂.objs.size) (s := { s with heap := h₃, toks := tk }) (hE _) (hF _) hr O q2 F₃ R₃ It₃ c1 c2 h4 hv4 (.inr rfl) hacc hns₃ (hbs I hI0) (hbs _ sK) (hbs _ sD) hDK (fun hm => Nat.lt_irrefl _ (fplt _ hm))
      (fun hm => Nat.not_lt.mpr hKge (fplt _ hm)) (Nat.ne_of_gt Ilt) (Nat.ne_of_gt (Nat.lt_of_lt_of_le Ilt hKge)) ?_ (fun q => ?_) ?_ (hB := s.heap) R.len ((S₁.trans (Stp.grow hk₂) R.len).trans (Stp.grow old) R.len) ?_ (nm _ hKge) (nm _ (Nat.le_refl _)) ?_
    · intro b hb
      have ⟨o, e⟩ : ∃ o, s.heap.get? b = some o := by
        rcases hb with rfl | ⟨y, hy⟩
        · obtain ⟨m, ⟨o, _, _, e, _⟩, _⟩ := F.ns; exact ⟨o, e⟩
        · obtain ⟨u, o, e, _⟩ := F.cells y b hy; exact ⟨o, e⟩
      exact ⟨fun q => (by rw [q, hI0] at e; cases e), fun q => (by rw [q, sK] at e; cases e), fun q => (by rw [q, sD] at e; cases e)⟩
    · obtain ⟨o, e⟩ := R.main
      rw [← q, hI0] at e; cases e
    · rintro (hv | q)
      · obtain ⟨o, e⟩ := R.avx I hv
        rw [hI0] at e; cases e
      · exact Nat.ne_of_lt Ilt q
    · rintro b (rfl | rfl | rfl)
      · exact hI0
      · exact sK
      · exact sD
    · intro H tk' φ' ys m' R' S' nlK' nD' hp hn r
      have hnv : ¬ C.B.av h₂.objs.size := fun hv => by obtain ⟨o, e⟩ := R₂.avx _ hv; rw [D2] at e; cases e
      exact hfin h₂.objs.size H2.objs.size φ' H tk' m' ys R' S' hp r hnv nD' sD hDK (R₂.sysOk (s := { s with heap := h₂, toks := tk₂ })) hn nlK' sK
  exact codeAny_compStart_list (loop _) (W.self 0 _ _ _ st3 (loop _))

theorem comp_core (hI : SI C d n) (hE : ∀ D, SE (C.wav D) d n) (hF : ∀ D, SF (C.wav D) d n) (hr : Room d A) {ee iter : Expr} {ifs : List Expr} {elt a b : Ex} {ik : IK} {mm : Bool} {cond : Option Ex} {px pos p2 : Pos}
    {use : Option (Value → Sem Unit)} {Q : Value → Shared → Prop}
    (q2 : scope.kind = .function) (O : ScOk env.scope.names tbl Γ.length scope.names cx) (c0 : chkI C.N n env.scope.names tbl Γ.length iter ik a b = true)
    (c1 : chkE C.N n (relab scope.names) ((cx, Γ.length) :: tbl) (Γ.length + 1) ee elt = true) (c2 : chkIf C.N n (relab scope.names) ((cx, Γ.length) :: tbl) (Γ.length + 1) ifs cond = true)
    (he : evE C.gl (callF C.gl C.P d) (.comp mm elt ik a b cond) Γ σ = .ok v σ') (R : SR C.B σ φ s.heap) (F : FR C.B tbl env Γ σ φ s.heap)
    (hfin : ∀ D K φ' h' tk m', SR C.B σ' φ' h' → Stp W0 σ φ s.heap σ' φ' h' → VR C.B σ' φ' h' v (.ref D) → h'.Ns K m' → K ∉ φ' → s.heap.get? K = none → compPost C.M A E use Q (.ref D) K (.ok .next) { s with heap := h', toks := tk }) :
    wpAny C.M A (comprehension (.ListComp ee [⟨.Name cx px, iter, ifs, 0⟩] scope pos) scope env p2 (newList []) false (eval iter env) use) Q E s := by
  rw [evE_comp0] at he
  obtain ⟨xv, σ₁, h1, he⟩ := bind_eq_ok he
  obtain ⟨yv, σ₂, h2, he⟩ := bind_eq_ok he
  obtain ⟨items, h3, he⟩ := bind_of_ok he
  obtain ⟨vs, σ₃, h4, he⟩ := bind_eq_ok he
  have hfree : ∀ y ∈ scope.names, y.2 = .free → (env.cells.lookup y.1).isSome = true := fun y hy e => F.has y.1 (O.free y hy e)
  refine wpAny_comprehension_free (use := use) rfl (fun x => folded_of (chkI_set c0) x) (clos_eq hfree) q2 (fun y hy e => (O.locs y hy e).1) ?_
  refine wpAny_mono (hI iter ik a b env tbl Γ σ xv σ₁ yv σ₂ items A s φ E c0 h1 h2 h3 hr R F) (fun cv s₁ Pi => ?_) fun _ _ e => e
  obtain ⟨φ₁, h₁, tk₁, rfl, R₁, S₁, iv⟩ := Pi
  refine wpAny_mono (op_iter (h₀ := s.heap) iv hr.hh R₁ S₁.ex) (fun it s₂ P₂ => ?_) fun _ _ e => e
  have hv4 : vs.length ≤ roomy := putL_len he
  refine comp_tail hE hF hr q2 O c1 c2 R F R₁ S₁ P₂ h4 hv4 fun D K φ' h' tk m' ys R' S' hp r hnv nD sD hDK hsys hn nK sK => ?_
  unfold putL at he
  rw [if_pos hv4] at he
  cases mm with
  | true =>
    cases he
    refine hfin D K (φ' ++ [D]) h' tk m' (R'.adopt hp r hv4 hsys (R.newK sD).1 hnv nD) ⟨fun i c e => getElem?_snoc_lt (S'.pre i c e), fun i c hi e => ?_, fun i e => getElem?_snoc_lt (S'.dead i e), S'.keep, S'.ex⟩ (.ref (by rw [← R'.len]; simp)) hn (fun L => ?_) sK
    · rcases getElem?_snoc e with e | ⟨_, rfl⟩
      · exact S'.new i c hi e
      · exact sD
    · rcases List.mem_append.mp L with L | q
      · exact nK L
      · exact hDK (List.mem_singleton.mp q).symm
  | false =>
    cases he
    exact hfin D K φ' h' tk m' R'.fro S' (.lst hp ⟨fun L => nD L.mem, hnv⟩ r.fro hv4) hn nK sK

theorem sE_comp (hI : SI C d n) (hE : ∀ D, SE (C.wav D) d n) (hF : ∀ D, SF (C.wav D) d n) {e : Expr} {elt a b : Ex} {ik : IK} {mm : Bool} {cond : Option Ex}
    (hc : chkE C.N (n + 1) env.scope.names tbl Γ.length e (.comp mm elt ik a b cond) = true) (he : evE C.gl (callF C.gl C.P d) (.comp mm elt ik a b cond) Γ σ = .ok v σ') (hr : Room d A) (R : SR C.B σ φ s.heap) (F : FR C.B tbl env Γ σ φ s.heap) :
    wpAny C.M A (eval e env) (Post C.B s σ φ σ' v) E s := by
  obtain ⟨ee, cx, px, iter, ifs, csc, pos, rfl, q2, q3, q4, q5, q6⟩ := chk_comp hc
  rw [eval_ListComp]
  refine comp_core (use := none) hI hE hF hr q2 (ScOk.of q3) q4 q5 q6 he R F fun D K φ' h' tk m' R' S' r' hn nl sK => ⟨m', hn, fun h'' hs => ?_⟩
  have hs : Heap.SameBut K h' h'' := hs
  have hk : ∀ b o, b ≠ K → h'.get? b = some o → h''.get? b = some o := fun b o hb e => hs.extBut b o hb e
  obtain ⟨g1, g2, g3⟩ := R.newK sK
  exact ⟨φ', h'', tk, rfl, R'.lose g1 (Apart.ns hn) nl g2 g3 hk, S'.lose sK hk, r'.monoq R' (Stq.one hk) (Apart.ns hn)⟩
end
end Mine

namespace Mine
open PySem PyProof.Rows PySem.Calls

section
variable {B : Bs} {σ : Sg} {φ : List Addr} {h : Heap} {i : Nat} {xs : List V} {vs : List Value} {a : Addr}

end

section
variable {C : Cx} {d n : Nat} {A : Around} {E : Value → Shared → Prop} {tbl : List (Str × Nat)} {env : Env} {Γ : Fm} {s : Shared} {σ σ' : Sg} {φ : List Addr} {v : V}
end
end Mine

namespace Mine
open PySem PyProof.Rows PySem.Calls

noncomputable def CallSims (C : Cx) (d : Nat) : Prop := ∀ av : Addr → Prop, CallSim { C with B := { C.B with av := av } } d

structure Sims (C : Cx) (d n : Nat) : Prop where
  E : SE C d n
  T : ST C d n
  Es : SEs C d n
  L : SL C d n
  O : SO C d n
  I : SI C d n
  F : SF C d n

theorem sE_succ {C : Cx} {d n : Nat} (ok : C.Ok) (hcs : CallSim C d) (H : Sims C d n) (hw : ∀ D, Sims (C.wav D) d n) (hw2 : ∀ a D, Sims ((C.wav a).wav D) d n) : SE C d (n + 1) := by
  intro e x env tbl Γ σ v σ' A s φ E hc he hr R F
  cases x with
  | cNone => exact sE_const (.inl rfl) hc he R
  | cBool b => exact sE_const (.inr (.inl ⟨b, rfl⟩)) hc he R
  | cInt i => exact sE_const (.inr (.inr (.inl ⟨i, rfl⟩))) hc he R
  | cStr i => exact sE_const (.inr (.inr (.inr ⟨i, rfl⟩))) hc he R
  | var i => exact sE_names ok (.inl ⟨i, rfl⟩) hc he R F
  | glob i => exact sE_names ok (.inr ⟨i, rfl⟩) hc he R F
  | and a b => exact (sE_bools H.E H.T H.L (.inl ⟨a, b, rfl⟩) hc he hr R F).1
  | or a b => exact (sE_bools H.E H.T H.L (.inr ⟨a, b, rfl⟩) hc he hr R F).1
  | not a => exact (sE_not H.E H.T hc he hr R F).1
  | neg a => exact (sE_neg H.E hc he hr R F).1
  | bin o a b => exact sE_bin H.E hc he hr R F
  | cmp o a b => exact (sE_cmp H.E hc he hr R F).1
  | cmp2 o p a b c => exact (sE_cmp2 H.E hc he hr R F).1
  | ite c a b => exact (sE_ite H.E H.T hc he hr R F).1
  | tup xs => exact sE_tup H.Es hc he hr R F
  | lst m xs => exact sE_lst H.Es hc he hr R F
  | dict p => exact sE_dict H.Es hc he hr R F
  | comp m elt ik a b cond => exact sE_comp H.I (fun D => (hw D).E) (fun D => (hw D).F) hc he hr R F
  | compL elt a => exact no_true hc
  | call f xs => exact sE_call ok hcs H.Es hc he hr R F
  | bi b xs => exact sE_bi ok H.E H.Es hc he hr R F
  | app o x => exact sE_app H.E hc he hr R F
  | pop o => exact sE_pop H.E hc he hr R F
  | clear o => exact no_true hc
  | rvs o => exact no_true hc
  | join s l => exact no_true hc
  | idx a b => exact sE_idx H.E hc he hr R F
  | slice a lo hi => exact sE_slice H.E H.O hc he hr R F
  | frz a => exact sE_frz H.E hc he hr R F

theorem sT_plain {C : Cx} {d n : Nat} (hE : SE C d (n + 1)) {e : Expr} {x : Ex} {env : Env} {tbl : List (Str × Nat)} {Γ : Fm} {σ : Sg} {v : V} {t : Bool} {σ' : Sg} {A : Around} {s : Shared} {φ : List Addr} {E : Value → Shared → Prop}
    (hp : isTrue e env (eval e env) = (do let v ← eval e env; standAt e.pos; holding [v] (truthy v)))
    (hc : chkE C.N (n + 1) env.scope.names tbl Γ.length e x = true) (he : evE C.gl (callF C.gl C.P d) x Γ σ = .ok v σ') (ht : vTrue σ' v = some t) (hr : Room d A) (R : SR C.B σ φ s.heap) (F : FR C.B tbl env Γ σ φ s.heap) :
    wpAny C.M A (isTrue e env (eval e env)) (fun b s' => b = t ∧ PostU C.B s σ φ σ' s') E s := by
  rw [hp]
  refine wpAny_bind (post_mono (hE e x env tbl Γ σ v σ' A s φ E hc he hr R F) fun cv φ₁ h₁ tk R₁ S₁ r₁ => ?_)
  refine wpAny_bind (wpAny_standAt (wpAny_holding (op_truthy (s := { s with heap := h₁, toks := tk }) ht R₁ r₁ fun tk' => ?_)))
  exact ⟨rfl, φ₁, h₁, tk', rfl, R₁, S₁⟩

theorem sT_succ {C : Cx} {d n : Nat} (H : Sims C d n) (hE : SE C d (n + 1)) : ST C d (n + 1) := by
  intro e x env tbl Γ σ v t σ' A s φ E hts hc he ht hr R F
  cases x with
  | and a b => exact (sE_bools H.E H.T H.L (.inl ⟨a, b, rfl⟩) hc he hr R F).2 t ht
  | or a b => exact (sE_bools H.E H.T H.L (.inr ⟨a, b, rfl⟩) hc he hr R F).2 t ht
  | not a => exact (sE_not H.E H.T hc he hr R F).2 t ht
  | cmp o a b => exact (sE_cmp H.E hc he hr R F).2 t ht
  | cmp2 o p a b c => exact (sE_cmp2 H.E hc he hr R F).2 t ht
  | ite c a b => exact (sE_ite H.E H.T hc he hr R F).2 t ht
  | neg a =>
    obtain ⟨_, y, p, rfl⟩ := sE_neg (E := E) H.E hc he hr R F
    exact sT_plain hE rfl hc he ht hr R F
  | _ => exact sT_plain hE (test_of hts _) hc he ht hr R F

theorem sims_zero {C : Cx} {d : Nat} : Sims C d 0 := by
  refine ⟨?_, ?_, ?_, ?_, ?_, ?_, ?_⟩
  · intro e x env tbl Γ σ v σ' A s φ E hc; exact no_true hc
  · intro e x env tbl Γ σ v t σ' A s φ E _ hc; exact no_true hc
  · intro e x env tbl Γ σ v σ' A s φ E pos hc; exact no_true hc
  · intro op w r x env tbl Γ σ v σ' A s φ E pos hc; exact no_true hc
  · intro e x env tbl Γ σ v σ' A s φ E hc; exact no_true hc
  · intro e ik x y env tbl Γ σ a σ₁ b σ₂ items A s φ E hc; exact no_true hc
  · intro e x env tbl Γ σ v σ' A s φ E hc; exact no_true hc

theorem sims (d : Nat) : ∀ (n : Nat) (C : Cx), C.Ok → CallSims C d → Sims C d n
  | 0, _, _, _ => sims_zero
  | n + 1, C, ok, hcs => by
    have H := sims d n C ok hcs
    have hw : ∀ D, Sims (C.wav D) d n := fun D => sims d n (C.wav D) (ok.wav D) fun av => hcs av
    have hw2 : ∀ a D, Sims ((C.wav a).wav D) d n := fun a D => sims d n ((C.wav a).wav D) ((ok.wav a).wav D) fun av => hcs av
    have hE := sE_succ ok (hcs C.B.av) H hw hw2
    exact ⟨hE, sT_succ H hE, sEs_succ H.E H.Es, sL_succ H.E H.T H.L, sO_succ H.E, sI_succ ok H.E, sF_succ H.T⟩
end Mine

namespace Mine
open PySem PyProof.Rows PySem.Calls

/-- how a run of statements ends -/
inductive FlR (B : Bs) (σ : Sg) (φ : List Addr) (h : Heap) : Fl → Flow → Prop
  | next : FlR B σ φ h .next .next
  | ret {v : V} {cv : Value} : VR B σ φ h v cv → FlR B σ φ h (.ret v) (.ret cv)

noncomputable def PostS (B : Bs) (tbl : List (Str × Nat)) (env : Env) (nl : Nat) (s : Shared) (σ : Sg) (φ : List Addr) (σ' : Sg) (p : Fl × Fm) (fl : Flow) (s' : Shared) : Prop :=
  ∃ φ' h' tk, s' = { s with heap := h', toks := tk } ∧ SR B σ' φ' h' ∧ Stp (own env) σ φ s.heap σ' φ' h' ∧ FR B tbl env p.2 σ' φ' h' ∧ p.2.length = nl ∧ FlR B σ' φ' h' p.1 fl

structure EnvOk (tbl : List (Str × Nat)) (env : Env) : Prop where
  inj : TInj tbl
  cells : env.cells.Pairwise fun x y => x.2 ≠ y.2
  inter : interactive env = false

noncomputable def SS (C : Cx) (d n : Nat) : Prop := ∀ (st : Stmt) (x : St) (env : Env) (tbl : List (Str × Nat)) (Γ : Fm) (σ : Sg) (p : Fl × Fm) (σ' : Sg) (A : Around) (s : Shared) (φ : List Addr) (E : Value → Shared → Prop),
  EnvOk tbl env → chkS C.N n env.scope.names tbl Γ.length st x = true → exS C.gl (callF C.gl C.P d) x Γ σ = .ok p σ' → Room d A → SR C.B σ φ s.heap → FR C.B tbl env Γ σ φ s.heap →
  wpAny C.M A (exec st env) (PostS C.B tbl env Γ.length s σ φ σ' p) E s
noncomputable def SB (C : Cx) (d n : Nat) : Prop := ∀ (st : List Stmt) (x : List St) (env : Env) (tbl : List (Str × Nat)) (Γ : Fm) (σ : Sg) (p : Fl × Fm) (σ' : Sg) (A : Around) (s : Shared) (φ : List Addr) (E : Value → Shared → Prop),
  EnvOk tbl env → chkB C.N n env.scope.names tbl Γ.length st x = true → exB C.gl (callF C.gl C.P d) x Γ σ = .ok p σ' → Room d A → SR C.B σ φ s.heap → FR C.B tbl env Γ σ φ s.heap →
  wpAny C.M A (execs st env) (PostS C.B tbl env Γ.length s σ φ σ' p) E s

section
variable {C : Cx} {d n : Nat} {env : Env} {tbl : List (Str × Nat)} {Γ : Fm} {σ σ₁ σ' : Sg} {p : Fl × Fm} {A : Around} {s : Shared} {φ φ₁ : List Addr} {h₁ : Heap} {tk : Nat} {E : Value → Shared → Prop}

theorem PostS.trans {B : Bs} {nl : Nat} {fl : Flow} {s' : Shared} (hl : φ.length = σ.length) (S : Stp (own env) σ φ s.heap σ₁ φ₁ h₁) (P : PostS B tbl env nl { s with heap := h₁, toks := tk } σ₁ φ₁ σ' p fl s') : PostS B tbl env nl s σ φ σ' p fl s' := by
  obtain ⟨φ', h', tk', e, R, S', F, hn, f⟩ := P
  exact ⟨φ', h', tk', e, R, S.trans S' hl, F, hn, f⟩

theorem sB_succ (hS : SS C d n) (hB : SB C d n) : SB C d (n + 1) := by
  intro st x env tbl Γ σ p σ' A s φ E ho hc he hr R F
  cases st with
  | nil =>
    cases x with
    | nil => cases he; exact wpAny_execs_nil ⟨φ, s.heap, s.toks, rfl, R, .refl, F, rfl, .next⟩
    | cons y x => exact no_true hc
  | cons t st =>
    cases x with
    | nil => exact no_true hc
    | cons y x =>
      replace hc := both (show (chkS C.N n env.scope.names tbl Γ.length t y && chkB C.N n env.scope.names tbl Γ.length st x) = true from hc)
      rw [exB_cons0] at he
      obtain ⟨⟨f, Γ₁⟩, σ₁, h1, he⟩ := bind_eq_ok he
      refine wpAny_execs_cons (wpAny_mono (hS t y env tbl Γ σ _ σ₁ A s φ E ho hc.1 h1 hr R F) (fun fl s₁ P => ?_) fun _ _ e => e)
      obtain ⟨φ₁, h₁, tk, rfl, R₁, S₁, F₁, hn₁, f₁⟩ := P
      cases f₁ with
      | next =>
        have hn₁ : Γ₁.length = Γ.length := hn₁
        refine wpAny_mono (hB st x env tbl Γ₁ σ₁ p σ' A _ φ₁ E ho (by rw [hn₁]; exact hc.2) he hr R₁ F₁) (fun fl s₂ P => ?_) fun _ _ e => e
        rw [hn₁] at P
        exact P.trans R.len S₁
      | ret r => cases he; exact ⟨φ₁, h₁, tk, rfl, R₁, S₁, F₁, hn₁, .ret r⟩

theorem nosw {e : Expr} (h : compOf e = false) (t : Option Expr) (l : Nat) : swapsWith e t l env = pure false := by
  cases e <;> first | rfl | cases h

theorem stoOk_eq {sc : List (Str × NameKind)} {id : Str} {i : Nat} (h : stoOk sc tbl id i = true) : tbl.lookup id = some i ∧ (sc.lookup id = some .local ∨ sc.lookup id = some .cell) := by
  unfold stoOk at h
  rw [Bool.and_eq_true, Bool.and_eq_true, Bool.or_eq_true, beq_iff_eq, lkS_eq, lkS_eq] at h
  exact ⟨h.1.1, h.1.2.elim (fun q => .inl (isLoc_eq q)) fun q => .inr (isCel_eq q)⟩

theorem store_kind {id : Str} {B : Bs} {h : Heap} (F : FR B tbl env Γ σ φ h) (k : env.scope.names.lookup id = some .local ∨ env.scope.names.lookup id = some .cell) :
    env.kindOf id = some .local ∨ (env.kindOf id = some .cell ∧ (env.cells.lookup id).isSome = true) := k.elim .inl fun q => .inr ⟨q, F.has id q⟩

theorem Stp.w0 {W : Addr → Prop} {h : Heap} (S : Stp W0 σ φ h σ₁ φ₁ h₁) : Stp W σ φ h σ₁ φ₁ h₁ := S.weaken fun _ x => x.elim

theorem sS_expr (H : Sims C d n) {e : Expr} {x : Ex} {pos : Pos} (ho : EnvOk tbl env) (hc : compOf e = false) (hc' : chkE C.N n env.scope.names tbl Γ.length e x = true) (he : exS C.gl (callF C.gl C.P d) (.expr x) Γ σ = .ok p σ') (hr : Room d A) (R : SR C.B σ φ s.heap) (F : FR C.B tbl env Γ σ φ s.heap) :
    wpAny C.M A (exec (.Expr e pos) env) (PostS C.B tbl env Γ.length s σ φ σ' p) E s := by
  rw [exS_expr0] at he
  obtain ⟨v, σ₁, h1, he⟩ := bind_eq_ok he
  cases he
  refine wpAny_Expr_any (post_mono (H.E e x env tbl Γ σ v σ' A s φ E hc' h1 hr R F) fun cv φ₁ h₁ tk R₁ S₁ r₁ => ?_) ho.inter (nosw hc _ _)
  exact ⟨φ₁, h₁, tk, rfl, R₁, S₁.w0, F.mono0 R S₁, rfl, .next⟩

theorem sS_ret (H : Sims C d n) {e : Expr} {x : Ex} {pos : Pos} (hc' : chkE C.N n env.scope.names tbl Γ.length e x = true) (he : exS C.gl (callF C.gl C.P d) (.ret x) Γ σ = .ok p σ') (hr : Room d A) (R : SR C.B σ φ s.heap) (F : FR C.B tbl env Γ σ φ s.heap) :
    wpAny C.M A (exec (.Return (some e) pos) env) (PostS C.B tbl env Γ.length s σ φ σ' p) E s := by
  rw [exS_ret0] at he
  obtain ⟨v, σ₁, h1, he⟩ := bind_eq_ok he
  cases he
  refine wpAny_Return_some (post_mono (H.E e x env tbl Γ σ v σ' A s φ E hc' h1 hr R F) fun cv φ₁ h₁ tk R₁ S₁ r₁ => ?_)
  exact ⟨φ₁, h₁, tk, rfl, R₁, S₁.w0, F.mono0 R S₁, rfl, .ret r₁⟩

theorem sto_eq_ok {o : Option Sg} (h : storeR Γ o = .ok p σ') : ∃ σ₄, o = some σ₄ ∧ (Res.ok (.next, Γ) σ₄ : Res (Fl × Fm)) = .ok p σ' := by
  cases o with
  | none => cases h
  | some σ₄ => exact ⟨σ₄, rfl, h⟩

theorem sS_sto (H : Sims C d n) {e o i : Expr} {xe xo xi : Ex} {pos pos' : Pos} (hc : compOf e = false) (c1 : chkE C.N n env.scope.names tbl Γ.length e xe = true) (c2 : chkE C.N n env.scope.names tbl Γ.length o xo = true) (c3 : chkE C.N n env.scope.names tbl Γ.length i xi = true)
    (he : exS C.gl (callF C.gl C.P d) (.sto xo xi xe) Γ σ = .ok p σ') (hr : Room d A) (R : SR C.B σ φ s.heap) (F : FR C.B tbl env Γ σ φ s.heap) :
    wpAny C.M A (exec (.Assign [.Subscript o i pos'] e pos) env) (PostS C.B tbl env Γ.length s σ φ σ' p) E s := by
  rw [exS_sto0] at he
  obtain ⟨v, σ₁, h1, he⟩ := bind_eq_ok he
  obtain ⟨ov, σ₂, h2, he⟩ := bind_eq_ok he
  obtain ⟨iv, σ₃, h3, he⟩ := bind_eq_ok he
  obtain ⟨σ₄, h4, he⟩ := sto_eq_ok he
  · cases he
    refine wpAny_Assign_Subscript (post_mono (H.E e xe env tbl Γ σ v σ₁ A s φ E c1 h1 hr R F) fun cv φ₁ h₁ tk R₁ S₁ r₁ => ?_) (nosw hc _ _)
    refine post_mono (H.E o xo env tbl Γ σ₁ ov σ₂ A _ φ₁ E c2 h2 hr R₁ (F.mono0 R S₁)) fun co φ₂ h₂ tk₂ R₂ S₂ r₂ => ?_
    refine post_mono (H.E i xi env tbl Γ σ₂ iv σ₃ A _ φ₂ E c3 h3 hr R₂ ((F.mono0 R S₁).mono0 R₁ S₂)) fun ci φ₃ h₃ tk₃ R₃ S₃ r₃ => ?_
    have T₃ := (S₁.trans S₂ R.len).trans S₃ R.len
    refine op_store (s := { s with heap := h₃, toks := tk₃ }) h4 ⟨rfl, rfl⟩ R₃ (r₂.mono R₂ S₃ Apart.none) r₃ ((r₁.mono R₁ S₂ Apart.none).mono R₂ S₃ Apart.none) hr.u64 fun h₄ tk₄ R₄ S₄ => ?_
    exact ⟨φ₃, h₄, tk₄, rfl, R₄, (T₃.trans S₄ R.len).w0, F.mono0 R (T₃.trans S₄ R.len), rfl, .next⟩

theorem sS_ite (H : Sims C d n) (hB : SB C d n) {t : Expr} {a b : List Stmt} {c : Ex} {x y : List St} {pos : Pos} (ho : EnvOk tbl env) (c0 : tstOk t c = true) (c1 : chkE C.N n env.scope.names tbl Γ.length t c = true) (c2 : chkB C.N n env.scope.names tbl Γ.length a x = true) (c3 : chkB C.N n env.scope.names tbl Γ.length b y = true)
    (he : exS C.gl (callF C.gl C.P d) (.ite c x y) Γ σ = .ok p σ') (hr : Room d A) (R : SR C.B σ φ s.heap) (F : FR C.B tbl env Γ σ φ s.heap) :
    wpAny C.M A (exec (.If t a b pos) env) (PostS C.B tbl env Γ.length s σ φ σ' p) E s := by
  rw [exS_ite0] at he
  obtain ⟨v, σ₁, h1, he⟩ := bind_eq_ok he
  obtain ⟨tt, h2, he⟩ := bind_of_ok he
  refine wpAny_If (wpAny_mono (H.T t c env tbl Γ σ v tt σ₁ A s φ E c0 c1 h1 h2 hr R F) (fun bb s₁ P => ?_) fun _ _ e => e)
  obtain ⟨rfl, φ₁, h₁, tk, rfl, R₁, S₁⟩ := P
  cases bb with
  | true => exact wpAny_mono (hB a x env tbl Γ σ₁ p σ' A _ φ₁ E ho c2 he hr R₁ (F.mono0 R S₁)) (fun fl s₂ P => P.trans R.len S₁.w0) fun _ _ e => e
  | false => exact wpAny_mono (hB b y env tbl Γ σ₁ p σ' A _ φ₁ E ho c3 he hr R₁ (F.mono0 R S₁)) (fun fl s₂ P => P.trans R.len S₁.w0) fun _ _ e => e

/-- what a while loop keeps -/
inductive WhInv (C : Cx) (d : Nat) (c : Ex) (x : List St) (tbl : List (Str × Nat)) (env : Env) (nl : Nat) (s : Shared) (σ : Sg) (φ : List Addr) (σ' : Sg) (p : Fl × Fm) (m : Nat) : Shared → Prop
  | mk (φk : List Addr) (hk : Heap) (tkk : Nat) (σk : Sg) (Γk : Fm) : SR C.B σk φk hk → Stp (own env) σ φ s.heap σk φk hk → FR C.B tbl env Γk σk φk hk → Γk.length = nl → loopN (whTurn C.gl (callF C.gl C.P d) c x) m Γk σk = .ok p σ' →
    WhInv C d c x tbl env nl s σ φ σ' p m { s with heap := hk, toks := tkk }

theorem sS_while (H : Sims C d n) (hB : SB C d n) {t : Expr} {a : List Stmt} {c : Ex} {x : List St} {pos : Pos} (ho : EnvOk tbl env) (c0 : tstOk t c = true) (c1 : chkE C.N n env.scope.names tbl Γ.length t c = true) (c2 : chkB C.N n env.scope.names tbl Γ.length a x = true)
    (he : exS C.gl (callF C.gl C.P d) (.while c x) Γ σ = .ok p σ') (hr : Room d A) (R : SR C.B σ φ s.heap) (F : FR C.B tbl env Γ σ φ s.heap) :
    wpAny C.M A (exec (.While t a [] pos) env) (PostS C.B tbl env Γ.length s σ φ σ' p) E s := by
  rw [exS_whileT] at he
  obtain ⟨N, hN⟩ := loopW_fuel he
  clear he
  refine wpAny_While (codeAny_whileLoop (WhInv C d c x tbl env Γ.length s σ φ σ' p) ?_ N (.mk φ s.heap s.toks σ Γ R .refl F rfl hN))
  intro m s' I
  cases I with
  | mk φk hk tkk σk Γk Rk Sk Fk ek hgo =>
  cases m with
  | zero => cases hgo
  | succ m =>
    have run : ∀ {v : V} {tt : Bool} {σ₂ : Sg} {Q : Bool → Shared → Prop} {E' : Value → Shared → Prop}, evE C.gl (callF C.gl C.P d) c Γk σk = .ok v σ₂ → vTrue σ₂ v = some tt → (∀ φ₁ h₁ tk, SR C.B σ₂ φ₁ h₁ → Stp W0 σk φk hk σ₂ φ₁ h₁ → Q tt { s with heap := h₁, toks := tk }) → wpAny C.M A (isTrue t env (eval t env)) Q E' { s with heap := hk, toks := tkk } := fun h2 h3 hQ =>
      wpAny_mono (H.T t c env tbl Γk σk _ _ _ A _ φk _ c0 (by rw [ek]; exact c1) h2 h3 hr Rk Fk) (fun bb s₁ P => by
        obtain ⟨rfl, φ₁, h₁, tk, rfl, R₁, S₁⟩ := P
        exact hQ φ₁ h₁ tk R₁ S₁) fun _ _ e => e
    cases whStep hgo with
    | stop v h2 h3 hp => subst hp; exact run h2 h3 fun φ₁ h₁ tk R₁ S₁ => wpAny_execs_nil ⟨φ₁, h₁, tk, rfl, R₁, Sk.trans S₁.w0 R.len, Fk.mono0 Rk S₁, ek, .next⟩
    | go v σ₂ q σ₃ h2 h3 h4 hgo =>
      refine run h2 h3 fun φ₁ h₁ tk R₁ S₁ => wpAny_mono (hB a x env tbl Γk σ₂ _ σ₃ A _ φ₁ _ ho (by rw [ek]; exact c2) h4 hr R₁ (Fk.mono0 Rk S₁)) (fun fl s₂ P => ?_) fun _ _ e => e
      obtain ⟨φ₂, h₂, tk₂, rfl, R₂, S₂, F₂, hn₂, f₂⟩ := P
      cases f₂
      exact ⟨m, Nat.lt_succ_self m, .mk φ₂ h₂ tk₂ _ _ R₂ ((Sk.trans S₁.w0 R.len).trans S₂ R.len) F₂ (Eq.trans hn₂ ek) hgo⟩
    | ret v σ₂ h2 h3 h4 hu =>
      refine run h2 h3 fun φ₁ h₁ tk R₁ S₁ => wpAny_mono (hB a x env tbl Γk σ₂ _ _ A _ φ₁ _ ho (by rw [ek]; exact c2) h4 hr R₁ (Fk.mono0 Rk S₁)) (fun fl s₂ P => ?_) fun _ _ e => e
      obtain ⟨φ₂, h₂, tk₂, rfl, R₂, S₂, F₂, hn₂, f₂⟩ := P
      obtain ⟨u, hu⟩ := hu
      obtain ⟨pf, pΓ⟩ := p
      replace hu : pf = .ret u := hu
      subst hu
      cases f₂ with
      | ret r => exact ⟨φ₂, h₂, tk₂, rfl, R₂, (Sk.trans S₁.w0 R.len).trans S₂ R.len, F₂, Eq.trans hn₂ ek, .ret r⟩
end
end Mine

namespace Mine
open PySem PyProof.Rows PySem.Calls

section
variable {C : Cx} {d n : Nat} {env : Env} {tbl : List (Str × Nat)} {Γ : Fm} {σ σ₁ σ' : Sg} {p : Fl × Fm} {A : Around} {s : Shared} {φ φ₁ : List Addr} {h₁ : Heap} {tk : Nat} {E : Value → Shared → Prop}

theorem FR.own_ex {B : Bs} {h : Heap} (F : FR B tbl env Γ σ φ h) {b : Addr} (hb : own env b) : ∃ o, h.get? b = some o := by
  rcases hb with rfl | ⟨y, hy⟩
  · obtain ⟨m, ⟨o, _, _, e, _⟩, _⟩ := F.ns; exact ⟨o, e⟩
  · obtain ⟨u, o, e, _⟩ := F.cells y b hy; exact ⟨o, e⟩

theorem sS_asg_plain (H : SE C d n) {e : Expr} {x : Ex} {id : Str} {i : Nat} {pos pos' : Pos} (ho : EnvOk tbl env) (hsw : swapsWith e (some (.Name id pos')) pos.line env = pure false) (c0 : stoOk env.scope.names tbl id i = true) (c1 : chkE C.N n env.scope.names tbl Γ.length e x = true)
    (he : exS C.gl (callF C.gl C.P d) (.asg i x) Γ σ = .ok p σ') (hr : Room d A) (R : SR C.B σ φ s.heap) (F : FR C.B tbl env Γ σ φ s.heap) :
    wpAny C.M A (exec (.Assign [.Name id pos'] e pos) env) (PostS C.B tbl env Γ.length s σ φ σ' p) E s := by
  rw [exS_asg0] at he
  obtain ⟨v, σ₁, h1, he⟩ := bind_eq_ok he
  cases he
  obtain ⟨k1, k2⟩ := stoOk_eq c0
  refine wpAny_Assign_Name (post_mono (H e x env tbl Γ σ v σ' A s φ E c1 h1 hr R F) fun cv φ₁ h₁ tk R₁ S₁ r₁ => ?_) hsw
  have F₁ := F.mono0 R S₁
  refine store_var (s := { s with heap := h₁, toks := tk }) R₁ F₁ ho.inj ho.cells k1 (store_kind F₁ k2) r₁ fun h₂ tk₂ R₂ F₂ S₂ => ?_
  exact ⟨φ₁, h₂, tk₂, rfl, R₂, S₁.w0.trans S₂ R.len, F₂, by simp, .next⟩

theorem sS_asg (ok : C.Ok) (hcs : CallSims C d) {e : Expr} {x : Ex} {id : Str} {i : Nat} {pos pos' : Pos} (ho : EnvOk tbl env) (c0 : stoOk env.scope.names tbl id i = true) (cc : (!compOf e || isComp x) = true) (c1 : chkE C.N n env.scope.names tbl Γ.length e x = true)
    (he : exS C.gl (callF C.gl C.P d) (.asg i x) Γ σ = .ok p σ') (hr : Room d A) (R : SR C.B σ φ s.heap) (F : FR C.B tbl env Γ σ φ s.heap) :
    wpAny C.M A (exec (.Assign [.Name id pos'] e pos) env) (PostS C.B tbl env Γ.length s σ φ σ' p) E s := by
  cases hce : compOf e with
  | false => exact sS_asg_plain (sims d n C ok hcs).E ho (nosw hce _ _) c0 c1 he hr R F
  | true =>
    rw [hce] at cc
    cases x with
    | comp mm elt ik a b cond =>
      cases n with
      | zero => exact no_true c1
      | succ n =>
      obtain ⟨ee, cx, px, iter, ifs, csc, posc, rfl, q2, q3, q4, q5, q6⟩ := chk_comp c1
      · obtain ⟨bsw, hb⟩ : ∃ b, swapsWith (.ListComp ee [⟨.Name cx px, iter, ifs, 0⟩] csc posc) (some (.Name id pos')) pos.line env = pure b := ⟨_, rfl⟩
        cases bsw with
        | false => exact sS_asg_plain (sims d (n + 1) C ok hcs).E ho hb c0 c1 he hr R F
        | true =>
          rw [exS_asg0] at he
          obtain ⟨v, σ₁, h1, he⟩ := bind_eq_ok he
          cases he
          obtain ⟨k1, k2⟩ := stoOk_eq c0
          have hw : ∀ D, Sims (C.wav D) d n := fun D => sims d n (C.wav D) (ok.wav D) fun av => hcs av
          rw [exec_Assign_Name_used _ _ _ _ hb]
          refine wpAny_bind (wpAny_standAt (wpAny_bind ?_))
          show wpAny _ A (do let _ ← comprehension (.ListComp ee [⟨.Name cx px, iter, ifs, 0⟩] csc posc) csc env _ (newList []) false (eval iter env) (some (assign (.Name id pos') env))) _ _ s
          refine wpAny_bind (wpAny_mono (comp_core (use := some (assign (.Name id pos') env)) (Q := fun _ s' => PostS C.B tbl env Γ.length s σ φ σ' (.next, Γ.set i v) .next s') (sims d n C ok hcs).I (fun D => (hw D).E) (fun D => (hw D).F) hr q2 (ScOk.of q3) q4 q5 q6 h1 R F
            fun D K φ' h' tk m' R' S' r' hn nl sK => ?_) (fun _ s' hq => wpAny_pure (wpAny_pure hq)) fun _ _ e => e)
          have F' := F.mono0 R S'
          show wpAny _ A (assign (.Name id pos') env (.ref D)) _ _ _
          refine wpAny_assign_Name (store_var (s := { s with heap := h', toks := tk }) R' F' ho.inj ho.cells k1 (store_kind F' k2) r' fun h₂ tk₂ R₂ F₂ S₂ => ?_)
          have ownK : ¬ own env K := fun hk => by obtain ⟨o, e⟩ := F.own_ex hk; rw [sK] at e; cases e
          have hn₂ : h₂.Ns K m' := hn.at' fun o e => S₂.keep K o e (fun L => nl L.mem) ownK
          refine ⟨m', hn₂, fun h₃ hs => ?_⟩
          have hs : Heap.SameBut K h₂ h₃ := hs
          have hk : ∀ b o, b ≠ K → h₂.get? b = some o → h₃.get? b = some o := fun b o hb e => hs.extBut b o hb e
          obtain ⟨g1, g2, g3⟩ := R.newK sK
          refine ⟨φ', h₃, tk₂, rfl, R₂.lose g1 (Apart.ns hn₂) nl g2 g3 hk, (Stp.trans S'.w0 S₂ R.len).lose sK hk, F₂.monoq R₂ (Stq.one hk) (Apart.ns hn₂) (fun q => ownK (q ▸ .inl rfl)) (fun y c hc q => ownK (by rw [← show c = K from q]; exact .inr ⟨y, hc⟩)), by simp, .next⟩
    | _ => cases cc

theorem Stp.dropTo {W W' : Addr → Prop} {h : Heap} (S : Stp W σ φ h σ₁ φ₁ h₁) (hw : ∀ b, W b → W' b ∨ h.get? b = none) : Stp W' σ φ h σ₁ φ₁ h₁ :=
  ⟨S.pre, S.new, S.dead, fun b o e hl hn => S.keep b o e hl fun x => (hw b x).elim hn fun q => (by rw [q] at e; cases e), S.ex⟩

/-- what a for loop keeps -/
inductive FoInv (C : Cx) (d : Nat) (tbl : List (Str × Nat)) (env : Env) (nl : Nat) (b : List St) (i : Nat) (items : List V) (I : Addr) (N : Nat) (St : Nat → Heap → Prop) (s : Shared) (σ₂ : Sg) (φ₁ : List Addr) (h₂ : Heap) (p : Fl × Fm) (σ' : Sg) (m : Nat) : Shared → Prop
  | mk (φk : List Addr) (hk : Heap) (tkk : Nat) (σk : Sg) (Γk : Fm) (j : Nat) : SR C.B σk φk hk → Stp (fun b => own env b ∨ b = I) σ₂ φ₁ h₂ σk φk hk → St j hk → FR C.B tbl env Γk σk φk hk → Γk.length = nl →
    forGo (exB C.gl (callF C.gl C.P d) b) i (items.drop j) Γk σk = .ok p σ' → j ≤ N → m = N + 1 - j → FoInv C d tbl env nl b i items I N St s σ₂ φ₁ h₂ p σ' m { s with heap := hk, toks := tkk }

theorem sS_for (H : Sims C d n) (hB : SB C d n) {e : Expr} {a : List Stmt} {x y : Ex} {ik : IK} {b : List St} {id : Str} {i : Nat} {pos pos' : Pos} (ho : EnvOk tbl env) (c0 : stoOk env.scope.names tbl id i = true) (c1 : chkI C.N n env.scope.names tbl Γ.length e ik x y = true)
    (c2 : chkB C.N n env.scope.names tbl Γ.length a b = true)
    (he : exS C.gl (callF C.gl C.P d) (.for i ik x y b) Γ σ = .ok p σ') (hr : Room d A) (R : SR C.B σ φ s.heap) (F : FR C.B tbl env Γ σ φ s.heap) :
    wpAny C.M A (exec (.For (.Name id pos') e a [] pos) env) (PostS C.B tbl env Γ.length s σ φ σ' p) E s := by
  rw [exS_for0] at he
  obtain ⟨xv, σ₁, h1, he⟩ := bind_eq_ok he
  obtain ⟨yv, σ₂, h2, he⟩ := bind_eq_ok he
  obtain ⟨items, h3, hgo⟩ := bind_of_ok he
  obtain ⟨k1, k2⟩ := stoOk_eq c0
  refine wpAny_For ?_ (fun z => folded_of (chkI_set c1) z)
  refine wpAny_mono (H.I e ik x y env tbl Γ σ xv σ₁ yv σ₂ items A s φ E c1 h1 h2 h3 hr R F) (fun cv s₁ Pi => ?_) fun _ _ e => e
  obtain ⟨φ₁, h₁, tk₁, rfl, R₁, S₁, iv⟩ := Pi
  refine wpAny_mono (op_iter (h₀ := s.heap) iv hr.hh R₁ S₁.ex) (fun it s₂ P₂ => ?_) fun _ _ e => e
  obtain ⟨I, h₂, tk₂, fp, wr, N, P, St, rfl, rfl, hk₂, hI0, It⟩ := P₂
  have hk₂ : ∀ b o, h₁.get? b = some o → h₂.get? b = some o := hk₂
  have R₂ : SR C.B σ₂ φ₁ h₂ := R₁.grow hk₂
  have T₂ : Stp W0 σ φ s.heap σ₂ φ₁ h₂ := S₁.trans (Stp.grow hk₂) R.len
  have F₂ : FR C.B tbl env Γ σ₂ φ₁ h₂ := F.mono0 R T₂
  obtain ⟨W, eN, st0, hwr, hfix, hself, hnlf, hnI, hval⟩ := It
  have st0 : St 0 h₂ := st0
  obtain ⟨g1, g2, g3⟩ := R.newK hI0
  have ownI : ∀ b, own env b → b ≠ I := fun b hb q => by obtain ⟨o, e⟩ := F.own_ex hb; rw [q, hI0] at e; cases e
  have apI : ∀ j hh, St j hh → Apart C.B (· = I) hh := by
    rintro j hh st b rfl o ho
    obtain ⟨o', e1, ⟨fs, e2⟩, T, e3⟩ := hself j _ st
    rw [ho] at e1; cases e1
    exact .inr ⟨fun xs n e => (by rw [e2] at e; cases e), fun fs' e C' e' => (by rw [e3] at e'; cases e')⟩
  have ap₂ : Apart C.B (fun b => own env b ∨ b = I) h₂ := by
    rintro b (hb | hb) o ho
    · exact F₂.apart b hb o ho
    · exact apI 0 h₂ st0 b hb o ho
  have exI : ∃ o, h₂.get? I = some o := let ⟨o, e, _⟩ := hself 0 h₂ st0; ⟨o, e⟩
  have fin : ∀ {σk φk hk}, Stp (fun b => own env b ∨ b = I) σ₂ φ₁ h₂ σk φk hk → Stp (own env) σ φ s.heap σk φk hk := fun Sk =>
    (Stp.trans T₂.w0 Sk R.len).dropTo fun b hb => hb.elim .inl fun q => .inr (by rw [q]; exact hI0)
  refine codeAny_forLoop (FoInv C d tbl env Γ.length b i items I N St s σ₂ φ₁ h₂ p σ') ?_ (N + 1) (.mk φ₁ h₂ tk₂ σ₂ Γ 0 R₂ .refl st0 F₂ rfl hgo (Nat.zero_le _) rfl)
  intro m s' J
  cases J with
  | mk φk hk tkk σk Γk j Rk Sk stk Fk ek hgk hj hmj =>
  subst hmj
  have hnk : ∀ {σx : Sg} {φx : List Addr} {hx : Heap}, Stp (fun b => own env b ∨ b = I) σ₂ φ₁ h₂ σx φx hx → I ∉ φx := fun {σx φx hx} Sx hm => by
    obtain ⟨q, hq⟩ := List.getElem?_of_mem hm
    by_cases hlt : q < φ₁.length
    · have e4 := Sx.pre q φ₁[q] (List.getElem?_eq_getElem hlt)
      rw [hq] at e4
      exact hnI (Option.some.inj e4 ▸ List.getElem_mem hlt)
    · obtain ⟨o, e⟩ := exI
      have := Sx.new q I (Nat.le_of_not_lt hlt) hq
      rw [e] at this; cases this
  by_cases hlt : j < N
  · refine W.item j _ _ _ hlt stk fun v h₃ tk₃ hPv hst₃ hk₃ => ?_
    obtain ⟨u, eu, ru⟩ := hval j v hPv
    have hk₃' : ∀ b o, b ≠ I → hk.get? b = some o → h₃.get? b = some o := fun b o hb e => hk₃ b o (fun hw => hb (hwr b hw)) e
    obtain ⟨R₃, S₃⟩ := Rk.one g1 (apI j hk stk) (fun L => hnk Sk L.mem) hk₃' (let ⟨o, e, _⟩ := hself (j + 1) _ hst₃; ⟨o, e⟩)
    have F₃ : FR C.B tbl env Γk σk φk h₃ := Fk.mono Rk S₃ (apI j hk stk) (fun q => ownI _ (.inl rfl) q) fun y c hc q => ownI c (.inr ⟨y, hc⟩) q
    have T₃ : Stp (fun b => own env b ∨ b = I) σ₂ φ₁ h₂ σk φk h₃ := Sk.trans (S₃.weaken fun b hb => .inr hb) R₂.len
    have ru₃ : VR C.B σk φk h₃ u v := VR.mono R₂ T₃ ap₂ ru
    refine wpAny_assign_Name (store_var (s := { s with heap := h₃, toks := tk₃ }) R₃ F₃ ho.inj ho.cells k1 (store_kind F₃ k2) ru₃ fun h₄ tk₄ R₄ F₄ S₄ => ?_)
    have T₄ : Stp (fun b => own env b ∨ b = I) σ₂ φ₁ h₂ σk φk h₄ := T₃.trans (S₄.weaken fun b hb => .inl hb) R₂.len
    have frm : ∀ {σx σy : Sg} {φx φy : List Addr} {hx hy : Heap} {q : Nat}, Stp (fun b => own env b ∨ b = I) σ₂ φ₁ h₂ σx φx hx → Stp (own env) σx φx hx σy φy hy → St q hx → St q hy := fun {σx σy φx φy hx hy q} Sx S stx => by
      refine W.frame _ _ _ stx fun b hb o e => S.keep b o e (fun L => ?_) fun hw => ?_
      · obtain ⟨o', e', _⟩ := hfix 0 h₂ st0 b hb
        rcases Sx.live R₂.len L with z | z
        · exact hnlf b hb z
        · rw [e'] at z; cases z
      · obtain ⟨o', e', hf⟩ := hfix 0 h₂ st0 b hb
        have hb2 : (∃ es n, o'.data = .dict es n) ∨ ∃ w, o'.data = .cell w := by
          rcases hw with rfl | ⟨z, hz⟩
          · obtain ⟨mm, ⟨o'', es, ep, ho', hd, _⟩, _⟩ := F₂.ns
            rw [e'] at ho'; cases ho'
            exact .inl ⟨_, _, hd⟩
          · obtain ⟨w, o'', ho', hd⟩ := F₂.cells z b hz
            rw [e'] at ho'; cases ho'
            exact .inr ⟨_, hd⟩
        rcases hf with ⟨xs, n, hf⟩ | ⟨⟨fs, hf⟩, _⟩ <;> rcases hb2 with ⟨_, _, hb2⟩ | ⟨_, hb2⟩ <;> rw [hf] at hb2 <;> cases hb2
    have st₄ : St (j + 1) h₄ := frm T₃ S₄ hst₃
    have hdrop : items.drop j = u :: items.drop (j + 1) := by
      have hjl : j < items.length := by rw [← eN]; exact hlt
      rw [List.drop_eq_getElem_cons hjl]
      rw [List.getElem?_eq_getElem hjl] at eu
      rw [Option.some.inj eu]
    rw [hdrop] at hgk
    rw [forGo_cons] at hgk
    obtain ⟨⟨qf, qΓ⟩, σ₅, h5, hgk⟩ := bind_eq_ok hgk
    refine wpAny_mono (hB a b env tbl (Γk.set i u) σk _ σ₅ A _ φk _ ho (by rw [List.length_set, ek]; exact c2) h5 hr R₄ F₄) (fun fl s₅ P₅ => ?_) fun _ _ e => e
    obtain ⟨φ₅, h₅, tk₅, rfl, R₅, S₅, F₅, hn₅, f₅⟩ := P₅
    have hn₅' : qΓ.length = (Γk.set i u).length := hn₅
    rw [List.length_set, ek] at hn₅'
    have T₅ : Stp (fun b => own env b ∨ b = I) σ₂ φ₁ h₂ σ₅ φ₅ h₅ := T₄.trans (S₅.weaken fun b hb => .inl hb) R₂.len
    cases f₅ with
    | next => exact ⟨N + 1 - (j + 1), Nat.sub_lt_sub_left (Nat.lt_succ_of_lt hlt) (Nat.lt_succ_self j), .mk φ₅ h₅ tk₅ σ₅ qΓ (j + 1) R₅ T₅ (frm T₄ S₅ st₄) F₅ hn₅' hgk hlt rfl⟩
    | ret r =>
      cases hgk
      exact ⟨φ₅, h₅, tk₅, rfl, R₅, fin T₅, F₅, hn₅', .ret r⟩
  · have hjn : j = N := Nat.le_antisymm hj (Nat.le_of_not_lt hlt)
    subst hjn
    have hd : items.drop j = [] := List.drop_eq_nil_of_le (Nat.le_of_eq eN.symm)
    rw [hd] at hgk
    cases hgk
    refine W.done _ _ _ stk fun h₃ tk₃ hk₃ => ?_
    have hk₃' : ∀ b o, b ≠ I → hk.get? b = some o → h₃.get? b = some o := fun b o hb e => hk₃ b o (fun hw => hb (hwr b hw)) e
    refine wpAny_execs_nil ⟨φk, h₃, tk₃, rfl, Rk.lose g1 (apI j hk stk) (hnk Sk) g2 g3 hk₃', (fin Sk).lose hI0 hk₃', Fk.monoq Rk (Stq.one hk₃') (apI j hk stk) (fun q => ownI _ (.inl rfl) q) (fun y c hc q => ownI c (.inr ⟨y, hc⟩) q), ek, .next⟩

theorem simS (ok : C.Ok) (hcs : CallSims C d) : ∀ n, SS C d n ∧ SB C d n
  | 0 => by
    refine ⟨?_, ?_⟩
    · intro st x env tbl Γ σ p σ' A s φ E ho hc; exact no_true hc
    · intro st x env tbl Γ σ p σ' A s φ E ho hc; exact no_true hc
  | n + 1 => by
    obtain ⟨hS, hB⟩ := simS ok hcs n
    have H := sims d n C ok hcs
    refine ⟨?_, sB_succ hS hB⟩
    intro st x env tbl Γ σ p σ' A s φ E ho hc he hr R F
    cases x with
    | expr x =>
      replace hc := on_exprS (show onExprS st (fun e => !compOf e && chkE C.N n env.scope.names tbl Γ.length e x) = true from hc)
      obtain ⟨e, q, rfl, hc⟩ := hc
      have hc := both hc
      exact sS_expr H ho (Bool.not_eq_true' _ ▸ hc.1) hc.2 he hr R F
    | ret x =>
      replace hc := on_return (show onReturn st (fun o => onO o fun e => chkE C.N n env.scope.names tbl Γ.length e x) = true from hc)
      obtain ⟨o, q, rfl, hc⟩ := hc
      replace hc := on_o hc
      obtain ⟨e, rfl, hc⟩ := hc
      exact sS_ret H hc he hr R F
    | asg i x =>
      replace hc := on_assign (show onAssign st (fun t e => on1 t fun t => onName t fun id => stoOk env.scope.names tbl id i && ((!compOf e || isComp x) && chkE C.N n env.scope.names tbl Γ.length e x)) = true from hc)
      obtain ⟨ts, e, q, rfl, hc⟩ := hc
      replace hc := on_1 hc
      obtain ⟨t, rfl, hc⟩ := hc
      replace hc := on_name hc
      obtain ⟨id, q', rfl, hc⟩ := hc
      have hc := both hc
      exact sS_asg ok hcs ho hc.1 (both hc.2).1 (both hc.2).2 he hr R F
    | sto xo xi xe =>
      replace hc := on_assign (show onAssign st (fun t e => on1 t fun t => onSub t fun o i => !compOf e && (chkE C.N n env.scope.names tbl Γ.length e xe && (chkE C.N n env.scope.names tbl Γ.length o xo && chkE C.N n env.scope.names tbl Γ.length i xi))) = true from hc)
      obtain ⟨ts, e, q, rfl, hc⟩ := hc
      replace hc := on_1 hc
      obtain ⟨t, rfl, hc⟩ := hc
      replace hc := on_sub hc
      obtain ⟨o, i, q', rfl, hc⟩ := hc
      have hc := both hc
      have hd := both (both hc.2).2
      exact sS_sto H (Bool.not_eq_true' _ ▸ hc.1) (both hc.2).1 hd.1 hd.2 he hr R F
    | ite c x y =>
      replace hc := on_if (show onIf st (fun t a b => tstOk t c && (chkE C.N n env.scope.names tbl Γ.length t c && (chkB C.N n env.scope.names tbl Γ.length a x && chkB C.N n env.scope.names tbl Γ.length b y))) = true from hc)
      obtain ⟨t, a, b, q, rfl, hc⟩ := hc
      have hc := both hc
      have hd := both (both hc.2).2
      exact sS_ite H hB ho hc.1 (both hc.2).1 hd.1 hd.2 he hr R F
    | «while» c x =>
      replace hc := on_while (show onWhile st (fun t a b => nilL b && (tstOk t c && (chkE C.N n env.scope.names tbl Γ.length t c && chkB C.N n env.scope.names tbl Γ.length a x))) = true from hc)
      obtain ⟨t, a, b, q, rfl, hc⟩ := hc
      have hc := both hc
      rw [nilL_eq hc.1]
      have hd := both (both hc.2).2
      exact sS_while H hB ho (both hc.2).1 hd.1 hd.2 he hr R F
    | «for» i ik x y bd =>
      replace hc := on_for (show onFor st (fun t e a b => nilL b && onName t fun id => stoOk env.scope.names tbl id i && (chkI C.N n env.scope.names tbl Γ.length e ik x y && chkB C.N n env.scope.names tbl Γ.length a bd)) = true from hc)
      obtain ⟨t, e, a, b, q, rfl, hc⟩ := hc
      replace hc := both hc
      obtain ⟨hb, hc⟩ := hc
      rw [nilL_eq hb]
      replace hc := on_name hc
      obtain ⟨id, q', rfl, hc⟩ := hc
      have hc := both hc
      exact sS_for H hB ho hc.1 (both hc.2).1 (both hc.2).2 he hr R F
    | raise c => cases he
    | «try» a b => exact no_true hc
end
end Mine

namespace Mine
open PySem PyProof.Rows PySem.Calls

theorem lookup_zip {α : Type} : ∀ {ps : List Str} {vals : List α}, ps.Nodup → vals.length = ps.length → ∀ {i : Nat} {x : Str}, ps[i]? = some x → (ps.zip vals).lookup x = vals[i]?
  | [], _, _, _, i, x, h => by simp at h
  | p :: ps, [], _, hl, _, _, _ => by simp at hl
  | p :: ps, v :: vals, hn, hl, i, x, h => by
    rw [List.zip_cons_cons, List.lookup_cons]
    cases i with
    | zero =>
      simp at h; subst h; simp
    | succ i =>
      have hx : ps[i]? = some x := by simpa using h
      have hne : (x == p) = false := by
        cases hb : x == p with
        | false => rfl
        | true =>
          rw [beq_iff_eq.mp hb] at hx
          exact ((List.nodup_cons.mp hn).1 (List.mem_of_getElem? hx)).elim
      rw [hne]
      show (ps.zip vals).lookup x = vals[i]?
      exact lookup_zip (List.nodup_cons.mp hn).2 (by simpa using hl) hx

theorem filterMap_zip {α : Type} {ps : List Str} {vals : List α} (hn : ps.Nodup) (hl : vals.length = ps.length) : (ps.filterMap fun n => ((ps.zip vals).lookup n).map (n, ·)) = ps.zip vals := by
  have key : ∀ (qs : List Str) (ws : List α), qs.length = ws.length → (∀ (i : Nat) (x : Str), qs[i]? = some x → (ps.zip vals).lookup x = ws[i]?) → (qs.filterMap fun n => ((ps.zip vals).lookup n).map (n, ·)) = qs.zip ws := by
    intro qs
    induction qs with
    | nil => intro ws _ _; rfl
    | cons q qs ih =>
      intro ws hw hh
      cases ws with
      | nil => simp at hw
      | cons w ws =>
        have h0 := hh 0 q rfl
        rw [List.filterMap_cons, h0]
        simp only [List.getElem?_cons_zero, Option.map_some, List.zip_cons_cons]
        rw [ih ws (by simpa using hw) fun i x e => by simpa using hh (i + 1) x (by simpa using e)]
  exact key ps vals hl.symm fun i x e => lookup_zip hn hl e

theorem bindArgs_eq {fd : FuncData} {vals : List Value} (h1 : fd.params.posonlyargs = []) (h2 : fd.params.kwonlyargs = []) (h3 : fd.params.vararg = none) (h4 : fd.params.kwarg = none) (h5 : fd.defaults = .none)
    (hn : (fd.params.args.map (·.arg)).Nodup) (hl : vals.length = (fd.params.args.map (·.arg)).length) : bindArgs fd ⟨vals, []⟩ = pure ((fd.params.args.map (·.arg)).zip vals) := by
  have e : seqItems? Value.none = (pure none : Sem (Option (Array Value))) := rfl
  have hmiss : (List.filter (fun n => (List.lookup n ((fd.params.args.map (·.arg)).zip vals)).isNone) (fd.params.args.map (·.arg))) = [] := by
    rw [List.filter_eq_nil_iff]
    intro x hx
    obtain ⟨i, hi⟩ := List.getElem?_of_mem hx
    rw [lookup_zip hn hl hi, List.getElem?_eq_getElem (by rw [hl]; exact (List.getElem?_eq_some_iff.mp hi).1)]
    simp
  have hg : ¬ vals.length > (fd.params.args.map (·.arg)).length := by omega
  have hf := filterMap_zip hn hl
  unfold bindArgs
  simp only [h1, h2, h3, h4, h5, e, List.map_nil, List.nil_append, List.append_nil, List.forIn_nil, pure_bind, Option.getD_none, hg, if_false, List.drop_nil, List.length_nil, Nat.sub_zero, List.take_length, hmiss, List.isEmpty_nil, Bool.not_true, Bool.false_eq_true, List.drop_length, List.zip_nil_right, hf, decide_false, Bool.false_and]

/-- the frame's slots behind a call -/
theorem getV_args {args : List V} {k i : Nat} {v : V} (h : getV (args ++ List.replicate k .undef) i = some v) : args[i]? = some v := by
  unfold getV at h
  by_cases hi : i < args.length
  · rw [List.getElem?_append_left hi] at h
    split at h
    · cases h
    · exact h
  · rw [List.getElem?_append_right (Nat.le_of_not_lt hi)] at h
    by_cases hk : i - args.length < k
    · rw [List.getElem?_replicate_of_lt hk] at h; cases h
    · rw [List.getElem?_eq_none (by rw [List.length_replicate]; omega)] at h; simp at h

theorem bindL_zip {kindOf : Str → Option NameKind} {α : Type} : ∀ {ps : List Str} {vals : List Value} {m : Str → Option Value}, ps.Nodup → vals.length = ps.length → ∀ {i : Nat} {x : Str}, ps[i]? = some x → kindOf x = some .local → bindL kindOf (ps.zip vals) m x = vals[i]?
  | [], _, _, _, _, i, x, h, _ => by simp at h
  | p :: ps, [], _, _, hl, _, _, _, _ => by simp at hl
  | p :: ps, v :: vals, m, hn, hl, i, x, h, hk => by
    rw [List.zip_cons_cons, bindL]
    cases i with
    | zero =>
      simp at h; subst h
      have keep : ∀ (ps : List Str) (vals : List Value) (m : Str → Option Value), p ∉ ps → m p = some v → bindL kindOf (ps.zip vals) m p = some v := by
        intro ps
        induction ps with
        | nil => intro vals m _ hm; simpa [bindL] using hm
        | cons q ps ih =>
          intro vals m hq hm
          cases vals with
          | nil => simpa [bindL] using hm
          | cons w vals =>
            rw [List.zip_cons_cons, bindL]
            refine ih vals _ (fun h => hq (List.mem_cons_of_mem _ h)) ?_
            split
            · have : p ≠ q := fun e => hq (e ▸ List.mem_cons_self)
              simp [this, hm]
            · exact hm
      rw [if_pos hk]
      simpa using keep ps vals _ (List.nodup_cons.mp hn).1 (by simp)
    | succ i => exact bindL_zip (α := α) (List.nodup_cons.mp hn).2 (by simpa using hl) (by simpa using h) hk

theorem bindC_zip {kindOf : Str → Option NameKind} : ∀ {ps : List Str} {vals : List Value} {m : Str → Option Value}, ps.Nodup → vals.length = ps.length → ∀ {i : Nat} {x : Str}, ps[i]? = some x → kindOf x ≠ some .local → bindC kindOf (ps.zip vals) m x = vals[i]?
  | [], _, _, _, _, i, x, h, _ => by simp at h
  | p :: ps, [], _, _, hl, _, _, _, _ => by simp at hl
  | p :: ps, v :: vals, m, hn, hl, i, x, h, hk => by
    rw [List.zip_cons_cons, bindC]
    cases i with
    | zero =>
      simp at h; subst h
      have keep : ∀ (ps : List Str) (vals : List Value) (m : Str → Option Value), p ∉ ps → m p = some v → bindC kindOf (ps.zip vals) m p = some v := by
        intro ps
        induction ps with
        | nil => intro vals m _ hm; simpa [bindC] using hm
        | cons q ps ih =>
          intro vals m hq hm
          cases vals with
          | nil => simpa [bindC] using hm
          | cons w vals =>
            rw [List.zip_cons_cons, bindC]
            refine ih vals _ (fun h => hq (List.mem_cons_of_mem _ h)) ?_
            split
            · exact hm
            · have : p ≠ q := fun e => hq (e ▸ List.mem_cons_self)
              simp [this, hm]
      rw [if_neg hk]
      simpa using keep ps vals _ (List.nodup_cons.mp hn).1 (by simp)
    | succ i => exact bindC_zip (List.nodup_cons.mp hn).2 (by simpa using hl) (by simpa using h) hk

theorem keys_cells : ∀ {n : Nat} {names : List (Str × NameKind)} {acc : List (Str × Addr)}, (names.map (·.1)).Nodup → (acc.map (·.1)).Nodup → (∀ x ∈ names.map (·.1), x ∉ acc.map (·.1)) → ((cellsFrom n names acc).map (·.1)).Nodup
  | _, [], acc, _, h, _ => h
  | n, (y, k) :: r, acc, hn, ha, hd => by
    unfold cellsFrom
    have hn' : y ∉ r.map (·.1) ∧ (r.map (·.1)).Nodup := List.nodup_cons.mp hn
    split
    · refine keys_cells hn'.2 (List.nodup_cons.mpr ⟨hd y (by simp), ha⟩) fun x hx hm => ?_
      rcases List.mem_cons.mp hm with q | q
      · exact hn'.1 ((show x = y from q) ▸ hx)
      · exact hd x (List.mem_cons_of_mem _ hx) q
    · exact keys_cells hn'.2 ha fun x hx => hd x (List.mem_cons_of_mem _ hx)

theorem lookup_of_mem {α : Type} : ∀ {l : List (Str × α)} {x : Str} {c : α}, (l.map (·.1)).Nodup → (x, c) ∈ l → l.lookup x = some c
  | (k, v) :: r, x, c, hn, h => by
    have hn' : k ∉ r.map (·.1) ∧ (r.map (·.1)).Nodup := List.nodup_cons.mp hn
    rw [List.lookup_cons]
    rcases List.mem_cons.mp h with q | q
    · cases q; simp
    · have : (x == k) = false := by
        cases hb : x == k with
        | false => rfl
        | true => rw [beq_iff_eq.mp hb] at q; exact (hn'.1 (List.mem_map.mpr ⟨_, q, rfl⟩)).elim
      rw [this]; exact lookup_of_mem hn'.2 q

theorem has_cells : ∀ {n : Nat} {names : List (Str × NameKind)} {acc : List (Str × Addr)} {y : Str}, ((y, NameKind.cell) ∈ names ∨ ∃ c, (y, c) ∈ acc) → ∃ c, (y, c) ∈ cellsFrom n names acc
  | _, [], acc, y, h => by
    rcases h with h | h
    · cases h
    · exact h
  | n, (z, k) :: r, acc, y, h => by
    unfold cellsFrom
    split
    · refine has_cells ?_
      rcases h with h | ⟨c, h⟩
      · rcases List.mem_cons.mp h with q | q
        · cases q; exact .inr ⟨_, List.mem_cons_self⟩
        · exact .inl q
      · exact .inr ⟨c, List.mem_cons_of_mem _ h⟩
    · rename_i hk
      refine has_cells ?_
      rcases h with h | ⟨c, h⟩
      · rcases List.mem_cons.mp h with q | q
        · cases q; exact (hk rfl).elim
        · exact .inl q
      · exact .inr ⟨c, h⟩
end Mine

namespace Mine
open PySem PyProof.Rows PySem.Calls

noncomputable def memS (x : Str) : List Str → Bool
  | [] => false
  | y :: r => eqS x y || memS x r
noncomputable def nodupS : List Str → Bool
  | [] => true
  | x :: r => !memS x r && nodupS r
theorem memS_of {x : Str} : ∀ {l : List Str}, x ∈ l → memS x l = true
  | y :: r, h => by
    rcases List.mem_cons.mp h with q | q
    · rw [memS, q, eqS_iff.mpr rfl]; rfl
    · rw [memS, memS_of q, Bool.or_true]
theorem nodupS_of : ∀ {l : List Str}, nodupS l = true → l.Nodup
  | [], _ => List.nodup_nil
  | x :: r, h => by
    rw [nodupS, Bool.and_eq_true, Bool.not_eq_true'] at h
    exact List.nodup_cons.mpr ⟨fun hm => (by rw [memS_of hm] at h; cases h.1), nodupS_of h.2⟩

noncomputable def noneO {α : Type} : Option α → Bool
  | none => true
  | _ => false
noncomputable def firsts (tbl : List (Str × Nat)) : Nat → List Str → Bool
  | _, [] => true
  | i, p :: r => (match lkS tbl p with | some j => i == j | none => false) && firsts tbl (i + 1) r
noncomputable def asc : Nat → List (Str × Nat) → Bool
  | _, [] => true
  | i, (_, j) :: r => i == j && asc (i + 1) r

/-- a def of the text is this Def -/
noncomputable def chkDef (N : Nm) (fuel : Nat) (params : Arguments) (body : List Stmt) (scope : Scope) (D : Def) (tbl : List (Str × Nat)) : Bool :=
  nilL params.posonlyargs && nilL params.kwonlyargs && noneO params.vararg && noneO params.kwarg && isFn scope.kind && !scope.isCoroutine && !scope.isGenerator &&
  nodupS (params.args.map (·.arg)) && nodupS (scope.names.map (·.1)) && nodupS (tbl.map (·.1)) && asc 0 tbl && (params.args.map (·.arg)).length == D.np && decide (D.np ≤ D.nl) && firsts tbl 0 (params.args.map (·.arg)) &&
  (params.args.map (·.arg)).all (fun p => isLoc (lkS scope.names p) || isCel (lkS scope.names p)) && chkB N fuel scope.names tbl D.nl body D.body

structure DefFacts (N : Nm) (params : Arguments) (body : List Stmt) (scope : Scope) (D : Def) (tbl : List (Str × Nat)) : Prop where
  p1 : params.posonlyargs = []
  p2 : params.kwonlyargs = []
  p3 : params.vararg = none
  p4 : params.kwarg = none
  fn : scope.kind = .function
  co : scope.isCoroutine = false
  ge : scope.isGenerator = false
  np : (params.args.map (·.arg)).Nodup
  ns : (scope.names.map (·.1)).Nodup
  inj : TInj tbl
  len : (params.args.map (·.arg)).length = D.np
  le : D.np ≤ D.nl
  first : ∀ (i : Nat) (x : Str), (params.args.map (·.arg))[i]? = some x → tbl.lookup x = some i
  kinds : ∀ x ∈ params.args.map (·.arg), scope.names.lookup x = some .local ∨ scope.names.lookup x = some .cell
  body : ∃ fuel, chkB N fuel scope.names tbl D.nl body D.body = true

theorem noneO_eq {α : Type} {l : Option α} (h : noneO l = true) : l = none := by cases l with | none => rfl | some _ => cases h

theorem firsts_eq {tbl : List (Str × Nat)} : ∀ {ps : List Str} {i : Nat}, firsts tbl i ps = true → ∀ (j : Nat) (x : Str), ps[j]? = some x → tbl.lookup x = some (i + j)
  | [], _, _, j, x, h => by simp at h
  | p :: r, i, hf, j, x, h => by
    rw [firsts, Bool.and_eq_true] at hf
    cases j with
    | zero =>
      simp at h; subst h
      have := hf.1
      rw [← lkS_eq]
      cases hl : lkS tbl p with
      | none => rw [hl] at this; cases this
      | some j => rw [hl] at this; simp at this; rw [this]; rfl
    | succ j =>
      have := firsts_eq hf.2 j x (by simpa using h)
      rw [this]; congr 1; omega

theorem asc_eq : ∀ {tbl : List (Str × Nat)} {i : Nat}, asc i tbl = true → ∀ (k : Nat) (p : Str × Nat), tbl[k]? = some p → p.2 = i + k
  | [], _, _, k, p, h => by simp at h
  | (x, j) :: r, i, ha, k, p, h => by
    rw [asc, Bool.and_eq_true, beq_iff_eq] at ha
    cases k with
    | zero => simp at h; subst h; exact ha.1.symm
    | succ k =>
      have := asc_eq ha.2 k p (by simpa using h)
      omega

theorem TInj.of {tbl : List (Str × Nat)} (h : asc 0 tbl = true) : TInj tbl := by
  intro x y i hx hy
  obtain ⟨k, hk⟩ := List.getElem?_of_mem (mem_of_lookup hx)
  obtain ⟨l, hl⟩ := List.getElem?_of_mem (mem_of_lookup hy)
  have e1 := asc_eq h k _ hk
  have e2 := asc_eq h l _ hl
  have : k = l := by
    simp only at e1 e2
    omega
  subst this
  rw [hk] at hl
  cases hl
  rfl

theorem DefFacts.of {N : Nm} {fuel : Nat} {params : Arguments} {body : List Stmt} {scope : Scope} {D : Def} {tbl : List (Str × Nat)} (h : chkDef N fuel params body scope D tbl = true) : DefFacts N params body scope D tbl := by
  unfold chkDef at h
  simp only [Bool.and_eq_true, Bool.not_eq_true', decide_eq_true_eq, beq_iff_eq] at h
  obtain ⟨⟨⟨⟨⟨⟨⟨⟨⟨⟨⟨⟨⟨⟨⟨h1, h2⟩, h3⟩, h4⟩, h5⟩, h6⟩, h7⟩, h8⟩, h9⟩, h10⟩, h11⟩, h12⟩, h13⟩, h14⟩, h15⟩, h16⟩ := h
  refine ⟨nilL_eq h1, nilL_eq h2, noneO_eq h3, noneO_eq h4, isFn_eq h5, h6, h7, nodupS_of h8, nodupS_of h9, TInj.of h11, h12, h13, fun i x e => by simpa using firsts_eq h14 i x e, fun x hx => ?_, ⟨fuel, h16⟩⟩
  have := all_mem h15 hx
  rw [Bool.or_eq_true, lkS_eq] at this
  exact this.elim (fun q => .inl (isLoc_eq q)) fun q => .inr (isCel_eq q)

/-- the text's defs stand in the heap and are the Defs -/
noncomputable def DefsOk (C : Cx) : Prop := ∀ (f : Nat) (D : Def), C.P[f]? = some D → ∃ y a o params body scope pm code doc tbl, C.N.fns[f]? = some y ∧ C.mg y = some (.ref a) ∧ C.B.hb.get? a = some o ∧
  o.data = .func (docDef y params body scope pm code doc) ∧ C.B.hb.CodeRec code y ∧ DefFacts C.N params body scope D tbl

section
variable {C : Cx} {d : Nat}

theorem VRs.len {B : Bs} {σ : Sg} {φ : List Addr} {h : Heap} {xs : List V} {vs : List Value} (r : VRs B σ φ h xs vs) : vs.length = xs.length := r.length

theorem callSim_succ (ok : C.Ok) (dk : DefsOk C) (hcs : CallSims C d) : CallSim C (d + 1) := by
  intro f y a vs σ v σ' he hy ha A s φ cvs E hr R rs
  unfold callF at he
  split at he
  case h_2 => cases he
  rename_i D hD
  split at he
  case isFalse => cases he
  rename_i hlen
  obtain ⟨p, σ₁, h1, he⟩ := bind_eq_ok he
  cases he
  obtain ⟨y', a', o, params, body, scope, pm, code, doc, tbl, e1, e2, e3, e4, e5, X⟩ := dk f D hD
  rw [hy] at e1; cases e1
  rw [ha] at e2; cases e2
  obtain ⟨fuel, hb⟩ := X.body
  have hvl : cvs.length = (params.args.map (·.arg)).length := by rw [rs.length, hlen, X.len]
  have hroom : A.depth < recursionLimit := by have := hr.dep; omega
  have R' := R
  refine wpAny_call (call_cells (R := fun r s' => match r with | .ok (.ret v') => Post C.B s σ φ σ' (flV p.1) v' s' | .ok _ => False | .error e => E e s') hroom (R.based _ _ e3) e4 (ok.nolimit.keeps R.based) (e5.keeps R.based)
    (bindArgs_eq (fd := docDef y params body scope pm code doc) X.p1 X.p2 X.p3 X.p4 rfl X.np hvl) (fun x hx => ?_) (fun h₁ tk Fr₁ Cl₁ => ?_) X.co X.ge X.fn)
  · have hx1 : x.1 ∈ params.args.map (·.arg) := (List.of_mem_zip (a := x.1) (b := x.2) hx).1
    rcases X.kinds x.1 hx1 with q | q
    · exact .inl q
    · refine .inr ⟨q, ?_⟩
      obtain ⟨c, hc⟩ := has_cells (n := s.heap.objs.size + 1) (acc := []) (.inl (mem_of_lookup q))
      obtain ⟨c', hc'⟩ := lookup_has hc
      rw [hc']; rfl
  · have R₁ : SR C.B σ φ h₁ := R.grow Fr₁.keep
    have rs₁ : VRs C.B σ φ h₁ vs cvs := rs.grow R Fr₁.keep
    have hNd : ((cellsFrom (s.heap.objs.size + 1) scope.names []).map (·.1)).Nodup := keys_cells X.ns List.nodup_nil (fun _ _ hx => by cases hx)
    have gone : ∀ b, s.heap.objs.size ≤ b → s.heap.get? b = none := fun b hb => by
      cases e : s.heap.get? b with
      | none => rfl
      | some o => exact absurd (Heap.lt_size e) (Nat.not_lt.mpr hb)
    have goneB : ∀ b, s.heap.objs.size ≤ b → C.B.hb.get? b = none := fun b hb => by
      cases e : C.B.hb.get? b with
      | none => rfl
      | some o => have := R.based b o e; rw [gone b hb] at this; cases this
    have arg : ∀ x i u, tbl.lookup x = some i → getV (vs ++ List.replicate (D.nl - D.np) V.undef) i = some u → (params.args.map (·.arg))[i]? = some x ∧ ∃ cu, cvs[i]? = some cu ∧ VR C.B σ φ h₁ u cu := by
      intro x i u e6 e7
      have e8 := getV_args e7
      obtain ⟨cu, e9, e10⟩ := rs₁.get e8
      have hi : i < (params.args.map (·.arg)).length := by rw [← hvl]; exact (List.getElem?_eq_some_iff.mp e9).1
      have e11 := X.first i _ (List.getElem?_eq_getElem hi)
      have : (params.args.map (·.arg))[i] = x := X.inj _ _ i e11 e6
      exact ⟨by rw [List.getElem?_eq_getElem hi, this], cu, e9, e10⟩
    have F₁ : FR C.B tbl (envOfC y scope s.heap.objs.size a code) (vs ++ List.replicate (D.nl - D.np) V.undef) σ φ h₁ := by
      refine ⟨X.fn, rfl, rfl, ⟨_, Fr₁.ns, fun x i u e6 e7 e8 => ?_⟩, fun x i u e6 e7 e8 => ?_, fun L => ?_, fun x c hc => ?_, goneB _ (Nat.le_refl _), fun x c hc => goneB _ (Nat.le_of_lt (Cl₁.above x c hc)), fun x e6 => ?_⟩
      · obtain ⟨e9, cu, e10, e11⟩ := arg x i u e6 e7
        exact ⟨cu, (bindL_zip (α := Unit) X.np hvl e9 e8).trans e10, e11⟩
      · obtain ⟨e9, cu, e10, e11⟩ := arg x i u e6 e7
        have e12 : scope.names.lookup x = some .cell := by
          rcases e8 with e8 | e8
          · exact e8
          · rcases X.kinds x (List.mem_of_getElem? e9) with q | q
            · have e8 : scope.names.lookup x = some .free := e8
              rw [q] at e8; cases e8
            · exact q
        obtain ⟨c, hc⟩ := has_cells (n := s.heap.objs.size + 1) (acc := []) (.inl (mem_of_lookup e12))
        have hc' := lookup_of_mem hNd hc
        refine ⟨c, cu, hc', ?_, e11⟩
        have := Cl₁.cell x c hc'
        rw [show (docDef y params body scope pm code doc).params = params from rfl] at this
        rw [bindC_zip X.np hvl e9 (by show scope.names.lookup x ≠ _; rw [e12]; intro q; cases q), e10] at this
        exact this
      · obtain ⟨o, e⟩ := R.ex _ L.mem
        have e : s.heap.get? s.heap.objs.size = some o := e
        rw [gone _ (Nat.le_refl _)] at e; cases e
      · exact ⟨_, Cl₁.cell x c (lookup_of_mem hNd hc)⟩
      · obtain ⟨c, hc⟩ := has_cells (n := s.heap.objs.size + 1) (acc := []) (.inl (mem_of_lookup e6))
        show ((cellsFrom (s.heap.objs.size + 1) scope.names []).lookup x).isSome = true
        rw [lookup_of_mem hNd hc]; rfl
    have hΓ : (vs ++ List.replicate (D.nl - D.np) V.undef).length = D.nl := by
      rw [List.length_append, List.length_replicate, hlen]
      have := X.le; omega
    have hr' : Room d (A.deeper (envOfC y scope s.heap.objs.size a code)) := ⟨hr.hh, by have := hr.dep; show A.depth + 1 + d ≤ _; omega, by have := hr.un; rw [Around.deeper_units]; omega⟩
    refine wpAny_mono ((simS ok hcs fuel).2 body D.body (envOfC y scope s.heap.objs.size a code) tbl _ σ p σ' _ { s with heap := h₁, toks := tk } φ _ ⟨X.inj, Cl₁.apart, ?_⟩ (by rw [hΓ]; exact hb) h1 hr' R₁ F₁) (fun fl s₂ P => ?_) fun _ _ e => e
    · show (scope.kind == .module && _) = false
      rw [X.fn]; rfl
    · obtain ⟨φ₂, h₂, tk₂, rfl, R₂, S₂, F₂, hn₂, f₂⟩ := P
      have own0 : ∀ b, own (envOfC y scope s.heap.objs.size a code) b → s.heap.get? b = none := by
        rintro b (rfl | ⟨x, hx⟩)
        · exact gone _ (Nat.le_refl _)
        · exact gone _ (Nat.le_of_lt (Cl₁.above x b hx))
      have S : Stp W0 σ φ s.heap σ' φ₂ h₂ := (Stp.trans (Stp.grow Fr₁.keep) S₂ R.len).drop own0
      obtain ⟨pf, pΓ⟩ := p
      cases f₂ with
      | next => exact ⟨φ₂, h₂, tk₂, rfl, R₂, S, .none⟩
      | ret r => exact ⟨φ₂, h₂, tk₂, rfl, R₂, S, r⟩
end

theorem callSims : ∀ (d : Nat) (C : Cx), C.Ok → DefsOk C → CallSims C d
  | 0, _, _, _ => fun av f y a vs σ v σ' he => by unfold callF at he; cases he
  | d + 1, C, ok, dk => fun av => callSim_succ (C := { C with B := { C.B with av := av } }) ⟨ok.g, ok.b, ok.nolimit, ok.bins, ok.glob, ok.fn⟩ dk fun av' => callSims d C ok dk av'
end Mine

namespace Mine
open PySem PyProof.Rows PySem.Calls

noncomputable def chkProg (N : Nm) (fuel : Nat) (recs : List DefRec) : List Str → List Def → List (List (Str × Nat)) → Bool
  | [], [], [] => true
  | y :: ys, D :: Ds, t :: ts => recs.any (fun r => eqS r.name y && chkDef N fuel r.params r.body r.scope D t) && chkProg N fuel recs ys Ds ts
  | _, _, _ => false

theorem chkProg_at {N : Nm} {fuel : Nat} {recs : List DefRec} : ∀ {ys : List Str} {Ds : List Def} {ts : List (List (Str × Nat))}, chkProg N fuel recs ys Ds ts = true → ∀ (f : Nat) (D : Def), Ds[f]? = some D →
    ∃ y t, ys[f]? = some y ∧ ∃ r ∈ recs, r.name = y ∧ chkDef N fuel r.params r.body r.scope D t = true
  | [], [], _, _, f, D, h => by simp at h
  | [], _ :: _, _, hc, _, _, _ => by simp [chkProg] at hc
  | _ :: _, [], _, _, _, _, h => by simp at h
  | _ :: _, _ :: _, [], hc, _, _, _ => by simp [chkProg] at hc
  | y :: ys, E :: Ds, t :: ts, hc, f, D, h => by
    rw [chkProg, Bool.and_eq_true] at hc
    cases f with
    | zero =>
      simp at h; subst h
      obtain ⟨r, hr, h2⟩ := List.any_eq_true.mp hc.1
      rw [Bool.and_eq_true] at h2
      exact ⟨y, t, rfl, r, hr, eqS_iff.mp h2.1, h2.2⟩
    | succ f =>
      obtain ⟨y', t', h1, h2⟩ := chkProg_at hc.2 f D (by simpa using h)
      exact ⟨y', t', by simpa using h1, h2⟩

/-- the built-ins' names are not bound by the text -/
noncomputable def freeNames (p : Program) (loose : List Str) : Bool :=
  bnames.all fun b => !memS b.1 startupNames && !memS b.1 loose && !memS b.1 ((recsOf p).map (·.name)) && !memS b.1 ((litsOf p).map (·.1)) && !memS b.1 ((clssOf p loose).map (·.name))

theorem not_memS {x : Str} {l : List Str} (h : (!memS x l) = true) : x ∉ l := fun hm => by rw [memS_of hm] at h; cases h

theorem boot_bnames : ∀ b ∈ bnames, bootBuiltins b.1 = some b.2 ∧ b.1 ≠ Str.ofString "__name__" := by
  intro b hb
  simp only [bnames, List.mem_cons, List.not_mem_nil, or_false] at hb
  rcases hb with rfl | rfl | rfl | rfl | rfl | rfl | rfl | rfl | rfl | rfl | rfl | rfl | rfl | rfl <;> refine ⟨by decide +kernel, by decide +kernel⟩

/-- written constants -/
noncomputable def isLit : V → PyData → Bool
  | .int i, .int j => i == j
  | .bool a, .bool b => a == b
  | .str s, .str t => t.cps.toList == s && s.length ≤ 1000
  | _, _ => false
noncomputable def chkGl (p : Program) : List Str → List V → Bool
  | [], [] => true
  | y :: ys, v :: vs => (match valOf p y with | some d => isLit v d | none => false) && chkGl p ys vs
  | _, _ => false

theorem isLit_VR {v : V} {d : PyData} {cv : Value} (h : isLit v d = true) (hr : ∀ h' : Heap, Reads h' cv d []) : ∀ B σ φ h, VR B σ φ h v cv := by
  intro B σ φ hh
  have r := hr hh
  cases v <;> cases d <;> try (cases h)
  · cases r; rename_i a b; rw [beq_iff_eq.mp h]; exact .bool _
  · cases r; rename_i a b t; rw [beq_iff_eq.mp h]; exact .int _ _
  · cases r
    rename_i s x t
    unfold isLit at h
    rw [Bool.and_eq_true, beq_iff_eq, decide_eq_true_eq] at h
    have e : x = ⟨s.toArray⟩ := by
      obtain ⟨⟨a⟩⟩ := x
      have := h.1
      simp at this
      rw [this]
    rw [e]
    exact .str s t (by have := h.2; unfold roomy; omega)

theorem chkGl_at {p : Program} : ∀ {ys : List Str} {vs : List V}, chkGl p ys vs = true → ∀ (g : Nat) (v : V), vs[g]? = some v → ∃ y d, ys[g]? = some y ∧ valOf p y = some d ∧ isLit v d = true
  | [], [], _, g, v, h => by simp at h
  | [], _ :: _, hc, _, _, _ => by simp [chkGl] at hc
  | _ :: _, [], _, _, _, h => by simp at h
  | y :: ys, u :: vs, hc, g, v, h => by
    rw [chkGl, Bool.and_eq_true] at hc
    cases g with
    | zero =>
      simp at h; subst h
      have := hc.1
      cases hd : valOf p y with
      | none => rw [hd] at this; cases this
      | some d => rw [hd] at this; exact ⟨y, d, rfl, hd, this⟩
    | succ g =>
      obtain ⟨y', d, h1, h2⟩ := chkGl_at hc.2 g v (by simpa using h)
      exact ⟨y', d, by simpa using h1, h2⟩

section
variable {prog : Program} {w : World} {s : Shared} {p : Program} {loose : List Str} {mean : ExcName → Option Value} {mg mb : Str → Option Value}

noncomputable def mkC (prog : Program) (w : World) (h : Heap) (mg mb : Str → Option Value) (N : Nm) (P : List Def) (gl : List V) : Cx := ⟨⟨prog, w, h, fun _ => none, fun _ => False⟩, mg, mb, N, P, gl⟩

theorem mkC_ok {N : Nm} {P : List Def} {gl : List V} {tbls : List (List (Str × Nat))} {fuel : Nat} (T : Top p loose mean mg mb s.heap) (hf : freeNames p loose = true) (hp : chkProg N fuel (recsOf p) N.fns P tbls = true) (hl : N.fns.length = P.length)
    (hg : chkGl p N.gns gl = true) : (mkC prog w s.heap mg mb N P gl).Ok ∧ DefsOk (mkC prog w s.heap mg mb N P gl) := by
  have dk : DefsOk (mkC prog w s.heap mg mb N P gl) := by
    intro f D hD
    obtain ⟨y, t, h1, r, hr, rfl, h2⟩ := chkProg_at hp f D hD
    obtain ⟨a, o, pm, code, doc, k1, k2, k3, k4⟩ := T.fn r hr
    exact ⟨r.name, a, o, r.params, r.body, r.scope, pm, code, doc, t, h1, k1, k2, k3, k4, DefFacts.of h2⟩
  refine ⟨⟨T.g, T.b, T.nolimit, fun b hb => ?_, fun g v hv => ?_, fun f y hy => ?_⟩, dk⟩
  · have := all_mem hf hb
    simp only [Bool.and_eq_true] at this
    obtain ⟨⟨⟨⟨h1, h2⟩, h3⟩, h4⟩, h5⟩ := this
    obtain ⟨h6, h7⟩ := boot_bnames b hb
    exact ⟨T.free b.1 (not_memS h1) (not_memS h2) (not_memS h3) (not_memS h4) (not_memS h5), (T.builtins b.1 h7).trans h6⟩
  · obtain ⟨y, d, h1, h2, h3⟩ := chkGl_at hg g v hv
    obtain ⟨cv, h4, h5⟩ := T.const y d h2
    exact ⟨y, cv, h1, h4, isLit_VR h3 h5⟩
  · have hlt : f < P.length := by rw [← hl]; exact (List.getElem?_eq_some_iff.mp hy).1
    obtain ⟨y', a, o, params, body, scope, pm, code, doc, t, h1, k1, k2, k3, _⟩ := dk f P[f] (List.getElem?_eq_getElem hlt)
    rw [h1] at hy
    cases hy
    exact ⟨a, o, _, k1, k2, k3⟩

theorem ints_VRs {B : Bs} {σ : Sg} {φ : List Addr} {h : Heap} {vs : List Value} {xs : List Int} (hi : IntsAre vs xs) : VRs B σ φ h (xs.map V.int) vs := by
  induction hi with
  | nil => exact .nil
  | cons n t _ ih => exact .cons (.int n t) ih

open PySem.W in
theorem well_ints {Q : Params} {h : Heap} : ∀ {vs : List Value} {xs : List Int}, WellAll Q h vs (ofPys (xs.map PyData.int)) → IntsAre vs xs
  | _, [], w => by
    cases w; exact .nil
  | _, x :: xs, w => by
    cases w with
    | cons a r => cases a with | int i t => exact .cons _ _ (well_ints r)
open PySem.W in
theorem well_script {Q : Params} {h : Heap} {a : Addr} {xs : List Int} (w : Well Q h (.ref a) (ofPy (.list (xs.map PyData.int)))) : ∃ vs : List Value, h.get? a = some { cls := .type "list", data := .seq vs.toArray } ∧ IntsAre vs xs := by
  have w' : Well Q h (.ref a) (.list (ofPys (xs.map PyData.int))) := w
  cases w' with
  | list e r => exact ⟨_, e, well_ints r⟩

open PySem.W in
theorem good_true {c : ClaimW} {cl : Str → Option Addr} {mean : ExcName → Option Value} {args : List WData} {s₁ s' : Shared} {v : Value} (hn : ∀ cls, c.raises args cls = false) (hp : c.post args (.bool true) args = true) (hg : s₁.gens = #[])
    (h : v = .bool true ∧ ∃ h' tk, s' = { s₁ with heap := h', toks := tk } ∧ ∀ b o, s₁.heap.get? b = some o → h'.get? b = some o) : GoodWG c cl mean args s₁ (.ok (.ret v)) s' := by
  obtain ⟨rfl, h', tk, rfl, hk⟩ := h
  exact ⟨.inl ⟨_, _, [], rfl, hn, .bool true, hp, fun _ => ⟨List.nodup_nil, fun a ha => by cases ha⟩⟩, .of_keep hk, rfl, .of_eq hg⟩

/-- the law's call gives True and leaves what stood -/
theorem law_run {N : Nm} {P : List Def} {gl : List V} {tbls : List (List (Str × Nat))} {fuel d f : Nat} {σ' : Sg} {fa a : Addr} {vs : List Value} {xs : List Int} {E : Value → Shared → Prop} (T : Top p loose mean mg mb s.heap) (hf : freeNames p loose = true)
    (hp : chkProg N fuel (recsOf p) N.fns P tbls = true) (hl : N.fns.length = P.length) (hg : chkGl p N.gns gl = true) (hn : N.fns[f]? = some (Str.ofString "law")) (hmg : mg (Str.ofString "law") = some (.ref fa)) (hd : d ≤ 600)
    (hli : s.heap.get? a = some { cls := .type "list", data := .seq vs.toArray }) (hi : IntsAre vs xs) (hx : xs.length ≤ 63) (he : callF gl P d f [.lst (xs.map V.int)] [] = .ok (.bool true) σ') :
    wpAny (model prog w) callerA (call (.ref fa) [.ref a]) (fun v s' => v = .bool true ∧ ∃ h' tk, s' = { s with heap := h', toks := tk } ∧ ∀ b o, s.heap.get? b = some o → h'.get? b = some o) E s := by
  obtain ⟨ok, dk⟩ := mkC_ok (prog := prog) (w := w) T hf hp hl hg
  have hcs := callSims d _ ok dk fun _ => False
  have R : SR (mkC prog w s.heap mg mb N P gl).B [] [] s.heap := by
    refine ⟨rfl, List.nodup_nil, fun a ha => (by cases ha), fun i xs e => (by simp at e), fun i xs e => (by simp at e), fun i xs e => (by simp at e), (let ⟨o, _, _, e, _⟩ := T.g; ⟨o, e⟩), fun a ha => (by cases ha), fun b o e => e, fun a ha => (by cases ha), fun b hb => hb.elim, fun _ _ hb => hb⟩
  refine wpAny_mono (hcs f (Str.ofString "law") fa [.lst (xs.map V.int)] [] (.bool true) σ' he hn hmg callerA s [] [.ref a] E ⟨rfl, ?_, ?_⟩ R (.cons (.lst (vs := vs) ⟨0, hli⟩ ⟨?_, fun x => x⟩ (ints_VRs hi) ?_) .nil)) (fun v s' P => ?_) fun _ _ e => e
  · show 1 + 300 + d ≤ 1000; omega
  · show 4 + 3 * d + 100 ≤ 9900; omega
  · rintro ⟨i, c, e, _⟩; simp at e
  · rw [List.length_map]; unfold roomy; omega
  · obtain ⟨φ', h', tk, rfl, R', S', r⟩ := P
    cases r
    refine ⟨rfl, h', tk, rfl, fun b o e => S'.keep b o e ?_ fun x => x⟩
    rintro ⟨i, c, e, _⟩; simp at e
end
end Mine

namespace Mine
/-- takes(inside, signs, sign), index 4 -/
noncomputable def d_takes : Def := ⟨3, 3,
  [.ite (.var 0)
     [.ret (.cmp .isin (.var 2) (.var 1))]
     [],
   .ret (.cmp .notin (.var 2) (.var 1))]⟩
/-- _law_cell_at(_law_script, _law_k), index 0 -/
noncomputable def d_l_cell_at : Def := ⟨2, 2,
  [.ite (.cmp .lt (.var 1) (.bi .len [(.var 0)]))
     [.ret (.idx (.var 0) (.var 1))]
     [],
   .ret (.cInt 0)]⟩
/-- _law_sign_by(_law_cell), index 1 -/
noncomputable def d_l_sign_by : Def := ⟨1, 2,
  [.asg 1 (.cStr [32, 33, 34, 35, 36, 38, 39, 40, 41, 42, 43, 44, 45, 46, 47, 48, 49, 50, 51, 52, 53, 54, 55, 56, 57, 58, 59, 60, 61, 62, 63, 64, 65, 66, 67, 68, 69, 70, 71, 72, 73, 74, 75, 76, 77, 78, 79, 80, 81, 82, 83, 84, 85, 86, 87, 88, 89, 90, 91, 92, 93, 94, 95, 96]),
   .asg 1 (.bin .add (.var 1) (.cStr [97, 98, 99, 100, 101, 102, 103, 104, 105, 106, 107, 108, 109, 110, 111, 112, 113, 114, 115, 116, 117, 118, 119, 120, 121, 122, 123, 124, 125, 126, 10, 9])),
   .ret (.idx (.var 1) (.bin .mod (.var 0) (.cInt 96)))]⟩
/-- _law_three_by(_law_cell), index 2 -/
noncomputable def d_l_three_by : Def := ⟨1, 1,
  [.ret (.bin .add (.bin .add (.call 1 [(.var 0)]) (.call 1 [(.bin .add (.var 0) (.cInt 31))])) (.call 1 [(.bin .add (.var 0) (.cInt 62))]))]⟩
/-- _law_take_by(_law_cell, _law_three), index 5 -/
noncomputable def d_l_take_by_v02 : Def := ⟨2, 6,
  [.asg 2 (.bin .mod (.var 0) (.cInt 8)),
   .asg 3 (.bin .add (.idx (.var 1) (.bin .mod (.bin .fdiv (.var 0) (.cInt 8)) (.cInt 3))) (.idx (.var 1) (.bin .mod (.bin .fdiv (.var 0) (.cInt 24)) (.cInt 3)))),
   .ite (.cmp .eq (.var 2) (.cInt 0))
     [.ret (.tup [(.cStr [116, 97, 107, 101]), (.cBool false), (.cStr [])])]
     [],
   .ite (.cmp .gt (.var 2) (.cInt 2))
     [.ret (.tup [(.cStr [116, 97, 107, 101]), (.cBool true), (.slice (.var 3) none (some (.cInt 1)))])]
     [],
   .asg 4 (.bin .mod (.bin .fdiv (.var 0) (.cInt 72)) (.cInt 4)),
   .ite (.cmp .eq (.var 4) (.cInt 3))
     [.asg 4 (.bin .add (.cInt 3) (.bin .mod (.bin .fdiv (.var 0) (.cInt 288)) (.cInt 12)))]
     [],
   .for 5 .rng1 (.var 4) .cNone
     [.asg 3 (.bin .add (.var 3) (.call 1 [(.bin .add (.bin .fdiv (.var 0) (.cInt 3456)) (.bin .mul (.cInt 37) (.var 5)))]))],
   .ret (.tup [(.cStr [116, 97, 107, 101]), (.cmp .eq (.var 2) (.cInt 2)), (.slice (.var 3) none (some (.var 4)))])]⟩
/-- _law_joined_by(_law_way, _law_stack, _law_many), index 6 -/
noncomputable def d_l_joined_by_v02 : Def := ⟨3, 9,
  [.asg 3 (.slice (.var 1) (some (.bin .sub (.bi .len [(.var 1)]) (.var 2))) none),
   .asg 4 (.slice (.var 1) none (some (.bin .sub (.bi .len [(.var 1)]) (.var 2)))),
   .asg 5 (.tup [(.cStr [114, 111, 119]), (.bi .tuple [(.comp false (.idx (.var 9) (.cInt 0)) .val (.var 3) .cNone none)])]),
   .asg 6 (.bi .all [(.comp false (.idx (.var 9) (.cInt 1)) .val (.var 3) .cNone none)]),
   .asg 7 (.bi .sum [(.comp false (.idx (.var 9) (.cInt 2)) .val (.var 3) .cNone none)]),
   .ite (.cmp .eq (.var 0) (.cInt 5))
     [.asg 5 (.tup [(.cStr [112, 105, 99, 107]), (.idx (.var 5) (.cInt 1))]),
      .asg 6 (.bi .any [(.comp false (.idx (.var 9) (.cInt 1)) .val (.var 3) .cNone none)]),
      .asg 7 (.bin .sub (.bin .add (.var 7) (.var 2)) (.cInt 1))]
     [],
   .asg 8 (.bin .add (.cInt 1) (.bi .max1 [(.comp false (.idx (.var 9) (.cInt 3)) .val (.var 3) .cNone none)])),
   .ret (.bin .add (.var 4) (.lst false [(.tup [(.var 5), (.var 6), (.var 7), (.var 8)])]))]⟩
/-- _law_put_by(_law_stack, _law_cell, _law_three), index 7 -/
noncomputable def d_l_put_by_v02 : Def := ⟨3, 8,
  [.asg 3 (.bin .mod (.var 1) (.cInt 9)),
   .asg 4 (.bin .fdiv (.var 1) (.cInt 9)),
   .asg 5 (.cInt 0),
   .ite (.var 0)
     [.asg 5 (.idx (.idx (.var 0) (.neg (.cInt 1))) (.cInt 3))]
     [],
   .ite (.and (.cmp .eq (.var 3) (.cInt 6)) (.cmp2 .lt .lt (.cInt 0) (.var 5) (.cInt 12)))
     [.asg 6 (.idx (.var 0) (.neg (.cInt 1))),
      .ret (.bin .add (.slice (.var 0) none (some (.neg (.cInt 1)))) (.lst false [(.tup [(.tup [(.cStr [109, 97, 121, 98, 101]), (.idx (.var 6) (.cInt 0)), (.cmp .gt (.bin .mod (.var 4) (.cInt 3)) (.cInt 0))]), (.cBool true), (.bin .add (.idx (.var 6) (.cInt 2)) (.cInt 1)), (.bin .add (.var 5) (.cInt 1))])]))]
     [],
   .ite (.and (.cmp .eq (.var 3) (.cInt 7)) (.and (.cmp2 .lt .lt (.cInt 0) (.var 5) (.cInt 12)) (.not (.idx (.idx (.var 0) (.neg (.cInt 1))) (.cInt 1)))))
     [.asg 6 (.idx (.var 0) (.neg (.cInt 1))),
      .ret (.bin .add (.slice (.var 0) none (some (.neg (.cInt 1)))) (.lst false [(.tup [(.tup [(.cStr [109, 97, 110, 121]), (.idx (.var 6) (.cInt 0)), (.cmp .gt (.bin .mod (.var 4) (.cInt 3)) (.cInt 0))]), (.cBool true), (.bin .add (.idx (.var 6) (.cInt 2)) (.cInt 1)), (.bin .add (.var 5) (.cInt 1))])]))]
     [],
   .ite (.and (.or (.cmp .eq (.var 3) (.cInt 4)) (.cmp .eq (.var 3) (.cInt 5))) (.cmp .gt (.bi .len [(.var 0)]) (.cInt 1)))
     [.asg 7 (.bin .add (.cInt 2) (.bin .mod (.var 4) (.bi .min2 [(.cInt 7), (.bin .sub (.bi .len [(.var 0)]) (.cInt 1))]))),
      .ite (.cmp .lt (.bi .max1 [(.comp false (.idx (.var 8) (.cInt 3)) .val (.slice (.var 0) (some (.bin .sub (.bi .len [(.var 0)]) (.var 7))) none) .cNone none)]) (.cInt 12))
        [.ret (.call 6 [(.var 3), (.var 0), (.var 7)])]
        []]
     [],
   .ite (.and (.cmp .eq (.var 3) (.cInt 8)) (.cmp .eq (.bin .mod (.var 4) (.cInt 3)) (.cInt 0)))
     [.ret (.bin .add (.var 0) (.lst false [(.tup [(.tup [(.cStr [114, 111, 119]), (.tup [])]), (.cBool true), (.cInt 0), (.cInt 1)])]))]
     [],
   .ret (.bin .add (.var 0) (.lst false [(.tup [(.call 5 [(.var 4), (.var 2)]), (.cBool false), (.cInt 1), (.cInt 1)])]))]⟩
/-- _law_tree_by(_law_cells, _law_three), index 8 -/
noncomputable def d_l_tree_by : Def := ⟨2, 4,
  [.asg 2 (.lst false []),
   .for 3 .val (.var 0) .cNone
     [.asg 2 (.call 7 [(.var 2), (.var 3), (.var 1)])],
   .ite (.cmp .eq (.bi .len [(.var 2)]) (.cInt 0))
     [.ret (.tup [(.tup [(.cStr [114, 111, 119]), (.tup [])]), (.cBool true), (.cInt 0), (.cInt 1)])]
     [],
   .ite (.cmp .eq (.bi .len [(.var 2)]) (.cInt 1))
     [.ret (.idx (.var 2) (.cInt 0))]
     [],
   .ret (.idx (.call 6 [(.bin .add (.cInt 4) (.bi .int [(.cmp .eq (.bin .mod (.idx (.var 0) (.cInt 0)) (.cInt 3)) (.cInt 1))])), (.var 2), (.bi .len [(.var 2)])]) (.cInt 0))]⟩
/-- _law_whole(_law_found), index 9 -/
noncomputable def d_l_whole : Def := ⟨1, 1,
  [.ret (.and (.bi .isInt [(.var 0)]) (.not (.bi .isBool [(.var 0)])))]⟩
/-- put(steps, step), index 38 -/
noncomputable def d_put : Def := ⟨2, 2,
  [.expr (.app (.var 0) (.var 1)),
   .ret (.bin .sub (.bi .len [(.var 0)]) (.cInt 1))]⟩
/-- led(steps, tree, then), index 39 -/
noncomputable def d_led : Def := ⟨3, 6,
  [.ite (.cmp .eq (.idx (.var 1) (.cInt 0)) (.cStr [116, 97, 107, 101]))
     [.ret (.call 38 [(.var 0), (.tup [(.cStr [116, 97, 107, 101]), (.idx (.var 1) (.cInt 1)), (.idx (.var 1) (.cInt 2)), (.var 2)])])]
     [],
   .ite (.cmp .eq (.idx (.var 1) (.cInt 0)) (.cStr [114, 111, 119]))
     [.for 3 .rev (.idx (.var 1) (.cInt 1)) .cNone
        [.asg 2 (.call 39 [(.var 0), (.var 3), (.var 2)])],
      .ret (.var 2)]
     [],
   .ite (.cmp .eq (.idx (.var 1) (.cInt 0)) (.cStr [112, 105, 99, 107]))
     [.ret (.call 40 [(.var 0), (.idx (.var 1) (.cInt 1)), (.var 2)])]
     [],
   .ite (.cmp .eq (.idx (.var 1) (.cInt 0)) (.cStr [109, 97, 110, 121]))
     [.asg 4 (.call 38 [(.var 0), (.tup [(.cStr [101, 110, 100])])]),
      .asg 5 (.call 39 [(.var 0), (.idx (.var 1) (.cInt 1)), (.var 4)]),
      .sto (.var 0) (.var 4) (.call 41 [(.var 5), (.var 2), (.idx (.var 1) (.cInt 2))]),
      .ret (.var 4)]
     [],
   .ret (.call 38 [(.var 0), (.call 41 [(.call 39 [(.var 0), (.idx (.var 1) (.cInt 1)), (.var 2)]), (.var 2), (.idx (.var 1) (.cInt 2))])])]⟩
/-- picked(steps, parts, then), index 40 -/
noncomputable def d_picked : Def := ⟨3, 6,
  [.asg 3 (.comp false (.call 39 [(.var 0), (.var 6), (.var 2)]) .val (.var 1) .cNone none),
   .asg 4 (.idx (.var 3) (.neg (.cInt 1))),
   .for 5 .rev (.slice (.var 3) none (some (.neg (.cInt 1)))) .cNone
     [.asg 4 (.call 38 [(.var 0), (.tup [(.cStr [112, 97, 114, 116]), (.var 5), (.var 4)])])],
   .ret (.var 4)]⟩
/-- parted(inner, then, eager), index 41 -/
noncomputable def d_parted : Def := ⟨3, 3,
  [.ite (.var 2)
     [.ret (.tup [(.cStr [112, 97, 114, 116]), (.var 0), (.var 1)])]
     [],
   .ret (.tup [(.cStr [112, 97, 114, 116]), (.var 1), (.var 0)])]⟩
/-- net_of(tree), index 42 -/
noncomputable def d_net_of : Def := ⟨1, 3,
  [.asg 1 (.lst true [(.tup [(.cStr [101, 110, 100])])]),
   .asg 2 (.call 39 [(.var 1), (.var 0), (.cInt 0)]),
   .ret (.frz (.tup [(.var 2), (.var 1)]))]⟩
/-- gone_back(way, choices, dead), index 43 -/
noncomputable def d_gone_back : Def := ⟨3, 3,
  [.while (.and (.cmp .gt (.bi .len [(.var 0)]) (.cInt 0)) (.or (.cmp .eq (.bi .len [(.var 1)]) (.cInt 0)) (.cmp .ne (.idx (.var 1) (.neg (.cInt 1))) (.bi .len [(.var 0)]))))
     [.sto (.var 2) (.pop (.var 0)) (.cBool true)],
   .ite (.cmp .eq (.bi .len [(.var 0)]) (.cInt 0))
     [.ret (.cBool false)]
     [],
   .expr (.pop (.var 1)),
   .ret (.cBool true)]⟩
/-- taken(step, text, at), index 44 -/
noncomputable def d_taken : Def := ⟨3, 3,
  [.ret (.and (.cmp .lt (.var 2) (.bi .len [(.var 1)])) (.call 4 [(.idx (.var 0) (.cInt 1)), (.idx (.var 0) (.cInt 2)), (.idx (.var 1) (.var 2))]))]⟩
/-- gone(net, text, place, dead), index 45 -/
noncomputable def d_gone : Def := ⟨4, 11,
  [.asg 4 (.idx (.var 0) (.cInt 1)),
   .asg 5 (.lst true []),
   .asg 6 (.lst true []),
   .asg 7 (.idx (.var 0) (.cInt 0)),
   .asg 8 (.var 2),
   .while (.cBool true)
     [.asg 9 (.cmp .isin (.tup [(.var 7), (.var 8)]) (.var 3)),
      .ite (.not (.var 9))
        [.expr (.app (.var 5) (.tup [(.var 7), (.var 8)])),
         .asg 10 (.idx (.var 4) (.var 7)),
         .ite (.cmp .eq (.idx (.var 10) (.cInt 0)) (.cStr [101, 110, 100]))
           [.ret (.var 5)]
           [],
         .ite (.cmp .eq (.idx (.var 10) (.cInt 0)) (.cStr [112, 97, 114, 116]))
           [.expr (.app (.var 6) (.bi .len [(.var 5)])),
            .asg 7 (.idx (.var 10) (.cInt 1))]
           [.ite (.call 44 [(.var 10), (.var 1), (.var 8)])
              [.asg 7 (.idx (.var 10) (.cInt 3)),
               .asg 8 (.bin .add (.var 8) (.cInt 1))]
              [.asg 9 (.cBool true)]]]
        [],
      .ite (.var 9)
        [.ite (.not (.call 43 [(.var 5), (.var 6), (.var 3)]))
           [.ret .cNone]
           [],
         .asg 8 (.idx (.idx (.var 5) (.neg (.cInt 1))) (.cInt 1)),
         .asg 7 (.idx (.idx (.var 4) (.idx (.idx (.var 5) (.neg (.cInt 1))) (.cInt 0))) (.cInt 2))]
        []]]⟩
/-- _law_text_by(_law_cells, _law_three), index 58 -/
noncomputable def d_l_text_by : Def := ⟨2, 5,
  [.asg 2 (.cStr []),
   .for 3 .val (.var 0) .cNone
     [.asg 4 (.idx (.var 1) (.bin .mod (.var 3) (.cInt 3))),
      .ite (.cmp .eq (.bin .mod (.var 3) (.cInt 11)) (.cInt 10))
        [.asg 4 (.call 1 [(.bin .fdiv (.var 3) (.cInt 11))])]
        [],
      .asg 2 (.bin .add (.var 2) (.var 4))],
   .ret (.var 2)]⟩
/-- _law_once(_law_ends_here), index 59 -/
noncomputable def d_l_once : Def := ⟨1, 3,
  [.asg 1 (.lst true []),
   .for 2 .val (.var 0) .cNone
     [.ite (.cmp .notin (.var 2) (.var 1))
        [.expr (.app (.var 1) (.var 2))]
        []],
   .ret (.frz (.var 1))]⟩
/-- _law_behind(_law_ends_here, _law_more), index 60 -/
noncomputable def d_l_behind : Def := ⟨2, 4,
  [.asg 2 (.lst false []),
   .for 3 .val (.var 0) .cNone
     [.asg 2 (.bin .add (.var 2) (.idx (.var 1) (.var 3)))],
   .ret (.call 59 [(.var 2)])]⟩
/-- _law_taken(_law_tree, _law_signs, _law_at), index 61 -/
noncomputable def d_l_taken : Def := ⟨3, 3,
  [.ite (.and (.cmp .lt (.var 2) (.bi .len [(.var 1)])) (.cmp .eq (.cmp .isin (.idx (.var 1) (.var 2)) (.idx (.var 0) (.cInt 2))) (.idx (.var 0) (.cInt 1))))
     [.ret (.lst false [(.bin .add (.var 2) (.cInt 1))])]
     [],
   .ret (.lst false [])]⟩
/-- _law_repeated(_law_tree, _law_more), index 62 -/
noncomputable def d_l_repeated : Def := ⟨2, 6,
  [.asg 2 (.lst false []),
   .for 3 .rng1 (.bi .len [(.var 1)]) .cNone
     [.asg 4 (.bin .sub (.bin .sub (.bi .len [(.var 1)]) (.cInt 1)) (.var 3)),
      .asg 5 (.idx (.var 1) (.var 4)),
      .ite (.cmp .eq (.idx (.var 0) (.cInt 0)) (.cStr [109, 97, 110, 121]))
        [.asg 5 (.call 60 [(.idx (.var 1) (.var 4)), (.bin .add (.bin .mul (.lst false [(.lst false [])]) (.bin .add (.var 4) (.cInt 1))) (.var 2))])]
        [],
      .ite (.idx (.var 0) (.cInt 2))
        [.asg 5 (.bin .add (.var 5) (.lst false [(.var 4)]))]
        [.asg 5 (.bin .add (.lst false [(.var 4)]) (.var 5))],
      .asg 2 (.bin .add (.lst false [(.call 59 [(.var 5)])]) (.var 2))],
   .ret (.var 2)]⟩
/-- _law_ends(_law_tree, _law_signs), index 63 -/
noncomputable def d_l_ends : Def := ⟨2, 6,
  [.asg 2 (.bin .add (.bi .len [(.var 1)]) (.cInt 1)),
   .ite (.cmp .eq (.idx (.var 0) (.cInt 0)) (.cStr [116, 97, 107, 101]))
     [.ret (.comp false (.call 61 [(.var 0), (.var 1), (.var 6)]) .rng1 (.var 2) .cNone none)]
     [],
   .ite (.cmp .eq (.idx (.var 0) (.cInt 0)) (.cStr [114, 111, 119]))
     [.asg 3 (.comp false (.lst false [(.var 6)]) .rng1 (.var 2) .cNone none),
      .for 4 .val (.idx (.var 0) (.cInt 1)) .cNone
        [.asg 5 (.call 63 [(.var 4), (.var 1)]),
         .asg 3 (.comp false (.call 60 [(.idx (.var 3) (.var 6)), (.var 5)]) .rng1 (.var 2) .cNone none)],
      .ret (.var 3)]
     [],
   .ite (.cmp .eq (.idx (.var 0) (.cInt 0)) (.cStr [112, 105, 99, 107]))
     [.asg 3 (.comp false (.lst false []) .rng1 (.var 2) .cNone none),
      .for 4 .val (.idx (.var 0) (.cInt 1)) .cNone
        [.asg 5 (.call 63 [(.var 4), (.var 1)]),
         .asg 3 (.comp false (.call 59 [(.bin .add (.idx (.var 3) (.var 6)) (.idx (.var 5) (.var 6)))]) .rng1 (.var 2) .cNone none)],
      .ret (.var 3)]
     [],
   .ret (.call 62 [(.var 0), (.call 63 [(.idx (.var 0) (.cInt 1)), (.var 1)])])]⟩
/-- tried_at(net, text, place), index 68 -/
noncomputable def d_tried_at : Def := ⟨3, 4,
  [.asg 3 (.call 45 [(.var 0), (.var 1), (.var 2), (.dict true)]),
   .ite (.cmp .is (.var 3) .cNone)
     [.ret .cNone]
     [],
   .ret (.bin .sub (.idx (.idx (.var 3) (.neg (.cInt 1))) (.cInt 1)) (.var 2))]⟩
/-- _law_turned(_law_net), index 69 -/
noncomputable def d_l_turned : Def := ⟨1, 4,
  [.asg 1 (.bin .sub (.bi .len [(.idx (.var 0) (.cInt 1))]) (.cInt 1)),
   .asg 2 (.lst true []),
   .for 3 .rev (.idx (.var 0) (.cInt 1)) .cNone
     [.ite (.cmp .eq (.idx (.var 3) (.cInt 0)) (.cStr [116, 97, 107, 101]))
        [.expr (.app (.var 2) (.tup [(.cStr [116, 97, 107, 101]), (.idx (.var 3) (.cInt 1)), (.idx (.var 3) (.cInt 2)), (.bin .sub (.var 1) (.idx (.var 3) (.cInt 3)))]))]
        [.ite (.cmp .eq (.idx (.var 3) (.cInt 0)) (.cStr [112, 97, 114, 116]))
           [.expr (.app (.var 2) (.tup [(.cStr [112, 97, 114, 116]), (.bin .sub (.var 1) (.idx (.var 3) (.cInt 1))), (.bin .sub (.var 1) (.idx (.var 3) (.cInt 2)))]))]
           [.expr (.app (.var 2) (.var 3))]]],
   .ret (.frz (.tup [(.bin .sub (.var 1) (.idx (.var 0) (.cInt 0))), (.var 2)]))]⟩
/-- _law_pair(_law_found), index 71 -/
noncomputable def d_l_pair : Def := ⟨1, 1,
  [.ret (.and (.bi .isTup [(.var 0)]) (.and (.cmp .eq (.bi .len [(.var 0)]) (.cInt 2)) (.and (.call 9 [(.idx (.var 0) (.cInt 0))]) (.call 9 [(.idx (.var 0) (.cInt 1))]))))]⟩
/-- led_in(steps, row, there, number, begin), index 78 -/
noncomputable def d_led_in : Def := ⟨5, 7,
  [.asg 5 (.lst true [(.var 3)]),
   .while (.cmp .gt (.bi .len [(.var 5)]) (.cInt 0))
     [.asg 3 (.pop (.var 5)),
      .ite (.cmp .notin (.var 3) (.var 2))
        [.sto (.var 2) (.var 3) (.cBool true),
         .expr (.app (.var 1) (.tup [(.var 3), (.var 4)])),
         .asg 6 (.idx (.var 0) (.var 3)),
         .ite (.cmp .eq (.idx (.var 6) (.cInt 0)) (.cStr [101, 110, 100]))
           [.ret (.cBool true)]
           [],
         .ite (.cmp .eq (.idx (.var 6) (.cInt 0)) (.cStr [112, 97, 114, 116]))
           [.expr (.app (.var 5) (.idx (.var 6) (.cInt 2))),
            .expr (.app (.var 5) (.idx (.var 6) (.cInt 1)))]
           []]
        []],
   .ret (.cBool false)]⟩
/-- next_row(net, ahead, sign, fresh, place), index 79 -/
noncomputable def d_next_row : Def := ⟨5, 10,
  [.asg 5 (.idx (.var 0) (.cInt 1)),
   .asg 6 (.lst true []),
   .asg 7 (.dict false),
   .for 8 .val (.var 1) .cNone
     [.asg 9 (.idx (.var 5) (.idx (.var 8) (.cInt 0))),
      .ite (.and (.cmp .eq (.idx (.var 9) (.cInt 0)) (.cStr [116, 97, 107, 101])) (.call 4 [(.idx (.var 9) (.cInt 1)), (.idx (.var 9) (.cInt 2)), (.var 2)]))
        [.ite (.call 78 [(.var 5), (.var 6), (.var 7), (.idx (.var 9) (.cInt 3)), (.idx (.var 8) (.cInt 1))])
           [.ret (.frz (.tup [(.var 6), (.idx (.var 8) (.cInt 1))]))]
           []]
        []],
   .ite (.and (.var 3) (.call 78 [(.var 5), (.var 6), (.var 7), (.idx (.var 0) (.cInt 0)), (.var 4)]))
     [.ret (.frz (.tup [(.var 6), (.var 4)]))]
     [],
   .ret (.frz (.tup [(.var 6), .cNone]))]⟩
/-- swept_through(net, text), index 80 -/
noncomputable def d_swept_through : Def := ⟨2, 8,
  [.asg 2 (.lst true []),
   .asg 3 .cNone,
   .asg 4 (.lst false []),
   .for 5 .rng1 (.bin .add (.bi .len [(.var 1)]) (.cInt 1)) .cNone
     [.asg 6 (.cStr []),
      .ite (.cmp .gt (.var 5) (.cInt 0))
        [.asg 6 (.idx (.var 1) (.bin .sub (.var 5) (.cInt 1)))]
        [],
      .asg 7 (.call 79 [(.var 0), (.var 4), (.var 6), (.cmp .is (.var 3) .cNone), (.var 5)]),
      .asg 4 (.idx (.var 7) (.cInt 0)),
      .expr (.app (.var 2) (.var 4)),
      .ite (.cmp .isnot (.idx (.var 7) (.cInt 1)) .cNone)
        [.asg 3 (.tup [(.idx (.var 7) (.cInt 1)), (.bin .sub (.var 5) (.idx (.var 7) (.cInt 1)))])]
        []],
   .ret (.tup [(.var 2), (.var 3)])]⟩
/-- rows(net, text), index 81 -/
noncomputable def d_rows : Def := ⟨2, 2,
  [.ret (.idx (.call 80 [(.var 0), (.var 1)]) (.cInt 0))]⟩
/-- counted(net, text), index 82 -/
noncomputable def d_counted : Def := ⟨2, 2,
  [.ret (.bi .sum [(.comp false (.bi .len [(.var 2)]) .val (.frz (.call 81 [(.var 0), (.var 1)])) .cNone none)])]⟩
/-- swept(net, text), index 83 -/
noncomputable def d_swept : Def := ⟨2, 2,
  [.ret (.idx (.call 80 [(.var 0), (.var 1)]) (.cInt 1))]⟩
/-- _law_same_match(_law_found, _law_due), index 84 -/
noncomputable def d_l_same_match_v10 : Def := ⟨2, 2,
  [.ite (.cmp .is (.var 1) .cNone)
     [.ret (.cmp .is (.var 0) .cNone)]
     [],
   .ret (.and (.call 71 [(.var 0)]) (.cmp .eq (.var 0) (.var 1)))]⟩
/-- _law_ended(_law_net, _law_row), index 85 -/
noncomputable def d_l_ended : Def := ⟨2, 2,
  [.ret (.and (.cmp .ne (.var 1) (.lst false [])) (.cmp .eq (.idx (.idx (.idx (.var 0) (.cInt 1)) (.idx (.idx (.var 1) (.neg (.cInt 1))) (.cInt 0))) (.cInt 0)) (.cStr [101, 110, 100])))]⟩
/-- _law_led_in(_law_net, _law_row, _law_step, _law_begin), index 86 -/
noncomputable def d_l_led_in : Def := ⟨4, 4,
  [.ite (.or (.call 85 [(.var 0), (.var 1)]) (.cmp .isin (.var 2) (.comp false (.idx (.var 4) (.cInt 0)) .val (.var 1) .cNone none)))
     [.ret (.var 1)]
     [],
   .asg 1 (.bin .add (.var 1) (.lst false [(.tup [(.var 2), (.var 3)])])),
   .ite (.cmp .eq (.idx (.idx (.idx (.var 0) (.cInt 1)) (.var 2)) (.cInt 0)) (.cStr [112, 97, 114, 116]))
     [.asg 1 (.call 86 [(.var 0), (.var 1), (.idx (.idx (.idx (.var 0) (.cInt 1)) (.var 2)) (.cInt 1)), (.var 3)]),
      .asg 1 (.call 86 [(.var 0), (.var 1), (.idx (.idx (.idx (.var 0) (.cInt 1)) (.var 2)) (.cInt 2)), (.var 3)])]
     [],
   .ret (.var 1)]⟩
/-- _law_row_by(_law_net, _law_before, _law_sign, _law_place, _law_is_open), index 87 -/
noncomputable def d_l_row_by : Def := ⟨5, 8,
  [.asg 5 (.lst false []),
   .for 6 .val (.var 1) .cNone
     [.asg 7 (.idx (.idx (.var 0) (.cInt 1)) (.idx (.var 6) (.cInt 0))),
      .ite (.and (.cmp .eq (.idx (.var 7) (.cInt 0)) (.cStr [116, 97, 107, 101])) (.cmp .eq (.cmp .isin (.var 2) (.idx (.var 7) (.cInt 2))) (.idx (.var 7) (.cInt 1))))
        [.asg 5 (.call 86 [(.var 0), (.var 5), (.idx (.var 7) (.cInt 3)), (.idx (.var 6) (.cInt 1))])]
        []],
   .ite (.var 4)
     [.asg 5 (.call 86 [(.var 0), (.var 5), (.idx (.var 0) (.cInt 0)), (.var 3)])]
     [],
   .ret (.var 5)]⟩
/-- _law_rows_right(_law_net, _law_signs), index 88 -/
noncomputable def d_l_rows_right : Def := ⟨2, 9,
  [.asg 2 (.bi .list [(.idx (.var 0) (.cInt 1))]),
   .asg 3 (.call 81 [(.var 0), (.var 1)]),
   .ite (.or (.not (.bi .isLst [(.var 3)])) (.cmp .ne (.bi .len [(.var 3)]) (.bin .add (.bi .len [(.var 1)]) (.cInt 1))))
     [.ret (.cBool false)]
     [],
   .asg 4 (.lst false []),
   .asg 5 (.lst true []),
   .asg 6 .cNone,
   .for 7 .rng1 (.bin .add (.bi .len [(.var 1)]) (.cInt 1)) .cNone
     [.asg 4 (.call 87 [(.var 0), (.var 4), (.slice (.var 1) (some (.bi .max2 [(.cInt 0), (.bin .sub (.var 7) (.cInt 1))])) (some (.var 7))), (.var 7), (.cmp .is (.var 6) .cNone)]),
      .ite (.or (.not (.bi .isLst [(.idx (.var 3) (.var 7))])) (.not (.bi .all [(.comp false (.call 71 [(.var 9)]) .val (.idx (.var 3) (.var 7)) .cNone none)])))
        [.ret (.cBool false)]
        [],
      .ite (.cmp .ne (.idx (.var 3) (.var 7)) (.var 4))
        [.ret (.cBool false)]
        [],
      .expr (.app (.var 5) (.var 4)),
      .ite (.call 85 [(.var 0), (.var 4)])
        [.asg 6 (.tup [(.idx (.idx (.var 4) (.neg (.cInt 1))) (.cInt 1)), (.bin .sub (.var 7) (.idx (.idx (.var 4) (.neg (.cInt 1))) (.cInt 1)))])]
        []],
   .expr (.clear (.var 3)),
   .ite (.cmp .ne (.call 81 [(.var 0), (.var 1)]) (.var 5))
     [.ret (.cBool false)]
     [],
   .asg 8 (.call 82 [(.var 0), (.var 1)]),
   .ite (.or (.not (.call 84 [(.call 83 [(.var 0), (.var 1)]), (.var 6)])) (.cmp .ne (.idx (.var 0) (.cInt 1)) (.var 2)))
     [.ret (.cBool false)]
     [],
   .ret (.and (.call 9 [(.var 8)]) (.cmp .eq (.var 8) (.bi .sum [(.comp false (.bi .len [(.var 9)]) .val (.frz (.var 5)) .cNone none)])))]⟩
/-- tried_count(net, text), index 93 -/
noncomputable def d_tried_count : Def := ⟨2, 5,
  [.asg 2 (.dict true),
   .for 3 .rng1 (.bin .add (.bi .len [(.var 1)]) (.cInt 1)) .cNone
     [.asg 4 (.call 45 [(.var 0), (.var 1), (.var 3), (.var 2)]),
      .ite (.cmp .isnot (.var 4) .cNone)
        [.ret (.bin .add (.bi .len [(.var 2)]) (.bi .len [(.var 4)]))]
        []],
   .ret (.bi .len [(.var 2)])]⟩
/-- _law_row_right(_law_row, _law_many, _law_place), index 94 -/
noncomputable def d_l_row_right : Def := ⟨3, 5,
  [.asg 3 (.dict false),
   .ite (.or (.not (.bi .isLst [(.var 0)])) (.cmp .gt (.bi .len [(.var 0)]) (.var 1)))
     [.ret (.cBool false)]
     [],
   .for 4 .val (.var 0) .cNone
     [.ite (.or (.not (.call 71 [(.var 4)])) (.or (.cmp .isin (.idx (.var 4) (.cInt 0)) (.var 3)) (.or (.not (.cmp2 .le .lt (.cInt 0) (.idx (.var 4) (.cInt 0)) (.var 1))) (.not (.cmp2 .le .le (.cInt 0) (.idx (.var 4) (.cInt 1)) (.var 2))))))
        [.ret (.cBool false)]
        [],
      .sto (.var 3) (.idx (.var 4) (.cInt 0)) (.cBool true)],
   .ret (.cBool true)]⟩
/-- _law_tried(_law_net, _law_signs), index 95 -/
noncomputable def d_l_tried : Def := ⟨2, 7,
  [.asg 2 (.dict true),
   .for 3 .rng1 (.bin .add (.bi .len [(.var 1)]) (.cInt 1)) .cNone
     [.asg 4 (.lst true [(.tup [(.idx (.var 0) (.cInt 0)), (.var 3)])]),
      .while (.var 4)
        [.asg 5 (.pop (.var 4)),
         .ite (.cmp .notin (.var 5) (.var 2))
           [.sto (.var 2) (.var 5) (.cBool true),
            .asg 6 (.idx (.idx (.var 0) (.cInt 1)) (.idx (.var 5) (.cInt 0))),
            .ite (.cmp .eq (.idx (.var 6) (.cInt 0)) (.cStr [101, 110, 100]))
              [.ret (.bi .len [(.var 2)])]
              [],
            .ite (.cmp .eq (.idx (.var 6) (.cInt 0)) (.cStr [112, 97, 114, 116]))
              [.expr (.app (.var 4) (.tup [(.idx (.var 6) (.cInt 2)), (.idx (.var 5) (.cInt 1))])),
               .expr (.app (.var 4) (.tup [(.idx (.var 6) (.cInt 1)), (.idx (.var 5) (.cInt 1))]))]
              [.ite (.and (.cmp .lt (.idx (.var 5) (.cInt 1)) (.bi .len [(.var 1)])) (.cmp .eq (.cmp .isin (.idx (.var 1) (.idx (.var 5) (.cInt 1))) (.idx (.var 6) (.cInt 2))) (.idx (.var 6) (.cInt 1))))
                 [.expr (.app (.var 4) (.tup [(.idx (.var 6) (.cInt 3)), (.bin .add (.idx (.var 5) (.cInt 1)) (.cInt 1))]))]
                 []]]
           []]],
   .ret (.bi .len [(.var 2)])]⟩
/-- _law_made_by(_law_cell, _law_made, _law_three), index 96 -/
noncomputable def d_l_made_by : Def := ⟨3, 8,
  [.asg 3 (.idx (.var 1) (.cInt 0)),
   .ite (.cmp .eq (.bin .mod (.var 0) (.cInt 4)) (.cInt 2))
     [.asg 4 (.bin .add (.cInt 2) (.bin .mod (.bin .fdiv (.var 0) (.cInt 4)) (.cInt 1800))),
      .asg 5 (.bin .add (.comp false (.tup [(.cStr [116, 97, 107, 101]), (.cBool true), (.idx (.var 2) (.bin .mod (.var 8) (.cInt 3)))]) .rng1 (.var 4) .cNone none) (.lst false [(.var 3), (.var 3)])),
      .ret (.tup [(.tup [(.cStr [114, 111, 119]), (.bi .tuple [(.var 5)])]), (.cBool false), (.bin .add (.var 4) (.bin .mul (.cInt 2) (.idx (.var 1) (.cInt 2)))), (.bin .add (.cInt 2) (.idx (.var 1) (.cInt 3)))])]
     [],
   .asg 6 (.bin .mod (.bin .fdiv (.var 0) (.cInt 4)) (.cInt 80)),
   .for 7 .rng1 (.var 6) .cNone
     [.asg 3 (.tup [(.cStr [109, 97, 121, 98, 101]), (.var 3), (.cmp .gt (.bin .mod (.var 7) (.cInt 3)) (.cInt 0))])],
   .ret (.tup [(.var 3), (.idx (.var 1) (.cInt 1)), (.bin .add (.idx (.var 1) (.cInt 2)) (.var 6)), (.bin .add (.idx (.var 1) (.cInt 3)) (.var 6))])]⟩
/-- law(_law_script), index 3 -/
noncomputable def d_law_v13 : Def := ⟨1, 16,
  [.asg 1 (.call 2 [(.call 0 [(.var 0), (.cInt 0)])]),
   .asg 2 (.bin .add (.cInt 2) (.bin .fdiv (.bi .len [(.var 0)]) (.cInt 2))),
   .asg 3 (.slice (.slice (.var 0) (some (.cInt 3)) (some (.var 2))) none (some (.cInt 31))),
   .asg 4 (.call 58 [(.slice (.slice (.var 0) (some (.var 2)) none) none (some (.cInt 31))), (.var 1)]),
   .asg 5 (.cmp .eq (.bin .mod (.call 0 [(.var 0), (.cInt 1)]) (.cInt 4)) (.cInt 1)),
   .ite (.var 5)
     [.asg 3 (.slice (.var 3) none (some (.cInt 8))),
      .asg 6 (.bin .add (.cInt 1) (.bin .mod (.bin .fdiv (.call 0 [(.var 0), (.cInt 1)]) (.cInt 4)) (.cInt 7))),
      .for 7 .rng1 (.bin .add (.cInt 40) (.bin .mod (.call 0 [(.var 0), (.cInt 2)]) (.cInt 60))) .cNone
        [.asg 4 (.bin .add (.var 4) (.idx (.var 1) (.bin .mod (.bin .fdiv (.var 7) (.var 6)) (.cInt 2))))],
      .asg 4 (.bin .add (.var 4) (.idx (.var 1) (.cInt 2)))]
     [],
   .asg 8 (.call 8 [(.var 3), (.var 1)]),
   .ite (.var 5)
     [.asg 8 (.tup [(.tup [(.cStr [114, 111, 119]), (.tup [(.idx (.var 8) (.cInt 0)), (.tup [(.cStr [116, 97, 107, 101]), (.cBool true), (.idx (.var 1) (.cInt 2))])])]), (.cBool false), (.bin .add (.idx (.var 8) (.cInt 2)) (.cInt 1)), (.bin .add (.idx (.var 8) (.cInt 3)) (.cInt 1))])]
     [],
   .ite (.cmp .eq (.bin .mod (.call 0 [(.var 0), (.cInt 1)]) (.cInt 4)) (.cInt 2))
     [.asg 8 (.call 96 [(.call 0 [(.var 0), (.cInt 2)]), (.var 8), (.var 1)]),
      .asg 4 (.slice (.var 4) none (some (.cInt 6)))]
     [],
   .asg 9 (.call 42 [(.idx (.var 8) (.cInt 0))]),
   .ite (.cmp .eq (.bin .mod (.call 0 [(.var 0), (.cInt 2)]) (.cInt 2)) (.cInt 1))
     [.asg 9 (.call 69 [(.var 9)])]
     [],
   .asg 10 (.frz (.call 81 [(.var 9), (.var 4)])),
   .ite (.or (.not (.bi .isLst [(.var 10)])) (.cmp .ne (.bi .len [(.var 10)]) (.bin .add (.bi .len [(.var 4)]) (.cInt 1))))
     [.ret (.cBool false)]
     [],
   .for 11 .rng1 (.bi .len [(.var 10)]) .cNone
     [.ite (.not (.call 94 [(.idx (.var 10) (.var 11)), (.bin .add (.idx (.var 8) (.cInt 2)) (.cInt 1)), (.var 11)]))
        [.ret (.cBool false)]
        []],
   .asg 12 (.call 82 [(.var 9), (.var 4)]),
   .asg 13 (.bi .sum [(.comp false (.bi .len [(.var 16)]) .val (.var 10) .cNone none)]),
   .asg 14 (.bin .mul (.bin .add (.idx (.var 8) (.cInt 2)) (.cInt 1)) (.bin .add (.bi .len [(.var 4)]) (.cInt 1))),
   .ite (.or (.not (.call 9 [(.var 12)])) (.or (.cmp .ne (.var 12) (.var 13)) (.cmp .gt (.var 12) (.var 14))))
     [.ret (.cBool false)]
     [],
   .asg 15 (.call 93 [(.var 9), (.var 4)]),
   .ret (.and (.call 9 [(.var 15)]) (.and (.cmp .eq (.var 15) (.call 95 [(.var 9), (.var 4)])) (.cmp .le (.var 15) (.var 14))))]⟩
noncomputable def P13 : List Def := [d_l_cell_at, d_l_sign_by, d_l_three_by, d_law_v13, d_takes, d_l_take_by_v02, d_l_joined_by_v02, d_l_put_by_v02, d_l_tree_by, d_l_whole, d_l_cell_at, d_l_cell_at, d_l_cell_at, d_l_cell_at, d_l_cell_at, d_l_cell_at, d_l_cell_at, d_l_cell_at, d_l_cell_at, d_l_cell_at, d_l_cell_at, d_l_cell_at, d_l_cell_at, d_l_cell_at, d_l_cell_at, d_l_cell_at, d_l_cell_at, d_l_cell_at, d_l_cell_at, d_l_cell_at, d_l_cell_at, d_l_cell_at, d_l_cell_at, d_l_cell_at, d_l_cell_at, d_l_cell_at, d_l_cell_at, d_l_cell_at, d_put, d_led, d_picked, d_parted, d_net_of, d_gone_back, d_taken, d_gone, d_l_cell_at, d_l_cell_at, d_l_cell_at, d_l_cell_at, d_l_cell_at, d_l_cell_at, d_l_cell_at, d_l_cell_at, d_l_cell_at, d_l_cell_at, d_l_cell_at, d_l_cell_at, d_l_text_by, d_l_cell_at, d_l_cell_at, d_l_cell_at, d_l_cell_at, d_l_cell_at, d_l_cell_at, d_l_cell_at, d_l_cell_at, d_l_cell_at, d_l_cell_at, d_l_turned, d_l_cell_at, d_l_pair, d_l_cell_at, d_l_cell_at, d_l_cell_at, d_l_cell_at, d_l_cell_at, d_l_cell_at, d_led_in, d_next_row, d_swept_through, d_rows, d_counted, d_l_cell_at, d_l_cell_at, d_l_cell_at, d_l_cell_at, d_l_cell_at, d_l_cell_at, d_l_cell_at, d_l_cell_at, d_l_cell_at, d_l_cell_at, d_tried_count, d_l_row_right, d_l_tried, d_l_made_by]
noncomputable def GL13 : List V := []
end Mine

namespace Mine
open PySem
noncomputable def t_takes : List (Str × Nat) := [(Str.ofString "inside", 0), (Str.ofString "signs", 1), (Str.ofString "sign", 2)]
noncomputable def t_l_cell_at : List (Str × Nat) := [(Str.ofString "_law_script", 0), (Str.ofString "_law_k", 1)]
noncomputable def t_l_sign_by : List (Str × Nat) := [(Str.ofString "_law_cell", 0), (Str.ofString "_law_some", 1)]
noncomputable def t_l_three_by : List (Str × Nat) := [(Str.ofString "_law_cell", 0)]
noncomputable def t_l_take_by_v02 : List (Str × Nat) := [(Str.ofString "_law_cell", 0), (Str.ofString "_law_three", 1), (Str.ofString "_law_way", 2), (Str.ofString "_law_some", 3), (Str.ofString "_law_many", 4), (Str.ofString "_law_k", 5)]
noncomputable def t_l_joined_by_v02 : List (Str × Nat) := [(Str.ofString "_law_way", 0), (Str.ofString "_law_stack", 1), (Str.ofString "_law_many", 2), (Str.ofString "_law_parts", 3), (Str.ofString "_law_kept", 4), (Str.ofString "_law_tree", 5), (Str.ofString "_law_is_bare", 6), (Str.ofString "_law_count", 7), (Str.ofString "_law_deep", 8)]
noncomputable def t_l_put_by_v02 : List (Str × Nat) := [(Str.ofString "_law_stack", 0), (Str.ofString "_law_cell", 1), (Str.ofString "_law_three", 2), (Str.ofString "_law_way", 3), (Str.ofString "_law_rest", 4), (Str.ofString "_law_high", 5), (Str.ofString "_law_last", 6), (Str.ofString "_law_many", 7)]
noncomputable def t_l_tree_by : List (Str × Nat) := [(Str.ofString "_law_cells", 0), (Str.ofString "_law_three", 1), (Str.ofString "_law_stack", 2), (Str.ofString "_law_cell", 3)]
noncomputable def t_l_whole : List (Str × Nat) := [(Str.ofString "_law_found", 0)]
noncomputable def t_put : List (Str × Nat) := [(Str.ofString "steps", 0), (Str.ofString "step", 1)]
noncomputable def t_led : List (Str × Nat) := [(Str.ofString "steps", 0), (Str.ofString "tree", 1), (Str.ofString "then", 2), (Str.ofString "part", 3), (Str.ofString "number", 4), (Str.ofString "inner", 5)]
noncomputable def t_picked : List (Str × Nat) := [(Str.ofString "steps", 0), (Str.ofString "parts", 1), (Str.ofString "then", 2), (Str.ofString "firsts", 3), (Str.ofString "found", 4), (Str.ofString "first", 5)]
noncomputable def t_parted : List (Str × Nat) := [(Str.ofString "inner", 0), (Str.ofString "then", 1), (Str.ofString "eager", 2)]
noncomputable def t_net_of : List (Str × Nat) := [(Str.ofString "tree", 0), (Str.ofString "steps", 1), (Str.ofString "first", 2)]
noncomputable def t_gone_back : List (Str × Nat) := [(Str.ofString "way", 0), (Str.ofString "choices", 1), (Str.ofString "dead", 2)]
noncomputable def t_taken : List (Str × Nat) := [(Str.ofString "step", 0), (Str.ofString "text", 1), (Str.ofString "at", 2)]
noncomputable def t_gone : List (Str × Nat) := [(Str.ofString "net", 0), (Str.ofString "text", 1), (Str.ofString "place", 2), (Str.ofString "dead", 3), (Str.ofString "steps", 4), (Str.ofString "way", 5), (Str.ofString "choices", 6), (Str.ofString "number", 7), (Str.ofString "at", 8), (Str.ofString "stuck", 9), (Str.ofString "step", 10)]
noncomputable def t_l_text_by : List (Str × Nat) := [(Str.ofString "_law_cells", 0), (Str.ofString "_law_three", 1), (Str.ofString "_law_some", 2), (Str.ofString "_law_cell", 3), (Str.ofString "_law_sign", 4)]
noncomputable def t_l_turned : List (Str × Nat) := [(Str.ofString "_law_net", 0), (Str.ofString "_law_last", 1), (Str.ofString "_law_steps", 2), (Str.ofString "_law_step", 3)]
noncomputable def t_l_pair : List (Str × Nat) := [(Str.ofString "_law_found", 0)]
noncomputable def t_led_in : List (Str × Nat) := [(Str.ofString "steps", 0), (Str.ofString "row", 1), (Str.ofString "there", 2), (Str.ofString "number", 3), (Str.ofString "begin", 4), (Str.ofString "waiting", 5), (Str.ofString "step", 6)]
noncomputable def t_next_row : List (Str × Nat) := [(Str.ofString "net", 0), (Str.ofString "ahead", 1), (Str.ofString "sign", 2), (Str.ofString "fresh", 3), (Str.ofString "place", 4), (Str.ofString "steps", 5), (Str.ofString "row", 6), (Str.ofString "there", 7), (Str.ofString "pair", 8), (Str.ofString "step", 9)]
noncomputable def t_swept_through : List (Str × Nat) := [(Str.ofString "net", 0), (Str.ofString "text", 1), (Str.ofString "found", 2), (Str.ofString "noted", 3), (Str.ofString "ahead", 4), (Str.ofString "place", 5), (Str.ofString "sign", 6), (Str.ofString "made", 7)]
noncomputable def t_rows : List (Str × Nat) := [(Str.ofString "net", 0), (Str.ofString "text", 1)]
noncomputable def t_counted : List (Str × Nat) := [(Str.ofString "net", 0), (Str.ofString "text", 1)]
noncomputable def t_tried_count : List (Str × Nat) := [(Str.ofString "net", 0), (Str.ofString "text", 1), (Str.ofString "dead", 2), (Str.ofString "place", 3), (Str.ofString "way", 4)]
noncomputable def t_l_row_right : List (Str × Nat) := [(Str.ofString "_law_row", 0), (Str.ofString "_law_many", 1), (Str.ofString "_law_place", 2), (Str.ofString "_law_seen", 3), (Str.ofString "_law_pair_here", 4)]
noncomputable def t_l_tried : List (Str × Nat) := [(Str.ofString "_law_net", 0), (Str.ofString "_law_signs", 1), (Str.ofString "_law_known", 2), (Str.ofString "_law_place", 3), (Str.ofString "_law_waiting", 4), (Str.ofString "_law_here", 5), (Str.ofString "_law_step", 6)]
noncomputable def t_l_made_by : List (Str × Nat) := [(Str.ofString "_law_cell", 0), (Str.ofString "_law_made", 1), (Str.ofString "_law_three", 2), (Str.ofString "_law_tree", 3), (Str.ofString "_law_many", 4), (Str.ofString "_law_parts", 5), (Str.ofString "_law_deep", 6), (Str.ofString "_law_k", 7)]
noncomputable def t_law_v13 : List (Str × Nat) := [(Str.ofString "_law_script", 0), (Str.ofString "_law_three", 1), (Str.ofString "_law_half", 2), (Str.ofString "_law_cells", 3), (Str.ofString "_law_signs", 4), (Str.ofString "_law_long", 5), (Str.ofString "_law_turn", 6), (Str.ofString "_law_k", 7), (Str.ofString "_law_made", 8), (Str.ofString "_law_net", 9), (Str.ofString "_law_found", 10), (Str.ofString "_law_place", 11), (Str.ofString "_law_many", 12), (Str.ofString "_law_total", 13), (Str.ofString "_law_most", 14), (Str.ofString "_law_tries", 15)]
noncomputable def TB13 : List (List (Str × Nat)) := [t_l_cell_at, t_l_sign_by, t_l_three_by, t_law_v13, t_takes, t_l_take_by_v02, t_l_joined_by_v02, t_l_put_by_v02, t_l_tree_by, t_l_whole, t_l_cell_at, t_l_cell_at, t_l_cell_at, t_l_cell_at, t_l_cell_at, t_l_cell_at, t_l_cell_at, t_l_cell_at, t_l_cell_at, t_l_cell_at, t_l_cell_at, t_l_cell_at, t_l_cell_at, t_l_cell_at, t_l_cell_at, t_l_cell_at, t_l_cell_at, t_l_cell_at, t_l_cell_at, t_l_cell_at, t_l_cell_at, t_l_cell_at, t_l_cell_at, t_l_cell_at, t_l_cell_at, t_l_cell_at, t_l_cell_at, t_l_cell_at, t_put, t_led, t_picked, t_parted, t_net_of, t_gone_back, t_taken, t_gone, t_l_cell_at, t_l_cell_at, t_l_cell_at, t_l_cell_at, t_l_cell_at, t_l_cell_at, t_l_cell_at, t_l_cell_at, t_l_cell_at, t_l_cell_at, t_l_cell_at, t_l_cell_at, t_l_text_by, t_l_cell_at, t_l_cell_at, t_l_cell_at, t_l_cell_at, t_l_cell_at, t_l_cell_at, t_l_cell_at, t_l_cell_at, t_l_cell_at, t_l_cell_at, t_l_turned, t_l_cell_at, t_l_pair, t_l_cell_at, t_l_cell_at, t_l_cell_at, t_l_cell_at, t_l_cell_at, t_l_cell_at, t_led_in, t_next_row, t_swept_through, t_rows, t_counted, t_l_cell_at, t_l_cell_at, t_l_cell_at, t_l_cell_at, t_l_cell_at, t_l_cell_at, t_l_cell_at, t_l_cell_at, t_l_cell_at, t_l_cell_at, t_tried_count, t_l_row_right, t_l_tried, t_l_made_by]
noncomputable def NM13 : Nm := ⟨[Str.ofString "_law_cell_at", Str.ofString "_law_sign_by", Str.ofString "_law_three_by", Str.ofString "law", Str.ofString "takes", Str.ofString "_law_take_by", Str.ofString "_law_joined_by", Str.ofString "_law_put_by", Str.ofString "_law_tree_by", Str.ofString "_law_whole", Str.ofString "_law_cell_at", Str.ofString "_law_cell_at", Str.ofString "_law_cell_at", Str.ofString "_law_cell_at", Str.ofString "_law_cell_at", Str.ofString "_law_cell_at", Str.ofString "_law_cell_at", Str.ofString "_law_cell_at", Str.ofString "_law_cell_at", Str.ofString "_law_cell_at", Str.ofString "_law_cell_at", Str.ofString "_law_cell_at", Str.ofString "_law_cell_at", Str.ofString "_law_cell_at", Str.ofString "_law_cell_at", Str.ofString "_law_cell_at", Str.ofString "_law_cell_at", Str.ofString "_law_cell_at", Str.ofString "_law_cell_at", Str.ofString "_law_cell_at", Str.ofString "_law_cell_at", Str.ofString "_law_cell_at", Str.ofString "_law_cell_at", Str.ofString "_law_cell_at", Str.ofString "_law_cell_at", Str.ofString "_law_cell_at", Str.ofString "_law_cell_at", Str.ofString "_law_cell_at", Str.ofString "put", Str.ofString "led", Str.ofString "picked", Str.ofString "parted", Str.ofString "net_of", Str.ofString "gone_back", Str.ofString "taken", Str.ofString "gone", Str.ofString "_law_cell_at", Str.ofString "_law_cell_at", Str.ofString "_law_cell_at", Str.ofString "_law_cell_at", Str.ofString "_law_cell_at", Str.ofString "_law_cell_at", Str.ofString "_law_cell_at", Str.ofString "_law_cell_at", Str.ofString "_law_cell_at", Str.ofString "_law_cell_at", Str.ofString "_law_cell_at", Str.ofString "_law_cell_at", Str.ofString "_law_text_by", Str.ofString "_law_cell_at", Str.ofString "_law_cell_at", Str.ofString "_law_cell_at", Str.ofString "_law_cell_at", Str.ofString "_law_cell_at", Str.ofString "_law_cell_at", Str.ofString "_law_cell_at", Str.ofString "_law_cell_at", Str.ofString "_law_cell_at", Str.ofString "_law_cell_at", Str.ofString "_law_turned", Str.ofString "_law_cell_at", Str.ofString "_law_pair", Str.ofString "_law_cell_at", Str.ofString "_law_cell_at", Str.ofString "_law_cell_at", Str.ofString "_law_cell_at", Str.ofString "_law_cell_at", Str.ofString "_law_cell_at", Str.ofString "led_in", Str.ofString "next_row", Str.ofString "swept_through", Str.ofString "rows", Str.ofString "counted", Str.ofString "_law_cell_at", Str.ofString "_law_cell_at", Str.ofString "_law_cell_at", Str.ofString "_law_cell_at", Str.ofString "_law_cell_at", Str.ofString "_law_cell_at", Str.ofString "_law_cell_at", Str.ofString "_law_cell_at", Str.ofString "_law_cell_at", Str.ofString "_law_cell_at", Str.ofString "tried_count", Str.ofString "_law_row_right", Str.ofString "_law_tried", Str.ofString "_law_made_by"], []⟩
end Mine

namespace Mine

theorem callF_eq {gl : List V} {P : List Def} {f : Nat} {D : Def} (hD : P[f]? = some D) {args : List V} (hl : args.length = D.np) (d : Nat) (σ : Sg) :
    callF gl P (d + 1) f args σ = (exB gl (callF gl P d) D.body (args ++ List.replicate (D.nl - D.np) .undef) σ).bind fun p σ => .ok (flV p.1) σ := by
  rw [callF_succ, hD]
  exact if_pos hl

theorem small_of {i : Int} (h1 : -4611686018427387904 < i) (h2 : i < 4611686018427387904) : small i = true := by
  unfold small; exact Nat.ble_eq_true_of_le (by (first | lia | omega))

theorem vIdx_nat {σ : Sg} {v : V} {xs : List V} {i : Int} {k : Nat} {x : V} (hs : getSeq σ v = some xs) (hi : i = (k : Int)) (hk : xs[k]? = some x) (hl : xs.length < 4611686018427387904) : vIdx σ v (.int i) = some x := by
  subst hi
  have hlt : k < xs.length := (List.getElem?_eq_some_iff.mp hk).1
  unfold vIdx
  have hsm : small (k : Int) = true := small_of (by (first | lia | omega)) (by (first | lia | omega))
  have hn : nIdx (k : Int) xs.length = some k := by
    unfold nIdx
    rw [if_pos (by (first | lia | omega)), if_pos (by (first | lia | omega))]
    simp
  simp [hsm, hs, hn, hk]

theorem vIdx_last {σ : Sg} {v : V} {xs : List V} {i : Int} {x : V} (hs : getSeq σ v = some xs) (hi : i = -1) (hk : xs.getLast? = some x) : vIdx σ v (.int i) = some x := by
  subst hi
  cases xs with
  | nil => simp at hk
  | cons a r =>
    unfold vIdx
    have hsm : small (-1) = true := by decide
    have hn : nIdx (-1) (a :: r).length = some r.length := by
      unfold nIdx
      rw [if_neg (by (first | lia | omega)), if_pos (by simp only [List.length_cons]; (first | lia | omega))]
      congr 1
      simp only [List.length_cons]; (first | lia | omega)
    have hg : (a :: r)[r.length]? = some x := by
      rw [List.getLast?_eq_getElem?] at hk
      simpa using hk
    simp only [hsm, hs, if_true, Option.bind_some, hn]
    exact hg

theorem vBin_fdiv {σ : Sg} {a b : Int} (hb : small b = true) (h0 : b ≠ 0) : vBin σ .fdiv (.int a) (.int b) = some (.int (a.fdiv b)) := by
  show (if small b && b != 0 then some (V.int (a.fdiv b)) else none) = _
  rw [hb, bne_iff_ne.mpr h0]; rfl
theorem vBin_mod {σ : Sg} {a b : Int} (h0 : b ≠ 0) : vBin σ .mod (.int a) (.int b) = some (.int (a.fmod b)) := by
  show (if b != 0 then some (V.int (a.fmod b)) else none) = _
  rw [bne_iff_ne.mpr h0]; rfl
theorem vBin_mul {σ : Sg} {a b : Int} (hb : (small a || small b) = true) : vBin σ .mul (.int a) (.int b) = some (.int (a * b)) := by
  show (if small a || small b then some (V.int (a * b)) else none) = _
  rw [hb]; rfl
theorem vBin_add {σ : Sg} {a b : Int} : vBin σ .add (.int a) (.int b) = some (.int (a + b)) := rfl
theorem vBin_sub {σ : Sg} {a b : Int} : vBin σ .sub (.int a) (.int b) = some (.int (a - b)) := rfl
theorem vBin_addS {σ : Sg} {a b : List Nat} (h : a.length + b.length ≤ roomy) : vBin σ .add (.str a) (.str b) = some (.str (a ++ b)) := by
  show (if a.length + b.length ≤ roomy then some (V.str (a ++ b)) else none) = _
  rw [if_pos h]
theorem vBin_addL {σ : Sg} {a b : List V} (h : a.length + b.length ≤ roomy) : vBin σ .add (.lst a) (.lst b) = some (.lst (a ++ b)) := by
  show addL a b = _
  rw [addL, if_pos h]

section
variable {σ : Sg}
theorem bi_len_l {xs : List V} : vBi σ .len [.lst xs] = some (.int (xs.length : Int)) := rfl
theorem lt_ii {a b : Int} : vCmp σ .lt (.int a) (.int b) = some (decide (a < b)) := rfl
theorem true_b {b : Bool} : vTrue σ (.bool b) = some b := rfl
end

theorem cell_ok {σ : Sg} {xs : List Int} {k : Nat} (hk : k < xs.length) (hx : xs.length ≤ 63) : vIdx σ (.lst (xs.map V.int)) (.int (k : Int)) = some (.int (xs.getD k 0)) := by
  refine vIdx_nat (xs := xs.map V.int) rfl rfl ?_ (by rw [List.length_map]; (first | lia | omega))
  rw [List.getElem?_map, List.getElem?_eq_getElem hk, List.getD_eq_getElem?_getD, List.getElem?_eq_getElem hk]
  rfl

/-- the signs of the laws -/
noncomputable def signs : List Nat := [32, 33, 34, 35, 36, 38, 39, 40, 41, 42, 43, 44, 45, 46, 47, 48, 49, 50, 51, 52, 53, 54, 55, 56, 57, 58, 59, 60, 61, 62, 63, 64, 65, 66, 67, 68, 69, 70, 71, 72, 73, 74, 75, 76, 77, 78, 79, 80, 81, 82, 83, 84, 85, 86, 87, 88, 89, 90, 91, 92, 93, 94, 95, 96,
  97, 98, 99, 100, 101, 102, 103, 104, 105, 106, 107, 108, 109, 110, 111, 112, 113, 114, 115, 116, 117, 118, 119, 120, 121, 122, 123, 124, 125, 126, 10, 9]
noncomputable def sign (c : Int) : Nat := signs.getD (c.fmod 96).toNat 0

theorem fmod_range (a : Int) {b : Int} (hb : 0 < b) : 0 ≤ a.fmod b ∧ a.fmod b < b := ⟨Int.fmod_nonneg_of_pos a hb, Int.fmod_lt_of_pos a hb⟩

theorem sign_idx {σ : Sg} (c : Int) : vIdx σ (.str signs) (.int (c.fmod 96)) = some (.str [sign c]) := by
  obtain ⟨h1, h2⟩ := fmod_range c (b := 96) (by decide)
  have hlt : (c.fmod 96).toNat < signs.length := by show _ < 96; (first | lia | omega)
  refine vIdx_nat (k := (c.fmod 96).toNat) (xs := signs.map fun c => V.str [c]) rfl (by (first | lia | omega)) ?_ (by decide)
  rw [List.getElem?_map, List.getElem?_eq_getElem hlt]
  unfold sign
  rw [List.getD_eq_getElem?_getD, List.getElem?_eq_getElem hlt]
  rfl
end Mine

namespace Mine

structure HS (P : List Def) : Prop where
  c : P[0]? = some d_l_cell_at
  s : P[1]? = some d_l_sign_by
  t : P[2]? = some d_l_three_by

section
variable {gl : List V} {P : List Def} {d : Nat} {σ : Sg}

theorem cell_test {cf : CF} {ys : List V} {k : Int} : evE gl cf (.cmp .lt (.var 1) (.bi .len [(.var 0)])) [.lst ys, .int k] σ = .ok (.bool (decide (k < ys.length))) σ := by
  simp only [evE_cmp, evE_var, evE_bi, evEs_cons, evEs_nil, getV, List.getElem?_cons_zero, List.getElem?_cons_succ, of_some, bind_ok, bi_len_l, lt_ii]
theorem call_cell0 (H : HS P) {ys : List V} {k : Int} (hk : ¬ k < ys.length) : callF gl P (d + 1) 0 [.lst ys, .int k] σ = .ok (.int 0) σ := by
  rw [callF_eq H.c rfl]
  show (exB gl (callF gl P d) d_l_cell_at.body [.lst ys, .int k] σ).bind _ = _
  unfold d_l_cell_at
  rw [exB_cons0, exS_ite0, cell_test, bind_ok, true_b, of_some, bind_ok, decide_eq_false hk, if_neg Bool.false_ne_true]
  rfl
theorem call_cell1 (H : HS P) {ys : List V} {k : Int} {v : V} (hk : k < ys.length) (h1 : vIdx σ (.lst ys) (.int k) = some v) : callF gl P (d + 1) 0 [.lst ys, .int k] σ = .ok v σ := by
  rw [callF_eq H.c rfl]
  show (exB gl (callF gl P d) d_l_cell_at.body [.lst ys, .int k] σ).bind _ = _
  unfold d_l_cell_at
  have h2 : evE gl (callF gl P d) (.idx (.var 0) (.var 1)) [.lst ys, .int k] σ = .ok v σ := by
    simp only [evE_idx, evE_var, getV, List.getElem?_cons_zero, List.getElem?_cons_succ, of_some, bind_ok, h1]
  rw [exB_cons0, exS_ite0, cell_test, bind_ok, true_b, of_some, bind_ok, decide_eq_true hk, if_pos rfl, exB_cons0, exS_ret0, h2]
  rfl

theorem call_cell (H : HS P) {xs : List Int} (hx : xs.length ≤ 63) {i : Int} (k : Nat) (hi : i = (k : Int)) : callF gl P (d + 1) 0 [.lst (xs.map V.int), .int i] σ = .ok (.int (xs.getD k 0)) σ := by
  subst hi
  by_cases hk : k < xs.length
  · exact call_cell1 H (by rw [List.length_map]; (first | lia | omega)) (cell_ok hk hx)
  · have h3 : xs.getD k 0 = 0 := by rw [List.getD_eq_getElem?_getD, List.getElem?_eq_none (Nat.le_of_not_lt hk)]; rfl
    rw [h3]
    exact call_cell0 H (by rw [List.length_map]; (first | lia | omega))

theorem sign_body {cf : CF} {a b : List Nat} {c : Int} (h : a ++ b = signs) (hl : a.length + b.length ≤ roomy) : exB gl cf [.asg 1 (.cStr a), .asg 1 (.bin .add (.var 1) (.cStr b)), .ret (.idx (.var 1) (.bin .mod (.var 0) (.cInt 96)))] [.int c, .undef] σ = .ok (.ret (.str [sign c]), [.int c, .str signs]) σ := by
  have h1 : evE gl cf (.bin .add (.var 1) (.cStr b)) [.int c, .str a] σ = .ok (.str signs) σ := by
    simp only [evE_bin, evE_cStr, evE_var, getV, List.getElem?_cons_zero, List.getElem?_cons_succ, of_some, bind_ok, vBin_addS hl, h]
  have h2 : evE gl cf (.idx (.var 1) (.bin .mod (.var 0) (.cInt 96))) [.int c, .str signs] σ = .ok (.str [sign c]) σ := by
    simp only [evE_idx, evE_bin, evE_cInt, evE_var, getV, List.getElem?_cons_zero, List.getElem?_cons_succ, of_some, bind_ok, vBin_mod (a := c) (b := 96) (σ := σ) (by decide), sign_idx]
  rw [exB_cons0, exS_asg0, evE_cStr, bind_ok, bind_ok]
  show exB gl cf _ [.int c, .str a] σ = _
  rw [exB_cons0, exS_asg0, h1, bind_ok, bind_ok]
  show exB gl cf _ [.int c, .str signs] σ = _
  rw [exB_cons0, exS_ret0, h2, bind_ok, bind_ok]
theorem call_sign (H : HS P) (c : Int) : callF gl P (d + 1) 1 [.int c] σ = .ok (.str [sign c]) σ := by
  rw [callF_eq H.s rfl]
  have h : exB gl (callF gl P d) d_l_sign_by.body [.int c, .undef] σ = .ok (.ret (.str [sign c]), [.int c, .str signs]) σ := by
    refine sign_body ?_ ?_
    · rfl
    · decide
  exact congrArg (fun r => Res.bind r fun p σ => Res.ok (flV p.1) σ) h

theorem call_three (H : HS P) (c : Int) : callF gl P (d + 2) 2 [.int c] σ = .ok (.str [sign c, sign (c + 31), sign (c + 62)]) σ := by
  rw [callF_eq H.t rfl]
  show (exB gl (callF gl P (d + 1)) d_l_three_by.body [.int c] σ).bind _ = _
  have h2 : evE gl (callF gl P (d + 1)) (.bin .add (.bin .add (.call 1 [(.var 0)]) (.call 1 [(.bin .add (.var 0) (.cInt 31))])) (.call 1 [(.bin .add (.var 0) (.cInt 62))])) [.int c] σ = .ok (.str [sign c, sign (c + 31), sign (c + 62)]) σ := by
    simp only [evE_call, evEs_cons, evEs_nil, evE_bin, evE_cInt, evE_var, getV, List.getElem?_cons_zero, List.getElem?_cons_succ, of_some, bind_ok, vBin_add, call_sign H, vBin_addS (a := [sign c]) (b := [sign (c + 31)]) (σ := σ) (by simp [roomy]), vBin_addS (a := [sign c] ++ [sign (c + 31)]) (b := [sign (c + 62)]) (σ := σ) (by simp [roomy])]
    rfl
  unfold d_l_three_by
  rw [exB_cons0, exS_ret0, h2]
  rfl
end
end Mine

namespace Mine

section
variable {gl : List V} {cf : CF} {σ σ' : Sg} {Γ Γ' : Fm} {s : St} {r : List St} {e e' : Ex} {v u w : V} {f : Fl} {i : Nat}

theorem exB_next (h : exS gl cf s Γ σ = .ok (.next, Γ') σ') : exB gl cf (s :: r) Γ σ = exB gl cf r Γ' σ' := by rw [exB_cons0, h, bind_ok]
theorem exB_ret (h : exS gl cf s Γ σ = .ok (.ret v, Γ') σ') : exB gl cf (s :: r) Γ σ = .ok (.ret v, Γ') σ' := by rw [exB_cons0, h, bind_ok]
theorem exS_asg (h : evE gl cf e Γ σ = .ok v σ') : exS gl cf (.asg i e) Γ σ = .ok (.next, Γ.set i v) σ' := by rw [exS_asg0, h, bind_ok]
theorem exS_ret (h : evE gl cf e Γ σ = .ok v σ') : exS gl cf (.ret e) Γ σ = .ok (.ret v, Γ) σ' := by rw [exS_ret0, h, bind_ok]
theorem exS_expr (h : evE gl cf e Γ σ = .ok v σ') : exS gl cf (.expr e) Γ σ = .ok (.next, Γ) σ' := by rw [exS_expr0, h, bind_ok]
theorem exS_ite {a b : List St} {t : Bool} (h : evE gl cf e Γ σ = .ok v σ') (ht : vTrue σ' v = some t) : exS gl cf (.ite e a b) Γ σ = if t then exB gl cf a Γ σ' else exB gl cf b Γ σ' := by rw [exS_ite0, h, bind_ok, ht, of_some, bind_ok]
theorem exS_for {ik : IK} {a b : Ex} {body : List St} {σ₁ σ₂ : Sg} {x y : V} {items : List V} (h1 : evE gl cf a Γ σ = .ok x σ₁) (h2 : evE gl cf b Γ σ₁ = .ok y σ₂) (h3 : vItems ik x y = some items) :
    exS gl cf (.for i ik a b body) Γ σ = forGo (exB gl cf body) i items Γ σ₂ := by rw [exS_for0, h1, bind_ok, h2, bind_ok, h3, of_some, bind_ok]
theorem callF_ret {P : List Def} {f : Nat} {D : Def} {args : List V} {d : Nat} (hD : P[f]? = some D) (hl : args.length = D.np) (h : exB gl (callF gl P d) D.body (args ++ List.replicate (D.nl - D.np) .undef) σ = .ok (.ret v, Γ') σ') : callF gl P (d + 1) f args σ = .ok v σ' := by
  rw [callF_eq hD hl, h, bind_ok]; rfl

theorem rangeL_nat (n : Nat) : rangeL 0 (n : Int) = (List.range n).map fun (k : Nat) => V.int (k : Int) := by
  unfold rangeL
  rw [show ((n : Int) - 0).toNat = n by (first | lia | omega)]
  simp

theorem items_rng {n : Nat} (hn : n < 4611686018427387904) : vItems .rng1 (.int (n : Int)) .none = some ((List.range n).map fun (k : Nat) => V.int (k : Int)) := by
  have h : small (n : Int) = true := small_of (by (first | lia | omega)) (by (first | lia | omega))
  simp only [vItems, h, if_true, rangeL_nat]

end
end Mine

namespace Mine

section
variable {gl : List V} {cf : CF} {σ σ' : Sg} {Γ Γ' : Fm}

theorem exS_iteT {e : Ex} {a b : List St} {v : V} (h : evE gl cf e Γ σ = .ok v σ') (ht : vTrue σ' v = some true) : exS gl cf (.ite e a b) Γ σ = exB gl cf a Γ σ' := (exS_ite h ht).trans (if_pos rfl)
theorem exS_iteF {e : Ex} {a b : List St} {v : V} (h : evE gl cf e Γ σ = .ok v σ') (ht : vTrue σ' v = some false) : exS gl cf (.ite e a b) Γ σ = exB gl cf b Γ σ' := (exS_ite h ht).trans (if_neg Bool.false_ne_true)
/-- a test that fails, with nothing on the other side -/
theorem exB_skip {e : Ex} {a r : List St} {v : V} (h : evE gl cf e Γ σ = .ok v σ') (ht : vTrue σ' v = some false) : exB gl cf (.ite e a [] :: r) Γ σ = exB gl cf r Γ σ' := exB_next ((exS_iteF h ht).trans exB_nil0)
/-- a test that holds, whose block returns -/
theorem exB_take {e : Ex} {a b r : List St} {v w : V} {σ₂ : Sg} (h : evE gl cf e Γ σ = .ok v σ') (ht : vTrue σ' v = some true) (hr : exB gl cf a Γ σ' = .ok (.ret w, Γ') σ₂) : exB gl cf (.ite e a b :: r) Γ σ = .ok (.ret w, Γ') σ₂ := exB_ret ((exS_iteT h ht).trans hr)
theorem exB_into {e : Ex} {a b r : List St} {v : V} {σ₂ : Sg} (h : evE gl cf e Γ σ = .ok v σ') (ht : vTrue σ' v = some true) (hr : exB gl cf a Γ σ' = .ok (.next, Γ') σ₂) : exB gl cf (.ite e a b :: r) Γ σ = exB gl cf r Γ' σ₂ := exB_next ((exS_iteT h ht).trans hr)
theorem exB_asg {i : Nat} {e : Ex} {r : List St} {v : V} (h : evE gl cf e Γ σ = .ok v σ') : exB gl cf (.asg i e :: r) Γ σ = exB gl cf r (Γ.set i v) σ' := exB_next (exS_asg h)
theorem exB_rets {e : Ex} {r : List St} {v : V} (h : evE gl cf e Γ σ = .ok v σ') : exB gl cf (.ret e :: r) Γ σ = .ok (.ret v, Γ) σ' := exB_ret (exS_ret h)
theorem forGo_next {body : Fm → Sg → Res (Fl × Fm)} {i : Nat} {x : V} {r : List V} (h : body (Γ.set i x) σ = .ok (.next, Γ') σ') : forGo body i (x :: r) Γ σ = forGo body i r Γ' σ' := by rw [forGo_cons, h, bind_ok]
theorem forGo_ret {body : Fm → Sg → Res (Fl × Fm)} {i : Nat} {x v : V} {r : List V} (h : body (Γ.set i x) σ = .ok (.ret v, Γ') σ') : forGo body i (x :: r) Γ σ = .ok (.ret v, Γ') σ' := by rw [forGo_cons, h, bind_ok]

theorem tup2 {a b : V} {x : V} : (if [a, b].length ≤ roomy then (Res.ok x σ : Res V) else .bad) = .ok x σ := if_pos (by simp [roomy])
theorem tup3 {a b c : V} {x : V} : (if [a, b, c].length ≤ roomy then (Res.ok x σ : Res V) else .bad) = .ok x σ := if_pos (by simp [roomy])
theorem tup4 {a b c d : V} {x : V} : (if [a, b, c, d].length ≤ roomy then (Res.ok x σ : Res V) else .bad) = .ok x σ := if_pos (by simp [roomy])
theorem tup0 {x : V} : (if ([] : List V).length ≤ roomy then (Res.ok x σ : Res V) else .bad) = .ok x σ := if_pos (by simp [roomy])
theorem putL_f {xs : List V} (h : xs.length ≤ roomy) : putL false xs σ = .ok (.lst xs) σ := by rw [putL, if_pos h]; rfl
theorem putL_1 {x : V} : putL false [x] σ = .ok (.lst [x]) σ := putL_f (by simp [roomy])
theorem putL_0 : putL false [] σ = .ok (.lst []) σ := putL_f (by simp [roomy])

theorem compGo_M {α : Type} {elt : Fm → Sg → Res V} {h k : α → V} : ∀ {l : List α} {acc : List V}, (∀ z ∈ l, elt (Γ ++ [h z]) σ = .ok (k z) σ) → compGo (evT gl cf none) elt Γ (l.map h) acc σ = .ok (acc ++ l.map k) σ
  | [], acc, _ => by rw [List.map_nil, List.map_nil, List.append_nil]; rfl
  | z :: r, acc, H => by
    rw [List.map_cons, compGo_cons, evT_none, bind_ok, if_pos rfl, H z List.mem_cons_self, bind_ok, compGo_M fun y hy => H y (List.mem_cons_of_mem _ hy)]
    simp
theorem evE_compM {α : Type} {l : List α} {h k : α → V} {elt : Ex} {ik : IK} {a b : Ex} {σ₁ σ₂ : Sg} {x y : V} (h1 : evE gl cf a Γ σ = .ok x σ₁) (h2 : evE gl cf b Γ σ₁ = .ok y σ₂) (h3 : vItems ik x y = some (l.map h))
    (he : ∀ z ∈ l, evE gl cf elt (Γ ++ [h z]) σ₂ = .ok (k z) σ₂) (hn : l.length ≤ roomy) : evE gl cf (.comp false elt ik a b none) Γ σ = .ok (.lst (l.map k)) σ₂ := by
  rw [evE_comp0, h1, bind_ok, h2, bind_ok, h3, of_some, bind_ok, compGo_M he, bind_ok, List.nil_append, putL_f (by rw [List.length_map]; exact hn)]

theorem bi_len_s {xs : List Nat} : vBi σ .len [.str xs] = some (.int (xs.length : Int)) := rfl
theorem bi_tuple {xs : List V} : vBi σ .tuple [.lst xs] = some (.tup xs) := rfl
theorem boolsV_map {α : Type} {g : α → Bool} : ∀ (l : List α), boolsV (l.map fun x => V.bool (g x)) = some (l.map g)
  | [] => rfl
  | x :: r => by rw [List.map_cons, boolsV, boolsV_map r]; rfl
theorem intsV_map {α : Type} {g : α → Int} : ∀ (l : List α), intsV (l.map fun x => V.int (g x)) = some (l.map g)
  | [] => rfl
  | x :: r => by rw [List.map_cons, intsV, intsV_map r]; rfl
theorem bi_all {α : Type} {g : α → Bool} {l : List α} : vBi σ .all [.lst (l.map fun x => V.bool (g x))] = some (.bool (l.all g)) := by
  show ((boolsV _).map fun l => V.bool (l.all id)) = _
  rw [boolsV_map, Option.map_some, List.all_map]; rfl
theorem bi_any {α : Type} {g : α → Bool} {l : List α} : vBi σ .any [.lst (l.map fun x => V.bool (g x))] = some (.bool (l.any g)) := by
  show ((boolsV _).map fun l => V.bool (l.any id)) = _
  rw [boolsV_map, Option.map_some, List.any_map]; rfl
theorem bi_sum {α : Type} {g : α → Int} {l : List α} : vBi σ .sum [.lst (l.map fun x => V.int (g x))] = some (.int (l.map g).sum) := by
  show ((intsV _).map fun l => V.int l.sum) = _
  rw [intsV_map]; rfl
theorem bi_max {α : Type} {g : α → Int} {l : List α} {i : Int} {r : List Int} (h : l.map g = i :: r) : vBi σ .max1 [.lst (l.map fun x => V.int (g x))] = some (.int (r.foldl max i)) := by
  show ((intsV _).bind vMax) = _
  rw [intsV_map, h]; rfl
theorem bi_min2 {a b : Int} : vBi σ .min2 [.int a, .int b] = some (.int (min a b)) := rfl
theorem bi_int {b : Bool} : vBi σ .int [.bool b] = some (.int (if b then 1 else 0)) := rfl
theorem eq_ii {a b : Int} : vCmp σ .eq (.int a) (.int b) = some (a == b) := rfl
theorem eq_ss {a b : List Nat} : vCmp σ .eq (.str a) (.str b) = some (a == b) := rfl
theorem ne_ii {a b : Int} : vCmp σ .ne (.int a) (.int b) = some (!(a == b)) := rfl
theorem le_ii {a b : Int} : vCmp σ .le (.int a) (.int b) = some (decide (a ≤ b)) := rfl
theorem gt_ii {a b : Int} : vCmp σ .gt (.int a) (.int b) = some (decide (a > b)) := rfl
theorem true_l {xs : List V} : vTrue σ (.lst xs) = some (!xs.isEmpty) := rfl
theorem neg_i {a : Int} : vNeg (.int a) = some (.int (-a)) := rfl
theorem asInt_i {a : Int} : asInt (.int a) = some a := rfl

theorem getV_int {i : Nat} {x : Int} (h : Γ[i]? = some (.int x)) : getV Γ i = some (.int x) := by rw [getV, h]

theorem vIdx_seq {v : V} {xs : List V} {x : V} (k : Nat) (hk : k < 1000000) (hs : getSeq σ v = some xs) (h : xs[k]? = some x) : vIdx σ v (.int (k : Int)) = some x := by
  have hlt : k < xs.length := (List.getElem?_eq_some_iff.mp h).1
  have hn : nIdx (k : Int) xs.length = some k := by
    unfold nIdx
    rw [if_pos (by (first | lia | omega)), if_pos (by (first | lia | omega))]; simp
  have hsm : small (k : Int) = true := small_of (by (first | lia | omega)) (by (first | lia | omega))
  simp only [vIdx, hsm, hs, hn, if_true, Option.bind_some, h]
theorem idx_t0 {a : V} {r : List V} : vIdx σ (.tup (a :: r)) (.int 0) = some a := vIdx_seq 0 (by decide) rfl rfl
theorem idx_t1 {a b : V} {r : List V} : vIdx σ (.tup (a :: b :: r)) (.int 1) = some b := vIdx_seq 1 (by decide) rfl rfl
theorem idx_t2 {a b c : V} {r : List V} : vIdx σ (.tup (a :: b :: c :: r)) (.int 2) = some c := vIdx_seq 2 (by decide) rfl rfl
theorem idx_t3 {a b c d : V} {r : List V} : vIdx σ (.tup (a :: b :: c :: d :: r)) (.int 3) = some d := vIdx_seq 3 (by decide) rfl rfl
theorem idx_l0 {a : V} {r : List V} : vIdx σ (.lst (a :: r)) (.int 0) = some a := vIdx_seq 0 (by decide) rfl rfl

theorem clamp_n {k n : Nat} : clamp (k : Int) n = min k n := by
  unfold clamp; rw [if_neg (by (first | lia | omega)), Int.toNat_natCast]
theorem cut_from {α : Type} {xs : List α} {i : Int} (k : Nat) (hi : i = (k : Int)) (hk : k ≤ xs.length) : cut xs (some i) none = xs.drop k := by
  subst hi
  show (xs.take xs.length).drop (clamp (k : Int) xs.length) = _
  rw [clamp_n, List.take_length]
  congr 1; (first | lia | omega)
theorem cut_to {α : Type} {xs : List α} {i : Int} (k : Nat) (hi : i = (k : Int)) : cut xs none (some i) = xs.take k := by
  subst hi
  show (xs.take (clamp (k : Int) xs.length)).drop 0 = _
  rw [clamp_n, List.drop_zero, List.take_eq_take_iff]
  (first | lia | omega)
theorem cut_m1 {α : Type} {xs : List α} {i : Int} (hi : i = -1) : cut xs none (some i) = xs.dropLast := by
  subst hi
  show (xs.take (clamp (-1) xs.length)).drop 0 = _
  rw [List.drop_zero, List.dropLast_eq_take]
  congr 1
  unfold clamp
  rw [if_pos (by (first | lia | omega))]; (first | lia | omega)
theorem vCut_l {xs : List V} {lo hi : Option Int} (h1 : smallO lo = true) (h2 : smallO hi = true) : vCut σ (.lst xs) lo hi = some (.lst (cut xs lo hi)) := by
  unfold vCut; rw [h1, h2]; rfl
theorem vCut_s {xs : List Nat} {lo hi : Option Int} (h1 : smallO lo = true) (h2 : smallO hi = true) : vCut σ (.str xs) lo hi = some (.str (cut xs lo hi)) := by
  unfold vCut; rw [h1, h2]; rfl
end
end Mine

namespace Mine

/-- the trees -/
inductive Tree where
  | take (b : Bool) (s : List Nat)
  | row (ts : List Tree)
  | pick (ts : List Tree)
  | maybe (t : Tree) (e : Bool)
  | many (t : Tree) (e : Bool)

mutual
noncomputable def Tree.v : Tree → V
  | .take b s => .tup [.str [116, 97, 107, 101], .bool b, .str s]
  | .row ts => .tup [.str [114, 111, 119], .tup (Tree.vs ts)]
  | .pick ts => .tup [.str [112, 105, 99, 107], .tup (Tree.vs ts)]
  | .maybe t e => .tup [.str [109, 97, 121, 98, 101], t.v, .bool e]
  | .many t e => .tup [.str [109, 97, 110, 121], t.v, .bool e]
noncomputable def Tree.vs : List Tree → List V
  | [] => []
  | t :: r => t.v :: Tree.vs r
end
theorem Tree.vs_map : ∀ (ts : List Tree), Tree.vs ts = ts.map Tree.v
  | [] => rfl
  | t :: r => by rw [Tree.vs, Tree.vs_map r]; rfl
theorem v_take {b : Bool} {s : List Nat} : (Tree.take b s).v = .tup [.str [116, 97, 107, 101], .bool b, .str s] := rfl
theorem v_row {ts : List Tree} : (Tree.row ts).v = .tup [.str [114, 111, 119], .tup (ts.map Tree.v)] := by rw [← Tree.vs_map]; rfl
theorem v_pick {ts : List Tree} : (Tree.pick ts).v = .tup [.str [112, 105, 99, 107], .tup (ts.map Tree.v)] := by rw [← Tree.vs_map]; rfl
theorem v_maybe {t : Tree} {e : Bool} : (Tree.maybe t e).v = .tup [.str [109, 97, 121, 98, 101], t.v, .bool e] := rfl
theorem v_many {t : Tree} {e : Bool} : (Tree.many t e).v = .tup [.str [109, 97, 110, 121], t.v, .bool e] := rfl
theorem v_tup (t : Tree) : ∃ xs, t.v = .tup xs := by cases t <;> exact ⟨_, rfl⟩
theorem getV_t {Γ : Fm} {i : Nat} {t : Tree} (h : Γ[i]? = some t.v) : getV Γ i = some t.v := by
  obtain ⟨xs, e⟩ := v_tup t
  rw [getV, h, e]

mutual
noncomputable def Tree.bare : Tree → Bool
  | .take _ _ => false
  | .row ts => Tree.allB ts
  | .pick ts => Tree.anyB ts
  | .maybe _ _ => true
  | .many _ _ => true
noncomputable def Tree.allB : List Tree → Bool
  | [] => true
  | t :: r => t.bare && Tree.allB r
noncomputable def Tree.anyB : List Tree → Bool
  | [] => false
  | t :: r => t.bare || Tree.anyB r
end
theorem allB_eq : ∀ (ts : List Tree), Tree.allB ts = ts.all Tree.bare
  | [] => rfl
  | t :: r => by rw [Tree.allB, allB_eq r, List.all_cons]
theorem anyB_eq : ∀ (ts : List Tree), Tree.anyB ts = ts.any Tree.bare
  | [] => rfl
  | t :: r => by rw [Tree.anyB, anyB_eq r, List.any_cons]
theorem bare_row {ts : List Tree} : (Tree.row ts).bare = ts.all Tree.bare := by rw [← allB_eq, Tree.bare]
theorem bare_pick {ts : List Tree} : (Tree.pick ts).bare = ts.any Tree.bare := by rw [← anyB_eq, Tree.bare]

mutual
noncomputable def Tree.cnt : Tree → Int
  | .take _ _ => 1
  | .row ts => Tree.cnts ts
  | .pick ts => Tree.cnts ts + ts.length - 1
  | .maybe t _ => t.cnt + 1
  | .many t _ => t.cnt + 1
noncomputable def Tree.cnts : List Tree → Int
  | [] => 0
  | t :: r => t.cnt + Tree.cnts r
end
theorem cnts_eq : ∀ (ts : List Tree), Tree.cnts ts = (ts.map Tree.cnt).sum
  | [] => rfl
  | t :: r => by rw [Tree.cnts, cnts_eq r]; rfl
theorem cnt_row {ts : List Tree} : (Tree.row ts).cnt = (ts.map Tree.cnt).sum := by rw [← cnts_eq, Tree.cnt]
theorem cnt_pick {ts : List Tree} : (Tree.pick ts).cnt = (ts.map Tree.cnt).sum + ts.length - 1 := by rw [← cnts_eq, Tree.cnt]

mutual
noncomputable def Tree.dep : Tree → Nat
  | .take _ _ => 1
  | .row ts => 1 + Tree.deps ts
  | .pick ts => 1 + Tree.deps ts
  | .maybe t _ => t.dep + 1
  | .many t _ => t.dep + 1
noncomputable def Tree.deps : List Tree → Nat
  | [] => 0
  | t :: r => max t.dep (Tree.deps r)
end
theorem dep_row {ts : List Tree} : (Tree.row ts).dep = 1 + Tree.deps ts := by rw [Tree.dep]
theorem dep_pick {ts : List Tree} : (Tree.pick ts).dep = 1 + Tree.deps ts := by rw [Tree.dep]
theorem dep_maybe {t : Tree} {e : Bool} : (Tree.maybe t e).dep = t.dep + 1 := by rw [Tree.dep]
theorem dep_many {t : Tree} {e : Bool} : (Tree.many t e).dep = t.dep + 1 := by rw [Tree.dep]
theorem dep_take {b : Bool} {s : List Nat} : (Tree.take b s).dep = 1 := by rw [Tree.dep]
theorem dep_mem : ∀ {ts : List Tree} {t : Tree}, t ∈ ts → t.dep ≤ Tree.deps ts
  | x :: r, t, h => by
    rw [Tree.deps]
    rcases List.mem_cons.mp h with e | e
    · rw [e]; exact Nat.le_max_left _ _
    · exact Nat.le_trans (dep_mem e) (Nat.le_max_right _ _)
theorem deps_le {n : Nat} : ∀ {ts : List Tree}, (∀ t ∈ ts, t.dep ≤ n) → Tree.deps ts ≤ n
  | [], _ => Nat.zero_le _
  | x :: r, h => by rw [Tree.deps]; exact Nat.max_le.mpr ⟨h x List.mem_cons_self, deps_le fun t ht => h t (List.mem_cons_of_mem _ ht)⟩
theorem dep_pos (t : Tree) : 1 ≤ t.dep := by
  cases t <;> rw [Tree.dep] <;> (first | lia | omega)
theorem deps_max : ∀ (ts : List Tree) (i : Nat), (ts.map fun t => (t.dep : Int)).foldl max (i : Int) = ((max i (Tree.deps ts) : Nat) : Int)
  | [], i => by rw [Tree.deps, Nat.max_zero]; rfl
  | t :: r, i => by
    rw [List.map_cons, List.foldl_cons, ← Lean.Omega.Int.ofNat_max, deps_max r, Tree.deps, Nat.max_assoc]

mutual
/-- the trees that the laws build -/
noncomputable def Tree.Ok : Tree → Prop
  | .take _ s => s.length ≤ 100 ∧ ∀ c ∈ s, c ∈ signs
  | .row ts => (ts.length ≠ 1 ∧ ts.length ≤ 2000) ∧ Tree.Oks ts
  | .pick ts => (2 ≤ ts.length ∧ ts.length ≤ 2000) ∧ Tree.Oks ts
  | .maybe t _ => t.Ok
  | .many t _ => t.Ok ∧ t.bare = false
noncomputable def Tree.Oks : List Tree → Prop
  | [] => True
  | t :: r => t.Ok ∧ Tree.Oks r
end
theorem Oks_iff : ∀ {ts : List Tree}, Tree.Oks ts ↔ ∀ t ∈ ts, t.Ok
  | [] => by rw [Tree.Oks]; simp
  | t :: r => by rw [Tree.Oks, Oks_iff]; simp
theorem ok_row {ts : List Tree} : (Tree.row ts).Ok ↔ (ts.length ≠ 1 ∧ ts.length ≤ 2000) ∧ ∀ t ∈ ts, t.Ok := by rw [Tree.Ok, Oks_iff]
theorem ok_pick {ts : List Tree} : (Tree.pick ts).Ok ↔ (2 ≤ ts.length ∧ ts.length ≤ 2000) ∧ ∀ t ∈ ts, t.Ok := by rw [Tree.Ok, Oks_iff]

mutual
/-- how many nodes -/
noncomputable def Tree.nod : Tree → Nat
  | .take _ _ => 1
  | .row ts => 1 + Tree.nods ts
  | .pick ts => 1 + Tree.nods ts
  | .maybe t _ => t.nod + 1
  | .many t _ => t.nod + 1
noncomputable def Tree.nods : List Tree → Nat
  | [] => 0
  | t :: r => t.nod + Tree.nods r
end
theorem nods_app : ∀ (a b : List Tree), Tree.nods (a ++ b) = Tree.nods a + Tree.nods b
  | [], b => by rw [List.nil_append, Tree.nods]; (first | lia | omega)
  | t :: r, b => by rw [List.cons_append, Tree.nods, Tree.nods, nods_app r b]; (first | lia | omega)
theorem nod_row {ts : List Tree} : (Tree.row ts).nod = 1 + Tree.nods ts := by rw [Tree.nod]
theorem nod_pick {ts : List Tree} : (Tree.pick ts).nod = 1 + Tree.nods ts := by rw [Tree.nod]
theorem nod_maybe {t : Tree} {e : Bool} : (Tree.maybe t e).nod = t.nod + 1 := by rw [Tree.nod]
theorem nod_many {t : Tree} {e : Bool} : (Tree.many t e).nod = t.nod + 1 := by rw [Tree.nod]
theorem nod_take {b : Bool} {s : List Nat} : (Tree.take b s).nod = 1 := by rw [Tree.nod]
theorem nods_one {t : Tree} : Tree.nods [t] = t.nod := by rw [Tree.nods, Tree.nods]; (first | lia | omega)

/-- an item of a law's stack -/
noncomputable def item (t : Tree) : V := .tup [t.v, .bool t.bare, .int t.cnt, .int (t.dep : Int)]

section
variable {gl : List V} {cf : CF} {σ : Sg} {P : List Def}

end
end Mine

namespace Mine

section
variable {gl : List V} {cf : CF} {σ : Sg} {Γ : Fm} {P : List Def}

theorem sign_mem (c : Int) : sign c ∈ signs := by
  obtain ⟨h1, h2⟩ := fmod_range c (b := 96) (by decide)
  have hlt : (c.fmod 96).toNat < signs.length := by show _ < 96; (first | lia | omega)
  unfold sign
  rw [List.getD_eq_getElem?_getD, List.getElem?_eq_getElem hlt]
  exact List.getElem_mem hlt

/-- three signs -/
noncomputable def Three (l : List Nat) : Prop := ∃ a b c, l = [a, b, c] ∧ a ∈ signs ∧ b ∈ signs ∧ c ∈ signs

theorem three_idx {l : List Nat} (h : Three l) (i : Int) : ∃ c, vIdx σ (.str l) (.int (i.fmod 3)) = some (.str [c]) ∧ c ∈ signs := by
  obtain ⟨a, b, c, rfl, h1, h2, h3⟩ := h
  obtain ⟨q1, q2⟩ := fmod_range i (b := 3) (by decide)
  obtain ⟨k, hk⟩ : ∃ k : Nat, i.fmod 3 = (k : Int) := ⟨(i.fmod 3).toNat, by (first | lia | omega)⟩
  rw [hk]
  match k, (show k < 3 by (first | lia | omega)) with
  | 0, _ => exact ⟨a, vIdx_seq 0 (by decide) rfl rfl, h1⟩
  | 1, _ => exact ⟨b, vIdx_seq 1 (by decide) rfl rfl, h2⟩
  | 2, _ => exact ⟨c, vIdx_seq 2 (by decide) rfl rfl, h3⟩

theorem cut_len {s : List Nat} {k : Nat} : (s.take k).length ≤ k := by rw [List.length_take]; (first | lia | omega)

theorem take_loop (hs : ∀ c σ, cf 1 [.int c] σ = .ok (.str [sign c]) σ) {c : Int} {a1 a2 a4 : V} : ∀ (js : List Nat) (s : List Nat) (y : V), (∀ j ∈ js, j < 1000) → s.length + js.length ≤ 1000 → (∀ x ∈ s, x ∈ signs) →
    ∃ s' y', forGo (exB gl cf [.asg 3 (.bin .add (.var 3) (.call 1 [(.bin .add (.bin .fdiv (.var 0) (.cInt 3456)) (.bin .mul (.cInt 37) (.var 5)))]))]) 5 (js.map fun (j : Nat) => V.int (j : Int)) [.int c, a1, a2, .str s, a4, y] σ
      = .ok (.next, [.int c, a1, a2, .str s', a4, y']) σ ∧ s'.length ≤ 1000 ∧ ∀ x ∈ s', x ∈ signs
  | [], s, y, _, h2, h3 => ⟨s, y, rfl, by simpa using h2, h3⟩
  | j :: js, s, y, h1, h2, h3 => by
    have hj := h1 j List.mem_cons_self
    rw [List.length_cons] at h2
    obtain ⟨s', y', ih, g⟩ := take_loop hs (c := c) (a1 := a1) (a2 := a2) (a4 := a4) js (s ++ [sign (c.fdiv 3456 + 37 * (j : Int))]) (.int (j : Int)) (fun i hi => h1 i (List.mem_cons_of_mem _ hi)) (by rw [List.length_append]; simp only [List.length_cons, List.length_nil]; (first | lia | omega)) fun x hx => by
      rcases List.mem_append.mp hx with q | q
      · exact h3 x q
      · rw [List.mem_singleton.mp q]; exact sign_mem _
    refine ⟨s', y', ?_, g⟩
    have hm : vBin σ .mul (.int 37) (.int (j : Int)) = some (.int (37 * (j : Int))) := vBin_mul rfl
    have ha : vBin σ .add (.str s) (.str [sign (c.fdiv 3456 + 37 * (j : Int))]) = some (.str (s ++ [sign (c.fdiv 3456 + 37 * (j : Int))])) := vBin_addS (by simp only [List.length_cons, List.length_nil]; unfold roomy; (first | lia | omega))
    have he : evE gl cf (.bin .add (.var 3) (.call 1 [(.bin .add (.bin .fdiv (.var 0) (.cInt 3456)) (.bin .mul (.cInt 37) (.var 5)))])) [.int c, a1, a2, .str s, a4, .int (j : Int)] σ = .ok (.str (s ++ [sign (c.fdiv 3456 + 37 * (j : Int))])) σ := by
      simp only [evE_cNone, evE_cBool, evE_cInt, evE_cStr, evE_var, evE_glob, evE_and, evE_or, evE_not, evE_neg, evE_bin, evE_cmp, evE_cmp2, evE_ite, evE_tup, evE_lst, evE_call, evE_bi, evE_join, evE_idx, evE_slice, evEs_nil, evEs_cons, evO_none, evO_some, getV, List.getElem?_cons_zero, List.getElem?_cons_succ, of_some, bind_ok, vBin_fdiv (a := c) (b := 3456) (σ := σ) rfl (by decide), hm, vBin_add, hs, ha]
    rw [List.map_cons, forGo_next (Γ' := [.int c, a1, a2, .str (s ++ [sign (c.fdiv 3456 + 37 * (j : Int))]), a4, .int (j : Int)]) ((exB_asg he).trans exB_nil0)]
    exact ih

theorem take_body (hs : ∀ c σ, cf 1 [.int c] σ = .ok (.str [sign c]) σ) (c : Int) {l : List Nat} (hl : Three l) : ∃ b s Γ, exB gl cf d_l_take_by_v02.body [.int c, .str l, .undef, .undef, .undef, .undef] σ = .ok (.ret (Tree.take b s).v, Γ) σ ∧ (Tree.take b s).Ok := by
  obtain ⟨x1, e1, m1⟩ := three_idx (σ := σ) hl (c.fdiv 8)
  obtain ⟨x2, e2, m2⟩ := three_idx (σ := σ) hl (c.fdiv 24)
  have hw : evE gl cf (.bin .mod (.var 0) (.cInt 8)) [.int c, .str l, .undef, .undef, .undef, .undef] σ = .ok (.int (c.fmod 8)) σ := by
    simp only [evE_cNone, evE_cBool, evE_cInt, evE_cStr, evE_var, evE_glob, evE_and, evE_or, evE_not, evE_neg, evE_bin, evE_cmp, evE_cmp2, evE_ite, evE_tup, evE_lst, evE_call, evE_bi, evE_join, evE_idx, evE_slice, evEs_nil, evEs_cons, evO_none, evO_some, getV, List.getElem?_cons_zero, List.getElem?_cons_succ, of_some, bind_ok, vBin_mod (a := c) (b := 8) (σ := σ) (by decide)]
  have hsome : evE gl cf (.bin .add (.idx (.var 1) (.bin .mod (.bin .fdiv (.var 0) (.cInt 8)) (.cInt 3))) (.idx (.var 1) (.bin .mod (.bin .fdiv (.var 0) (.cInt 24)) (.cInt 3)))) [.int c, .str l, .int (c.fmod 8), .undef, .undef, .undef] σ = .ok (.str [x1, x2]) σ := by
    simp only [evE_cNone, evE_cBool, evE_cInt, evE_cStr, evE_var, evE_glob, evE_and, evE_or, evE_not, evE_neg, evE_bin, evE_cmp, evE_cmp2, evE_ite, evE_tup, evE_lst, evE_call, evE_bi, evE_join, evE_idx, evE_slice, evEs_nil, evEs_cons, evO_none, evO_some, getV, List.getElem?_cons_zero, List.getElem?_cons_succ, of_some, bind_ok, vBin_fdiv (a := c) (b := 8) (σ := σ) rfl (by decide), vBin_fdiv (a := c) (b := 24) (σ := σ) rfl (by decide), vBin_mod (b := 3) (σ := σ) (show (3 : Int) ≠ 0 by decide), e1, e2, vBin_addS (a := [x1]) (b := [x2]) (σ := σ) (by simp [roomy])]
    rfl
  have st : ∀ Γ', exB gl cf (d_l_take_by_v02.body.drop 2) [.int c, .str l, .int (c.fmod 8), .str [x1, x2], .undef, .undef] σ = Γ' → exB gl cf d_l_take_by_v02.body [.int c, .str l, .undef, .undef, .undef, .undef] σ = Γ' := fun Γ' h => ((exB_asg hw).trans (exB_asg hsome)).trans h
  obtain ⟨q1, q2⟩ := fmod_range c (b := 8) (by decide)
  have mem2 : ∀ x ∈ [x1, x2], x ∈ signs := by
    intro x hx
    rcases List.mem_cons.mp hx with q | q
    · exact q ▸ m1
    · rw [List.mem_singleton.mp q]; exact m2
  by_cases w0 : c.fmod 8 = 0
  · refine ⟨false, [], _, st _ (exB_take (v := .bool true) (σ' := σ) ?_ rfl (exB_rets ?_)), by rw [Tree.Ok]; simp⟩
    · simp only [evE_cNone, evE_cBool, evE_cInt, evE_cStr, evE_var, evE_glob, evE_and, evE_or, evE_not, evE_neg, evE_bin, evE_cmp, evE_cmp2, evE_ite, evE_tup, evE_lst, evE_call, evE_bi, evE_join, evE_idx, evE_slice, evEs_nil, evEs_cons, evO_none, evO_some, getV, List.getElem?_cons_zero, List.getElem?_cons_succ, of_some, bind_ok, eq_ii, w0]; rfl
    · simp only [evE_cNone, evE_cBool, evE_cInt, evE_cStr, evE_var, evE_glob, evE_and, evE_or, evE_not, evE_neg, evE_bin, evE_cmp, evE_cmp2, evE_ite, evE_tup, evE_lst, evE_call, evE_bi, evE_join, evE_idx, evE_slice, evEs_nil, evEs_cons, evO_none, evO_some, bind_ok, tup3]; rfl
  have t0 : evE gl cf (.cmp .eq (.var 2) (.cInt 0)) [.int c, .str l, .int (c.fmod 8), .str [x1, x2], .undef, .undef] σ = .ok (.bool false) σ := by
    simp only [evE_cNone, evE_cBool, evE_cInt, evE_cStr, evE_var, evE_glob, evE_and, evE_or, evE_not, evE_neg, evE_bin, evE_cmp, evE_cmp2, evE_ite, evE_tup, evE_lst, evE_call, evE_bi, evE_join, evE_idx, evE_slice, evEs_nil, evEs_cons, evO_none, evO_some, getV, List.getElem?_cons_zero, List.getElem?_cons_succ, of_some, bind_ok, eq_ii, beq_eq_false_iff_ne.mpr w0]
  by_cases w2 : c.fmod 8 > 2
  · refine ⟨true, [x1], _, st _ ((exB_skip t0 rfl).trans (exB_take (v := .bool true) (σ' := σ) ?_ rfl (exB_rets ?_))), by rw [Tree.Ok]; exact ⟨by simp, fun x hx => by rw [List.mem_singleton.mp hx]; exact m1⟩⟩
    · simp only [evE_cNone, evE_cBool, evE_cInt, evE_cStr, evE_var, evE_glob, evE_and, evE_or, evE_not, evE_neg, evE_bin, evE_cmp, evE_cmp2, evE_ite, evE_tup, evE_lst, evE_call, evE_bi, evE_join, evE_idx, evE_slice, evEs_nil, evEs_cons, evO_none, evO_some, getV, List.getElem?_cons_zero, List.getElem?_cons_succ, of_some, bind_ok, gt_ii, decide_eq_true w2]
    · simp only [evE_cNone, evE_cBool, evE_cInt, evE_cStr, evE_var, evE_glob, evE_and, evE_or, evE_not, evE_neg, evE_bin, evE_cmp, evE_cmp2, evE_ite, evE_tup, evE_lst, evE_call, evE_bi, evE_join, evE_idx, evE_slice, evEs_nil, evEs_cons, evO_none, evO_some, getV, List.getElem?_cons_zero, List.getElem?_cons_succ, of_some, bind_ok, asInt_i, vCut_s (σ := σ) (xs := [x1, x2]) (lo := none) (hi := some 1) rfl rfl, cut_to (xs := [x1, x2]) 1 rfl, tup3]; rfl
  have t2 : evE gl cf (.cmp .gt (.var 2) (.cInt 2)) [.int c, .str l, .int (c.fmod 8), .str [x1, x2], .undef, .undef] σ = .ok (.bool false) σ := by
    simp only [evE_cNone, evE_cBool, evE_cInt, evE_cStr, evE_var, evE_glob, evE_and, evE_or, evE_not, evE_neg, evE_bin, evE_cmp, evE_cmp2, evE_ite, evE_tup, evE_lst, evE_call, evE_bi, evE_join, evE_idx, evE_slice, evEs_nil, evEs_cons, evO_none, evO_some, getV, List.getElem?_cons_zero, List.getElem?_cons_succ, of_some, bind_ok, gt_ii, decide_eq_false w2]
  have hm0 : evE gl cf (.bin .mod (.bin .fdiv (.var 0) (.cInt 72)) (.cInt 4)) [.int c, .str l, .int (c.fmod 8), .str [x1, x2], .undef, .undef] σ = .ok (.int ((c.fdiv 72).fmod 4)) σ := by
    simp only [evE_cNone, evE_cBool, evE_cInt, evE_cStr, evE_var, evE_glob, evE_and, evE_or, evE_not, evE_neg, evE_bin, evE_cmp, evE_cmp2, evE_ite, evE_tup, evE_lst, evE_call, evE_bi, evE_join, evE_idx, evE_slice, evEs_nil, evEs_cons, evO_none, evO_some, getV, List.getElem?_cons_zero, List.getElem?_cons_succ, of_some, bind_ok, vBin_fdiv (a := c) (b := 72) (σ := σ) rfl (by decide), vBin_mod (b := 4) (σ := σ) (show (4 : Int) ≠ 0 by decide)]
  have hmany : ∃ m : Nat, m ≤ 15 ∧ ∀ r, exB gl cf (.ite (.cmp .eq (.var 4) (.cInt 3)) [.asg 4 (.bin .add (.cInt 3) (.bin .mod (.bin .fdiv (.var 0) (.cInt 288)) (.cInt 12)))] [] :: r) [.int c, .str l, .int (c.fmod 8), .str [x1, x2], .int ((c.fdiv 72).fmod 4), .undef] σ
      = exB gl cf r [.int c, .str l, .int (c.fmod 8), .str [x1, x2], .int (m : Int), .undef] σ := by
    obtain ⟨p1, p2⟩ := fmod_range (c.fdiv 72) (b := 4) (by decide)
    obtain ⟨p3, p4⟩ := fmod_range (c.fdiv 288) (b := 12) (by decide)
    by_cases w3 : (c.fdiv 72).fmod 4 = 3
    · refine ⟨(3 + (c.fdiv 288).fmod 12).toNat, by (first | lia | omega), fun r => ?_⟩
      refine exB_into (v := .bool true) (σ' := σ) ?_ rfl ((exB_asg (v := .int ((3 + (c.fdiv 288).fmod 12).toNat : Int)) (σ' := σ) ?_).trans exB_nil0)
      · simp only [evE_cNone, evE_cBool, evE_cInt, evE_cStr, evE_var, evE_glob, evE_and, evE_or, evE_not, evE_neg, evE_bin, evE_cmp, evE_cmp2, evE_ite, evE_tup, evE_lst, evE_call, evE_bi, evE_join, evE_idx, evE_slice, evEs_nil, evEs_cons, evO_none, evO_some, getV, List.getElem?_cons_zero, List.getElem?_cons_succ, of_some, bind_ok, eq_ii, w3]; rfl
      · rw [show (((3 + (c.fdiv 288).fmod 12).toNat : Nat) : Int) = 3 + (c.fdiv 288).fmod 12 by (first | lia | omega)]
        simp only [evE_cNone, evE_cBool, evE_cInt, evE_cStr, evE_var, evE_glob, evE_and, evE_or, evE_not, evE_neg, evE_bin, evE_cmp, evE_cmp2, evE_ite, evE_tup, evE_lst, evE_call, evE_bi, evE_join, evE_idx, evE_slice, evEs_nil, evEs_cons, evO_none, evO_some, getV, List.getElem?_cons_zero, List.getElem?_cons_succ, of_some, bind_ok, vBin_fdiv (a := c) (b := 288) (σ := σ) rfl (by decide), vBin_mod (b := 12) (σ := σ) (show (12 : Int) ≠ 0 by decide), vBin_add]
    · refine ⟨((c.fdiv 72).fmod 4).toNat, by (first | lia | omega), fun r => ?_⟩
      rw [show (((c.fdiv 72).fmod 4).toNat : Int) = (c.fdiv 72).fmod 4 by (first | lia | omega)]
      refine exB_skip (v := .bool false) (σ' := σ) ?_ rfl
      simp only [evE_cNone, evE_cBool, evE_cInt, evE_cStr, evE_var, evE_glob, evE_and, evE_or, evE_not, evE_neg, evE_bin, evE_cmp, evE_cmp2, evE_ite, evE_tup, evE_lst, evE_call, evE_bi, evE_join, evE_idx, evE_slice, evEs_nil, evEs_cons, evO_none, evO_some, getV, List.getElem?_cons_zero, List.getElem?_cons_succ, of_some, bind_ok, eq_ii, beq_eq_false_iff_ne.mpr w3]
  obtain ⟨m, hm, hmr⟩ := hmany
  obtain ⟨s', y', hlp, hlen, hall⟩ := take_loop (gl := gl) (cf := cf) (σ := σ) hs (c := c) (a1 := .str l) (a2 := .int (c.fmod 8)) (a4 := .int (m : Int)) (List.range m) [x1, x2] .undef (fun j hj => by have := List.mem_range.mp hj; (first | lia | omega)) (by simp only [List.length_cons, List.length_nil, List.length_range]; (first | lia | omega)) mem2
  refine ⟨c.fmod 8 == 2, s'.take m, _, st _ ((exB_skip t0 rfl).trans ((exB_skip t2 rfl).trans ((exB_asg hm0).trans ((hmr _).trans ((exB_next ((exS_for (x := .int (m : Int)) (y := .none) (σ₁ := σ) (σ₂ := σ) ?_ evE_cNone (items_rng (by (first | lia | omega)))).trans hlp)).trans (exB_rets ?_)))))), ?_⟩
  · rfl
  · simp only [evE_cNone, evE_cBool, evE_cInt, evE_cStr, evE_var, evE_glob, evE_and, evE_or, evE_not, evE_neg, evE_bin, evE_cmp, evE_cmp2, evE_ite, evE_tup, evE_lst, evE_call, evE_bi, evE_join, evE_idx, evE_slice, evEs_nil, evEs_cons, evO_none, evO_some, getV, List.getElem?_cons_zero, List.getElem?_cons_succ, of_some, bind_ok, asInt_i, eq_ii, vCut_s (σ := σ) (xs := s') (lo := none) (hi := some (m : Int)) rfl (small_of (by (first | lia | omega)) (by (first | lia | omega))), cut_to (xs := s') m rfl, tup3]; rfl
  · rw [Tree.Ok]; exact ⟨Nat.le_trans cut_len (Nat.le_trans hm (by decide)), fun x hx => hall x (List.mem_of_mem_take hx)⟩

theorem call_take (H : HS P) (h5 : P[5]? = some d_l_take_by_v02) {d : Nat} (c : Int) {l : List Nat} (hl : Three l) : ∃ b s, callF gl P (d + 2) 5 [.int c, .str l] σ = .ok (Tree.take b s).v σ ∧ (Tree.take b s).Ok := by
  obtain ⟨b, s, Γ, h, ok⟩ := take_body (gl := gl) (cf := callF gl P (d + 1)) (σ := σ) (fun c σ => call_sign H c) c hl
  exact ⟨b, s, callF_ret (D := d_l_take_by_v02) h5 rfl h, ok⟩
end
end Mine

namespace Mine

section
variable {gl : List V} {cf : CF} {σ : Sg} {Γ : Fm} {P : List Def}

theorem and_bb {a b : Ex} {p q : Bool} (h1 : evE gl cf a Γ σ = .ok (.bool p) σ) (h2 : p = true → evE gl cf b Γ σ = .ok (.bool q) σ) : evE gl cf (.and a b) Γ σ = .ok (.bool (p && q)) σ := by
  rw [evE_and, h1, bind_ok, true_b, of_some, bind_ok]
  cases p with
  | true => rw [if_pos rfl, h2 rfl, Bool.true_and]
  | false => rw [if_neg Bool.false_ne_true, Bool.false_and]
theorem or_bb {a b : Ex} {p q : Bool} (h1 : evE gl cf a Γ σ = .ok (.bool p) σ) (h2 : p = false → evE gl cf b Γ σ = .ok (.bool q) σ) : evE gl cf (.or a b) Γ σ = .ok (.bool (p || q)) σ := by
  rw [evE_or, h1, bind_ok, true_b, of_some, bind_ok]
  cases p with
  | true => rw [if_pos rfl, Bool.true_or]
  | false => rw [if_neg Bool.false_ne_true, h2 rfl, Bool.false_or]
theorem not_bb {a : Ex} {p : Bool} (h1 : evE gl cf a Γ σ = .ok (.bool p) σ) : evE gl cf (.not a) Γ σ = .ok (.bool (!p)) σ := by
  rw [evE_not, h1, bind_ok, true_b, of_some, bind_ok]

noncomputable def joinT (way : Int) (ts : List Tree) : Tree := if way = 5 then .pick ts else .row ts

theorem item_comp {a : Ex} {Q : List Tree} {j : Int} {k : Tree → V} {v0 v1 v2 v3 v4 v5 v6 v7 v8 : V} (ha : evE gl cf a [v0, v1, v2, v3, v4, v5, v6, v7, v8] σ = .ok (.lst (Q.map item)) σ) (hk : ∀ t : Tree, vIdx σ (item t) (.int j) = some (k t)) (hQ : Q.length ≤ roomy) :
    evE gl cf (.comp false (.idx (.var 9) (.cInt j)) .val a .cNone none) [v0, v1, v2, v3, v4, v5, v6, v7, v8] σ = .ok (.lst (Q.map k)) σ := by
  refine evE_compM ha evE_cNone rfl (fun z _ => ?_) hQ
  have hv : getV ([v0, v1, v2, v3, v4, v5, v6, v7, v8] ++ [item z]) 9 = some (item z) := rfl
  simp only [evE_cNone, evE_cBool, evE_cInt, evE_cStr, evE_var, evE_glob, evE_and, evE_or, evE_not, evE_neg, evE_bin, evE_cmp, evE_cmp2, evE_ite, evE_tup, evE_lst, evE_call, evE_bi, evE_join, evE_idx, evE_slice, evEs_nil, evEs_cons, evO_none, evO_some, hv, of_some, bind_ok, hk]

theorem item_0 (t : Tree) : vIdx σ (item t) (.int 0) = some t.v := idx_t0
theorem item_1 (t : Tree) : vIdx σ (item t) (.int 1) = some (.bool t.bare) := idx_t1
theorem item_2 (t : Tree) : vIdx σ (item t) (.int 2) = some (.int t.cnt) := idx_t2
theorem item_3 (t : Tree) : vIdx σ (item t) (.int 3) = some (.int (t.dep : Int)) := idx_t3

theorem max_dep {Q : List Tree} (h : Q ≠ []) : vBi σ .max1 [.lst (Q.map fun t => V.int (t.dep : Int))] = some (.int (Tree.deps Q : Int)) := by
  cases Q with
  | nil => exact (h rfl).elim
  | cons q r =>
    rw [bi_max (g := fun t : Tree => (t.dep : Int)) (i := (q.dep : Int)) (r := r.map fun t => (t.dep : Int)) rfl, deps_max, Tree.deps]

theorem drop_parts {S : List Tree} {m : Nat} (h2 : m ≤ S.length) : (S.drop (S.length - m)).length = m := by rw [List.length_drop]; (first | lia | omega)

theorem stack_cuts {S : List Tree} {m : Nat} (h2 : m ≤ S.length) (hS : S.length ≤ 1000) : vCut σ (.lst (S.map item)) (some ((S.length : Int) - (m : Int))) none = some (.lst ((S.drop (S.length - m)).map item)) ∧
    vCut σ (.lst (S.map item)) none (some ((S.length : Int) - (m : Int))) = some (.lst ((S.take (S.length - m)).map item)) := by
  have e : (S.length : Int) - (m : Int) = ((S.length - m : Nat) : Int) := by (first | lia | omega)
  have hs : smallO (some ((S.length : Int) - (m : Int))) = true := small_of (by (first | lia | omega)) (by (first | lia | omega))
  rw [vCut_l hs rfl, vCut_l rfl hs, cut_from _ e (by rw [List.length_map]; (first | lia | omega)), cut_to _ e, List.map_drop, List.map_take]
  exact ⟨rfl, rfl⟩

theorem joined_body (way : Int) (S : List Tree) (m : Nat) (h1 : 1 ≤ m) (h2 : m ≤ S.length) (hS : S.length ≤ 1000) : ∃ Γ, exB gl cf d_l_joined_by_v02.body [.int way, .lst (S.map item), .int (m : Int), .undef, .undef, .undef, .undef, .undef, .undef] σ
    = .ok (.ret (.lst ((S.take (S.length - m) ++ [joinT way (S.drop (S.length - m))]).map item)), Γ) σ := by
  obtain ⟨e1, e2⟩ := stack_cuts (σ := σ) h2 hS
  have hQl := drop_parts h2
  have hlen : vBi σ .len [.lst (S.map item)] = some (.int (S.length : Int)) := by rw [bi_len_l, List.length_map]
  generalize hQ : S.drop (S.length - m) = Q at e1 hQl ⊢
  generalize hK : S.take (S.length - m) = K at e2 ⊢
  have hKl : K.length ≤ 1000 := by rw [← hK, List.length_take]; (first | lia | omega)
  have hQ1 : Q.length ≤ roomy := by rw [hQl]; unfold roomy; (first | lia | omega)
  have hQ0 : Q ≠ [] := by intro e; rw [e] at hQl; simp at hQl; (first | lia | omega)
  have s3 : ∀ {y3 y4 y5 y6 y7 y8}, evE gl cf (.slice (.var 1) (some (.bin .sub (.bi .len [(.var 1)]) (.var 2))) none) [.int way, .lst (S.map item), .int (m : Int), y3, y4, y5, y6, y7, y8] σ = .ok (.lst (Q.map item)) σ := by
    intros
    simp only [evE_cNone, evE_cBool, evE_cInt, evE_cStr, evE_var, evE_glob, evE_and, evE_or, evE_not, evE_neg, evE_bin, evE_cmp, evE_cmp2, evE_ite, evE_tup, evE_lst, evE_call, evE_bi, evE_join, evE_idx, evE_slice, evEs_nil, evEs_cons, evO_none, evO_some, getV, List.getElem?_cons_zero, List.getElem?_cons_succ, of_some, bind_ok, hlen, vBin_sub, asInt_i, e1]
  have s4 : ∀ {y3 y4 y5 y6 y7 y8}, evE gl cf (.slice (.var 1) none (some (.bin .sub (.bi .len [(.var 1)]) (.var 2)))) [.int way, .lst (S.map item), .int (m : Int), y3, y4, y5, y6, y7, y8] σ = .ok (.lst (K.map item)) σ := by
    intros
    simp only [evE_cNone, evE_cBool, evE_cInt, evE_cStr, evE_var, evE_glob, evE_and, evE_or, evE_not, evE_neg, evE_bin, evE_cmp, evE_cmp2, evE_ite, evE_tup, evE_lst, evE_call, evE_bi, evE_join, evE_idx, evE_slice, evEs_nil, evEs_cons, evO_none, evO_some, getV, List.getElem?_cons_zero, List.getElem?_cons_succ, of_some, bind_ok, hlen, vBin_sub, asInt_i, e2]
  have v3 : ∀ {y4 y5 y6 y7 y8}, evE gl cf (.var 3) [.int way, .lst (S.map item), .int (m : Int), .lst (Q.map item), y4, y5, y6, y7, y8] σ = .ok (.lst (Q.map item)) σ := by
    intros
    simp only [evE_cNone, evE_cBool, evE_cInt, evE_cStr, evE_var, evE_glob, evE_and, evE_or, evE_not, evE_neg, evE_bin, evE_cmp, evE_cmp2, evE_ite, evE_tup, evE_lst, evE_call, evE_bi, evE_join, evE_idx, evE_slice, evEs_nil, evEs_cons, evO_none, evO_some, getV, List.getElem?_cons_zero, List.getElem?_cons_succ, of_some]
  have s5 : ∀ {y4 y5 y6 y7 y8}, evE gl cf (.tup [(.cStr [114, 111, 119]), (.bi .tuple [(.comp false (.idx (.var 9) (.cInt 0)) .val (.var 3) .cNone none)])]) [.int way, .lst (S.map item), .int (m : Int), .lst (Q.map item), y4, y5, y6, y7, y8] σ = .ok (Tree.row Q).v σ := by
    intros
    simp only [evE_cNone, evE_cBool, evE_cInt, evE_cStr, evE_var, evE_glob, evE_and, evE_or, evE_not, evE_neg, evE_bin, evE_cmp, evE_cmp2, evE_ite, evE_tup, evE_lst, evE_call, evE_bi, evE_join, evE_idx, evE_slice, evEs_nil, evEs_cons, evO_none, evO_some, bind_ok, item_comp v3 item_0 hQ1, bi_tuple, of_some, tup2, v_row]
  have s6 : ∀ {y4 y5 y6 y7 y8}, evE gl cf (.bi .all [(.comp false (.idx (.var 9) (.cInt 1)) .val (.var 3) .cNone none)]) [.int way, .lst (S.map item), .int (m : Int), .lst (Q.map item), y4, y5, y6, y7, y8] σ = .ok (.bool (Q.all Tree.bare)) σ := by
    intros
    simp only [evE_cNone, evE_cBool, evE_cInt, evE_cStr, evE_var, evE_glob, evE_and, evE_or, evE_not, evE_neg, evE_bin, evE_cmp, evE_cmp2, evE_ite, evE_tup, evE_lst, evE_call, evE_bi, evE_join, evE_idx, evE_slice, evEs_nil, evEs_cons, evO_none, evO_some, bind_ok, item_comp v3 item_1 hQ1, bi_all, of_some]
  have s6' : ∀ {y4 y5 y6 y7 y8}, evE gl cf (.bi .any [(.comp false (.idx (.var 9) (.cInt 1)) .val (.var 3) .cNone none)]) [.int way, .lst (S.map item), .int (m : Int), .lst (Q.map item), y4, y5, y6, y7, y8] σ = .ok (.bool (Q.any Tree.bare)) σ := by
    intros
    simp only [evE_cNone, evE_cBool, evE_cInt, evE_cStr, evE_var, evE_glob, evE_and, evE_or, evE_not, evE_neg, evE_bin, evE_cmp, evE_cmp2, evE_ite, evE_tup, evE_lst, evE_call, evE_bi, evE_join, evE_idx, evE_slice, evEs_nil, evEs_cons, evO_none, evO_some, bind_ok, item_comp v3 item_1 hQ1, bi_any, of_some]
  have s7 : ∀ {y4 y5 y6 y7 y8}, evE gl cf (.bi .sum [(.comp false (.idx (.var 9) (.cInt 2)) .val (.var 3) .cNone none)]) [.int way, .lst (S.map item), .int (m : Int), .lst (Q.map item), y4, y5, y6, y7, y8] σ = .ok (.int (Q.map Tree.cnt).sum) σ := by
    intros
    simp only [evE_cNone, evE_cBool, evE_cInt, evE_cStr, evE_var, evE_glob, evE_and, evE_or, evE_not, evE_neg, evE_bin, evE_cmp, evE_cmp2, evE_ite, evE_tup, evE_lst, evE_call, evE_bi, evE_join, evE_idx, evE_slice, evEs_nil, evEs_cons, evO_none, evO_some, bind_ok, item_comp v3 item_2 hQ1, bi_sum, of_some]
  have s8 : ∀ {y4 y5 y6 y7 y8}, evE gl cf (.bin .add (.cInt 1) (.bi .max1 [(.comp false (.idx (.var 9) (.cInt 3)) .val (.var 3) .cNone none)])) [.int way, .lst (S.map item), .int (m : Int), .lst (Q.map item), y4, y5, y6, y7, y8] σ = .ok (.int ((1 + Tree.deps Q : Nat) : Int)) σ := by
    intros
    simp only [evE_cNone, evE_cBool, evE_cInt, evE_cStr, evE_var, evE_glob, evE_and, evE_or, evE_not, evE_neg, evE_bin, evE_cmp, evE_cmp2, evE_ite, evE_tup, evE_lst, evE_call, evE_bi, evE_join, evE_idx, evE_slice, evEs_nil, evEs_cons, evO_none, evO_some, bind_ok, item_comp v3 item_3 hQ1, max_dep hQ0, of_some, vBin_add]
    rfl
  have fin : ∀ (T : Tree) {y1 y2 y3}, T.dep = 1 + Tree.deps Q → exB gl cf (d_l_joined_by_v02.body.drop 6) [.int way, .lst (S.map item), .int (m : Int), .lst (Q.map item), .lst (K.map item), y1, y2, y3, .undef] σ = exB gl cf (d_l_joined_by_v02.body.drop 7) [.int way, .lst (S.map item), .int (m : Int), .lst (Q.map item), .lst (K.map item), y1, y2, y3, .int (T.dep : Int)] σ := fun T y1 y2 y3 hT => by
    rw [hT]; exact exB_asg s8
  have fin2 : ∀ (T : Tree), exB gl cf (d_l_joined_by_v02.body.drop 7) [.int way, .lst (S.map item), .int (m : Int), .lst (Q.map item), .lst (K.map item), T.v, .bool T.bare, .int T.cnt, .int (T.dep : Int)] σ =
      .ok (.ret (.lst ((K ++ [T]).map item)), [.int way, .lst (S.map item), .int (m : Int), .lst (Q.map item), .lst (K.map item), T.v, .bool T.bare, .int T.cnt, .int (T.dep : Int)]) σ := fun T => by
    refine exB_rets ?_
    have ha : vBin σ .add (.lst (K.map item)) (.lst [item T]) = some (.lst ((K ++ [T]).map item)) := by
      rw [vBin_addL (by rw [List.length_map]; simp only [List.length_cons, List.length_nil]; unfold roomy; (first | lia | omega)), List.map_append]; rfl
    simp only [evE_cNone, evE_cBool, evE_cInt, evE_cStr, evE_var, evE_glob, evE_and, evE_or, evE_not, evE_neg, evE_bin, evE_cmp, evE_cmp2, evE_ite, evE_tup, evE_lst, evE_call, evE_bi, evE_join, evE_idx, evE_slice, evEs_nil, evEs_cons, evO_none, evO_some, getV_t (Γ := [.int way, .lst (S.map item), .int (m : Int), .lst (Q.map item), .lst (K.map item), T.v, .bool T.bare, .int T.cnt, .int (T.dep : Int)]) (i := 5) (t := T) rfl, of_some, bind_ok]
    simp only [getV, List.getElem?_cons_zero, List.getElem?_cons_succ, of_some, bind_ok, tup4, putL_1]
    rw [show V.tup [T.v, .bool T.bare, .int T.cnt, .int (T.dep : Int)] = item T from rfl, ha]; rfl
  refine ⟨[.int way, .lst (S.map item), .int (m : Int), .lst (Q.map item), .lst (K.map item), (joinT way Q).v, .bool (joinT way Q).bare, .int (joinT way Q).cnt, .int ((joinT way Q).dep : Int)], (exB_asg s3).trans ((exB_asg s4).trans ((exB_asg s5).trans ((exB_asg s6).trans ((exB_asg s7).trans ?_))))⟩
  by_cases hw : way = 5
  · refine (exB_into (v := .bool true) (σ' := σ) (Γ' := [.int way, .lst (S.map item), .int (m : Int), .lst (Q.map item), .lst (K.map item), (joinT way Q).v, .bool (joinT way Q).bare, .int (joinT way Q).cnt, .undef]) ?_ rfl ?_).trans ((fin (joinT way Q) ?_).trans (fin2 _))
    · simp only [List.set_cons_succ, List.set_cons_zero, evE_cNone, evE_cBool, evE_cInt, evE_cStr, evE_var, evE_glob, evE_and, evE_or, evE_not, evE_neg, evE_bin, evE_cmp, evE_cmp2, evE_ite, evE_tup, evE_lst, evE_call, evE_bi, evE_join, evE_idx, evE_slice, evEs_nil, evEs_cons, evO_none, evO_some, getV, List.getElem?_cons_zero, List.getElem?_cons_succ, of_some, bind_ok, eq_ii, hw]; rfl
    · rw [joinT, if_pos hw, bare_pick, cnt_pick, v_pick, hQl]
      refine (exB_asg (v := .tup [.str [112, 105, 99, 107], .tup (Q.map Tree.v)]) (σ' := σ) ?_).trans ((exB_asg (v := .bool (Q.any Tree.bare)) (σ' := σ) s6').trans ((exB_asg (v := .int ((Q.map Tree.cnt).sum + (m : Int) - 1)) (σ' := σ) ?_).trans exB_nil0))
      · rw [v_row]
        simp only [List.set_cons_succ, List.set_cons_zero, evE_cNone, evE_cBool, evE_cInt, evE_cStr, evE_var, evE_glob, evE_and, evE_or, evE_not, evE_neg, evE_bin, evE_cmp, evE_cmp2, evE_ite, evE_tup, evE_lst, evE_call, evE_bi, evE_join, evE_idx, evE_slice, evEs_nil, evEs_cons, evO_none, evO_some, getV, List.getElem?_cons_zero, List.getElem?_cons_succ, of_some, bind_ok, idx_t1, tup2]
      · simp only [List.set_cons_succ, List.set_cons_zero, evE_cNone, evE_cBool, evE_cInt, evE_cStr, evE_var, evE_glob, evE_and, evE_or, evE_not, evE_neg, evE_bin, evE_cmp, evE_cmp2, evE_ite, evE_tup, evE_lst, evE_call, evE_bi, evE_join, evE_idx, evE_slice, evEs_nil, evEs_cons, evO_none, evO_some, getV, List.getElem?_cons_zero, List.getElem?_cons_succ, of_some, bind_ok, vBin_add, vBin_sub]
    · rw [joinT, if_pos hw, dep_pick]
  · refine (exB_skip (v := .bool false) (σ' := σ) ?_ rfl).trans ?_
    · simp only [List.set_cons_succ, List.set_cons_zero, evE_cNone, evE_cBool, evE_cInt, evE_cStr, evE_var, evE_glob, evE_and, evE_or, evE_not, evE_neg, evE_bin, evE_cmp, evE_cmp2, evE_ite, evE_tup, evE_lst, evE_call, evE_bi, evE_join, evE_idx, evE_slice, evEs_nil, evEs_cons, evO_none, evO_some, getV, List.getElem?_cons_zero, List.getElem?_cons_succ, of_some, bind_ok, eq_ii, beq_eq_false_iff_ne.mpr hw]
    · rw [joinT, if_neg hw, bare_row, cnt_row]
      have h8 := fin (Tree.row Q) (y1 := (Tree.row Q).v) (y2 := .bool (Q.all Tree.bare)) (y3 := .int (Q.map Tree.cnt).sum) dep_row
      have h9 := fin2 (Tree.row Q)
      rw [bare_row, cnt_row] at h9
      exact h8.trans h9

theorem call_joined (h6 : P[6]? = some d_l_joined_by_v02) {d : Nat} (way : Int) (S : List Tree) (m : Nat) (h1 : 1 ≤ m) (h2 : m ≤ S.length) (hS : S.length ≤ 1000) :
    callF gl P (d + 1) 6 [.int way, .lst (S.map item), .int (m : Int)] σ = .ok (.lst ((S.take (S.length - m) ++ [joinT way (S.drop (S.length - m))]).map item)) σ := by
  obtain ⟨Γ, h⟩ := joined_body (gl := gl) (cf := callF gl P d) (σ := σ) way S m h1 h2 hS
  exact callF_ret (D := d_l_joined_by_v02) h6 rfl h
end
end Mine

namespace Mine
/-- _law_put_by with its one number left open -/
noncomputable def dPut (k : Int) : Def := ⟨3, 8,
  [.asg 3 (.bin .mod (.var 1) (.cInt 9)),
   .asg 4 (.bin .fdiv (.var 1) (.cInt 9)),
   .asg 5 (.cInt 0),
   .ite (.var 0)
     [.asg 5 (.idx (.idx (.var 0) (.neg (.cInt 1))) (.cInt 3))]
     [],
   .ite (.and (.cmp .eq (.var 3) (.cInt 6)) (.cmp2 .lt .lt (.cInt 0) (.var 5) (.cInt 12)))
     [.asg 6 (.idx (.var 0) (.neg (.cInt 1))),
      .ret (.bin .add (.slice (.var 0) none (some (.neg (.cInt 1)))) (.lst false [(.tup [(.tup [(.cStr [109, 97, 121, 98, 101]), (.idx (.var 6) (.cInt 0)), (.cmp .gt (.bin .mod (.var 4) (.cInt 3)) (.cInt 0))]), (.cBool true), (.bin .add (.idx (.var 6) (.cInt 2)) (.cInt 1)), (.bin .add (.var 5) (.cInt 1))])]))]
     [],
   .ite (.and (.cmp .eq (.var 3) (.cInt 7)) (.and (.cmp2 .lt .lt (.cInt 0) (.var 5) (.cInt 12)) (.not (.idx (.idx (.var 0) (.neg (.cInt 1))) (.cInt 1)))))
     [.asg 6 (.idx (.var 0) (.neg (.cInt 1))),
      .ret (.bin .add (.slice (.var 0) none (some (.neg (.cInt 1)))) (.lst false [(.tup [(.tup [(.cStr [109, 97, 110, 121]), (.idx (.var 6) (.cInt 0)), (.cmp .gt (.bin .mod (.var 4) (.cInt 3)) (.cInt 0))]), (.cBool true), (.bin .add (.idx (.var 6) (.cInt 2)) (.cInt 1)), (.bin .add (.var 5) (.cInt 1))])]))]
     [],
   .ite (.and (.or (.cmp .eq (.var 3) (.cInt 4)) (.cmp .eq (.var 3) (.cInt 5))) (.cmp .gt (.bi .len [(.var 0)]) (.cInt 1)))
     [.asg 7 (.bin .add (.cInt 2) (.bin .mod (.var 4) (.bi .min2 [(.cInt k), (.bin .sub (.bi .len [(.var 0)]) (.cInt 1))]))),
      .ite (.cmp .lt (.bi .max1 [(.comp false (.idx (.var 8) (.cInt 3)) .val (.slice (.var 0) (some (.bin .sub (.bi .len [(.var 0)]) (.var 7))) none) .cNone none)]) (.cInt 12))
        [.ret (.call 6 [(.var 3), (.var 0), (.var 7)])]
        []]
     [],
   .ite (.and (.cmp .eq (.var 3) (.cInt 8)) (.cmp .eq (.bin .mod (.var 4) (.cInt 3)) (.cInt 0)))
     [.ret (.bin .add (.var 0) (.lst false [(.tup [(.tup [(.cStr [114, 111, 119]), (.tup [])]), (.cBool true), (.cInt 0), (.cInt 1)])]))]
     [],
   .ret (.bin .add (.var 0) (.lst false [(.tup [(.call 5 [(.var 4), (.var 2)]), (.cBool false), (.cInt 1), (.cInt 1)])]))]⟩

noncomputable def wgt (S : List Tree) : Int := (S.map Tree.cnt).sum + S.length
noncomputable def Fine (S : List Tree) : Prop := ∀ t ∈ S, t.Ok ∧ t.dep ≤ 12

theorem sum_app (a b : List Int) : (a ++ b).sum = a.sum + b.sum := by
  induction a with
  | nil => simp
  | cons x r ih => rw [List.cons_append, List.sum_cons, List.sum_cons, ih]; (first | lia | omega)

mutual
theorem cnt_nn : ∀ (t : Tree), t.Ok → 0 ≤ t.cnt
  | .take _ _, _ => by rw [Tree.cnt]; (first | lia | omega)
  | .row ts, h => by rw [Tree.cnt]; rw [Tree.Ok] at h; exact cnts_nn ts h.2
  | .pick ts, h => by
    rw [Tree.cnt]; rw [Tree.Ok] at h
    have := cnts_nn ts h.2
    have := h.1.1
    (first | lia | omega)
  | .maybe t _, h => by rw [Tree.cnt]; rw [Tree.Ok] at h; have := cnt_nn t h; (first | lia | omega)
  | .many t _, h => by rw [Tree.cnt]; rw [Tree.Ok] at h; have := cnt_nn t h.1; (first | lia | omega)
theorem cnts_nn : ∀ (ts : List Tree), Tree.Oks ts → 0 ≤ Tree.cnts ts
  | [], _ => by rw [Tree.cnts]; (first | lia | omega)
  | t :: r, h => by rw [Tree.cnts]; rw [Tree.Oks] at h; have := cnt_nn t h.1; have := cnts_nn r h.2; (first | lia | omega)
end

/-- what a put makes of the stack -/
structure PutOk (S S' : List Tree) : Prop where
  ne : S' ≠ []
  fine : Fine S'
  len : S'.length ≤ S.length + 1
  wgt : Mine.wgt S' ≤ Mine.wgt S + 2
  nod : Tree.nods S' ≤ Tree.nods S + 1

section
variable {gl : List V} {cf : CF} {σ : Sg} {Γ : Fm} {P : List Def}

theorem cmp2_lt {a b c : Ex} {x y z : Int} (h1 : evE gl cf a Γ σ = .ok (.int x) σ) (h2 : evE gl cf b Γ σ = .ok (.int y) σ) (h3 : evE gl cf c Γ σ = .ok (.int z) σ) : evE gl cf (.cmp2 .lt .lt a b c) Γ σ = .ok (.bool (decide (x < y) && decide (y < z))) σ := by
  rw [evE_cmp2, h1, bind_ok, h2, bind_ok, lt_ii, of_some, bind_ok]
  by_cases h : x < y
  · rw [decide_eq_true h, if_pos rfl, h3, bind_ok, lt_ii, of_some, bind_ok, Bool.true_and]
  · rw [decide_eq_false h, if_neg Bool.false_ne_true, Bool.false_and]
theorem eq_ic {i : Nat} {x k : Int} (h : Γ[i]? = some (.int x)) : evE gl cf (.cmp .eq (.var i) (.cInt k)) Γ σ = .ok (.bool (x == k)) σ := by
  simp only [evE_cNone, evE_cBool, evE_cInt, evE_cStr, evE_var, evE_glob, evE_and, evE_or, evE_not, evE_neg, evE_bin, evE_cmp, evE_cmp2, evE_ite, evE_tup, evE_lst, evE_call, evE_bi, evE_join, evE_idx, evE_slice, evEs_nil, evEs_cons, evO_none, evO_some, getV_int h, of_some, bind_ok, eq_ii]

theorem PutOk.snoc {S : List Tree} {t : Tree} (hS : Fine S) (h1 : t.Ok) (h2 : t.dep ≤ 12) (h3 : t.cnt ≤ 1) (h4 : t.nod ≤ 1) : PutOk S (S ++ [t]) := by
  refine ⟨by simp, fun u hu => ?_, by simp, ?_, by rw [nods_app, nods_one]; (first | lia | omega)⟩
  · rcases List.mem_append.mp hu with q | q
    · exact hS u q
    · rw [List.mem_singleton.mp q]; exact ⟨h1, h2⟩
  · unfold Mine.wgt
    rw [List.map_append, sum_app, List.length_append]
    simp only [List.map_cons, List.map_nil, List.sum_cons, List.sum_nil, List.length_cons, List.length_nil]
    (first | lia | omega)
theorem PutOk.last {K : List Tree} {t u : Tree} (hS : Fine (K ++ [t])) (h1 : u.Ok) (h2 : u.dep ≤ 12) (h3 : u.cnt ≤ t.cnt + 1) (h4 : u.nod ≤ t.nod + 1) : PutOk (K ++ [t]) (K ++ [u]) := by
  refine ⟨by simp, fun x hx => ?_, by simp, ?_, by rw [nods_app, nods_app, nods_one, nods_one]; (first | lia | omega)⟩
  · rcases List.mem_append.mp hx with q | q
    · exact hS x (List.mem_append_left _ q)
    · rw [List.mem_singleton.mp q]; exact ⟨h1, h2⟩
  · unfold Mine.wgt
    rw [List.map_append, List.map_append, sum_app, sum_app, List.length_append, List.length_append]
    simp only [List.map_cons, List.map_nil, List.sum_cons, List.sum_nil, List.length_cons, List.length_nil]
    (first | lia | omega)
theorem joinT_cnt {way : Int} {Q : List Tree} (h : Q ≠ []) : (joinT way Q).cnt ≤ (Q.map Tree.cnt).sum + Q.length - 1 := by
  have : Q.length ≠ 0 := fun e => h (List.length_eq_zero_iff.mp e)
  unfold joinT
  split
  · rw [cnt_pick]; (first | lia | omega)
  · rw [cnt_row]; (first | lia | omega)
theorem joinT_nod {way : Int} {Q : List Tree} : (joinT way Q).nod = 1 + Tree.nods Q := by
  unfold joinT
  split
  · exact nod_pick
  · exact nod_row
theorem joinT_ok {way : Int} {Q : List Tree} (h : 2 ≤ Q.length) (hl : Q.length ≤ 1000) (hQ : ∀ t ∈ Q, t.Ok) : (joinT way Q).Ok := by
  unfold joinT
  split
  · exact ok_pick.mpr ⟨⟨h, by (first | lia | omega)⟩, hQ⟩
  · exact ok_row.mpr ⟨⟨by (first | lia | omega), by (first | lia | omega)⟩, hQ⟩
theorem joinT_dep {way : Int} {Q : List Tree} : (joinT way Q).dep = 1 + Tree.deps Q := by
  unfold joinT
  split
  · exact dep_pick
  · exact dep_row
theorem PutOk.join {S : List Tree} {n : Nat} {way : Int} (hS : Fine S) (hSl : S.length ≤ 1000) (hm2 : 2 ≤ (S.drop n).length) (h2 : Tree.deps (S.drop n) < 12) : PutOk S (S.take n ++ [joinT way (S.drop n)]) := by
  have h0 : S.drop n ≠ [] := by intro e; rw [e] at hm2; simp at hm2
  have hc := joinT_cnt (way := way) h0
  have hl : (S.drop n).length ≠ 0 := fun e => h0 (List.length_eq_zero_iff.mp e)
  have e : Mine.wgt S = Mine.wgt (S.take n) + Mine.wgt (S.drop n) := by
    unfold Mine.wgt
    have h := List.take_append_drop n S
    have h1 : (S.map Tree.cnt).sum = ((S.take n).map Tree.cnt).sum + ((S.drop n).map Tree.cnt).sum := by rw [← sum_app, ← List.map_append, h]
    have h2 : S.length = (S.take n).length + (S.drop n).length := by rw [← List.length_append, h]
    (first | lia | omega)
  refine ⟨by simp, fun x hx => ?_, ?_, ?_, ?_⟩
  · rcases List.mem_append.mp hx with q | q
    · exact hS x (List.mem_of_mem_take q)
    · rw [List.mem_singleton.mp q]
      exact ⟨joinT_ok hm2 (by rw [List.length_drop]; (first | lia | omega)) fun t ht => (hS t (List.mem_of_mem_drop ht)).1, by rw [joinT_dep]; (first | lia | omega)⟩
  · rw [List.length_append, List.length_take]; simp only [List.length_cons, List.length_nil]; (first | lia | omega)
  · rw [e]
    unfold Mine.wgt at *
    rw [List.map_append, sum_app, List.length_append]
    simp only [List.map_cons, List.map_nil, List.sum_cons, List.sum_nil, List.length_cons, List.length_nil]
    (first | lia | omega)
  · have e2 : Tree.nods S = Tree.nods (S.take n) + Tree.nods (S.drop n) := by rw [← nods_app, List.take_append_drop]
    rw [nods_app, nods_one, joinT_nod, e2]; (first | lia | omega)

noncomputable def high (S : List Tree) : Int := match S.getLast? with | some t => (t.dep : Int) | none => 0

theorem put_add {S : List Tree} {t : Tree} (hl : S.length ≤ 1000) : vBin σ .add (.lst (S.map item)) (.lst [item t]) = some (.lst ((S ++ [t]).map item)) := by
  rw [vBin_addL (by rw [List.length_map]; simp only [List.length_cons, List.length_nil]; unfold roomy; (first | lia | omega)), List.map_append]; rfl

theorem put_body {k : Int} (hk : 1 ≤ k) {S : List Tree} {c : Int} {l : List Nat} (hS : Fine S) (hl : S.length ≤ 900)
    (h6 : ∀ (way : Int) (m : Nat), 1 ≤ m → m ≤ S.length → cf 6 [.int way, .lst (S.map item), .int (m : Int)] σ = .ok (.lst ((S.take (S.length - m) ++ [joinT way (S.drop (S.length - m))]).map item)) σ)
    (h5 : ∃ b s, cf 5 [.int (c.fdiv 9), .str l] σ = .ok (Tree.take b s).v σ ∧ (Tree.take b s).Ok) :
    ∃ S' Γ, exB gl cf (dPut k).body [.lst (S.map item), .int c, .str l, .undef, .undef, .undef, .undef, .undef] σ = .ok (.ret (.lst (S'.map item)), Γ) σ ∧ PutOk S S' := by
  have hlen : vBi σ .len [.lst (S.map item)] = some (.int (S.length : Int)) := by rw [bi_len_l, List.length_map]
  -- the head: way, rest, high
  have hd : exB gl cf (dPut k).body [.lst (S.map item), .int c, .str l, .undef, .undef, .undef, .undef, .undef] σ = exB gl cf ((dPut k).body.drop 4) [.lst (S.map item), .int c, .str l, .int (c.fmod 9), .int (c.fdiv 9), .int (high S), .undef, .undef] σ := by
    refine (exB_asg (v := .int (c.fmod 9)) (σ' := σ) ?_).trans ((exB_asg (v := .int (c.fdiv 9)) (σ' := σ) ?_).trans ((exB_asg (v := .int 0) (σ' := σ) evE_cInt).trans ?_))
    · simp only [evE_cNone, evE_cBool, evE_cInt, evE_cStr, evE_var, evE_glob, evE_and, evE_or, evE_not, evE_neg, evE_bin, evE_cmp, evE_cmp2, evE_ite, evE_tup, evE_lst, evE_call, evE_bi, evE_join, evE_idx, evE_slice, evEs_nil, evEs_cons, evO_none, evO_some, getV, List.getElem?_cons_zero, List.getElem?_cons_succ, of_some, bind_ok, vBin_mod (a := c) (b := 9) (σ := σ) (by decide)]
    · simp only [List.set_cons_succ, List.set_cons_zero, evE_cNone, evE_cBool, evE_cInt, evE_cStr, evE_var, evE_glob, evE_and, evE_or, evE_not, evE_neg, evE_bin, evE_cmp, evE_cmp2, evE_ite, evE_tup, evE_lst, evE_call, evE_bi, evE_join, evE_idx, evE_slice, evEs_nil, evEs_cons, evO_none, evO_some, getV, List.getElem?_cons_zero, List.getElem?_cons_succ, of_some, bind_ok, vBin_fdiv (a := c) (b := 9) (σ := σ) rfl (by decide)]
    · rcases List.eq_nil_or_concat S with rfl | ⟨K, t, rfl⟩
      · exact exB_skip (v := .lst []) (σ' := σ) rfl rfl
      · rw [List.concat_eq_append]
        have hlast : vIdx σ (.lst ((K ++ [t]).map item)) (.int (-1)) = some (item t) := vIdx_last rfl rfl (by rw [List.map_append]; simp)
        refine exB_into (v := .lst ((K ++ [t]).map item)) (σ' := σ) rfl (by rw [true_l, List.map_append]; simp) ((exB_asg (v := .int (t.dep : Int)) (σ' := σ) ?_).trans (exB_nil0.trans ?_))
        · simp only [List.set_cons_succ, List.set_cons_zero, evE_cNone, evE_cBool, evE_cInt, evE_cStr, evE_var, evE_glob, evE_and, evE_or, evE_not, evE_neg, evE_bin, evE_cmp, evE_cmp2, evE_ite, evE_tup, evE_lst, evE_call, evE_bi, evE_join, evE_idx, evE_slice, evEs_nil, evEs_cons, evO_none, evO_some, getV, List.getElem?_cons_zero, List.getElem?_cons_succ, of_some, bind_ok, neg_i, hlast, item_3]
        · simp [high]
  rw [hd]
  generalize hH : high S = H
  obtain ⟨w1, w2⟩ := fmod_range c (b := 9) (by decide)
  generalize hW : c.fmod 9 = W at w1 w2 ⊢
  generalize hR : c.fdiv 9 = R at h5 ⊢
  -- the last two statements
  have tail : ∀ {y6 y7 : V}, ∃ S' Γ, exB gl cf ((dPut k).body.drop 7) [.lst (S.map item), .int c, .str l, .int W, .int R, .int H, y6, y7] σ = .ok (.ret (.lst (S'.map item)), Γ) σ ∧ PutOk S S' := by
    intro y6 y7
    have t8 : evE gl cf (.and (.cmp .eq (.var 3) (.cInt 8)) (.cmp .eq (.bin .mod (.var 4) (.cInt 3)) (.cInt 0))) [.lst (S.map item), .int c, .str l, .int W, .int R, .int H, y6, y7] σ = .ok (.bool (W == 8 && R.fmod 3 == 0)) σ := by
      refine and_bb (eq_ic rfl) fun _ => ?_
      simp only [evE_cNone, evE_cBool, evE_cInt, evE_cStr, evE_var, evE_glob, evE_and, evE_or, evE_not, evE_neg, evE_bin, evE_cmp, evE_cmp2, evE_ite, evE_tup, evE_lst, evE_call, evE_bi, evE_join, evE_idx, evE_slice, evEs_nil, evEs_cons, evO_none, evO_some, getV, List.getElem?_cons_zero, List.getElem?_cons_succ, of_some, bind_ok, vBin_mod (a := R) (b := 3) (σ := σ) (by decide), eq_ii]
    cases hb : (W == 8 && R.fmod 3 == 0) with
    | true =>
      rw [hb] at t8
      refine ⟨S ++ [.row []], _, exB_take t8 rfl (exB_rets (σ' := σ) ?_), PutOk.snoc hS (ok_row.mpr ⟨⟨by simp, by simp⟩, by simp⟩) (by rw [dep_row, Tree.deps]; (first | lia | omega)) (by rw [cnt_row]; simp) (by rw [nod_row, Tree.nods]; (first | lia | omega))⟩
      simp only [evE_cNone, evE_cBool, evE_cInt, evE_cStr, evE_var, evE_glob, evE_and, evE_or, evE_not, evE_neg, evE_bin, evE_cmp, evE_cmp2, evE_ite, evE_tup, evE_lst, evE_call, evE_bi, evE_join, evE_idx, evE_slice, evEs_nil, evEs_cons, evO_none, evO_some, getV, List.getElem?_cons_zero, List.getElem?_cons_succ, of_some, bind_ok, tup0, tup2, tup4, putL_1]
      rw [show V.tup [V.tup [V.str [114, 111, 119], V.tup []], V.bool true, V.int 0, V.int 1] = item (.row []) from rfl, put_add (by (first | lia | omega))]; rfl
    | false =>
      rw [hb] at t8
      obtain ⟨b, s, h5, h5'⟩ := h5
      refine ⟨S ++ [.take b s], _, (exB_skip t8 rfl).trans (exB_rets (σ' := σ) ?_), PutOk.snoc hS h5' (by rw [dep_take]; (first | lia | omega)) (by rw [Tree.cnt]; (first | lia | omega)) (by rw [nod_take]; (first | lia | omega))⟩
      simp only [evE_cNone, evE_cBool, evE_cInt, evE_cStr, evE_var, evE_glob, evE_and, evE_or, evE_not, evE_neg, evE_bin, evE_cmp, evE_cmp2, evE_ite, evE_tup, evE_lst, evE_call, evE_bi, evE_join, evE_idx, evE_slice, evEs_nil, evEs_cons, evO_none, evO_some, getV, List.getElem?_cons_zero, List.getElem?_cons_succ, of_some, bind_ok, h5, tup4, putL_1]
      rw [show V.tup [(Tree.take b s).v, V.bool false, V.int 1, V.int 1] = item (.take b s) from rfl, put_add (by (first | lia | omega))]; rfl
  -- the join
  have mid : ∀ {y6 : V}, ∃ S' Γ, exB gl cf ((dPut k).body.drop 6) [.lst (S.map item), .int c, .str l, .int W, .int R, .int H, y6, .undef] σ = .ok (.ret (.lst (S'.map item)), Γ) σ ∧ PutOk S S' := by
    intro y6
    have t45 : evE gl cf (.and (.or (.cmp .eq (.var 3) (.cInt 4)) (.cmp .eq (.var 3) (.cInt 5))) (.cmp .gt (.bi .len [(.var 0)]) (.cInt 1))) [.lst (S.map item), .int c, .str l, .int W, .int R, .int H, y6, .undef] σ = .ok (.bool ((W == 4 || W == 5) && decide ((S.length : Int) > 1))) σ := by
      refine and_bb (or_bb (eq_ic rfl) fun _ => eq_ic rfl) fun _ => ?_
      simp only [evE_cNone, evE_cBool, evE_cInt, evE_cStr, evE_var, evE_glob, evE_and, evE_or, evE_not, evE_neg, evE_bin, evE_cmp, evE_cmp2, evE_ite, evE_tup, evE_lst, evE_call, evE_bi, evE_join, evE_idx, evE_slice, evEs_nil, evEs_cons, evO_none, evO_some, getV, List.getElem?_cons_zero, List.getElem?_cons_succ, of_some, bind_ok, hlen, gt_ii]
    cases hb : ((W == 4 || W == 5) && decide ((S.length : Int) > 1)) with
    | false =>
      rw [hb] at t45
      obtain ⟨S', Γ, h, ok⟩ := tail (y6 := y6) (y7 := .undef)
      exact ⟨S', Γ, (exB_skip t45 rfl).trans h, ok⟩
    | true =>
      rw [hb] at t45
      have hgt : (S.length : Int) > 1 := of_decide_eq_true (Bool.and_eq_true_iff.mp hb).2
      have hmin : 0 < min k ((S.length : Int) - 1) := by (first | lia | omega)
      obtain ⟨q1, q2⟩ := fmod_range R hmin
      obtain ⟨m, hm⟩ : ∃ m : Nat, 2 + R.fmod (min k ((S.length : Int) - 1)) = (m : Int) := ⟨(2 + R.fmod (min k ((S.length : Int) - 1))).toNat, by (first | lia | omega)⟩
      have hm1 : 1 ≤ m := by (first | lia | omega)
      have hm2 : m ≤ S.length := by (first | lia | omega)
      obtain ⟨e1, _⟩ := stack_cuts (σ := σ) hm2 (by (first | lia | omega))
      have hQl := drop_parts hm2
      have hQ0 : S.drop (S.length - m) ≠ [] := by intro e; rw [e] at hQl; simp at hQl; (first | lia | omega)
      have sm : evE gl cf (.bin .add (.cInt 2) (.bin .mod (.var 4) (.bi .min2 [(.cInt k), (.bin .sub (.bi .len [(.var 0)]) (.cInt 1))]))) [.lst (S.map item), .int c, .str l, .int W, .int R, .int H, y6, .undef] σ = .ok (.int (m : Int)) σ := by
        simp only [evE_cNone, evE_cBool, evE_cInt, evE_cStr, evE_var, evE_glob, evE_and, evE_or, evE_not, evE_neg, evE_bin, evE_cmp, evE_cmp2, evE_ite, evE_tup, evE_lst, evE_call, evE_bi, evE_join, evE_idx, evE_slice, evEs_nil, evEs_cons, evO_none, evO_some, getV, List.getElem?_cons_zero, List.getElem?_cons_succ, of_some, bind_ok, hlen, vBin_sub, bi_min2, vBin_mod (a := R) (σ := σ) (Int.ne_of_gt hmin), vBin_add, hm]
      have sx : evE gl cf (.cmp .lt (.bi .max1 [(.comp false (.idx (.var 8) (.cInt 3)) .val (.slice (.var 0) (some (.bin .sub (.bi .len [(.var 0)]) (.var 7))) none) .cNone none)]) (.cInt 12)) [.lst (S.map item), .int c, .str l, .int W, .int R, .int H, y6, .int (m : Int)] σ = .ok (.bool (decide ((Tree.deps (S.drop (S.length - m)) : Int) < 12))) σ := by
        have hc : evE gl cf (.comp false (.idx (.var 8) (.cInt 3)) .val (.slice (.var 0) (some (.bin .sub (.bi .len [(.var 0)]) (.var 7))) none) .cNone none) [.lst (S.map item), .int c, .str l, .int W, .int R, .int H, y6, .int (m : Int)] σ = .ok (.lst ((S.drop (S.length - m)).map fun t => V.int (t.dep : Int))) σ := by
          refine evE_compM (x := .lst ((S.drop (S.length - m)).map item)) (y := .none) (σ₁ := σ) ?_ evE_cNone rfl (fun z _ => ?_) (by rw [hQl]; unfold roomy; (first | lia | omega))
          · simp only [evE_cNone, evE_cBool, evE_cInt, evE_cStr, evE_var, evE_glob, evE_and, evE_or, evE_not, evE_neg, evE_bin, evE_cmp, evE_cmp2, evE_ite, evE_tup, evE_lst, evE_call, evE_bi, evE_join, evE_idx, evE_slice, evEs_nil, evEs_cons, evO_none, evO_some, getV, List.getElem?_cons_zero, List.getElem?_cons_succ, of_some, bind_ok, hlen, vBin_sub, asInt_i, e1]
          · have hv : getV ([.lst (S.map item), .int c, .str l, .int W, .int R, .int H, y6, .int (m : Int)] ++ [item z]) 8 = some (item z) := rfl
            simp only [evE_cNone, evE_cBool, evE_cInt, evE_cStr, evE_var, evE_glob, evE_and, evE_or, evE_not, evE_neg, evE_bin, evE_cmp, evE_cmp2, evE_ite, evE_tup, evE_lst, evE_call, evE_bi, evE_join, evE_idx, evE_slice, evEs_nil, evEs_cons, evO_none, evO_some, hv, of_some, bind_ok, item_3]
        rw [evE_cmp, evE_bi, evEs_cons, hc]
        simp only [evE_cNone, evE_cBool, evE_cInt, evE_cStr, evE_var, evE_glob, evE_and, evE_or, evE_not, evE_neg, evE_bin, evE_cmp, evE_cmp2, evE_ite, evE_tup, evE_lst, evE_call, evE_bi, evE_join, evE_idx, evE_slice, evEs_nil, evEs_cons, evO_none, evO_some, bind_ok, max_dep hQ0, of_some, lt_ii]
      by_cases hx : (Tree.deps (S.drop (S.length - m)) : Int) < 12
      · rw [decide_eq_true hx] at sx
        refine ⟨S.take (S.length - m) ++ [joinT W (S.drop (S.length - m))], _, exB_take t45 rfl ((exB_asg sm).trans (exB_take sx rfl (exB_rets (σ' := σ) ?_))), PutOk.join hS (by (first | lia | omega)) (by rw [hQl]; (first | lia | omega)) (by (first | lia | omega))⟩
        simp only [List.set_cons_succ, List.set_cons_zero, evE_cNone, evE_cBool, evE_cInt, evE_cStr, evE_var, evE_glob, evE_and, evE_or, evE_not, evE_neg, evE_bin, evE_cmp, evE_cmp2, evE_ite, evE_tup, evE_lst, evE_call, evE_bi, evE_join, evE_idx, evE_slice, evEs_nil, evEs_cons, evO_none, evO_some, getV, List.getElem?_cons_zero, List.getElem?_cons_succ, of_some, bind_ok, h6 W m hm1 hm2]
      · rw [decide_eq_false hx] at sx
        obtain ⟨S', Γ, h, ok⟩ := tail (y6 := y6) (y7 := .int (m : Int))
        exact ⟨S', Γ, (exB_into (Γ' := [.lst (S.map item), .int c, .str l, .int W, .int R, .int H, y6, .int (m : Int)]) t45 rfl ((exB_asg sm).trans ((exB_skip sx rfl).trans exB_nil0))).trans h, ok⟩
  have hi : evE gl cf (.cmp2 .lt .lt (.cInt 0) (.var 5) (.cInt 12)) [.lst (S.map item), .int c, .str l, .int W, .int R, .int H, .undef, .undef] σ = .ok (.bool (decide (0 < H) && decide (H < 12))) σ :=
    cmp2_lt evE_cInt rfl evE_cInt
  have t6 := and_bb (gl := gl) (cf := cf) (eq_ic (gl := gl) (cf := cf) (σ := σ) (Γ := [.lst (S.map item), .int c, .str l, .int W, .int R, .int H, .undef, .undef]) (i := 3) (k := 6) rfl) fun _ => hi
  -- S is not empty where high is not 0
  have hne : 0 < H → ∃ K t, S = K ++ [t] ∧ H = (t.dep : Int) := fun h => by
    rcases List.eq_nil_or_concat S with rfl | ⟨K, t, rfl⟩
    · rw [← hH] at h; exact absurd h (by simp [high])
    · refine ⟨K, t, List.concat_eq_append .., ?_⟩
      rw [← hH]; simp [high]
  cases hb6 : (W == 6 && (decide (0 < H) && decide (H < 12))) with
  | true =>
    rw [hb6] at t6
    obtain ⟨b1, b2⟩ := Bool.and_eq_true_iff.mp (Bool.and_eq_true_iff.mp hb6).2
    obtain ⟨K, t, rfl, hHt⟩ := hne (of_decide_eq_true b1)
    have hlast : vIdx σ (.lst ((K ++ [t]).map item)) (.int (-1)) = some (item t) := vIdx_last rfl rfl (by rw [List.map_append]; simp)
    have hcut : vCut σ (.lst ((K ++ [t]).map item)) none (some (-1)) = some (.lst (K.map item)) := by
      rw [vCut_l rfl rfl, cut_m1 rfl, List.map_append]; simp
    have hlt := of_decide_eq_true b2
    have hft := hS t (by simp)
    refine ⟨K ++ [.maybe t (decide (R.fmod 3 > 0))], _, exB_take t6 rfl ((exB_asg (v := item t) (σ' := σ) ?_).trans (exB_rets (σ' := σ) ?_)), PutOk.last hS (by rw [Tree.Ok]; exact hft.1) (by rw [dep_maybe]; (first | lia | omega)) (by rw [Tree.cnt]; (first | lia | omega)) (by rw [nod_maybe]; (first | lia | omega))⟩
    · simp only [evE_cNone, evE_cBool, evE_cInt, evE_cStr, evE_var, evE_glob, evE_and, evE_or, evE_not, evE_neg, evE_bin, evE_cmp, evE_cmp2, evE_ite, evE_tup, evE_lst, evE_call, evE_bi, evE_join, evE_idx, evE_slice, evEs_nil, evEs_cons, evO_none, evO_some, getV, List.getElem?_cons_zero, List.getElem?_cons_succ, of_some, bind_ok, neg_i, hlast]
    · have hi6 : getV [V.lst ((K ++ [t]).map item), .int c, .str l, .int W, .int R, .int H, item t, .undef] 6 = some (item t) := rfl
      simp only [List.set_cons_succ, List.set_cons_zero, evE_cNone, evE_cBool, evE_cInt, evE_cStr, evE_var, evE_glob, evE_and, evE_or, evE_not, evE_neg, evE_bin, evE_cmp, evE_cmp2, evE_ite, evE_tup, evE_lst, evE_call, evE_bi, evE_join, evE_idx, evE_slice, evEs_nil, evEs_cons, evO_none, evO_some, hi6, of_some, bind_ok, item_0, item_2]
      simp only [getV, List.getElem?_cons_zero, List.getElem?_cons_succ, of_some, bind_ok, neg_i, asInt_i, hcut, vBin_mod (a := R) (b := 3) (σ := σ) (by decide), gt_ii, vBin_add, tup3, tup4, putL_1]
      rw [show V.tup [V.tup [V.str [109, 97, 121, 98, 101], t.v, V.bool (decide (R.fmod 3 > 0))], V.bool true, V.int (t.cnt + 1), V.int (H + 1)] = item (.maybe t (decide (R.fmod 3 > 0))) by rw [hHt]; rfl,
        put_add (by rw [List.length_append] at hl; (first | lia | omega))]; rfl
  | false =>
  rw [hb6] at t6
  have t7 : ∃ bb : Bool, evE gl cf (.and (.cmp .eq (.var 3) (.cInt 7)) (.and (.cmp2 .lt .lt (.cInt 0) (.var 5) (.cInt 12)) (.not (.idx (.idx (.var 0) (.neg (.cInt 1))) (.cInt 1))))) [.lst (S.map item), .int c, .str l, .int W, .int R, .int H, .undef, .undef] σ = .ok (.bool bb) σ ∧
      (bb = true → 0 < H ∧ H < 12 ∧ ∀ K t, S = K ++ [t] → t.bare = false) := by
    by_cases h0 : 0 < H
    · obtain ⟨K, t, hKt, hHt⟩ := hne h0
      have hlast : vIdx σ (.lst (S.map item)) (.int (-1)) = some (item t) := vIdx_last rfl rfl (by rw [hKt, List.map_append]; simp)
      have hnot : evE gl cf (.not (.idx (.idx (.var 0) (.neg (.cInt 1))) (.cInt 1))) [.lst (S.map item), .int c, .str l, .int W, .int R, .int H, .undef, .undef] σ = .ok (.bool (!t.bare)) σ := by
        refine not_bb ?_
        simp only [evE_cNone, evE_cBool, evE_cInt, evE_cStr, evE_var, evE_glob, evE_and, evE_or, evE_not, evE_neg, evE_bin, evE_cmp, evE_cmp2, evE_ite, evE_tup, evE_lst, evE_call, evE_bi, evE_join, evE_idx, evE_slice, evEs_nil, evEs_cons, evO_none, evO_some, getV, List.getElem?_cons_zero, List.getElem?_cons_succ, of_some, bind_ok, neg_i, hlast, item_1]
      refine ⟨_, and_bb (eq_ic rfl) fun _ => and_bb hi fun _ => hnot, fun hb => ?_⟩
      have hb := Bool.and_eq_true_iff.mp (Bool.and_eq_true_iff.mp hb).2
      refine ⟨h0, of_decide_eq_true (Bool.and_eq_true_iff.mp hb.1).2, fun K' t' e => ?_⟩
      rw [hKt] at e
      have := List.append_inj_right' e rfl
      rw [← List.head_eq_of_cons_eq this]
      exact Bool.not_eq_true' _ ▸ hb.2
    · refine ⟨_, and_bb (eq_ic rfl) fun _ => and_bb (q := false) hi fun hq => ?_, fun hb => ?_⟩
      · rw [decide_eq_false h0] at hq; cases hq
      · rw [decide_eq_false h0] at hb; simp at hb
  obtain ⟨bb, t7, hbb⟩ := t7
  cases bb with
  | false =>
    obtain ⟨S', Γ, h, ok⟩ := mid (y6 := .undef)
    exact ⟨S', Γ, (exB_skip t6 rfl).trans ((exB_skip t7 rfl).trans h), ok⟩
  | true =>
    obtain ⟨b1, b2, b3⟩ := hbb rfl
    obtain ⟨K, t, rfl, hHt⟩ := hne b1
    have hbare := b3 K t rfl
    have hlast : vIdx σ (.lst ((K ++ [t]).map item)) (.int (-1)) = some (item t) := vIdx_last rfl rfl (by rw [List.map_append]; simp)
    have hcut : vCut σ (.lst ((K ++ [t]).map item)) none (some (-1)) = some (.lst (K.map item)) := by
      rw [vCut_l rfl rfl, cut_m1 rfl, List.map_append]; simp
    have hft := hS t (by simp)
    refine ⟨K ++ [.many t (decide (R.fmod 3 > 0))], _, (exB_skip t6 rfl).trans (exB_take t7 rfl ((exB_asg (v := item t) (σ' := σ) ?_).trans (exB_rets (σ' := σ) ?_))), PutOk.last hS (by rw [Tree.Ok]; exact ⟨hft.1, hbare⟩) (by rw [dep_many]; (first | lia | omega)) (by rw [Tree.cnt]; (first | lia | omega)) (by rw [nod_many]; (first | lia | omega))⟩
    · simp only [evE_cNone, evE_cBool, evE_cInt, evE_cStr, evE_var, evE_glob, evE_and, evE_or, evE_not, evE_neg, evE_bin, evE_cmp, evE_cmp2, evE_ite, evE_tup, evE_lst, evE_call, evE_bi, evE_join, evE_idx, evE_slice, evEs_nil, evEs_cons, evO_none, evO_some, getV, List.getElem?_cons_zero, List.getElem?_cons_succ, of_some, bind_ok, neg_i, hlast]
    · have hi6 : getV [V.lst ((K ++ [t]).map item), .int c, .str l, .int W, .int R, .int H, item t, .undef] 6 = some (item t) := rfl
      simp only [List.set_cons_succ, List.set_cons_zero, evE_cNone, evE_cBool, evE_cInt, evE_cStr, evE_var, evE_glob, evE_and, evE_or, evE_not, evE_neg, evE_bin, evE_cmp, evE_cmp2, evE_ite, evE_tup, evE_lst, evE_call, evE_bi, evE_join, evE_idx, evE_slice, evEs_nil, evEs_cons, evO_none, evO_some, hi6, of_some, bind_ok, item_0, item_2]
      simp only [getV, List.getElem?_cons_zero, List.getElem?_cons_succ, of_some, bind_ok, neg_i, asInt_i, hcut, vBin_mod (a := R) (b := 3) (σ := σ) (by decide), gt_ii, vBin_add, tup3, tup4, putL_1]
      rw [show V.tup [V.tup [V.str [109, 97, 110, 121], t.v, V.bool (decide (R.fmod 3 > 0))], V.bool true, V.int (t.cnt + 1), V.int (H + 1)] = item (.many t (decide (R.fmod 3 > 0))) by rw [hHt]; rfl,
        put_add (by rw [List.length_append] at hl; (first | lia | omega))]; rfl
end
end Mine

namespace Mine

structure HT (P : List Def) (k : Int) : Prop where
  s : HS P
  kp : 1 ≤ k
  tk : P[5]? = some d_l_take_by_v02
  jn : P[6]? = some d_l_joined_by_v02
  pt : P[7]? = some (dPut k)
  tr : P[8]? = some d_l_tree_by

section
variable {gl : List V} {cf : CF} {σ : Sg} {Γ : Fm} {P : List Def} {k : Int} {d : Nat}

theorem call_put (H : HT P k) {S : List Tree} {c : Int} {l : List Nat} (h3 : Three l) (hS : Fine S) (hl : S.length ≤ 900) :
    ∃ S', callF gl P (d + 3) 7 [.lst (S.map item), .int c, .str l] σ = .ok (.lst (S'.map item)) σ ∧ PutOk S S' := by
  obtain ⟨S', Γ, h, ok⟩ := put_body (gl := gl) (cf := callF gl P (d + 2)) (σ := σ) H.kp hS hl (fun way m h1 h2 => call_joined H.jn (d := d + 1) way S m h1 h2 (by (first | lia | omega))) (call_take H.s H.tk (c.fdiv 9) h3)
  exact ⟨S', callF_ret (D := dPut k) H.pt rfl h, ok⟩

theorem tree_loop (H : HT P k) {l : List Nat} (h3 : Three l) {a : V} : ∀ (cs : List Int) (S : List Tree) (y : V), Fine S → S.length + cs.length ≤ 900 →
    ∃ S' y', forGo (exB gl (callF gl P (d + 3)) [.asg 2 (.call 7 [(.var 2), (.var 3), (.var 1)])]) 3 (cs.map V.int) [a, .str l, .lst (S.map item), y] σ = .ok (.next, [a, .str l, .lst (S'.map item), y']) σ ∧
      Fine S' ∧ S'.length ≤ S.length + cs.length ∧ wgt S' ≤ wgt S + 2 * cs.length ∧ Tree.nods S' ≤ Tree.nods S + cs.length
  | [], S, y, hS, _ => ⟨S, y, rfl, hS, by simp, by simp, by simp⟩
  | c :: cs, S, y, hS, hn => by
    rw [List.length_cons] at hn
    obtain ⟨S₁, h1, ok⟩ := call_put (gl := gl) (d := d) (σ := σ) H (c := c) h3 hS (by (first | lia | omega))
    have hl1 := ok.len
    obtain ⟨S', y', h2, g1, g2, g3, g4⟩ := tree_loop H h3 (a := a) cs S₁ (.int c) ok.fine (by (first | lia | omega))
    refine ⟨S', y', ?_, g1, by rw [List.length_cons]; (first | lia | omega), by rw [List.length_cons]; have := ok.wgt; (first | lia | omega), by rw [List.length_cons]; have := ok.nod; (first | lia | omega)⟩
    rw [List.map_cons, forGo_next (Γ' := [a, .str l, .lst (S₁.map item), .int c]) (σ' := σ) ((exB_asg (v := .lst (S₁.map item)) (σ' := σ) ?_).trans exB_nil0)]
    · exact h2
    · simp only [List.set_cons_succ, List.set_cons_zero, evE_cNone, evE_cBool, evE_cInt, evE_cStr, evE_var, evE_glob, evE_and, evE_or, evE_not, evE_neg, evE_bin, evE_cmp, evE_cmp2, evE_ite, evE_tup, evE_lst, evE_call, evE_bi, evE_join, evE_idx, evE_slice, evEs_nil, evEs_cons, evO_none, evO_some, getV, List.getElem?_cons_zero, List.getElem?_cons_succ, of_some, bind_ok, h1]

/-- the tree of a law -/
theorem call_tree (H : HT P k) {l : List Nat} (h3 : Three l) (cs : List Int) (hn : cs.length ≤ 400) :
    ∃ T : Tree, callF gl P (d + 4) 8 [.lst (cs.map V.int), .str l] σ = .ok (item T) σ ∧ T.Ok ∧ T.dep ≤ 13 ∧ T.cnt ≤ 2 * cs.length ∧ T.nod ≤ cs.length + 1 := by
  obtain ⟨S, y, hlp, hS, hl, hw, hnd⟩ := tree_loop (gl := gl) (d := d) (σ := σ) H h3 (a := .lst (cs.map V.int)) cs [] .undef (fun t ht => by cases ht) (by simp; (first | lia | omega))
  have hw : wgt S ≤ 2 * cs.length := by have : wgt [] = 0 := rfl; (first | lia | omega)
  simp only [List.length_nil, Nat.zero_add] at hl
  rw [Tree.nods, Nat.zero_add] at hnd
  have hlen : vBi σ .len [.lst (S.map item)] = some (.int (S.length : Int)) := by rw [bi_len_l, List.length_map]
  have head : exB gl (callF gl P (d + 3)) d_l_tree_by.body [.lst (cs.map V.int), .str l, .undef, .undef] σ = exB gl (callF gl P (d + 3)) (d_l_tree_by.body.drop 2) [.lst (cs.map V.int), .str l, .lst (S.map item), y] σ := by
    refine (exB_asg (v := .lst []) (σ' := σ) ?_).trans (exB_next ((exS_for (x := .lst (cs.map V.int)) (y := .none) (σ₁ := σ) (σ₂ := σ) rfl evE_cNone rfl).trans hlp))
    simp only [evE_cNone, evE_cBool, evE_cInt, evE_cStr, evE_var, evE_glob, evE_and, evE_or, evE_not, evE_neg, evE_bin, evE_cmp, evE_cmp2, evE_ite, evE_tup, evE_lst, evE_call, evE_bi, evE_join, evE_idx, evE_slice, evEs_nil, evEs_cons, evO_none, evO_some, bind_ok, putL_0]
  have tl : ∀ {q : Int}, evE gl (callF gl P (d + 3)) (.cmp .eq (.bi .len [(.var 2)]) (.cInt q)) [.lst (cs.map V.int), .str l, .lst (S.map item), y] σ = .ok (.bool ((S.length : Int) == q)) σ := by
    intro q
    simp only [evE_cNone, evE_cBool, evE_cInt, evE_cStr, evE_var, evE_glob, evE_and, evE_or, evE_not, evE_neg, evE_bin, evE_cmp, evE_cmp2, evE_ite, evE_tup, evE_lst, evE_call, evE_bi, evE_join, evE_idx, evE_slice, evEs_nil, evEs_cons, evO_none, evO_some, getV, List.getElem?_cons_zero, List.getElem?_cons_succ, of_some, bind_ok, hlen, eq_ii]
  by_cases h0 : S.length = 0
  · refine ⟨.row [], callF_ret (D := d_l_tree_by) (Γ' := [.lst (cs.map V.int), .str l, .lst (S.map item), y]) H.tr rfl (head.trans (exB_take tl (by rw [h0]; rfl) (exB_rets (σ' := σ) ?_))), ok_row.mpr ⟨⟨by simp, by simp⟩, by simp⟩, by rw [dep_row, Tree.deps]; (first | lia | omega), by rw [cnt_row]; simp; (first | lia | omega), by rw [nod_row, Tree.nods]; (first | lia | omega)⟩
    simp only [evE_cNone, evE_cBool, evE_cInt, evE_cStr, evE_var, evE_glob, evE_and, evE_or, evE_not, evE_neg, evE_bin, evE_cmp, evE_cmp2, evE_ite, evE_tup, evE_lst, evE_call, evE_bi, evE_join, evE_idx, evE_slice, evEs_nil, evEs_cons, evO_none, evO_some, bind_ok, tup0, tup2, tup4]; rfl
  have e0 : ((S.length : Int) == 0) = false := by rw [beq_eq_false_iff_ne]; (first | lia | omega)
  by_cases h1 : S.length = 1
  · obtain ⟨t, rfl⟩ := List.length_eq_one_iff.mp h1
    have ht := hS t (by simp)
    refine ⟨t, callF_ret (D := d_l_tree_by) (Γ' := [.lst (cs.map V.int), .str l, .lst ([t].map item), y]) H.tr rfl (head.trans ((exB_skip tl (by rw [e0]; rfl)).trans (exB_take tl rfl (exB_rets (σ' := σ) ?_)))), ht.1, by (first | lia | omega), ?_, by rw [nods_one] at hnd; (first | lia | omega)⟩
    · simp only [evE_cNone, evE_cBool, evE_cInt, evE_cStr, evE_var, evE_glob, evE_and, evE_or, evE_not, evE_neg, evE_bin, evE_cmp, evE_cmp2, evE_ite, evE_tup, evE_lst, evE_call, evE_bi, evE_join, evE_idx, evE_slice, evEs_nil, evEs_cons, evO_none, evO_some, getV, List.getElem?_cons_zero, List.getElem?_cons_succ, of_some, bind_ok, List.map_cons, idx_l0]
    · unfold wgt at hw; simp at hw; (first | lia | omega)
  have e1 : ((S.length : Int) == 1) = false := by rw [beq_eq_false_iff_ne]; (first | lia | omega)
  have hS0 : S ≠ [] := fun e => h0 (by rw [e]; rfl)
  obtain ⟨c, cs', rfl⟩ : ∃ c cs', cs = c :: cs' := by
    cases cs with
    | nil => simp at hl; exact (hS0 hl).elim
    | cons c cs' => exact ⟨c, cs', rfl⟩
  have hj := call_joined (gl := gl) (σ := σ) (d := d + 2) H.jn (4 + if (c.fmod 3 == 1) then 1 else 0) S S.length (by (first | lia | omega)) (Nat.le_refl _) (by (first | lia | omega))
  rw [Nat.sub_self, List.take_zero, List.drop_zero, List.nil_append] at hj
  generalize hway : (4 + if (c.fmod 3 == 1) then 1 else 0 : Int) = way at hj
  refine ⟨joinT way S, callF_ret (D := d_l_tree_by) (Γ' := [.lst ((c :: cs').map V.int), .str l, .lst (S.map item), y]) H.tr rfl (head.trans ((exB_skip tl (by rw [e0]; rfl)).trans ((exB_skip tl (by rw [e1]; rfl)).trans (exB_rets (σ' := σ) ?_)))), joinT_ok (by (first | lia | omega)) (by (first | lia | omega)) fun t ht => (hS t ht).1, ?_, ?_, by rw [joinT_nod]; (first | lia | omega)⟩
  · simp only [evE_cNone, evE_cBool, evE_cInt, evE_cStr, evE_var, evE_glob, evE_and, evE_or, evE_not, evE_neg, evE_bin, evE_cmp, evE_cmp2, evE_ite, evE_tup, evE_lst, evE_call, evE_bi, evE_join, evE_idx, evE_slice, evEs_nil, evEs_cons, evO_none, evO_some, getV, List.getElem?_cons_zero, List.getElem?_cons_succ, of_some, bind_ok, List.map_cons, idx_l0, vBin_mod (a := c) (b := 3) (σ := σ) (by decide), eq_ii, bi_int, vBin_add, hlen, hway]
    rw [hj, bind_ok, List.map_cons, idx_l0]; rfl
  · rw [joinT_dep]
    have := deps_le (n := 12) fun t ht => (hS t ht).2
    (first | lia | omega)
  · have := joinT_cnt (way := way) hS0
    unfold wgt at hw
    (first | lia | omega)
end
end Mine

namespace Mine

section
variable {gl : List V} {cf : CF} {σ : Sg} {Γ : Fm} {P : List Def} {d : Nat}

theorem three_ok (c : Int) : Three [sign c, sign (c + 31), sign (c + 62)] := ⟨_, _, _, rfl, sign_mem _, sign_mem _, sign_mem _⟩

end
end Mine

namespace Mine

section
variable {gl : List V} {cf : CF} {σ σ' : Sg} {Γ Γ' : Fm} {P : List Def}

theorem while_step {c : Ex} {b : List St} (h1 : evE gl cf c Γ σ = .ok (.bool true) σ) (h2 : exB gl cf b Γ σ = .ok (.next, Γ') σ') : exS gl cf (.while c b) Γ σ = exS gl cf (.while c b) Γ' σ' := by
  rw [exS_while0, exS_while0, loopW_unfold, h1, bind_ok, true_b, of_some, bind_ok, if_pos rfl, h2, bind_ok]
  rfl
theorem while_end {c : Ex} {b : List St} (h1 : evE gl cf c Γ σ = .ok (.bool false) σ) : exS gl cf (.while c b) Γ σ = .ok (.next, Γ) σ := by
  rw [exS_while0, loopW_unfold, h1, bind_ok, true_b, of_some, bind_ok, if_neg Bool.false_ne_true]
  rfl
theorem while_ret {c : Ex} {b : List St} {v : V} (h1 : evE gl cf c Γ σ = .ok (.bool true) σ) (h2 : exB gl cf b Γ σ = .ok (.ret v, Γ') σ') : exS gl cf (.while c b) Γ σ = .ok (.ret v, Γ') σ' := by
  rw [exS_while0, loopW_unfold, h1, bind_ok, true_b, of_some, bind_ok, if_pos rfl, h2, bind_ok]
  rfl
theorem exB_ite_else {e : Ex} {a b r : List St} {v : V} {σ₂ : Sg} (h : evE gl cf e Γ σ = .ok v σ') (ht : vTrue σ' v = some false) (hr : exB gl cf b Γ σ' = .ok (.next, Γ') σ₂) : exB gl cf (.ite e a b :: r) Γ σ = exB gl cf r Γ' σ₂ := exB_next ((exS_iteF h ht).trans hr)
theorem exB_ret_into {e : Ex} {a b : List St} {v : V} {z : Res (Fl × Fm)} (h : evE gl cf e Γ σ = .ok v σ') (ht : vTrue σ' v = some true) (hr : exB gl cf a Γ σ' = z) : exB gl cf [.ite e a b] Γ σ = z := by
  rw [exB_cons0, exS_iteT h ht, hr]
  cases z with
  | ok p s => obtain ⟨f, Γ⟩ := p; cases f <;> rfl
  | ex c s => rfl
  | bad => rfl
theorem exB_ret_else {e : Ex} {a b : List St} {v : V} {z : Res (Fl × Fm)} (h : evE gl cf e Γ σ = .ok v σ') (ht : vTrue σ' v = some false) (hr : exB gl cf b Γ σ' = z) : exB gl cf [.ite e a b] Γ σ = z := by
  rw [exB_cons0, exS_iteF h ht, hr]
  cases z with
  | ok p s => obtain ⟨f, Γ⟩ := p; cases f <;> rfl
  | ex c s => rfl
  | bad => rfl
theorem exB_expr {e : Ex} {r : List St} {v : V} (h : evE gl cf e Γ σ = .ok v σ') : exB gl cf (.expr e :: r) Γ σ = exB gl cf r Γ σ' := exB_next (exS_expr h)

theorem get_ref {i : Nat} {xs : List V} (h : σ[i]? = some (.lst xs)) : getL σ (.ref i) = some xs := by rw [getL, h]
theorem seq_ref {i : Nat} {xs : List V} (h : σ[i]? = some (.lst xs)) : getSeq σ (.ref i) = some xs := (show getL σ (.ref i) = some xs from get_ref h)
theorem len_ref {i : Nat} {xs : List V} (h : σ[i]? = some (.lst xs)) : vBi σ .len [.ref i] = some (.int (xs.length : Int)) := by
  show (vLen σ (.ref i)).map _ = _
  rw [vLen, h]; rfl
theorem app_ref {i : Nat} {xs : List V} {v : V} (h : σ[i]? = some (.lst xs)) (hn : xs.length < roomy) : vApp σ (.ref i) v = some (σ.set i (.lst (xs ++ [v]))) := by
  rw [vApp, h]; simp only [hn, if_true]
theorem live_ref {i : Nat} {xs : List V} (h : σ[i]? = some (.lst xs)) : liveL σ (.ref i) = some () := by rw [liveL, h]
theorem pop_ref {i : Nat} {xs : List V} {v : V} (h : σ[i]? = some (.lst (xs ++ [v]))) : vPop σ (.ref i) = some (v, σ.set i (.lst xs)) := by
  rw [vPop, h]; simp
/-- o.append(x), where x leaves the store alone or lets it grow -/
theorem evE_appR {o x : Ex} {i : Nat} {xs ys : List V} {v : V} {σ₁ : Sg} (h1 : evE gl cf o Γ σ = .ok (.ref i) σ) (h2 : σ[i]? = some (.lst xs)) (h3 : evE gl cf x Γ σ = .ok v σ₁) (h4 : σ₁[i]? = some (.lst ys)) (hn : ys.length < roomy) :
    evE gl cf (.app o x) Γ σ = .ok .none (σ₁.set i (.lst (ys ++ [v]))) := by
  rw [evE_app, h1, bind_ok, live_ref h2, of_some, bind_ok, h3, bind_ok, app_ref h4 hn]; rfl
theorem evE_popR {o : Ex} {i : Nat} {xs : List V} {v : V} (h1 : evE gl cf o Γ σ = .ok (.ref i) σ) (h2 : σ[i]? = some (.lst (xs ++ [v]))) : evE gl cf (.pop o) Γ σ = .ok v (σ.set i (.lst xs)) := by
  rw [evE_pop, h1, bind_ok, pop_ref h2]; rfl
abbrev Ad := Nat × Nat × Nat
noncomputable def Grp (σ : Sg) (a : Ad) (x : List Tree × List Tree) : Prop := σ[a.1]? = some (.lst [.ref a.2.1, .ref a.2.2]) ∧ σ[a.2.1]? = some (.lst (x.1.map Tree.v)) ∧ σ[a.2.2]? = some (.lst (x.2.map Tree.v))
noncomputable def All2 (σ : Sg) : List Ad → List (List Tree × List Tree) → Prop
  | [], [] => True
  | a :: As, x :: X => Grp σ a x ∧ All2 σ As X
  | _, _ => False
noncomputable def adrs : List Ad → List Nat
  | [] => []
  | a :: r => a.1 :: a.2.1 :: a.2.2 :: adrs r
/-- the groups, the innermost first -/
structure GS (σ : Sg) (g : Nat) (As : List Ad) (X : List (List Tree × List Tree)) : Prop where
  top : σ[g]? = some (.lst (As.map fun a => V.ref a.1).reverse)
  all : All2 σ As X
  nd : (g :: adrs As).Nodup

theorem Grp.frame {a : Ad} {x : List Tree × List Tree} (h : Grp σ a x) (h1 : σ'[a.1]? = σ[a.1]?) (h2 : σ'[a.2.1]? = σ[a.2.1]?) (h3 : σ'[a.2.2]? = σ[a.2.2]?) : Grp σ' a x := ⟨h1.trans h.1, h2.trans h.2.1, h3.trans h.2.2⟩
theorem All2.frame : ∀ {As : List Ad} {X : List (List Tree × List Tree)}, All2 σ As X → (∀ i ∈ adrs As, σ'[i]? = σ[i]?) → All2 σ' As X
  | [], [], _, _ => trivial
  | a :: As, x :: X, h, hi => ⟨h.1.frame (hi _ (by simp [adrs])) (hi _ (by simp [adrs])) (hi _ (by simp [adrs])), h.2.frame fun i hm => hi i (by simp [adrs, hm])⟩
theorem All2.lt : ∀ {As : List Ad} {X : List (List Tree × List Tree)}, All2 σ As X → ∀ i ∈ adrs As, i < σ.length
  | a :: As, x :: X, h, i, hi => by
    simp only [adrs, List.mem_cons] at hi
    rcases hi with rfl | rfl | rfl | hi
    · exact (List.getElem?_eq_some_iff.mp h.1.1).1
    · exact (List.getElem?_eq_some_iff.mp h.1.2.1).1
    · exact (List.getElem?_eq_some_iff.mp h.1.2.2).1
    · exact h.2.lt i hi
theorem GS.lt {g : Nat} {As : List Ad} {X : List (List Tree × List Tree)} (h : GS σ g As X) : g < σ.length := (List.getElem?_eq_some_iff.mp h.top).1
/-- cells that come behind change nothing -/
theorem GS.ext {g : Nat} {As : List Ad} {X : List (List Tree × List Tree)} (h : GS σ g As X) (e : List Cell) : GS (σ ++ e) g As X :=
  ⟨by rw [List.getElem?_append_left h.lt]; exact h.top, h.all.frame fun i hi => List.getElem?_append_left (h.all.lt i hi), h.nd⟩

theorem set_ne {i j : Nat} {c : Cell} (h : i ≠ j) : (σ.set i c)[j]? = σ[j]? := List.getElem?_set_ne h
theorem set_eq {i : Nat} {c : Cell} (h : i < σ.length) : (σ.set i c)[i]? = some c := by rw [List.getElem?_set_self' ]; simp [h]

structure Apt (g : Nat) (a : Ad) (As : List Ad) : Prop where
  g1 : g ≠ a.1
  g2 : g ≠ a.2.1
  g3 : g ≠ a.2.2
  d12 : a.1 ≠ a.2.1
  d13 : a.1 ≠ a.2.2
  d23 : a.2.1 ≠ a.2.2
  r : ∀ i ∈ adrs As, i ≠ g ∧ i ≠ a.1 ∧ i ≠ a.2.1 ∧ i ≠ a.2.2
  nd : (g :: adrs As).Nodup
theorem apt {g : Nat} {a : Ad} {As : List Ad} (h : (g :: adrs (a :: As)).Nodup) : Apt g a As := by
  simp only [adrs, List.nodup_cons, List.mem_cons, not_or] at h
  obtain ⟨⟨h1, h2, h3, h4⟩, ⟨h5, h6, h7⟩, ⟨h8, h9⟩, h10, h11⟩ := h
  exact ⟨h1, h2, h3, h5, h6, h8, fun i hi => ⟨fun e => h4 (e ▸ hi), fun e => h7 (e ▸ hi), fun e => h9 (e ▸ hi), fun e => h10 (e ▸ hi)⟩, List.nodup_cons.mpr ⟨h4, h11⟩⟩

variable {g : Nat} {a : Ad} {As : List Ad} {x : List Tree × List Tree} {X : List (List Tree × List Tree)}

/-- a tree behind the pieces of the innermost group -/
theorem GS.push (h : GS σ g (a :: As) (x :: X)) (ts : List Tree) : GS (σ.set a.2.2 (.lst (ts.map Tree.v))) g (a :: As) ((x.1, ts) :: X) := by
  have A := apt h.nd
  refine ⟨by rw [set_ne A.g3.symm]; exact h.top, ⟨⟨by rw [set_ne A.d13.symm]; exact h.all.1.1, by rw [set_ne A.d23.symm]; exact h.all.1.2.1, ?_⟩, h.all.2.frame fun i hi => set_ne (A.r i hi).2.2.2.symm⟩, h.nd⟩
  exact set_eq (List.getElem?_eq_some_iff.mp h.all.1.2.2).1
/-- the pieces anew -/
theorem GS.fresh (h : GS σ g (a :: As) (x :: X)) : GS ((σ ++ [Cell.lst []]).set a.1 (.lst [.ref a.2.1, .ref σ.length])) g ((a.1, a.2.1, σ.length) :: As) ((x.1, []) :: X) := by
  have A := apt h.nd
  have hE := h.ext [.lst []]
  have l1 := (List.getElem?_eq_some_iff.mp h.all.1.1).1
  have l2 := (List.getElem?_eq_some_iff.mp h.all.1.2.1).1
  have hg := h.lt
  refine ⟨by rw [set_ne A.g1.symm, hE.top]; rfl, ⟨⟨?_, ?_, ?_⟩, hE.all.2.frame fun i hi => set_ne (A.r i hi).2.1.symm⟩, ?_⟩
  · exact set_eq (by rw [List.length_append]; simp only [List.length_cons, List.length_nil]; (first | lia | omega))
  · rw [set_ne A.d12]; exact hE.all.1.2.1
  · show ((σ ++ [Cell.lst []]).set a.1 _)[σ.length]? = _
    rw [set_ne (by (first | lia | omega)), List.getElem?_concat_length]; rfl
  · show (g :: a.1 :: a.2.1 :: σ.length :: adrs As).Nodup
    have hr : ∀ i ∈ adrs As, i < σ.length := h.all.2.lt
    have n1 := A.nd
    simp only [List.nodup_cons] at n1 ⊢
    simp only [List.mem_cons, not_or]
    refine ⟨⟨A.g1, A.g2, by (first | lia | omega), n1.1⟩, ⟨A.d12, by (first | lia | omega), fun hm => (A.r _ hm).2.1 rfl⟩, ⟨by (first | lia | omega), fun hm => (A.r _ hm).2.2.1 rfl⟩, fun hm => ?_, n1.2⟩
    have := hr _ hm; (first | lia | omega)
end
end Mine

namespace Mine

/-- the steps of a net -/
inductive Sp where
  | fin
  | take (b : Bool) (s : List Nat) (n : Nat)
  | part (x y : Nat)
noncomputable def Sp.v : Sp → V
  | .fin => .tup [.str [101, 110, 100]]
  | .take b s n => .tup [.str [116, 97, 107, 101], .bool b, .str s, .int (n : Int)]
  | .part x y => .tup [.str [112, 97, 114, 116], .int (x : Int), .int (y : Int)]
theorem getV_sp {Γ : Fm} {i : Nat} {x : Sp} (h : Γ[i]? = some x.v) : getV Γ i = some x.v := by
  rw [getV, h]; cases x <;> rfl
noncomputable def partE (e : Bool) (i n : Nat) : Sp := if e then .part i n else .part n i

noncomputable def pk : Nat → List Nat → List Sp → List Sp × Nat
  | a, [], S => (S, a)
  | a, b :: r, S => ((pk b r S).1 ++ [.part a (pk b r S).2], (pk b r S).1.length)
noncomputable def pkL (n : Nat) : List Sp × List Nat → List Sp × Nat
  | (S, []) => (S, n)
  | (S, a :: r) => pk a r S
mutual
noncomputable def Tree.led : Tree → List Sp → Nat → List Sp × Nat
  | .take b s, S, n => (S ++ [.take b s n], S.length)
  | .row ts, S, n => Tree.ledR ts S n
  | .pick ts, S, n => pkL n (Tree.ledP ts S n)
  | .maybe t e, S, n => ((t.led S n).1 ++ [partE e (t.led S n).2 n], (t.led S n).1.length)
  | .many t e, S, n => ((t.led (S ++ [.fin]) S.length).1.set S.length (partE e (t.led (S ++ [.fin]) S.length).2 n), S.length)
noncomputable def Tree.ledR : List Tree → List Sp → Nat → List Sp × Nat
  | [], S, n => (S, n)
  | t :: r, S, n => t.led (Tree.ledR r S n).1 (Tree.ledR r S n).2
noncomputable def Tree.ledP : List Tree → List Sp → Nat → List Sp × List Nat
  | [], S, _ => (S, [])
  | t :: r, S, n => ((Tree.ledP r (t.led S n).1 n).1, (t.led S n).2 :: (Tree.ledP r (t.led S n).1 n).2)
end

theorem pk_len : ∀ (a : Nat) (r : List Nat) (S : List Sp), (pk a r S).1.length = S.length + r.length
  | a, [], S => rfl
  | a, b :: r, S => by rw [pk, List.length_append, pk_len b r S]; simp only [List.length_cons, List.length_nil]; (first | lia | omega)
mutual
theorem led_len : ∀ (t : Tree) (S : List Sp) (n : Nat), t.Ok → ((t.led S n).1.length : Int) = S.length + t.cnt
  | .take b s, S, n, _ => by rw [Tree.led, Tree.cnt, List.length_append]; rfl
  | .row ts, S, n, h => by rw [Tree.led, Tree.cnt]; rw [Tree.Ok] at h; exact ledR_len ts S n h.2
  | .pick ts, S, n, h => by
    rw [Tree.led, Tree.cnt]; rw [Tree.Ok] at h
    obtain ⟨e1, e2⟩ := ledP_len ts S n h.2
    generalize Tree.ledP ts S n = p at e1 e2 ⊢
    obtain ⟨S', fs⟩ := p
    cases fs with
    | nil => have := h.1.1; rw [← e2] at this; simp at this
    | cons a r => rw [pkL, pk_len]; simp only [List.length_cons] at e1 e2; (first | lia | omega)
  | .maybe t e, S, n, h => by rw [Tree.led, Tree.cnt, List.length_append]; rw [Tree.Ok] at h; have := led_len t S n h; simp only [List.length_cons, List.length_nil]; (first | lia | omega)
  | .many t e, S, n, h => by
    rw [Tree.led, Tree.cnt, List.length_set]; rw [Tree.Ok] at h
    have := led_len t (S ++ [.fin]) S.length h.1
    rw [List.length_append] at this
    simp only [List.length_cons, List.length_nil] at this; (first | lia | omega)
theorem ledR_len : ∀ (ts : List Tree) (S : List Sp) (n : Nat), Tree.Oks ts → ((Tree.ledR ts S n).1.length : Int) = S.length + Tree.cnts ts
  | [], S, n, _ => by rw [Tree.ledR, Tree.cnts]; show (S.length : Int) = _; (first | lia | omega)
  | t :: r, S, n, h => by
    rw [Tree.ledR, Tree.cnts]; rw [Tree.Oks] at h
    have h1 := ledR_len r S n h.2
    have h2 := led_len t (Tree.ledR r S n).1 (Tree.ledR r S n).2 h.1
    (first | lia | omega)
theorem ledP_len : ∀ (ts : List Tree) (S : List Sp) (n : Nat), Tree.Oks ts → ((Tree.ledP ts S n).1.length : Int) = S.length + Tree.cnts ts ∧ (Tree.ledP ts S n).2.length = ts.length
  | [], S, n, _ => by rw [Tree.ledP, Tree.cnts]; exact ⟨by show (S.length : Int) = _; (first | lia | omega), rfl⟩
  | t :: r, S, n, h => by
    rw [Tree.ledP, Tree.cnts]; rw [Tree.Oks] at h
    have h2 := led_len t S n h.1
    obtain ⟨h1, h3⟩ := ledP_len r (t.led S n).1 n h.2
    exact ⟨by show (((Tree.ledP r (t.led S n).1 n).1.length : Nat) : Int) = _; (first | lia | omega), by rw [List.length_cons, h3, List.length_cons]⟩
end

/-- every step leads to a step -/
noncomputable def Sp.below (k : Nat) : Sp → Prop
  | .fin => True
  | .take _ _ n => n < k
  | .part x y => x < k ∧ y < k
noncomputable def Wf (S : List Sp) : Prop := ∀ x ∈ S, x.below S.length
theorem Sp.below_le {k m : Nat} (h : k ≤ m) {x : Sp} (hx : x.below k) : x.below m := by
  cases x with
  | fin => trivial
  | take b s n => exact Nat.lt_of_lt_of_le hx h
  | part x y => exact ⟨Nat.lt_of_lt_of_le hx.1 h, Nat.lt_of_lt_of_le hx.2 h⟩
theorem Wf.snoc {S : List Sp} {x : Sp} (h : Wf S) (hx : x.below (S.length + 1)) : Wf (S ++ [x]) := by
  intro y hy
  rw [List.length_append]
  rcases List.mem_append.mp hy with q | q
  · exact Sp.below_le (Nat.le_add_right _ _) (h y q)
  · rw [List.mem_singleton.mp q]; exact hx
theorem Wf.put {S : List Sp} {x : Sp} {k : Nat} (h : Wf S) (hx : x.below S.length) : Wf (S.set k x) := by
  intro y hy
  rw [List.length_set]
  rcases List.mem_or_eq_of_mem_set hy with q | q
  · exact h y q
  · rw [q]; exact hx
theorem partE_below {e : Bool} {i n k : Nat} (h1 : i < k) (h2 : n < k) : (partE e i n).below k := by cases e <;> exact ⟨by assumption, by assumption⟩
theorem pk_wf : ∀ (a : Nat) (r : List Nat) {S : List Sp}, Wf S → (∀ x ∈ a :: r, x < S.length) → Wf (pk a r S).1 ∧ (pk a r S).2 < (pk a r S).1.length ∧ S.length ≤ (pk a r S).1.length
  | a, [], S, h, ha => ⟨h, ha a List.mem_cons_self, Nat.le_refl _⟩
  | a, b :: r, S, h, ha => by
    obtain ⟨h1, h2, h3⟩ := pk_wf b r h fun x hx => ha x (List.mem_cons_of_mem _ hx)
    rw [pk]
    have := ha a List.mem_cons_self
    rw [List.length_append]
    exact ⟨h1.snoc ⟨Nat.lt_succ_of_lt (Nat.lt_of_lt_of_le this h3), Nat.lt_succ_of_lt h2⟩, Nat.lt_succ_self _, Nat.le_succ_of_le h3⟩
mutual
theorem led_wf : ∀ (t : Tree) {S : List Sp} {n : Nat}, Wf S → n < S.length → Wf (t.led S n).1 ∧ (t.led S n).2 < (t.led S n).1.length ∧ S.length ≤ (t.led S n).1.length
  | .take b s, S, n, h, hn => by
    rw [Tree.led, List.length_append]
    exact ⟨h.snoc (Nat.lt_succ_of_lt hn), Nat.lt_succ_self _, Nat.le_succ _⟩
  | .row ts, S, n, h, hn => by rw [Tree.led]; exact ledR_wf ts h hn
  | .pick ts, S, n, h, hn => by
    rw [Tree.led]
    obtain ⟨h1, h2, h3⟩ := ledP_wf ts h hn
    generalize Tree.ledP ts S n = p at h1 h2 h3 ⊢
    obtain ⟨S', fs⟩ := p
    cases fs with
    | nil => exact ⟨h1, Nat.lt_of_lt_of_le hn h3, h3⟩
    | cons a r =>
      obtain ⟨g1, g2, g3⟩ := pk_wf a r h1 h2
      exact ⟨g1, g2, Nat.le_trans h3 g3⟩
  | .maybe t e, S, n, h, hn => by
    rw [Tree.led, List.length_append]
    obtain ⟨h1, h2, h3⟩ := led_wf t h hn
    exact ⟨h1.snoc (partE_below (Nat.lt_succ_of_lt h2) (Nat.lt_succ_of_lt (Nat.lt_of_lt_of_le hn h3))), Nat.lt_succ_self _, Nat.le_succ_of_le h3⟩
  | .many t e, S, n, h, hn => by
    rw [Tree.led, List.length_set]
    obtain ⟨h1, h2, h3⟩ := led_wf t (S := S ++ [.fin]) (n := S.length) (h.snoc (x := .fin) trivial) (by simp)
    rw [List.length_append] at h3
    have h4 : S.length < (t.led (S ++ [.fin]) S.length).1.length := h3
    exact ⟨h1.put (partE_below h2 (Nat.lt_trans hn h4)), h4, Nat.le_of_lt h4⟩
theorem ledR_wf : ∀ (ts : List Tree) {S : List Sp} {n : Nat}, Wf S → n < S.length → Wf (Tree.ledR ts S n).1 ∧ (Tree.ledR ts S n).2 < (Tree.ledR ts S n).1.length ∧ S.length ≤ (Tree.ledR ts S n).1.length
  | [], S, n, h, hn => by rw [Tree.ledR]; exact ⟨h, hn, Nat.le_refl _⟩
  | t :: r, S, n, h, hn => by
    rw [Tree.ledR]
    obtain ⟨h1, h2, h3⟩ := ledR_wf r h hn
    obtain ⟨g1, g2, g3⟩ := led_wf t h1 h2
    exact ⟨g1, g2, Nat.le_trans h3 g3⟩
theorem ledP_wf : ∀ (ts : List Tree) {S : List Sp} {n : Nat}, Wf S → n < S.length → Wf (Tree.ledP ts S n).1 ∧ (∀ x ∈ (Tree.ledP ts S n).2, x < (Tree.ledP ts S n).1.length) ∧ S.length ≤ (Tree.ledP ts S n).1.length
  | [], S, n, h, hn => by rw [Tree.ledP]; exact ⟨h, fun x hx => (List.not_mem_nil hx).elim, Nat.le_refl _⟩
  | t :: r, S, n, h, hn => by
    rw [Tree.ledP]
    obtain ⟨g1, g2, g3⟩ := led_wf t h hn
    obtain ⟨h1, h2, h3⟩ := ledP_wf r g1 (Nat.lt_of_lt_of_le hn g3)
    refine ⟨h1, fun x hx => ?_, Nat.le_trans g3 h3⟩
    rcases List.mem_cons.mp hx with q | q
    · rw [q]; exact Nat.lt_of_lt_of_le g2 h3
    · exact h2 x q
end
end Mine

namespace Mine

theorem at_get {α : Type} {A B : List α} {c : α} : (A ++ c :: B)[A.length]? = some c := by simp
theorem at_set {α : Type} {A B : List α} {c c' : α} : (A ++ c :: B).set A.length c' = A ++ c' :: B := by simp

noncomputable def cel (S : List Sp) : Cell := .lst (S.map Sp.v)

structure HN0 (P : List Def) : Prop where
  pt : P[38]? = some d_put
  ld : P[39]? = some d_led
  pc : P[40]? = some d_picked
  pd : P[41]? = some d_parted
structure HN (P : List Def) : Prop where
  no : P[42]? = some d_net_of
  n : HN0 P

section
variable {gl : List V} {cf : CF} {σ σ' : Sg} {Γ Γ' : Fm} {P : List Def} {d : Nat} {A B : Sg}

theorem call_putS (H : HN0 P) {S : List Sp} {x : Sp} (hS : S.length < roomy) : callF gl P (d + 1) 38 [.ref A.length, x.v] (A ++ cel S :: B) = .ok (.int (S.length : Int)) (A ++ cel (S ++ [x]) :: B) := by
  have e1 : evE gl (callF gl P d) (.app (.var 0) (.var 1)) [.ref A.length, x.v] (A ++ cel S :: B) = .ok .none (A ++ cel (S ++ [x]) :: B) := by
    have h := evE_appR (gl := gl) (cf := callF gl P d) (o := .var 0) (x := .var 1) (Γ := [.ref A.length, x.v]) (σ := A ++ cel S :: B) (σ₁ := A ++ cel S :: B) (i := A.length) (xs := S.map Sp.v) (ys := S.map Sp.v) (v := x.v) rfl at_get (by rw [evE_var, getV_sp (Γ := [.ref A.length, x.v]) (i := 1) rfl]; rfl) at_get (by rw [List.length_map]; exact hS)
    rw [at_set] at h
    rw [h, cel, List.map_append]; rfl
  refine callF_ret (D := d_put) (Γ' := [.ref A.length, x.v]) H.pt rfl ((exB_expr e1).trans (exB_rets (σ' := A ++ cel (S ++ [x]) :: B) ?_))
  have hl := len_ref (σ := A ++ cel (S ++ [x]) :: B) (i := A.length) at_get
  simp only [evE_cNone, evE_cBool, evE_cInt, evE_cStr, evE_var, evE_glob, evE_and, evE_or, evE_not, evE_neg, evE_bin, evE_cmp, evE_cmp2, evE_ite, evE_tup, evE_lst, evE_call, evE_bi, evE_join, evE_idx, evE_slice, evEs_nil, evEs_cons, evO_none, evO_some, getV, List.getElem?_cons_zero, List.getElem?_cons_succ, of_some, bind_ok, List.append_eq, List.nil_append, hl, vBin_sub]
  rw [List.length_map, List.length_append]
  simp

theorem call_parted (H : HN0 P) {i n : Nat} {e : Bool} : callF gl P (d + 1) 41 [.int (i : Int), .int (n : Int), .bool e] σ = .ok (partE e i n).v σ := by
  cases e with
  | true => exact callF_ret (D := d_parted) (Γ' := [.int (i : Int), .int (n : Int), .bool true]) H.pd rfl (exB_take (v := .bool true) (σ' := σ) rfl rfl (exB_rets (σ' := σ) (by
      simp only [evE_cNone, evE_cBool, evE_cInt, evE_cStr, evE_var, evE_glob, evE_and, evE_or, evE_not, evE_neg, evE_bin, evE_cmp, evE_cmp2, evE_ite, evE_tup, evE_lst, evE_call, evE_bi, evE_join, evE_idx, evE_slice, evEs_nil, evEs_cons, evO_none, evO_some, getV, List.getElem?_cons_zero, List.getElem?_cons_succ, of_some, bind_ok, tup3]; rfl)))
  | false => exact callF_ret (D := d_parted) (Γ' := [.int (i : Int), .int (n : Int), .bool false]) H.pd rfl ((exB_skip (v := .bool false) (σ' := σ) rfl rfl).trans (exB_rets (σ' := σ) (by
      simp only [evE_cNone, evE_cBool, evE_cInt, evE_cStr, evE_var, evE_glob, evE_and, evE_or, evE_not, evE_neg, evE_bin, evE_cmp, evE_cmp2, evE_ite, evE_tup, evE_lst, evE_call, evE_bi, evE_join, evE_idx, evE_slice, evEs_nil, evEs_cons, evO_none, evO_some, getV, List.getElem?_cons_zero, List.getElem?_cons_succ, of_some, bind_ok, tup3]; rfl)))

theorem forGo_app {body : Fm → Sg → Res (Fl × Fm)} {i : Nat} {Y : List V} : ∀ {X : List V} {Γ : Fm} {σ : Sg}, forGo body i X Γ σ = .ok (.next, Γ') σ' → forGo body i (X ++ Y) Γ σ = forGo body i Y Γ' σ'
  | [], Γ, σ, h => by rw [forGo_nil] at h; cases h; rfl
  | x :: r, Γ, σ, h => by
    rw [List.cons_append, forGo_cons]
    rw [forGo_cons] at h
    obtain ⟨p, σ₁, h1, h⟩ := bind_eq_ok h
    rw [h1, bind_ok]
    obtain ⟨f, Γ₁⟩ := p
    cases f with
    | next => exact forGo_app (X := r) h
    | ret v => cases h

/-- led, where the parts are led -/
noncomputable def LedAt (gl : List V) (cf : CF) (t : Tree) : Prop := ∀ (A B : Sg) (S : List Sp) (n : Nat), (S.length : Int) + t.cnt ≤ 100000 → cf 39 [.ref A.length, t.v, .int (n : Int)] (A ++ cel S :: B) = .ok (.int ((t.led S n).2 : Int)) (A ++ cel (t.led S n).1 :: B)

theorem row_loop {a1 y4 y5 : V} : ∀ (ts : List Tree) (S : List Sp) (n : Nat) (y3 : V), Tree.Oks ts → (∀ t ∈ ts, LedAt gl cf t) → (S.length : Int) + Tree.cnts ts ≤ 100000 →
    ∃ y3', forGo (exB gl cf [.asg 2 (.call 39 [(.var 0), (.var 3), (.var 2)])]) 3 (ts.map Tree.v).reverse [.ref A.length, a1, .int (n : Int), y3, y4, y5] (A ++ cel S :: B)
      = .ok (.next, [.ref A.length, a1, .int ((Tree.ledR ts S n).2 : Int), y3', y4, y5]) (A ++ cel (Tree.ledR ts S n).1 :: B)
  | [], S, n, y3, _, _, _ => ⟨y3, by rw [Tree.ledR]; rfl⟩
  | t :: r, S, n, y3, ok, h, hn => by
    rw [Tree.Oks] at ok
    rw [Tree.cnts] at hn
    have hc := cnt_nn t ok.1
    have hl := ledR_len r S n ok.2
    obtain ⟨y, ih⟩ := row_loop r S n y3 ok.2 (fun u hu => h u (List.mem_cons_of_mem _ hu)) (by (first | lia | omega))
    refine ⟨t.v, ?_⟩
    rw [List.map_cons, List.reverse_cons, forGo_app ih, Tree.ledR]
    generalize Tree.ledR r S n = q at hl ⊢
    rw [forGo_next (Γ' := [.ref A.length, a1, .int ((t.led q.1 q.2).2 : Int), t.v, y4, y5]) (σ' := A ++ cel (t.led q.1 q.2).1 :: B) ((exB_asg (v := .int ((t.led q.1 q.2).2 : Int)) ?_).trans exB_nil0), forGo_nil]
    have hv := getV_t (Γ := [.ref A.length, a1, .int (q.2 : Int), t.v, y4, y5]) (i := 3) (t := t) rfl
    simp only [List.set_cons_succ, List.set_cons_zero, evE_cNone, evE_cBool, evE_cInt, evE_cStr, evE_var, evE_glob, evE_and, evE_or, evE_not, evE_neg, evE_bin, evE_cmp, evE_cmp2, evE_ite, evE_tup, evE_lst, evE_call, evE_bi, evE_join, evE_idx, evE_slice, evEs_nil, evEs_cons, evO_none, evO_some, hv, of_some, bind_ok]
    simp only [getV, List.getElem?_cons_zero, List.getElem?_cons_succ, of_some, bind_ok, h t List.mem_cons_self A B q.1 q.2 (by (first | lia | omega))]

theorem pick_comp {a1 y3 y4 y5 : V} {n : Nat} : ∀ (ts : List Tree) (S : List Sp) (acc : List V), Tree.Oks ts → (∀ t ∈ ts, LedAt gl cf t) → (S.length : Int) + Tree.cnts ts ≤ 100000 →
    compGo (evT gl cf none) (evE gl cf (.call 39 [(.var 0), (.var 6), (.var 2)])) [.ref A.length, a1, .int (n : Int), y3, y4, y5] (ts.map Tree.v) acc (A ++ cel S :: B) = .ok (acc ++ (Tree.ledP ts S n).2.map fun (k : Nat) => V.int (k : Int)) (A ++ cel (Tree.ledP ts S n).1 :: B)
  | [], S, acc, _, _, _ => by rw [Tree.ledP, List.map_nil, List.map_nil, List.append_nil]; rfl
  | t :: r, S, acc, ok, h, hn => by
    rw [Tree.Oks] at ok
    rw [Tree.cnts] at hn
    have hc := cnt_nn t ok.1
    have hc' := cnts_nn r ok.2
    have hl := led_len t S n ok.1
    rw [List.map_cons, compGo_cons, evT_none, bind_ok, if_pos rfl, Tree.ledP]
    have hv := getV_t (Γ := [.ref A.length, a1, .int (n : Int), y3, y4, y5] ++ [t.v]) (i := 6) (t := t) rfl
    have he : evE gl cf (.call 39 [(.var 0), (.var 6), (.var 2)]) ([.ref A.length, a1, .int (n : Int), y3, y4, y5] ++ [t.v]) (A ++ cel S :: B) = .ok (.int ((t.led S n).2 : Int)) (A ++ cel (t.led S n).1 :: B) := by
      simp only [evE_cNone, evE_cBool, evE_cInt, evE_cStr, evE_var, evE_glob, evE_and, evE_or, evE_not, evE_neg, evE_bin, evE_cmp, evE_cmp2, evE_ite, evE_tup, evE_lst, evE_call, evE_bi, evE_join, evE_idx, evE_slice, evEs_nil, evEs_cons, evO_none, evO_some, hv, of_some, bind_ok]
      simp only [getV, List.cons_append, List.getElem?_cons_zero, List.getElem?_cons_succ, of_some, bind_ok, h t List.mem_cons_self A B S n (by (first | lia | omega))]
    rw [he, bind_ok, pick_comp r (t.led S n).1 _ ok.2 (fun u hu => h u (List.mem_cons_of_mem _ hu)) (by (first | lia | omega))]
    simp

theorem pick_loop (hp : ∀ (A B : Sg) (S : List Sp) (x : Sp), S.length < roomy → cf 38 [.ref A.length, x.v] (A ++ cel S :: B) = .ok (.int (S.length : Int)) (A ++ cel (S ++ [x]) :: B)) {a1 a2 a3 : V} {S : List Sp} :
    ∀ (a : Nat) (r : List Nat) (l y5 : V), ((a :: r).map fun (k : Nat) => V.int (k : Int)).getLast? = some l → S.length + r.length < roomy → ∃ y5', forGo (exB gl cf [.asg 4 (.call 38 [(.var 0), (.tup [(.cStr [112, 97, 114, 116]), (.var 5), (.var 4)])])]) 5 (((a :: r).map fun (k : Nat) => V.int (k : Int)).dropLast).reverse [.ref A.length, a1, a2, a3, l, y5] (A ++ cel S :: B)
      = .ok (.next, [.ref A.length, a1, a2, a3, .int ((pk a r S).2 : Int), y5']) (A ++ cel (pk a r S).1 :: B)
  | a, [], l, y5, hl, _ => by
    refine ⟨y5, ?_⟩
    cases hl
    rfl
  | a, b :: r, l, y5, hl, hn => by
    rw [List.length_cons] at hn
    obtain ⟨y, ih⟩ := pick_loop hp (S := S) (a1 := a1) (a2 := a2) (a3 := a3) b r l y5 (by rw [List.map_cons, List.map_cons, List.getLast?_cons_cons] at hl; exact hl) (by (first | lia | omega))
    refine ⟨.int (a : Int), ?_⟩
    have hk := pk_len b r S
    rw [show ((a :: b :: r).map fun (k : Nat) => V.int (k : Int)).dropLast = .int (a : Int) :: ((b :: r).map fun (k : Nat) => V.int (k : Int)).dropLast from rfl, List.reverse_cons, forGo_app ih, pk]
    generalize pk b r S = q at hk ⊢
    rw [forGo_next (Γ' := [.ref A.length, a1, a2, a3, .int (q.1.length : Int), .int (a : Int)]) (σ' := A ++ cel (q.1 ++ [.part a q.2]) :: B) ((exB_asg (v := .int (q.1.length : Int)) ?_).trans exB_nil0), forGo_nil]
    simp only [List.set_cons_succ, List.set_cons_zero, evE_cNone, evE_cBool, evE_cInt, evE_cStr, evE_var, evE_glob, evE_and, evE_or, evE_not, evE_neg, evE_bin, evE_cmp, evE_cmp2, evE_ite, evE_tup, evE_lst, evE_call, evE_bi, evE_join, evE_idx, evE_slice, evEs_nil, evEs_cons, evO_none, evO_some, getV, List.getElem?_cons_zero, List.getElem?_cons_succ, of_some, bind_ok, tup3]
    exact hp A B q.1 (.part a q.2) (by (first | lia | omega))

theorem getLast_map {f : Nat → V} (a : Nat) (r : List Nat) : ∃ l, ((a :: r).map f).getLast? = some (f l) := by
  refine ⟨(a :: r).getLast (by simp), ?_⟩
  rw [List.getLast?_map, List.getLast?_eq_some_getLast (by simp)]; rfl

theorem picked_body (hp : ∀ (A B : Sg) (S : List Sp) (x : Sp), S.length < roomy → cf 38 [.ref A.length, x.v] (A ++ cel S :: B) = .ok (.int (S.length : Int)) (A ++ cel (S ++ [x]) :: B))
    (ts : List Tree) (S : List Sp) (n : Nat) (ok : (Tree.pick ts).Ok) (h : ∀ t ∈ ts, LedAt gl cf t) (hn : (S.length : Int) + (Tree.pick ts).cnt ≤ 100000) :
    ∃ Γ, exB gl cf d_picked.body [.ref A.length, .tup (ts.map Tree.v), .int (n : Int), .undef, .undef, .undef] (A ++ cel S :: B) = .ok (.ret (.int (((Tree.pick ts).led S n).2 : Int)), Γ) (A ++ cel ((Tree.pick ts).led S n).1 :: B) := by
  rw [Tree.cnt] at hn
  rw [Tree.Ok] at ok
  have hnn := cnts_nn ts ok.2
  obtain ⟨l1, l2⟩ := ledP_len ts S n ok.2
  have hc := pick_comp (gl := gl) (cf := cf) (A := A) (B := B) (a1 := .tup (ts.map Tree.v)) (y3 := .undef) (y4 := .undef) (y5 := .undef) (n := n) ts S [] ok.2 h (by have := ok.1.1; (first | lia | omega))
  rw [Tree.led]
  generalize Tree.ledP ts S n = q at l1 l2 hc ⊢
  obtain ⟨S', fs⟩ := q
  cases fs with
  | nil => have := ok.1.1; rw [← l2] at this; simp at this
  | cons a r =>
  rw [pkL]
  dsimp only at l1 l2 hc
  rw [List.length_cons] at l2
  obtain ⟨l, hl⟩ := getLast_map (f := fun (k : Nat) => V.int (k : Int)) a r
  obtain ⟨y5, hlp⟩ := pick_loop (gl := gl) (A := A) (B := B) hp (a1 := .tup (ts.map Tree.v)) (a2 := .int (n : Int)) (a3 := .lst ((a :: r).map fun (k : Nat) => V.int (k : Int))) (S := S') a r (.int (l : Int)) .undef hl (by unfold roomy; (first | lia | omega))
  refine ⟨_, (exB_asg (v := .lst ((a :: r).map fun (k : Nat) => V.int (k : Int))) (σ' := A ++ cel S' :: B) ?_).trans ((exB_asg (v := .int (l : Int)) (σ' := A ++ cel S' :: B) ?_).trans ((exB_next ((exS_for (x := .lst ((a :: r).map fun (k : Nat) => V.int (k : Int)).dropLast) (y := .none) (σ₁ := A ++ cel S' :: B) (σ₂ := A ++ cel S' :: B) ?_ evE_cNone rfl).trans hlp)).trans (exB_rets rfl)))⟩
  · rw [evE_comp0, evE_var, show getV [.ref A.length, .tup (ts.map Tree.v), .int (n : Int), .undef, .undef, .undef] 1 = some (.tup (ts.map Tree.v)) from rfl, of_some, bind_ok, evE_cNone, bind_ok, show vItems .val (.tup (ts.map Tree.v)) .none = some (ts.map Tree.v) from rfl, of_some, bind_ok, hc, bind_ok, List.nil_append, putL_f (by rw [List.length_map, List.length_cons]; unfold roomy; have := ok.1.2; (first | lia | omega))]
  · have hg := vIdx_last (σ := A ++ cel S' :: B) (v := .lst ((a :: r).map fun (k : Nat) => V.int (k : Int))) (i := -1) rfl rfl hl
    simp only [List.set_cons_succ, List.set_cons_zero, evE_cNone, evE_cBool, evE_cInt, evE_cStr, evE_var, evE_glob, evE_and, evE_or, evE_not, evE_neg, evE_bin, evE_cmp, evE_cmp2, evE_ite, evE_tup, evE_lst, evE_call, evE_bi, evE_join, evE_idx, evE_slice, evEs_nil, evEs_cons, evO_none, evO_some, getV, List.getElem?_cons_zero, List.getElem?_cons_succ, of_some, bind_ok, neg_i, hg]
  · have hg := vCut_l (σ := A ++ cel S' :: B) (xs := (a :: r).map fun (k : Nat) => V.int (k : Int)) (lo := none) (hi := some (-1)) rfl rfl
    simp only [List.set_cons_succ, List.set_cons_zero, evE_cNone, evE_cBool, evE_cInt, evE_cStr, evE_var, evE_glob, evE_and, evE_or, evE_not, evE_neg, evE_bin, evE_cmp, evE_cmp2, evE_ite, evE_tup, evE_lst, evE_call, evE_bi, evE_join, evE_idx, evE_slice, evEs_nil, evEs_cons, evO_none, evO_some, getV, List.getElem?_cons_zero, List.getElem?_cons_succ, of_some, bind_ok, neg_i, asInt_i, hg, cut_m1]

theorem tagc {s w : List Nat} {r : List V} {i : Nat} (h : Γ[i]? = some (.tup (.str s :: r))) : evE gl cf (.cmp .eq (.idx (.var i) (.cInt 0)) (.cStr w)) Γ σ = .ok (.bool (s == w)) σ := by
  have hv : getV Γ i = some (.tup (.str s :: r)) := by rw [getV, h]
  simp only [evE_cNone, evE_cBool, evE_cInt, evE_cStr, evE_var, evE_glob, evE_and, evE_or, evE_not, evE_neg, evE_bin, evE_cmp, evE_cmp2, evE_ite, evE_tup, evE_lst, evE_call, evE_bi, evE_join, evE_idx, evE_slice, evEs_nil, evEs_cons, evO_none, evO_some, hv, of_some, bind_ok, idx_t0, eq_ss]

theorem led_body (H : ∀ {A B : Sg} {S : List Sp} {x : Sp}, S.length < roomy → cf 38 [.ref A.length, x.v] (A ++ cel S :: B) = .ok (.int (S.length : Int)) (A ++ cel (S ++ [x]) :: B))
    (hpd : ∀ {i n : Nat} {e : Bool} {σ : Sg}, cf 41 [.int (i : Int), .int (n : Int), .bool e] σ = .ok (partE e i n).v σ)
    (t : Tree) (S : List Sp) (n : Nat) (ok : t.Ok) (hk : ∀ u : Tree, u.Ok → u.dep < t.dep → LedAt gl cf u)
    (hpk : ∀ ts : List Tree, (Tree.pick ts) = t → cf 40 [.ref A.length, .tup (ts.map Tree.v), .int (n : Int)] (A ++ cel S :: B) = .ok (.int (((Tree.pick ts).led S n).2 : Int)) (A ++ cel ((Tree.pick ts).led S n).1 :: B))
    (hn : (S.length : Int) + t.cnt ≤ 100000) :
    ∃ Γ, exB gl cf d_led.body [.ref A.length, t.v, .int (n : Int), .undef, .undef, .undef] (A ++ cel S :: B) = .ok (.ret (.int ((t.led S n).2 : Int)), Γ) (A ++ cel (t.led S n).1 :: B) := by
  cases t with
  | take b s =>
    rw [Tree.cnt] at hn
    refine ⟨_, exB_take (tagc rfl) rfl (exB_rets ?_)⟩
    rw [Tree.led, v_take]
    simp only [evE_cNone, evE_cBool, evE_cInt, evE_cStr, evE_var, evE_glob, evE_and, evE_or, evE_not, evE_neg, evE_bin, evE_cmp, evE_cmp2, evE_ite, evE_tup, evE_lst, evE_call, evE_bi, evE_join, evE_idx, evE_slice, evEs_nil, evEs_cons, evO_none, evO_some, getV, List.getElem?_cons_zero, List.getElem?_cons_succ, of_some, bind_ok, idx_t1, idx_t2, tup4]
    exact H (x := .take b s n) (by unfold roomy; (first | lia | omega))
  | row ts =>
    rw [Tree.cnt] at hn
    obtain ⟨y3, hlp⟩ := row_loop (gl := gl) (cf := cf) (A := A) (B := B) (a1 := .tup [.str [114, 111, 119], .tup (ts.map Tree.v)]) (y4 := .undef) (y5 := .undef) ts S n .undef (by rw [Tree.Ok] at ok; exact ok.2) (fun u hu => hk u ((ok_row.mp ok).2 u hu) (by rw [dep_row]; have := dep_mem hu; (first | lia | omega))) hn
    rw [v_row, Tree.led]
    refine ⟨_, (exB_skip (tagc rfl) rfl).trans (exB_take (tagc rfl) rfl ((exB_next ((exS_for (x := .tup (ts.map Tree.v)) (y := .none) (σ₁ := A ++ cel S :: B) (σ₂ := A ++ cel S :: B) ?_ evE_cNone rfl).trans hlp)).trans (exB_rets rfl)))⟩
    simp only [evE_cNone, evE_cBool, evE_cInt, evE_cStr, evE_var, evE_glob, evE_and, evE_or, evE_not, evE_neg, evE_bin, evE_cmp, evE_cmp2, evE_ite, evE_tup, evE_lst, evE_call, evE_bi, evE_join, evE_idx, evE_slice, evEs_nil, evEs_cons, evO_none, evO_some, getV, List.getElem?_cons_zero, List.getElem?_cons_succ, of_some, bind_ok, idx_t1]
  | pick ts =>
    rw [v_pick]
    refine ⟨_, (exB_skip (tagc rfl) rfl).trans ((exB_skip (tagc rfl) rfl).trans (exB_take (tagc rfl) rfl (exB_rets ?_)))⟩
    simp only [evE_cNone, evE_cBool, evE_cInt, evE_cStr, evE_var, evE_glob, evE_and, evE_or, evE_not, evE_neg, evE_bin, evE_cmp, evE_cmp2, evE_ite, evE_tup, evE_lst, evE_call, evE_bi, evE_join, evE_idx, evE_slice, evEs_nil, evEs_cons, evO_none, evO_some, getV, List.getElem?_cons_zero, List.getElem?_cons_succ, of_some, bind_ok, idx_t1, hpk ts rfl]
  | maybe t e =>
    have hv : ∀ {j : Int} {x : V}, vIdx (A ++ cel S :: B) (.tup [.str [109, 97, 121, 98, 101], t.v, .bool e]) (.int j) = some x → evE gl cf (.idx (.var 1) (.cInt j)) [.ref A.length, .tup [.str [109, 97, 121, 98, 101], t.v, .bool e], .int (n : Int), .undef, .undef, .undef] (A ++ cel S :: B) = .ok x (A ++ cel S :: B) := fun h => by
      simp only [evE_cNone, evE_cBool, evE_cInt, evE_cStr, evE_var, evE_glob, evE_and, evE_or, evE_not, evE_neg, evE_bin, evE_cmp, evE_cmp2, evE_ite, evE_tup, evE_lst, evE_call, evE_bi, evE_join, evE_idx, evE_slice, evEs_nil, evEs_cons, evO_none, evO_some, getV, List.getElem?_cons_zero, List.getElem?_cons_succ, of_some, bind_ok, h]
    rw [Tree.cnt] at hn
    rw [Tree.Ok] at ok
    have hl := led_len t S n ok
    have h1 := hk t ok (by rw [dep_maybe]; (first | lia | omega)) A B S n (by (first | lia | omega))
    rw [v_maybe, Tree.led]
    generalize t.led S n = q at hl h1 ⊢
    refine ⟨_, (exB_skip (tagc rfl) rfl).trans ((exB_skip (tagc rfl) rfl).trans ((exB_skip (tagc rfl) rfl).trans ((exB_skip (tagc rfl) rfl).trans (exB_rets ?_))))⟩
    simp only [evE_cNone, evE_cBool, evE_cInt, evE_cStr, evE_var, evE_glob, evE_and, evE_or, evE_not, evE_neg, evE_bin, evE_cmp, evE_cmp2, evE_ite, evE_tup, evE_lst, evE_call, evE_bi, evE_join, evE_idx, evE_slice, evEs_nil, evEs_cons, evO_none, evO_some, getV, List.getElem?_cons_zero, List.getElem?_cons_succ, of_some, bind_ok, idx_t1, idx_t2, h1, hpd]
    exact H (by unfold roomy; (first | lia | omega))
  | many t e =>
    rw [Tree.cnt] at hn
    rw [Tree.Ok] at ok
    have hl := led_len t (S ++ [.fin]) S.length ok.1
    rw [List.length_append] at hl
    simp only [List.length_cons, List.length_nil] at hl
    have hnn := cnt_nn t ok.1
    have h1 := hk t ok.1 (by rw [dep_many]; (first | lia | omega)) A B (S ++ [.fin]) S.length (by rw [List.length_append]; simp only [List.length_cons, List.length_nil]; (first | lia | omega))
    rw [v_many, Tree.led]
    generalize t.led (S ++ [.fin]) S.length = q at hl h1 ⊢
    have hst : vStore (A ++ cel q.1 :: B) (.ref A.length) (.int (S.length : Int)) (partE e q.2 n).v = some (A ++ cel (q.1.set S.length (partE e q.2 n)) :: B) := by
      rw [vStore, at_get]
      show (if _ then _ else _) = _
      rw [if_pos (by rw [List.length_map]; (first | lia | omega)), at_set, Int.toNat_natCast, cel, List.map_set]
    refine ⟨_, (exB_skip (tagc rfl) rfl).trans ((exB_skip (tagc rfl) rfl).trans ((exB_skip (tagc rfl) rfl).trans (exB_take (tagc rfl) rfl ((exB_asg (v := .int (S.length : Int)) (σ' := A ++ cel (S ++ [.fin]) :: B) ?_).trans ((exB_asg (v := .int (q.2 : Int)) (σ' := A ++ cel q.1 :: B) ?_).trans ((exB_next (Γ' := [.ref A.length, .tup [.str [109, 97, 110, 121], t.v, .bool e], .int (n : Int), .undef, .int (S.length : Int), .int (q.2 : Int)]) (σ' := A ++ cel (q.1.set S.length (partE e q.2 n)) :: B) ?_).trans (exB_rets rfl)))))))⟩
    · simp only [evE_cNone, evE_cBool, evE_cInt, evE_cStr, evE_var, evE_glob, evE_and, evE_or, evE_not, evE_neg, evE_bin, evE_cmp, evE_cmp2, evE_ite, evE_tup, evE_lst, evE_call, evE_bi, evE_join, evE_idx, evE_slice, evEs_nil, evEs_cons, evO_none, evO_some, getV, List.getElem?_cons_zero, List.getElem?_cons_succ, of_some, bind_ok, List.length_cons, List.length_nil]
      rw [if_pos (by unfold roomy; (first | lia | omega)), bind_ok]
      exact H (x := .fin) (by unfold roomy; (first | lia | omega))
    · simp only [List.set_cons_succ, List.set_cons_zero, evE_cNone, evE_cBool, evE_cInt, evE_cStr, evE_var, evE_glob, evE_and, evE_or, evE_not, evE_neg, evE_bin, evE_cmp, evE_cmp2, evE_ite, evE_tup, evE_lst, evE_call, evE_bi, evE_join, evE_idx, evE_slice, evEs_nil, evEs_cons, evO_none, evO_some, getV, List.getElem?_cons_zero, List.getElem?_cons_succ, of_some, bind_ok, idx_t1, h1]
    · rw [exS_sto0]
      simp only [List.set_cons_succ, List.set_cons_zero, evE_cNone, evE_cBool, evE_cInt, evE_cStr, evE_var, evE_glob, evE_and, evE_or, evE_not, evE_neg, evE_bin, evE_cmp, evE_cmp2, evE_ite, evE_tup, evE_lst, evE_call, evE_bi, evE_join, evE_idx, evE_slice, evEs_nil, evEs_cons, evO_none, evO_some, getV, List.getElem?_cons_zero, List.getElem?_cons_succ, of_some, bind_ok, idx_t2, hpd, hst, storeR]

theorem call_led (H : HN0 P) : ∀ (d : Nat) (t : Tree), t.Ok → 2 * t.dep + 1 ≤ d → LedAt gl (callF gl P d) t
  | 0, t, _, h => by (first | lia | omega)
  | 1, t, _, h => by have := dep_pos t; (first | lia | omega)
  | 2, t, _, h => by have := dep_pos t; (first | lia | omega)
  | d + 3, t, ok, h => by
    intro A B S n hn
    obtain ⟨Γ, hb⟩ := led_body (gl := gl) (cf := callF gl P (d + 2)) (A := A) (B := B) (fun h => call_putS H h) (call_parted H) t S n ok (fun u hu hd => call_led H (d + 2) u hu (by (first | lia | omega))) (fun ts e => by
      subst e
      obtain ⟨Γ, hb⟩ := picked_body (gl := gl) (cf := callF gl P (d + 1)) (A := A) (B := B) (fun A B S x h => call_putS H h) ts S n ok (fun u hu => call_led H (d + 1) u ((ok_pick.mp ok).2 u hu) (by rw [dep_pick] at h; have := dep_mem hu; (first | lia | omega))) hn
      exact callF_ret (D := d_picked) H.pc rfl hb) hn
    exact callF_ret (D := d_led) H.ld rfl hb

theorem frz_ir {i : Int} {r : Nat} {xs : List V} (h : σ[r]? = some (.lst xs)) : freeze σ (.tup [.int i, .ref r]) = some (.tup [.int i, .lst xs], σ.set r .dead) := by
  simp only [freeze, freezes, h, Option.bind_some, Option.map_some]
theorem frz_ri {v : V} {r : Nat} {xs : List V} (h : σ[r]? = some (.lst xs)) (hv : v = .none ∨ ∃ i, v = .int i) : freeze σ (.tup [.ref r, v]) = some (.tup [.lst xs, v], σ.set r .dead) := by
  rcases hv with rfl | ⟨i, rfl⟩ <;> simp only [freeze, freezes, h, Option.bind_some, Option.map_some]
noncomputable def Net (T : Tree) : List Sp × Nat := T.led [.fin] 0
noncomputable def netV (N : List Sp × Nat) : V := .tup [.int (N.2 : Int), .lst (N.1.map Sp.v)]
theorem call_net (H : HN P) {T : Tree} (ok : T.Ok) (hd : 2 * T.dep + 1 ≤ d) (hn : T.cnt ≤ 50000) : ∃ G, callF gl P (d + 1) 42 [T.v] σ = .ok (netV (Net T)) (σ ++ G) := by
  have h1 := call_led H.n (gl := gl) d T ok hd σ [] [.fin] 0 (by simp only [List.length_cons, List.length_nil]; (first | lia | omega))
  have h2 := led_len T [.fin] 0 ok
  refine ⟨[.dead], callF_ret (D := d_net_of) (Γ' := [T.v, .ref σ.length, .int ((Net T).2 : Int)]) H.no rfl ((exB_asg (v := .ref σ.length) (σ' := σ ++ [cel [.fin]]) ?_).trans ((exB_asg (v := .int ((Net T).2 : Int)) (σ' := σ ++ [cel (Net T).1]) ?_).trans (exB_rets ?_)))⟩
  · rfl
  · have hv := getV_t (Γ := [T.v, .ref σ.length, .undef]) (i := 0) (t := T) rfl
    simp only [List.cons_append, List.nil_append, List.set_cons_succ, List.set_cons_zero, evE_cNone, evE_cBool, evE_cInt, evE_cStr, evE_var, evE_glob, evE_and, evE_or, evE_not, evE_neg, evE_bin, evE_cmp, evE_cmp2, evE_ite, evE_tup, evE_lst, evE_call, evE_bi, evE_join, evE_idx, evE_slice, evEs_nil, evEs_cons, evO_none, evO_some]
    rw [show List.replicate (d_net_of.nl - d_net_of.np) V.undef = [.undef, .undef] from rfl]
    simp only [List.set_cons_succ, List.set_cons_zero, hv, of_some, bind_ok]
    simp only [getV, List.getElem?_cons_zero, List.getElem?_cons_succ, of_some, bind_ok]
    exact h1
  · rw [evE_frz]
    have hf : freeze (σ ++ [cel (Net T).1]) (.tup [.int ((Net T).2 : Int), .ref σ.length]) = some (netV (Net T), σ ++ [.dead]) := by
      rw [frz_ir (xs := (Net T).1.map Sp.v) (σ := σ ++ [cel (Net T).1]) at_get, at_set]; rfl
    simp only [List.cons_append, List.nil_append, List.set_cons_succ, List.set_cons_zero, evE_cNone, evE_cBool, evE_cInt, evE_cStr, evE_var, evE_glob, evE_and, evE_or, evE_not, evE_neg, evE_bin, evE_cmp, evE_cmp2, evE_ite, evE_tup, evE_lst, evE_call, evE_bi, evE_join, evE_idx, evE_slice, evEs_nil, evEs_cons, evO_none, evO_some]
    rw [show List.replicate (d_net_of.nl - d_net_of.np) V.undef = [.undef, .undef] from rfl]
    simp only [List.set_cons_succ, List.set_cons_zero, getV, List.getElem?_cons_zero, List.getElem?_cons_succ, of_some, bind_ok, tup2, hf]
    rfl
end
end Mine

namespace Mine

/-- the ways by parts end -/
inductive Ends (F : List Sp) : Nat → Prop
  | fin {n : Nat} : F[n]? = some .fin → Ends F n
  | take {n m : Nat} {b : Bool} {s : List Nat} : F[n]? = some (.take b s m) → Ends F n
  | part {n x y : Nat} : F[n]? = some (.part x y) → Ends F x → Ends F y → Ends F n

theorem Ends.partE {F : List Sp} {n x y : Nat} {e : Bool} (h : F[n]? = some (Mine.partE e x y)) (hx : Ends F x) (hy : Ends F y) : Ends F n := by
  cases e with
  | true => exact .part h hx hy
  | false => exact .part h hy hx

noncomputable def Agree (F S : List Sp) (k : Nat) : Prop := ∀ m, k ≤ m → m < S.length → F[m]? = S[m]?
theorem Agree.pre {F S X : List Sp} {k : Nat} (h : Agree F (S ++ X) k) : Agree F S k := fun m h1 h2 => by
  rw [h m h1 (by rw [List.length_append]; exact Nat.lt_add_right _ h2), List.getElem?_append_left h2]
theorem Agree.suf {F S : List Sp} {k l : Nat} (h : Agree F S k) (hl : k ≤ l) : Agree F S l := fun m h1 h2 => h m (Nat.le_trans hl h1) h2

theorem pk_pre : ∀ (a : Nat) (r : List Nat) (S : List Sp), ∃ X, (pk a r S).1 = S ++ X
  | a, [], S => ⟨[], (List.append_nil S).symm⟩
  | a, b :: r, S => by
    obtain ⟨X, h⟩ := pk_pre b r S
    exact ⟨X ++ [.part a (pk b r S).2], by rw [pk, h, List.append_assoc]⟩
mutual
theorem led_pre : ∀ (t : Tree) (S : List Sp) (n : Nat), ∃ X, (t.led S n).1 = S ++ X
  | .take b s, S, n => ⟨_, by rw [Tree.led]⟩
  | .row ts, S, n => by rw [Tree.led]; exact ledR_pre ts S n
  | .pick ts, S, n => by
    rw [Tree.led]
    obtain ⟨X, h⟩ := ledP_pre ts S n
    generalize Tree.ledP ts S n = p at h
    obtain ⟨S', fs⟩ := p
    cases fs with
    | nil => exact ⟨X, h⟩
    | cons a r =>
      obtain ⟨Y, h'⟩ := pk_pre a r S'
      exact ⟨X ++ Y, by rw [pkL, h', show S' = S ++ X from h, List.append_assoc]⟩
  | .maybe t e, S, n => by
    obtain ⟨X, h⟩ := led_pre t S n
    exact ⟨X ++ [partE e (t.led S n).2 n], by rw [Tree.led, h, List.append_assoc]⟩
  | .many t e, S, n => by
    obtain ⟨X, h⟩ := led_pre t (S ++ [.fin]) S.length
    refine ⟨partE e (t.led (S ++ [.fin]) S.length).2 n :: X, ?_⟩
    rw [Tree.led, h, List.append_assoc]
    exact at_set
theorem ledR_pre : ∀ (ts : List Tree) (S : List Sp) (n : Nat), ∃ X, (Tree.ledR ts S n).1 = S ++ X
  | [], S, n => ⟨[], by rw [Tree.ledR, List.append_nil]⟩
  | t :: r, S, n => by
    obtain ⟨X, h⟩ := ledR_pre r S n
    obtain ⟨Y, h'⟩ := led_pre t (Tree.ledR r S n).1 (Tree.ledR r S n).2
    exact ⟨X ++ Y, by rw [Tree.ledR, h', h, List.append_assoc]⟩
theorem ledP_pre : ∀ (ts : List Tree) (S : List Sp) (n : Nat), ∃ X, (Tree.ledP ts S n).1 = S ++ X
  | [], S, n => ⟨[], by rw [Tree.ledP, List.append_nil]⟩
  | t :: r, S, n => by
    obtain ⟨X, h⟩ := led_pre t S n
    obtain ⟨Y, h'⟩ := ledP_pre r (t.led S n).1 n
    exact ⟨X ++ Y, by rw [Tree.ledP, h', h, List.append_assoc]⟩
end

/-- what a tree's steps are within the whole net -/
noncomputable def Led (F : List Sp) (S : List Sp) (p : List Sp × Nat) (n : Nat) : Prop := Ends F n → Ends F p.2 ∧ ∀ m, S.length ≤ m → m < p.1.length → Ends F m

theorem pk_ends {F : List Sp} : ∀ (a : Nat) (r : List Nat) (S : List Sp), Agree F (pk a r S).1 S.length → (∀ x ∈ a :: r, Ends F x) → Ends F (pk a r S).2 ∧ ∀ m, S.length ≤ m → m < (pk a r S).1.length → Ends F m
  | a, [], S, _, h => ⟨h a List.mem_cons_self, fun m h1 h2 => absurd h1 (Nat.not_le_of_lt h2)⟩
  | a, b :: r, S, hA, h => by
    rw [pk] at hA ⊢
    obtain ⟨h1, h2⟩ := pk_ends b r S hA.pre fun x hx => h x (List.mem_cons_of_mem _ hx)
    have hl : S.length ≤ (pk b r S).1.length := by rw [pk_len]; exact Nat.le_add_right _ _
    have hp : Ends F (pk b r S).1.length := .part ((hA _ hl (by simp)).trans at_get) (h a List.mem_cons_self) h1
    refine ⟨hp, fun m m1 m2 => ?_⟩
    rw [List.length_append] at m2
    rcases Nat.lt_or_eq_of_le (Nat.le_of_lt_succ m2) with q | q
    · exact h2 m m1 q
    · rw [q]; exact hp

mutual
theorem led_bare {F : List Sp} : ∀ (t : Tree) (S : List Sp) (n : Nat), t.Ok → t.bare = false → Agree F (t.led S n).1 S.length → Ends F (t.led S n).2
  | .take b s, S, n, _, _, hA => by rw [Tree.led] at hA ⊢; exact .take ((hA _ (Nat.le_refl _) (by simp)).trans at_get)
  | .row ts, S, n, ok, hb, hA => by rw [Tree.led] at hA ⊢; rw [Tree.Ok] at ok; rw [Tree.bare] at hb; exact ledR_bare ts S n ok.2 hb hA
  | .pick ts, S, n, ok, hb, hA => by
    rw [Tree.led] at hA ⊢
    rw [Tree.Ok] at ok
    rw [Tree.bare] at hb
    have h0 : ts ≠ [] := fun e => by rw [e] at ok; exact absurd ok.1.1 (by decide)
    have h1 := ledP_bare (F := F) ts S n ok.2 hb
    have h2 := ledP_len ts S n ok.2
    obtain ⟨X, hX⟩ := ledP_pre ts S n
    generalize Tree.ledP ts S n = p at hA h1 h2 hX
    obtain ⟨S', fs⟩ := p
    cases fs with
    | nil => exact absurd (List.length_eq_zero_iff.mp h2.2.symm) h0
    | cons a r =>
      obtain ⟨Y, hY⟩ := pk_pre a r S'
      rw [pkL] at hA ⊢
      refine (pk_ends a r S' (hA.suf ?_) (h1 ?_)).1
      · rw [show S' = S ++ X from hX, List.length_append]; exact Nat.le_add_right _ _
      · rw [hY] at hA; exact hA.pre
  | .maybe t e, S, n, _, hb, _ => by rw [Tree.bare] at hb; cases hb
  | .many t e, S, n, _, hb, _ => by rw [Tree.bare] at hb; cases hb
theorem ledR_bare {F : List Sp} : ∀ (ts : List Tree) (S : List Sp) (n : Nat), Tree.Oks ts → Tree.allB ts = false → Agree F (Tree.ledR ts S n).1 S.length → Ends F (Tree.ledR ts S n).2
  | [], S, n, _, hb, _ => by rw [Tree.allB] at hb; cases hb
  | t :: r, S, n, ok, hb, hA => by
    rw [Tree.ledR] at hA ⊢
    rw [Tree.Oks] at ok
    rw [Tree.allB] at hb
    obtain ⟨X, hX⟩ := ledR_pre r S n
    obtain ⟨Y, hY⟩ := led_pre t (Tree.ledR r S n).1 (Tree.ledR r S n).2
    have hA' := hA.suf (l := (Tree.ledR r S n).1.length) (by rw [hX, List.length_append]; exact Nat.le_add_right _ _)
    cases hb' : t.bare with
    | false => exact led_bare t _ _ ok.1 hb' hA'
    | true =>
      rw [hb', Bool.true_and] at hb
      rw [hY] at hA
      exact (led_all t _ _ ok.1 hA' (ledR_bare r S n ok.2 hb hA.pre)).1
theorem ledP_bare {F : List Sp} : ∀ (ts : List Tree) (S : List Sp) (n : Nat), Tree.Oks ts → Tree.anyB ts = false → Agree F (Tree.ledP ts S n).1 S.length → ∀ x ∈ (Tree.ledP ts S n).2, Ends F x
  | [], S, n, _, hb, _ => by rw [Tree.ledP]; exact fun x hx => (List.not_mem_nil hx).elim
  | t :: r, S, n, ok, hb, hA => by
    rw [Tree.ledP] at hA ⊢
    rw [Tree.Oks] at ok
    rw [Tree.anyB, Bool.or_eq_false_iff] at hb
    obtain ⟨X, hX⟩ := led_pre t S n
    obtain ⟨Y, hY⟩ := ledP_pre r (t.led S n).1 n
    intro x hx
    rcases List.mem_cons.mp hx with q | q
    · rw [q]; exact led_bare t S n ok.1 hb.1 (Agree.pre (X := Y) (by rw [← hY]; exact hA))
    · exact ledP_bare r (t.led S n).1 n ok.2 hb.2 (hA.suf (by rw [hX, List.length_append]; exact Nat.le_add_right _ _)) x q
theorem led_all {F : List Sp} : ∀ (t : Tree) (S : List Sp) (n : Nat), t.Ok → Agree F (t.led S n).1 S.length → Led F S (t.led S n) n
  | .take b s, S, n, _, hA => fun _ => by
    rw [Tree.led] at hA ⊢
    have h : Ends F S.length := .take ((hA _ (Nat.le_refl _) (by simp)).trans at_get)
    refine ⟨h, fun m m1 m2 => ?_⟩
    rw [List.length_append] at m2
    rw [Nat.le_antisymm (Nat.le_of_lt_succ m2) m1]; exact h
  | .row ts, S, n, ok, hA => by rw [Tree.led] at hA ⊢; rw [Tree.Ok] at ok; exact ledR_all ts S n ok.2 hA
  | .pick ts, S, n, ok, hA => fun hn => by
    rw [Tree.led] at hA ⊢
    rw [Tree.Ok] at ok
    have h0 : ts ≠ [] := fun e => by rw [e] at ok; exact absurd ok.1.1 (by decide)
    have h1 := ledP_all (F := F) ts S n ok.2
    have h2 := ledP_len ts S n ok.2
    obtain ⟨X, hX⟩ := ledP_pre ts S n
    generalize Tree.ledP ts S n = p at hA h1 h2 hX
    obtain ⟨S', fs⟩ := p
    cases fs with
    | nil => exact absurd (List.length_eq_zero_iff.mp h2.2.symm) h0
    | cons a r =>
      obtain ⟨Y, hY⟩ := pk_pre a r S'
      rw [pkL] at hA ⊢
      have hS : S.length ≤ S'.length := by rw [show S' = S ++ X from hX, List.length_append]; exact Nat.le_add_right _ _
      obtain ⟨g1, g2⟩ := h1 (by rw [hY] at hA; exact hA.pre) hn
      obtain ⟨g3, g4⟩ := pk_ends a r S' (hA.suf hS) g1
      refine ⟨g3, fun m m1 m2 => ?_⟩
      rcases Nat.lt_or_ge m S'.length with q | q
      · exact g2 m m1 q
      · exact g4 m q m2
  | .maybe t e, S, n, ok, hA => fun hn => by
    rw [Tree.led] at hA ⊢
    rw [Tree.Ok] at ok
    obtain ⟨h1, h2⟩ := led_all t S n ok hA.pre hn
    obtain ⟨X, hX⟩ := led_pre t S n
    have hl : S.length ≤ (t.led S n).1.length := by rw [hX, List.length_append]; exact Nat.le_add_right _ _
    have hp : Ends F (t.led S n).1.length := Ends.partE ((hA _ hl (by simp)).trans at_get) h1 hn
    refine ⟨hp, fun m m1 m2 => ?_⟩
    rw [List.length_append] at m2
    rcases Nat.lt_or_eq_of_le (Nat.le_of_lt_succ m2) with q | q
    · exact h2 m m1 q
    · rw [q]; exact hp
  | .many t e, S, n, ok, hA => fun hn => by
    rw [Tree.led] at hA ⊢
    rw [Tree.Ok] at ok
    obtain ⟨X, hX⟩ := led_pre t (S ++ [.fin]) S.length
    have hl : S.length < (t.led (S ++ [.fin]) S.length).1.length := by rw [hX]; simp
    have hA' : Agree F (t.led (S ++ [.fin]) S.length).1 (S ++ [Sp.fin]).length := fun m m1 m2 => by
      rw [List.length_append] at m1
      rw [hA m (Nat.le_of_succ_le m1) (by rw [List.length_set]; exact m2), List.getElem?_set_ne (Nat.ne_of_lt m1)]
    have h1 := led_bare t _ _ ok.1 ok.2 hA'
    have hp : Ends F S.length := Ends.partE ((hA _ (Nat.le_refl _) (by rw [List.length_set]; exact hl)).trans (List.getElem?_set_self hl)) h1 hn
    obtain ⟨_, h2⟩ := led_all t _ _ ok.1 hA' hp
    refine ⟨hp, fun m m1 m2 => ?_⟩
    rw [List.length_set] at m2
    rcases Nat.lt_or_eq_of_le m1 with q | q
    · exact h2 m (by rw [List.length_append]; exact q) m2
    · rw [← q]; exact hp
theorem ledR_all {F : List Sp} : ∀ (ts : List Tree) (S : List Sp) (n : Nat), Tree.Oks ts → Agree F (Tree.ledR ts S n).1 S.length → Led F S (Tree.ledR ts S n) n
  | [], S, n, _, hA => fun hn => by rw [Tree.ledR]; exact ⟨hn, fun m m1 m2 => absurd m1 (Nat.not_le_of_lt m2)⟩
  | t :: r, S, n, ok, hA => fun hn => by
    rw [Tree.ledR] at hA ⊢
    rw [Tree.Oks] at ok
    obtain ⟨X, hX⟩ := ledR_pre r S n
    obtain ⟨Y, hY⟩ := led_pre t (Tree.ledR r S n).1 (Tree.ledR r S n).2
    have hA' := hA.suf (l := (Tree.ledR r S n).1.length) (by rw [hX, List.length_append]; exact Nat.le_add_right _ _)
    obtain ⟨g1, g2⟩ := ledR_all r S n ok.2 (Agree.pre (X := Y) (by rw [← hY]; exact hA)) hn
    obtain ⟨g3, g4⟩ := led_all t _ _ ok.1 hA' g1
    refine ⟨g3, fun m m1 m2 => ?_⟩
    rcases Nat.lt_or_ge m (Tree.ledR r S n).1.length with q | q
    · exact g2 m m1 q
    · exact g4 m q m2
theorem ledP_all {F : List Sp} : ∀ (ts : List Tree) (S : List Sp) (n : Nat), Tree.Oks ts → Agree F (Tree.ledP ts S n).1 S.length → Ends F n → (∀ x ∈ (Tree.ledP ts S n).2, Ends F x) ∧ ∀ m, S.length ≤ m → m < (Tree.ledP ts S n).1.length → Ends F m
  | [], S, n, _, _, _ => by rw [Tree.ledP]; exact ⟨fun x hx => (List.not_mem_nil hx).elim, fun m m1 m2 => absurd m1 (Nat.not_le_of_lt m2)⟩
  | t :: r, S, n, ok, hA, hn => by
    rw [Tree.ledP] at hA ⊢
    rw [Tree.Oks] at ok
    obtain ⟨X, hX⟩ := led_pre t S n
    obtain ⟨Y, hY⟩ := ledP_pre r (t.led S n).1 n
    have hA' : Agree F (t.led S n).1 S.length := Agree.pre (X := Y) (by rw [← hY]; exact hA)
    obtain ⟨g1, g2⟩ := led_all t S n ok.1 hA' hn
    obtain ⟨g3, g4⟩ := ledP_all r (t.led S n).1 n ok.2 (hA.suf (by rw [hX, List.length_append]; exact Nat.le_add_right _ _)) hn
    refine ⟨fun x hx => ?_, fun m m1 m2 => ?_⟩
    · rcases List.mem_cons.mp hx with q | q
      · rw [q]; exact g1
      · exact g3 x q
    · rcases Nat.lt_or_ge m (t.led S n).1.length with q | q
      · exact g2 m m1 q
      · exact g4 m q m2
end
end Mine

namespace Mine

structure Good (N : List Sp × Nat) : Prop where
  wf : Wf N.1
  ends : ∀ m, m < N.1.length → Ends N.1 m
  st : N.2 < N.1.length

theorem wf_fin : Wf [Sp.fin] := fun x hx => by rw [List.mem_singleton.mp hx]; trivial
theorem good_net {T : Tree} (ok : T.Ok) : Good (Net T) := by
  obtain ⟨h1, h2, h3⟩ := led_wf T (S := [.fin]) (n := 0) wf_fin (Nat.zero_lt_one)
  obtain ⟨X, hX⟩ := led_pre T [.fin] 0
  have h0 : Ends (Net T).1 0 := .fin (by rw [Net, hX]; rfl)
  obtain ⟨g1, g2⟩ := led_all (F := (Net T).1) T [.fin] 0 ok (fun _ _ _ => rfl) h0
  refine ⟨h1, fun m hm => ?_, h2⟩
  cases m with
  | zero => exact h0
  | succ m => exact g2 _ (Nat.succ_le_succ (Nat.zero_le m)) hm

noncomputable def Sp.turn (k : Nat) : Sp → Sp
  | .fin => .fin
  | .take b s n => .take b s (k - n)
  | .part x y => .part (k - x) (k - y)
noncomputable def turnN (N : List Sp × Nat) : List Sp × Nat := (N.1.reverse.map (Sp.turn (N.1.length - 1)), N.1.length - 1 - N.2)
theorem turn_len {N : List Sp × Nat} : (turnN N).1.length = N.1.length := by rw [turnN, List.length_map, List.length_reverse]
theorem turn_lt {n k : Nat} (h : n < k) : k - 1 - n < k := Nat.lt_of_le_of_lt (Nat.sub_le _ _) (Nat.sub_lt (Nat.lt_of_le_of_lt (Nat.zero_le n) h) Nat.zero_lt_one)
theorem turn_back {n k : Nat} (h : n < k) : k - 1 - (k - 1 - n) = n := Nat.sub_sub_self (Nat.le_sub_one_of_lt h)
theorem turn_get {N : List Sp × Nat} {m : Nat} (h : m < N.1.length) : (turnN N).1[N.1.length - 1 - m]? = N.1[m]?.map (Sp.turn (N.1.length - 1)) := by
  rw [turnN, List.getElem?_map, List.getElem?_reverse (turn_lt h), turn_back h]
theorem below_at {F : List Sp} (h : Wf F) {n : Nat} {x : Sp} (hx : F[n]? = some x) : x.below F.length := h x (List.mem_of_getElem? hx)
theorem ends_turn {N : List Sp × Nat} (wf : Wf N.1) {m : Nat} (h : Ends N.1 m) (hm : m < N.1.length) : Ends (turnN N).1 (N.1.length - 1 - m) := by
  induction h with
  | fin e => exact .fin (by rw [turn_get hm, e]; rfl)
  | take e => exact .take (by rw [turn_get hm, e]; rfl)
  | part e _ _ ih1 ih2 =>
    have hb := below_at wf e
    exact .part (by rw [turn_get hm, e]; rfl) (ih1 hb.1) (ih2 hb.2)
theorem good_turn {N : List Sp × Nat} (G : Good N) : Good (turnN N) := by
  refine ⟨fun x hx => ?_, fun m hm => ?_, ?_⟩
  · rw [turn_len]
    obtain ⟨y, hy, e⟩ := List.mem_map.mp hx
    have hb := G.wf y (List.mem_reverse.mp hy)
    rw [← e]
    cases y with
    | fin => trivial
    | take b s n => exact turn_lt hb
    | part x y => exact ⟨turn_lt hb.1, turn_lt hb.2⟩
  · rw [turn_len] at hm
    have := ends_turn G.wf (G.ends _ (turn_lt hm)) (turn_lt hm)
    rw [turn_back hm] at this; exact this
  · rw [turn_len]; exact turn_lt G.st

noncomputable def hit (w : List Nat) (b : Bool) (s : List Nat) (a : Nat) : Bool := match w[a]? with | some c => s.contains c == b | none => false
theorem hit_lt {w : List Nat} {b : Bool} {s : List Nat} {a : Nat} (h : hit w b s a = true) : a < w.length := by
  rcases Nat.lt_or_ge a w.length with q | q
  · exact q
  · rw [hit, List.getElem?_eq_none q] at h; cases h

/-- no way from a step at a place -/
inductive No (F : List Sp) (w : List Nat) : Nat → Nat → Prop
  | stuck {n m a : Nat} {b : Bool} {s : List Nat} : F[n]? = some (.take b s m) → hit w b s a = false → No F w n a
  | take {n m a : Nat} {b : Bool} {s : List Nat} : F[n]? = some (.take b s m) → hit w b s a = true → No F w m (a + 1) → No F w n a
  | part {n x y a : Nat} : F[n]? = some (.part x y) → No F w x a → No F w y a → No F w n a
/-- the preferred way -/
inductive Yes (F : List Sp) (w : List Nat) : Nat → Nat → List (Nat × Nat) → Prop
  | fin {n a : Nat} : F[n]? = some .fin → Yes F w n a [(n, a)]
  | take {n m a : Nat} {b : Bool} {s : List Nat} {p : List (Nat × Nat)} : F[n]? = some (.take b s m) → hit w b s a = true → Yes F w m (a + 1) p → Yes F w n a ((n, a) :: p)
  | left {n x y a : Nat} {p : List (Nat × Nat)} : F[n]? = some (.part x y) → Yes F w x a p → Yes F w n a ((n, a) :: p)
  | right {n x y a : Nat} {p : List (Nat × Nat)} : F[n]? = some (.part x y) → No F w x a → Yes F w y a p → Yes F w n a ((n, a) :: p)

section
variable {F : List Sp} {w : List Nat} {n a : Nat} {p q : List (Nat × Nat)}

theorem No.not (h : No F w n a) : ∀ {p : List (Nat × Nat)}, ¬ Yes F w n a p := by
  induction h with
  | stuck e hh => intro p y; cases y with
    | take e' hh' _ => rw [e] at e'; cases e'; rw [hh] at hh'; cases hh'
    | fin e' | left e' _ | right e' _ _ => rw [e] at e'; cases e'
  | take e hh _ ih => intro p y; cases y with
    | take e' _ y => rw [e] at e'; cases e'; exact ih y
    | fin e' | left e' _ | right e' _ _ => rw [e] at e'; cases e'
  | part e _ _ ih1 ih2 => intro p y; cases y with
    | left e' y => rw [e] at e'; cases e'; exact ih1 y
    | right e' _ y => rw [e] at e'; cases e'; exact ih2 y
    | fin e' | take e' _ _ => rw [e] at e'; cases e'
theorem Yes.det (h : Yes F w n a p) : ∀ {q : List (Nat × Nat)}, Yes F w n a q → p = q := by
  induction h with
  | fin e => intro q y; cases y with
    | fin => rfl
    | take e' _ _ | left e' _ | right e' _ _ => rw [e] at e'; cases e'
  | take e _ _ ih => intro q y; cases y with
    | take e' _ y => rw [e] at e'; cases e'; rw [ih y]
    | fin e' | left e' _ | right e' _ _ => rw [e] at e'; cases e'
  | left e hy ih => intro q y; cases y with
    | left e' y => rw [e] at e'; cases e'; rw [ih y]
    | right e' hn _ => rw [e] at e'; cases e'; exact (hn.not hy).elim
    | fin e' | take e' _ _ => rw [e] at e'; cases e'
  | right e hn _ ih => intro q y; cases y with
    | right e' _ y => rw [e] at e'; cases e'; rw [ih y]
    | left e' hy => rw [e] at e'; cases e'; exact (hn.not hy).elim
    | fin e' | take e' _ _ => rw [e] at e'; cases e'

theorem yn_ends {a : Nat} (ht : ∀ {n m : Nat} {b : Bool} {s : List Nat}, F[n]? = some (.take b s m) → hit w b s a = true → (∃ p, Yes F w m (a + 1) p) ∨ No F w m (a + 1)) {n : Nat} (h : Ends F n) : (∃ p, Yes F w n a p) ∨ No F w n a := by
  induction h with
  | fin e => exact .inl ⟨_, .fin e⟩
  | take e =>
    rename_i b s
    cases hh : hit w b s a with
    | false => exact .inr (.stuck e hh)
    | true => exact (ht e hh).imp (fun ⟨p, h⟩ => ⟨_, .take e hh h⟩) (.take e hh)
  | part e _ _ ih1 ih2 =>
    rcases ih1 with ⟨p, h⟩ | h
    · exact .inl ⟨_, .left e h⟩
    · exact ih2.imp (fun ⟨p, h'⟩ => ⟨_, .right e h h'⟩) (.part e h)
theorem yes_or_no (wf : Wf F) (he : ∀ m, m < F.length → Ends F m) : ∀ (j : Nat) {a n : Nat}, w.length < a + j → n < F.length → (∃ p, Yes F w n a p) ∨ No F w n a
  | 0, a, n, hj, hn => yn_ends (fun _ hh => absurd (Nat.lt_trans hj (hit_lt hh)) (Nat.lt_irrefl _)) (he n hn)
  | j + 1, a, n, hj, hn => yn_ends (fun e hh => yes_or_no wf he j (by rw [Nat.add_right_comm]; exact hj) (below_at wf e)) (he n hn)
theorem Good.total {N : List Sp × Nat} (G : Good N) (w : List Nat) (a : Nat) {n : Nat} (hn : n < N.1.length) : (∃ p, Yes N.1 w n a p) ∨ No N.1 w n a :=
  yes_or_no G.wf G.ends (w.length + 1) (Nat.lt_of_lt_of_le (Nat.lt_succ_self _) (Nat.le_add_left _ _)) hn

theorem Yes.suf (h : Yes F w n a p) {x : Nat × Nat} (hx : x ∈ p) : ∃ q, q.length ≤ p.length ∧ Yes F w x.1 x.2 q := by
  induction h with
  | fin e => rw [List.mem_singleton.mp hx]; exact ⟨_, Nat.le_refl _, .fin e⟩
  | take e hh y ih =>
    rcases List.mem_cons.mp hx with r | r
    · rw [r]; exact ⟨_, Nat.le_refl _, .take e hh y⟩
    · obtain ⟨q, h1, h2⟩ := ih r; exact ⟨q, Nat.le_succ_of_le h1, h2⟩
  | left e y ih =>
    rcases List.mem_cons.mp hx with r | r
    · rw [r]; exact ⟨_, Nat.le_refl _, .left e y⟩
    · obtain ⟨q, h1, h2⟩ := ih r; exact ⟨q, Nat.le_succ_of_le h1, h2⟩
  | right e hn y ih =>
    rcases List.mem_cons.mp hx with r | r
    · rw [r]; exact ⟨_, Nat.le_refl _, .right e hn y⟩
    · obtain ⟨q, h1, h2⟩ := ih r; exact ⟨q, Nat.le_succ_of_le h1, h2⟩
theorem Yes.fresh (h : Yes F w n a ((n, a) :: p)) : (∀ x ∈ p, ∃ q, q.length ≤ p.length ∧ Yes F w x.1 x.2 q) → (n, a) ∉ p := fun hp hm => by
  obtain ⟨q, h1, h2⟩ := hp _ hm
  rw [← h.det h2] at h1
  exact absurd h1 (Nat.not_succ_le_self _)
theorem Yes.nodup (h : Yes F w n a p) : p.Nodup := by
  induction h with
  | fin e => exact List.nodup_cons.mpr ⟨List.not_mem_nil, List.nodup_nil⟩
  | take e hh y ih => exact List.nodup_cons.mpr ⟨(Yes.take e hh y).fresh fun _ => y.suf, ih⟩
  | left e y ih => exact List.nodup_cons.mpr ⟨(Yes.left e y).fresh fun _ => y.suf, ih⟩
  | right e hn y ih => exact List.nodup_cons.mpr ⟨(Yes.right e hn y).fresh fun _ => y.suf, ih⟩
theorem Yes.lt (h : Yes F w n a p) (ha : a ≤ w.length) : ∀ x ∈ p, x.1 < F.length ∧ x.2 ≤ w.length := by
  induction h with
  | fin e => intro x hx; rw [List.mem_singleton.mp hx]; exact ⟨(List.getElem?_eq_some_iff.mp e).1, ha⟩
  | take e hh y ih =>
    intro x hx
    rcases List.mem_cons.mp hx with r | r
    · rw [r]; exact ⟨(List.getElem?_eq_some_iff.mp e).1, ha⟩
    · exact ih (hit_lt hh) x r
  | left e y ih =>
    intro x hx
    rcases List.mem_cons.mp hx with r | r
    · rw [r]; exact ⟨(List.getElem?_eq_some_iff.mp e).1, ha⟩
    · exact ih ha x r
  | right e hn y ih =>
    intro x hx
    rcases List.mem_cons.mp hx with r | r
    · rw [r]; exact ⟨(List.getElem?_eq_some_iff.mp e).1, ha⟩
    · exact ih ha x r
end

theorem nodup_bound : ∀ (N : Nat) (l : List Nat), l.Nodup → (∀ x ∈ l, x < N) → l.length ≤ N
  | 0, l, _, h => by
    cases l with
    | nil => exact Nat.le_refl _
    | cons x r => exact absurd (h x List.mem_cons_self) (Nat.not_lt_zero _)
  | N + 1, l, hn, h => by
    have h1 := nodup_bound N (l.erase N) (hn.erase N) fun x hx => by
      have := (hn.mem_erase_iff).mp hx
      exact Nat.lt_of_le_of_ne (Nat.le_of_lt_succ (h x this.2)) this.1
    rw [List.length_erase] at h1
    split at h1
    · exact Nat.le_add_of_sub_le h1
    · exact Nat.le_succ_of_le h1
theorem pairs_bound {N M : Nat} {l : List (Nat × Nat)} (hn : l.Nodup) (h : ∀ x ∈ l, x.1 < N ∧ x.2 < M) : l.length ≤ N * M := by
  have hM : ∀ x ∈ l, 0 < M := fun x hx => Nat.lt_of_le_of_lt (Nat.zero_le _) (h x hx).2
  rw [← List.length_map (f := fun x : Nat × Nat => x.1 * M + x.2)]
  refine nodup_bound _ _ (List.pairwise_map.mpr (List.Pairwise.imp_of_mem ?_ hn)) ?_
  · intro x y hx hy hxy e
    refine hxy ?_
    have e1 : x.2 = y.2 := by
      have := congrArg (· % M) e
      simpa [Nat.mul_comm, Nat.mod_eq_of_lt (h x hx).2, Nat.mod_eq_of_lt (h y hy).2] using this
    have e2 : x.1 = y.1 := by
      rw [e1] at e
      exact Nat.eq_of_mul_eq_mul_right (hM x hx) (Nat.add_right_cancel e)
    exact Prod.ext e2 e1
  · intro z hz
    obtain ⟨x, hx, e⟩ := List.mem_map.mp hz
    rw [← e]
    have h1 := h x hx
    calc x.1 * M + x.2 < x.1 * M + M := Nat.add_lt_add_left h1.2 _
      _ = (x.1 + 1) * M := (Nat.succ_mul _ _).symm
      _ ≤ N * M := Nat.mul_le_mul_right _ h1.1
theorem Yes.bound {F : List Sp} {w : List Nat} {n a : Nat} {p : List (Nat × Nat)} (h : Yes F w n a p) (ha : a ≤ w.length) : p.length ≤ F.length * (w.length + 1) :=
  pairs_bound h.nodup fun x hx => ⟨(h.lt ha x hx).1, Nat.lt_succ_of_le (h.lt ha x hx).2⟩
end Mine

namespace Mine

noncomputable def pv (x : Nat × Nat) : V := .tup [.int (x.1 : Int), .int (x.2 : Int)]
noncomputable def iv (k : Nat) : V := .int (k : Int)
noncomputable def kv (x : Nat × Nat) : List Int := [(x.1 : Int), (x.2 : Int)]
noncomputable def ins (D : List (Nat × Nat)) (x : Nat × Nat) : List (Nat × Nat) := if x ∈ D then D else D ++ [x]
theorem kv_inj {x y : Nat × Nat} (h : kv x = kv y) : x = y := by
  injection h with h1 h2
  injection h2 with h2 _
  exact Prod.ext (Int.ofNat.inj h1) (Int.ofNat.inj h2)
theorem mem_kv {D : List (Nat × Nat)} {x : Nat × Nat} : kv x ∈ D.map kv ↔ x ∈ D :=
  ⟨fun h => let ⟨_, h1, h2⟩ := List.mem_map.mp h; kv_inj h2 ▸ h1, fun h => List.mem_map.mpr ⟨x, h, rfl⟩⟩
theorem ins_kv {D : List (Nat × Nat)} {x : Nat × Nat} : (ins D x).map kv = if kv x ∈ D.map kv then D.map kv else D.map kv ++ [kv x] := by
  rw [ins]
  by_cases h : x ∈ D
  · rw [if_pos h, if_pos (mem_kv.mpr h)]
  · rw [if_neg h, if_neg (fun q => h (mem_kv.mp q)), List.map_append]; rfl
theorem pos_len {α : Type} (l : List α) : decide ((l.length : Int) > 0) = !l.isEmpty := by
  cases l with
  | nil => rfl
  | cons a r => exact decide_eq_true (Int.natCast_pos.mpr (Nat.succ_pos _))
/-- the store while a way is sought -/
noncomputable def gS (A M : Sg) (D W : List (Nat × Nat)) (C : List Nat) : Sg := A ++ .dictP (D.map kv) :: (M ++ [.lst (W.map pv), .lst (C.map iv)])
section
variable {gl : List V} {cf : CF} {σ σ' : Sg} {Γ Γ' : Fm} {P : List Def} {d : Nat} {A M : Sg} {D W : List (Nat × Nat)} {C : List Nat} {x : Nat × Nat}

theorem gS_d : (gS A M D W C)[A.length]? = some (.dictP (D.map kv)) := at_get
theorem gS_w : (gS A M D W C)[A.length + 1 + M.length]? = some (.lst (W.map pv)) := by
  rw [gS, List.getElem?_append_right (by (first | lia | omega)), show A.length + 1 + M.length - A.length = M.length + 1 by (first | lia | omega), List.getElem?_cons_succ]; exact at_get
theorem gS_c : (gS A M D W C)[A.length + 1 + M.length + 1]? = some (.lst (C.map iv)) := by
  rw [gS, List.getElem?_append_right (by (first | lia | omega)), show A.length + 1 + M.length + 1 - A.length = M.length + 1 + 1 by (first | lia | omega), List.getElem?_cons_succ, List.getElem?_append_right (Nat.le_add_right _ _), Nat.add_sub_cancel_left]; rfl
theorem gS_sd {D' : List (Nat × Nat)} : (gS A M D W C).set A.length (.dictP (D'.map kv)) = gS A M D' W C := at_set
theorem gS_sw {W' : List (Nat × Nat)} : (gS A M D W C).set (A.length + 1 + M.length) (.lst (W'.map pv)) = gS A M D W' C := by
  rw [gS, List.set_append_right (h := by (first | lia | omega)), show A.length + 1 + M.length - A.length = M.length + 1 by (first | lia | omega), List.set_cons_succ, at_set]; rfl
theorem gS_sc {C' : List Nat} : (gS A M D W C).set (A.length + 1 + M.length + 1) (.lst (C'.map iv)) = gS A M D W C' := by
  rw [gS, List.set_append_right (h := by (first | lia | omega)), show A.length + 1 + M.length + 1 - A.length = M.length + 1 + 1 by (first | lia | omega), List.set_cons_succ, List.set_append_right (h := Nat.le_add_right _ _), Nat.add_sub_cancel_left]; rfl

theorem len_w : vBi (gS A M D W C) .len [.ref (A.length + 1 + M.length)] = some (.int (W.length : Int)) := by rw [len_ref gS_w, List.length_map]
theorem len_c : vBi (gS A M D W C) .len [.ref (A.length + 1 + M.length + 1)] = some (.int (C.length : Int)) := by rw [len_ref gS_c, List.length_map]
theorem last_w : vIdx (gS A M D (W ++ [x]) C) (.ref (A.length + 1 + M.length)) (.int (-1)) = some (pv x) := vIdx_last (seq_ref gS_w) rfl (by rw [List.map_append]; simp)
theorem last_c {k : Nat} : vIdx (gS A M D W (C ++ [k])) (.ref (A.length + 1 + M.length + 1)) (.int (-1)) = some (.int (k : Int)) := vIdx_last (seq_ref gS_c) rfl (by rw [List.map_append]; simp [iv])

noncomputable def gbC : Ex := .and (.cmp .gt (.bi .len [(.var 0)]) (.cInt 0)) (.or (.cmp .eq (.bi .len [(.var 1)]) (.cInt 0)) (.cmp .ne (.idx (.var 1) (.neg (.cInt 1))) (.bi .len [(.var 0)])))
noncomputable def gbΓ (A M : Sg) : Fm := [.ref (A.length + 1 + M.length), .ref (A.length + 1 + M.length + 1), .ref A.length]
theorem gb_0 : getV (gbΓ A M) 0 = some (.ref (A.length + 1 + M.length)) := rfl
theorem gb_1 : getV (gbΓ A M) 1 = some (.ref (A.length + 1 + M.length + 1)) := rfl
theorem gb_2 : getV (gbΓ A M) 2 = some (.ref A.length) := rfl

theorem gb_c1 : evE gl cf (.cmp .gt (.bi .len [(.var 0)]) (.cInt 0)) (gbΓ A M) (gS A M D W C) = .ok (.bool (!W.isEmpty)) (gS A M D W C) := by
  simp only [evE_cNone, evE_cBool, evE_cInt, evE_cStr, evE_var, evE_glob, evE_and, evE_or, evE_not, evE_neg, evE_bin, evE_cmp, evE_cmp2, evE_ite, evE_tup, evE_lst, evE_call, evE_bi, evE_join, evE_idx, evE_slice, evEs_nil, evEs_cons, evO_none, evO_some, gb_0, of_some, bind_ok, len_w, gt_ii, pos_len]
theorem gb_c2 : evE gl cf (.cmp .eq (.bi .len [(.var 1)]) (.cInt 0)) (gbΓ A M) (gS A M D W C) = .ok (.bool C.isEmpty) (gS A M D W C) := by
  simp only [evE_cNone, evE_cBool, evE_cInt, evE_cStr, evE_var, evE_glob, evE_and, evE_or, evE_not, evE_neg, evE_bin, evE_cmp, evE_cmp2, evE_ite, evE_tup, evE_lst, evE_call, evE_bi, evE_join, evE_idx, evE_slice, evEs_nil, evEs_cons, evO_none, evO_some, gb_1, of_some, bind_ok, len_c, eq_ii]
  cases C <;> rfl
theorem gb_c3 {k : Nat} : evE gl cf (.cmp .ne (.idx (.var 1) (.neg (.cInt 1))) (.bi .len [(.var 0)])) (gbΓ A M) (gS A M D W (C ++ [k])) = .ok (.bool (!((k : Int) == (W.length : Int)))) (gS A M D W (C ++ [k])) := by
  simp only [evE_cNone, evE_cBool, evE_cInt, evE_cStr, evE_var, evE_glob, evE_and, evE_or, evE_not, evE_neg, evE_bin, evE_cmp, evE_cmp2, evE_ite, evE_tup, evE_lst, evE_call, evE_bi, evE_join, evE_idx, evE_slice, evEs_nil, evEs_cons, evO_none, evO_some, gb_0, gb_1, of_some, bind_ok, len_w, neg_i, last_c, ne_ii]
theorem gb_or (h : C.getLast? ≠ some W.length) : evE gl cf (.or (.cmp .eq (.bi .len [(.var 1)]) (.cInt 0)) (.cmp .ne (.idx (.var 1) (.neg (.cInt 1))) (.bi .len [(.var 0)]))) (gbΓ A M) (gS A M D W C) = .ok (.bool true) (gS A M D W C) := by
  rcases List.eq_nil_or_concat C with rfl | ⟨C', k, rfl⟩
  · exact or_bb (q := true) gb_c2 fun h => by cases h
  · rw [List.concat_eq_append] at h ⊢
    refine (or_bb gb_c2 fun _ => gb_c3).trans ?_
    have : ((k : Int) == (W.length : Int)) = false := by
      rw [beq_eq_false_iff_ne]; intro e
      exact h (by rw [List.getLast?_append]; simp; (first | lia | omega))
    rw [this]; cases C' <;> rfl
theorem gb_T (h : C.getLast? ≠ some (W.length + 1)) : evE gl cf gbC (gbΓ A M) (gS A M D (W ++ [x]) C) = .ok (.bool true) (gS A M D (W ++ [x]) C) := by
  refine (and_bb gb_c1 fun _ => gb_or (by rw [List.length_append]; exact h)).trans ?_
  cases W <;> rfl
theorem gb_F0 : evE gl cf gbC (gbΓ A M) (gS A M D [] C) = .ok (.bool false) (gS A M D [] C) := (and_bb (q := true) gb_c1 fun h => by cases h).trans rfl
theorem gb_F1 : evE gl cf gbC (gbΓ A M) (gS A M D (W ++ [x]) (C ++ [W.length + 1])) = .ok (.bool false) (gS A M D (W ++ [x]) (C ++ [W.length + 1])) := by
  refine (and_bb gb_c1 fun _ => or_bb gb_c2 fun _ => gb_c3).trans ?_
  have : (((W.length + 1 : Nat) : Int) == ((W ++ [x]).length : Int)) = true := by rw [List.length_append]; simp
  rw [this]; cases C <;> simp

theorem store_P {r : Nat} {ks : List (List Int)} {k : List Int} {xs : List V} (h : σ[r]? = some (.dictP ks)) (hk : intsV xs = some k) (hn : ks.length < roomy) : vStore σ (.ref r) (.tup xs) (.bool true) = some (σ.set r (.dictP (if k ∈ ks then ks else ks ++ [k]))) := by
  rw [vStore, h]
  show (if ks.length < roomy then (intsV xs).map _ else _) = _
  rw [if_pos hn, hk]; rfl
/-- going back by one -/
theorem gb_step (h : C.getLast? ≠ some (W.length + 1)) (hD : D.length < roomy) :
    exS gl cf (.while gbC [.sto (.var 2) (.pop (.var 0)) (.cBool true)]) (gbΓ A M) (gS A M D (W ++ [x]) C) = exS gl cf (.while gbC [.sto (.var 2) (.pop (.var 0)) (.cBool true)]) (gbΓ A M) (gS A M (ins D x) W C) := by
  refine while_step (gb_T h) (exB_next (s := .sto (.var 2) (.pop (.var 0)) (.cBool true)) ?_)
  have h1 := evE_popR (gl := gl) (cf := cf) (Γ := gbΓ A M) (σ := gS A M D (W ++ [x]) C) (o := .var 0) (i := A.length + 1 + M.length) (xs := W.map pv) (v := pv x) rfl (by rw [gS_w, List.map_append]; rfl)
  rw [gS_sw] at h1
  have h2 : vStore (gS A M D W C) (.ref A.length) (pv x) (.bool true) = some (gS A M (ins D x) W C) := by
    have := store_P (σ := gS A M D W C) (xs := [.int (x.1 : Int), .int (x.2 : Int)]) (k := kv x) gS_d rfl (by rw [List.length_map]; exact hD)
    rw [← ins_kv, gS_sd] at this; exact this
  rw [exS_sto0, evE_cBool, bind_ok, evE_var, gb_2, of_some, bind_ok, h1, bind_ok, h2]; rfl

theorem call_gb (H : P[43]? = some d_gone_back) (σ : Sg) : callF gl P (d + 1) 43 (gbΓ A M) σ = ((exS gl (callF gl P d) (.while gbC [.sto (.var 2) (.pop (.var 0)) (.cBool true)]) (gbΓ A M) σ).bind fun p σ => match p.1 with
    | .next => exB gl (callF gl P d) [.ite (.cmp .eq (.bi .len [(.var 0)]) (.cInt 0)) [.ret (.cBool false)] [], .expr (.pop (.var 1)), .ret (.cBool true)] p.2 σ
    | .ret v => .ok (.ret v, p.2) σ).bind fun p σ => .ok (flV p.1) σ := by
  rw [callF_eq H rfl]; rfl
theorem gb_pop (H : P[43]? = some d_gone_back) (h : C.getLast? ≠ some (W.length + 1)) (hD : D.length < roomy) :
    callF gl P (d + 1) 43 (gbΓ A M) (gS A M D (W ++ [x]) C) = callF gl P (d + 1) 43 (gbΓ A M) (gS A M (ins D x) W C) := by
  rw [call_gb H, call_gb H, gb_step h hD]
theorem gb_none (H : P[43]? = some d_gone_back) : callF gl P (d + 1) 43 (gbΓ A M) (gS A M D [] C) = .ok (.bool false) (gS A M D [] C) := by
  rw [call_gb H, while_end gb_F0, bind_ok]
  have h : evE gl (callF gl P d) (.cmp .eq (.bi .len [(.var 0)]) (.cInt 0)) (gbΓ A M) (gS A M D [] C) = .ok (.bool true) (gS A M D [] C) := by
    simp only [evE_cNone, evE_cBool, evE_cInt, evE_cStr, evE_var, evE_glob, evE_and, evE_or, evE_not, evE_neg, evE_bin, evE_cmp, evE_cmp2, evE_ite, evE_tup, evE_lst, evE_call, evE_bi, evE_join, evE_idx, evE_slice, evEs_nil, evEs_cons, evO_none, evO_some, gb_0, of_some, bind_ok, len_w, eq_ii]; rfl
  show Res.bind (exB _ _ _ _ _) _ = _
  rw [exB_take h rfl (exB_rets evE_cBool)]; rfl
theorem gb_some (H : P[43]? = some d_gone_back) : callF gl P (d + 1) 43 (gbΓ A M) (gS A M D (W ++ [x]) (C ++ [W.length + 1])) = .ok (.bool true) (gS A M D (W ++ [x]) C) := by
  rw [call_gb H, while_end gb_F1, bind_ok]
  have h : evE gl (callF gl P d) (.cmp .eq (.bi .len [(.var 0)]) (.cInt 0)) (gbΓ A M) (gS A M D (W ++ [x]) (C ++ [W.length + 1])) = .ok (.bool false) (gS A M D (W ++ [x]) (C ++ [W.length + 1])) := by
    simp only [evE_cNone, evE_cBool, evE_cInt, evE_cStr, evE_var, evE_glob, evE_and, evE_or, evE_not, evE_neg, evE_bin, evE_cmp, evE_cmp2, evE_ite, evE_tup, evE_lst, evE_call, evE_bi, evE_join, evE_idx, evE_slice, evEs_nil, evEs_cons, evO_none, evO_some, gb_0, of_some, bind_ok, len_w, eq_ii]
    rw [List.length_append, beq_eq_false_iff_ne.mpr (by simp; (first | lia | omega))]
  have h1 := evE_popR (gl := gl) (cf := callF gl P d) (Γ := gbΓ A M) (σ := gS A M D (W ++ [x]) (C ++ [W.length + 1])) (o := .var 1) (i := A.length + 1 + M.length + 1) (xs := C.map iv) (v := iv (W.length + 1)) rfl (by rw [gS_c, List.map_append]; rfl)
  rw [gS_sc] at h1
  show Res.bind (exB _ _ _ _ _) _ = _
  rw [exB_skip h rfl, exB_expr h1, exB_rets evE_cBool]; rfl
end
end Mine

namespace Mine

/-! ### no way comes back -/
inductive Edge (F : List Sp) (w : List Nat) : Nat × Nat → Nat × Nat → Prop
  | take {n m a : Nat} {b : Bool} {s : List Nat} : F[n]? = some (.take b s m) → hit w b s a = true → Edge F w (n, a) (m, a + 1)
  | left {n x y a : Nat} : F[n]? = some (.part x y) → Edge F w (n, a) (x, a)
  | right {n x y a : Nat} : F[n]? = some (.part x y) → Edge F w (n, a) (y, a)
inductive Reach (F : List Sp) (w : List Nat) : Nat × Nat → Nat × Nat → Prop
  | refl {x : Nat × Nat} : Reach F w x x
  | step {x y z : Nat × Nat} : Edge F w x y → Reach F w y z → Reach F w x z
section
variable {F : List Sp} {w : List Nat}
theorem Reach.snoc {x y z : Nat × Nat} (h : Reach F w x y) (e : Edge F w y z) : Reach F w x z := by
  induction h with
  | refl => exact .step e .refl
  | step e' _ ih => exact .step e' (ih e)
noncomputable def Acy (F : List Sp) (w : List Nat) (x : Nat × Nat) : Prop := ∀ y, Edge F w x y → ¬ Reach F w y x
theorem acy_of {x : Nat × Nat} (h : ∀ y, Edge F w x y → Acy F w y) : Acy F w x := fun y e r => by
  cases r with
  | refl => exact h _ e _ e .refl
  | step e' r' => exact h y e _ e' (r'.snoc e)
theorem acy_ends {a : Nat} (ht : ∀ {n m : Nat} {b : Bool} {s : List Nat}, F[n]? = some (.take b s m) → hit w b s a = true → Acy F w (m, a + 1)) {n : Nat} (h : Ends F n) : Acy F w (n, a) := by
  induction h with
  | fin e => exact acy_of fun y d => by cases d with | take e' _ | left e' | right e' => rw [e] at e'; cases e'
  | take e => exact acy_of fun y d => by cases d with
    | take e' hh => exact ht e' hh
    | left e' | right e' => rw [e] at e'; cases e'
  | part e _ _ ih1 ih2 => exact acy_of fun y d => by cases d with
    | take e' _ => rw [e] at e'; cases e'
    | left e' => rw [e] at e'; cases e'; exact ih1
    | right e' => rw [e] at e'; cases e'; exact ih2
theorem acy (wf : Wf F) (he : ∀ m, m < F.length → Ends F m) : ∀ (j : Nat) {a n : Nat}, w.length < a + j → n < F.length → Acy F w (n, a)
  | 0, a, n, hj, hn => acy_ends (fun _ hh => absurd (Nat.lt_trans hj (hit_lt hh)) (Nat.lt_irrefl _)) (he n hn)
  | j + 1, a, n, hj, hn => acy_ends (fun e hh => acy wf he j (by rw [Nat.add_right_comm]; exact hj) (below_at wf e)) (he n hn)
end

/-- what a search goes on -/
structure Seek (F : List Sp) (w : List Nat) : Prop where
  wf : Wf F
  ac : ∀ n a, n < F.length → Acy F w (n, a)
  room : F.length * (w.length + 1) < roomy
  len : w.length < 1000000
theorem Good.seek {N : List Sp × Nat} (G : Good N) {w : List Nat} (h : N.1.length * (w.length + 1) < roomy) (hl : w.length < 1000000) : Seek N.1 w :=
  ⟨G.wf, fun _ _ hn => acy G.wf G.ends (w.length + 1) (Nat.lt_of_lt_of_le (Nat.lt_succ_self _) (Nat.le_add_left _ _)) hn, h, hl⟩

structure WayOk (F : List Sp) (w : List Nat) (W : List (Nat × Nat)) (x : Nat × Nat) : Prop where
  nd : W.Nodup
  bd : ∀ y ∈ W, y.1 < F.length ∧ y.2 < w.length + 1
  fr : ∀ y ∈ W, ¬ Reach F w x y
  hx : x.1 < F.length ∧ x.2 < w.length + 1
structure DeadOk (F : List Sp) (w : List Nat) (D : List (Nat × Nat)) : Prop where
  nd : D.Nodup
  bd : ∀ y ∈ D, y.1 < F.length ∧ y.2 < w.length + 1
  no : ∀ y ∈ D, No F w y.1 y.2
section
variable {F : List Sp} {w : List Nat} {D W : List (Nat × Nat)} {x y : Nat × Nat}
theorem WayOk.len (h : WayOk F w W x) (K : Seek F w) : W.length < roomy := Nat.lt_of_le_of_lt (pairs_bound h.nd h.bd) K.room
theorem DeadOk.len (h : DeadOk F w D) (K : Seek F w) : D.length < roomy := Nat.lt_of_le_of_lt (pairs_bound h.nd h.bd) K.room
theorem Edge.bd (K : Seek F w) (e : Edge F w x y) (h : x.2 < w.length + 1) : y.1 < F.length ∧ y.2 < w.length + 1 := by
  cases e with
  | take e hh => exact ⟨below_at K.wf e, Nat.succ_lt_succ (hit_lt hh)⟩
  | left e => exact ⟨(below_at K.wf e).1, h⟩
  | right e => exact ⟨(below_at K.wf e).2, h⟩
theorem WayOk.step (K : Seek F w) (h : WayOk F w W x) (e : Edge F w x y) : WayOk F w (W ++ [x]) y := by
  refine ⟨?_, fun z hz => ?_, fun z hz r => ?_, e.bd K h.hx.2⟩
  · refine List.nodup_append.mpr ⟨h.nd, List.nodup_cons.mpr ⟨List.not_mem_nil, List.nodup_nil⟩, fun a ha b hb q => ?_⟩
    rw [List.mem_singleton.mp hb] at q
    exact h.fr a ha (q ▸ .refl)
  · rcases List.mem_append.mp hz with q | q
    · exact h.bd z q
    · rw [List.mem_singleton.mp q]; exact h.hx
  · rcases List.mem_append.mp hz with q | q
    · exact h.fr z q (.step e r)
    · rw [List.mem_singleton.mp q] at r; exact K.ac x.1 x.2 h.hx.1 y e r
theorem DeadOk.ins (h : DeadOk F w D) (hx : x.1 < F.length ∧ x.2 < w.length + 1) (hn : No F w x.1 x.2) : DeadOk F w (Mine.ins D x) := by
  rw [Mine.ins]
  split
  · exact h
  · rename_i hm
    refine ⟨List.nodup_append.mpr ⟨h.nd, List.nodup_cons.mpr ⟨List.not_mem_nil, List.nodup_nil⟩, fun a ha b hb q => ?_⟩, fun y hy => ?_, fun y hy => ?_⟩
    · rw [List.mem_singleton.mp hb] at q; exact hm (q ▸ ha)
    · rcases List.mem_append.mp hy with q | q
      · exact h.bd y q
      · rw [List.mem_singleton.mp q]; exact hx
    · rcases List.mem_append.mp hy with q | q
      · exact h.no y q
      · rw [List.mem_singleton.mp q]; exact hn
end

/-! ### what a turn does -/
noncomputable def goN : List St := [.expr (.app (.var 5) (.tup [(.var 7), (.var 8)])),
         .asg 10 (.idx (.var 4) (.var 7)),
         .ite (.cmp .eq (.idx (.var 10) (.cInt 0)) (.cStr [101, 110, 100]))
           [.ret (.var 5)]
           [],
         .ite (.cmp .eq (.idx (.var 10) (.cInt 0)) (.cStr [112, 97, 114, 116]))
           [.expr (.app (.var 6) (.bi .len [(.var 5)])),
            .asg 7 (.idx (.var 10) (.cInt 1))]
           [.ite (.call 44 [(.var 10), (.var 1), (.var 8)])
              [.asg 7 (.idx (.var 10) (.cInt 3)),
               .asg 8 (.bin .add (.var 8) (.cInt 1))]
              [.asg 9 (.cBool true)]]]
noncomputable def goS : St := .ite (.var 9)
        [.ite (.not (.call 43 [(.var 5), (.var 6), (.var 3)]))
           [.ret .cNone]
           [],
         .asg 8 (.idx (.idx (.var 5) (.neg (.cInt 1))) (.cInt 1)),
         .asg 7 (.idx (.idx (.var 4) (.idx (.idx (.var 5) (.neg (.cInt 1))) (.cInt 0))) (.cInt 2))]
        []
noncomputable def goB : List St := [.asg 9 (.cmp .isin (.tup [(.var 7), (.var 8)]) (.var 3)), .ite (.not (.var 9)) goN [], goS]

structure HG (P : List Def) : Prop where
  tk : P[4]? = some d_takes
  gb : P[43]? = some d_gone_back
  tn : P[44]? = some d_taken
  go : P[45]? = some d_gone

section
variable {gl : List V} {cf : CF} {σ σ' : Sg} {Γ Γ' : Fm} {P : List Def} {d : Nat} {A M : Sg} {D W : List (Nat × Nat)} {C : List Nat} {F : List Sp} {w : List Nat} {n a : Nat} {nv pl x9 x10 : V}

theorem in_ref {x : V} {i : Nat} : vCmp σ .isin x (.ref i) = inCell x σ[i]? := rfl
theorem call_takes (H : P[4]? = some d_takes) {b : Bool} {s : List Nat} {c : Nat} : callF gl P (d + 1) 4 [.bool b, .str s, .str [c]] σ = .ok (.bool (s.contains c == b)) σ := by
  cases b with
  | true => exact callF_ret (D := d_takes) (Γ' := [.bool true, .str s, .str [c]]) H rfl (exB_take (v := .bool true) (σ' := σ) rfl rfl (exB_rets (σ' := σ) (by rw [beq_true]; rfl)))
  | false => exact callF_ret (D := d_takes) (Γ' := [.bool false, .str s, .str [c]]) H rfl ((exB_skip (v := .bool false) (σ' := σ) rfl rfl).trans (exB_rets (σ' := σ) (by rw [beq_false]; rfl)))
theorem str_at {a : Nat} {c : Nat} (hl : w.length < 1000000) (h : w[a]? = some c) : vIdx σ (.str w) (.int (a : Int)) = some (.str [c]) :=
  vIdx_nat (k := a) (xs := w.map fun c => V.str [c]) rfl rfl (by rw [List.getElem?_map, h]; rfl) (by rw [List.length_map]; (first | lia | omega))
theorem call_taken (H : HG P) (hl : w.length < 1000000) {b : Bool} {s : List Nat} {m : Nat} : callF gl P (d + 2) 44 [(Sp.take b s m).v, .str w, .int (a : Int)] σ = .ok (.bool (hit w b s a)) σ := by
  refine callF_ret (D := d_taken) (Γ' := [(Sp.take b s m).v, .str w, .int (a : Int)]) H.tn rfl (exB_rets ?_)
  have h1 : evE gl (callF gl P (d + 1)) (.cmp .lt (.var 2) (.bi .len [(.var 1)])) [(Sp.take b s m).v, .str w, .int (a : Int)] σ = .ok (.bool (decide ((a : Int) < (w.length : Int)))) σ := rfl
  rw [hit]
  cases hc : w[a]? with
  | none =>
    have : decide ((a : Int) < (w.length : Int)) = false := decide_eq_false (fun h => by rw [List.getElem?_eq_none_iff] at hc; (first | lia | omega))
    rw [this] at h1
    exact and_bb (q := true) h1 fun h => by cases h
  | some c =>
    have : decide ((a : Int) < (w.length : Int)) = true := decide_eq_true (by have := (List.getElem?_eq_some_iff.mp hc).1; (first | lia | omega))
    rw [this] at h1
    refine and_bb h1 fun _ => ?_
    have h2 : evE gl (callF gl P (d + 1)) (.idx (.var 1) (.var 2)) [(Sp.take b s m).v, .str w, .int (a : Int)] σ = .ok (.str [c]) σ := by
      show Res.of (vIdx σ (.str w) (.int (a : Int))) σ = _
      rw [str_at hl hc]; rfl
    rw [evE_call, evEs_cons, show evE gl (callF gl P (d + 1)) (.idx (.var 0) (.cInt 1)) [(Sp.take b s m).v, .str w, .int (a : Int)] σ = .ok (.bool b) σ from rfl, bind_ok, evEs_cons, show evE gl (callF gl P (d + 1)) (.idx (.var 0) (.cInt 2)) [(Sp.take b s m).v, .str w, .int (a : Int)] σ = .ok (.str s) σ from rfl, bind_ok, evEs_cons, h2]
    exact call_takes H.tk

noncomputable def gΓ (nv : V) (w : List Nat) (pl : V) (A M : Sg) (F : List Sp) (n a : Nat) (x9 x10 : V) : Fm :=
  [nv, .str w, pl, .ref A.length, .lst (F.map Sp.v), .ref (A.length + 1 + M.length), .ref (A.length + 1 + M.length + 1), .int (n : Int), .int (a : Int), x9, x10]

theorem in_dead : evE gl cf (.cmp .isin (.tup [(.var 7), (.var 8)]) (.var 3)) (gΓ nv w pl A M F n a x9 x10) (gS A M D W C) = .ok (.bool (decide ((n, a) ∈ D))) (gS A M D W C) := by
  have h : vCmp (gS A M D W C) .isin (.tup [.int (n : Int), .int (a : Int)]) (.ref A.length) = some (decide ((n, a) ∈ D)) := by
    rw [in_ref, gS_d]
    show some (decide (kv (n, a) ∈ D.map kv)) = _
    rw [decide_eq_decide.mpr mem_kv]
  show (Res.of (vCmp (gS A M D W C) .isin (.tup [.int (n : Int), .int (a : Int)]) (.ref A.length)) (gS A M D W C)).bind _ = _
  rw [h]; rfl
theorem go_dead (h : (n, a) ∈ D) : exB gl cf goB (gΓ nv w pl A M F n a x9 x10) (gS A M D W C) = exB gl cf [goS] (gΓ nv w pl A M F n a (.bool true) x10) (gS A M D W C) := by
  refine (exB_asg (in_dead.trans (by rw [decide_eq_true h]))).trans ?_
  exact exB_skip (v := .bool false) rfl rfl
theorem go_new {f : Fl} (h : (n, a) ∉ D) (hb : exB gl cf goN (gΓ nv w pl A M F n a (.bool false) x10) (gS A M D W C) = .ok (f, Γ') σ') : exB gl cf goB (gΓ nv w pl A M F n a x9 x10) (gS A M D W C) = match f with | .next => exB gl cf [goS] Γ' σ' | .ret v => .ok (.ret v, Γ') σ' := by
  refine (exB_asg (in_dead.trans (by rw [decide_eq_false h]))).trans ?_
  cases f with
  | next => exact exB_into (v := .bool true) rfl rfl hb
  | ret v => exact exB_take (v := .bool true) rfl rfl hb

theorem step_at {k : Nat} {S : Sp} (hF : F.length < roomy) (hn : F[n]? = some S) : vIdx σ (.lst (F.map Sp.v)) (.int (n : Int)) = some S.v :=
  vIdx_nat (k := n) (xs := F.map Sp.v) rfl rfl (by rw [List.getElem?_map, hn]; rfl) (by rw [List.length_map]; unfold roomy at hF; (first | lia | omega))
theorem go_app (hW : W.length < roomy) : evE gl cf (.app (.var 5) (.tup [(.var 7), (.var 8)])) (gΓ nv w pl A M F n a x9 x10) (gS A M D W C) = .ok .none (gS A M D (W ++ [(n, a)]) C) := by
  have h := evE_appR (gl := gl) (cf := cf) (o := .var 5) (x := .tup [(.var 7), (.var 8)]) (Γ := gΓ nv w pl A M F n a x9 x10) (σ := gS A M D W C) (σ₁ := gS A M D W C) (i := A.length + 1 + M.length) (v := pv (n, a)) rfl gS_w rfl gS_w (by rw [List.length_map]; exact hW)
  rw [h, show W.map pv ++ [pv (n, a)] = (W ++ [(n, a)]).map pv by rw [List.map_append]; rfl, gS_sw]
/-- the first of a turn: the pair is put, the step is at hand -/
theorem go_head {S : Sp} (hF : F.length < roomy) (hW : W.length < roomy) (hn : F[n]? = some S) : exB gl cf goN (gΓ nv w pl A M F n a x9 x10) (gS A M D W C) = exB gl cf (goN.drop 2) (gΓ nv w pl A M F n a x9 S.v) (gS A M D (W ++ [(n, a)]) C) := by
  refine (exB_expr (go_app hW)).trans (exB_asg (v := S.v) (σ' := gS A M D (W ++ [(n, a)]) C) ?_)
  show Res.of (vIdx _ (.lst (F.map Sp.v)) (.int (n : Int))) _ = _
  rw [step_at (k := n) hF hn]; rfl
theorem go_fin (hF : F.length < roomy) (hW : W.length < roomy) (hD : (n, a) ∉ D) (hn : F[n]? = some .fin) :
    exB gl cf goB (gΓ nv w pl A M F n a x9 x10) (gS A M D W C) = .ok (.ret (.ref (A.length + 1 + M.length)), gΓ nv w pl A M F n a (.bool false) (Sp.v .fin)) (gS A M D (W ++ [(n, a)]) C) :=
  go_new (f := .ret (.ref (A.length + 1 + M.length))) hD ((go_head hF hW hn).trans (exB_take (v := .bool true) rfl rfl (exB_rets rfl)))
theorem go_part {x y : Nat} (hF : F.length < roomy) (hW : W.length < roomy) (hC : C.length < roomy) (hD : (n, a) ∉ D) (hn : F[n]? = some (.part x y)) :
    exB gl cf goB (gΓ nv w pl A M F n a x9 x10) (gS A M D W C) = .ok (.next, gΓ nv w pl A M F x a (.bool false) (Sp.part x y).v) (gS A M D (W ++ [(n, a)]) (C ++ [W.length + 1])) := by
  refine (go_new (f := .next) (Γ' := gΓ nv w pl A M F x a (.bool false) (Sp.part x y).v) (σ' := gS A M D (W ++ [(n, a)]) (C ++ [W.length + 1])) hD ((go_head hF hW hn).trans ((exB_skip (v := .bool false) rfl rfl).trans ((exB_into (v := .bool true) (σ' := gS A M D (W ++ [(n, a)]) C) (σ₂ := gS A M D (W ++ [(n, a)]) (C ++ [W.length + 1])) rfl rfl ((exB_expr (v := .none) (σ' := gS A M D (W ++ [(n, a)]) (C ++ [W.length + 1])) ?_).trans ((exB_asg (v := .int (x : Int)) rfl).trans exB_nil0))).trans exB_nil0)))).trans (exB_skip (v := .bool false) rfl rfl)
  have h := evE_appR (gl := gl) (cf := cf) (o := .var 6) (x := .bi .len [(.var 5)]) (Γ := gΓ nv w pl A M F n a (.bool false) (Sp.part x y).v) (σ := gS A M D (W ++ [(n, a)]) C) (σ₁ := gS A M D (W ++ [(n, a)]) C) (i := A.length + 1 + M.length + 1) (v := iv (W.length + 1)) rfl gS_c (by
    show Res.of (vBi _ .len [.ref (A.length + 1 + M.length)]) _ = _
    rw [len_w, List.length_append]; rfl) gS_c (by rw [List.length_map]; exact hC)
  rw [h, show C.map iv ++ [iv (W.length + 1)] = (C ++ [W.length + 1]).map iv by rw [List.map_append]; rfl, gS_sc]
theorem go_call (H : HG P) (hl : w.length < 1000000) {b : Bool} {s : List Nat} {m : Nat} {t : Bool} (hh : hit w b s a = t) : evE gl (callF gl P (d + 2)) (.call 44 [(.var 10), (.var 1), (.var 8)]) (gΓ nv w pl A M F n a x9 (Sp.take b s m).v) σ = .ok (.bool t) σ := by
  rw [← hh]; exact call_taken H hl
theorem go_hit (H : HG P) (hl : w.length < 1000000) {b : Bool} {s : List Nat} {m : Nat} (hF : F.length < roomy) (hW : W.length < roomy) (hD : (n, a) ∉ D) (hn : F[n]? = some (.take b s m)) (hh : hit w b s a = true) :
    exB gl (callF gl P (d + 2)) goB (gΓ nv w pl A M F n a x9 x10) (gS A M D W C) = .ok (.next, gΓ nv w pl A M F m (a + 1) (.bool false) (Sp.take b s m).v) (gS A M D (W ++ [(n, a)]) C) :=
  (go_new (f := .next) (Γ' := gΓ nv w pl A M F m (a + 1) (.bool false) (Sp.take b s m).v) (σ' := gS A M D (W ++ [(n, a)]) C) hD ((go_head hF hW hn).trans ((exB_skip (v := .bool false) rfl rfl).trans ((exB_ite_else (v := .bool false) (σ' := gS A M D (W ++ [(n, a)]) C) rfl rfl
    ((exB_into (v := .bool true) (σ' := gS A M D (W ++ [(n, a)]) C) (go_call H hl hh) rfl ((exB_asg (v := .int (m : Int)) rfl).trans ((exB_asg (v := .int ((a + 1 : Nat) : Int)) rfl).trans exB_nil0))).trans exB_nil0)).trans exB_nil0)))).trans (exB_skip (v := .bool false) rfl rfl)
theorem go_stuck (H : HG P) (hl : w.length < 1000000) {b : Bool} {s : List Nat} {m : Nat} (hF : F.length < roomy) (hW : W.length < roomy) (hD : (n, a) ∉ D) (hn : F[n]? = some (.take b s m)) (hh : hit w b s a = false) :
    exB gl (callF gl P (d + 2)) goB (gΓ nv w pl A M F n a x9 x10) (gS A M D W C) = exB gl (callF gl P (d + 2)) [goS] (gΓ nv w pl A M F n a (.bool true) (Sp.take b s m).v) (gS A M D (W ++ [(n, a)]) C) :=
  go_new (f := .next) (Γ' := gΓ nv w pl A M F n a (.bool true) (Sp.take b s m).v) (σ' := gS A M D (W ++ [(n, a)]) C) hD ((go_head hF hW hn).trans ((exB_skip (v := .bool false) rfl rfl).trans ((exB_ite_else (v := .bool false) (σ' := gS A M D (W ++ [(n, a)]) C) rfl rfl
    ((exB_ite_else (v := .bool false) (σ' := gS A M D (W ++ [(n, a)]) C) (go_call H hl hh) rfl ((exB_asg (v := .bool true) rfl).trans exB_nil0)).trans exB_nil0)).trans exB_nil0)))
end
end Mine

namespace Mine
section
variable {gl : List V} {cf : CF} {σ σ' : Sg} {Γ Γ' : Fm} {P : List Def} {d : Nat} {A M : Sg} {D W : List (Nat × Nat)} {C : List Nat} {F : List Sp} {w : List Nat} {n a : Nat} {nv pl x9 x10 : V}

theorem while_tt {b : List St} : exS gl cf (.while (.cBool true) b) Γ σ = (exB gl cf b Γ σ).bind fun p σ => match p.1 with | .next => exS gl cf (.while (.cBool true) b) p.2 σ | .ret v => .ok (.ret v, p.2) σ := by
  cases hb : exB gl cf b Γ σ with
  | bad => rw [exS_while0, loopW_unfold]; simp only [evE_cBool, bind_ok, true_b, of_some, if_true, hb, bind_bad]
  | ex c s => rw [exS_while0, loopW_unfold]; simp only [evE_cBool, bind_ok, true_b, of_some, if_true, hb, bind_ex]
  | ok p s =>
    obtain ⟨f, Γ'⟩ := p
    cases f with
    | next => exact while_step evE_cBool hb
    | ret v => exact while_ret evE_cBool hb

noncomputable def gL (gl : List V) (cf : CF) (Γ : Fm) (σ : Sg) : Res (Fl × Fm) := exS gl cf (.while (.cBool true) goB) Γ σ
noncomputable def gK (gl : List V) (cf : CF) (r : Res (Fl × Fm)) : Res (Fl × Fm) := r.bind fun p σ => match p.1 with | .next => gL gl cf p.2 σ | .ret v => .ok (.ret v, p.2) σ
theorem gL_eq : gL gl cf Γ σ = gK gl cf (exB gl cf goB Γ σ) := while_tt
theorem gK_next : gK gl cf (.ok (.next, Γ) σ) = gL gl cf Γ σ := rfl

noncomputable def goG (gl : List V) (cf : CF) (Γ : Fm) (r : Res V) : Res (Fl × Fm) :=
  ((((r.bind fun v σ => (Res.of (vTrue σ v) σ).bind fun t σ => .ok (.bool (!t)) σ).bind fun v σ => (Res.of (vTrue σ v) σ).bind fun t σ => if t then exB gl cf [.ret .cNone] Γ σ else exB gl cf [] Γ σ).bind fun p σ => match p.1 with
    | .next => exB gl cf [.asg 8 (.idx (.idx (.var 5) (.neg (.cInt 1))) (.cInt 1)), .asg 7 (.idx (.idx (.var 4) (.idx (.idx (.var 5) (.neg (.cInt 1))) (.cInt 0))) (.cInt 2))] p.2 σ
    | .ret v => .ok (.ret v, p.2) σ).bind fun p σ => match p.1 with | .next => exB gl cf [] p.2 σ | .ret v => .ok (.ret v, p.2) σ)
theorem goS_eq : exB gl cf [goS] (gΓ nv w pl A M F n a (.bool true) x10) σ = goG gl cf (gΓ nv w pl A M F n a (.bool true) x10) (cf 43 (gbΓ A M) σ) := rfl
theorem stk_pop {x : Nat × Nat} (H : P[43]? = some d_gone_back) (h : C.getLast? ≠ some (W.length + 1)) (hD : D.length < roomy) :
    exB gl (callF gl P (d + 1)) [goS] (gΓ nv w pl A M F n a (.bool true) x10) (gS A M D (W ++ [x]) C) = exB gl (callF gl P (d + 1)) [goS] (gΓ nv w pl A M F n a (.bool true) x10) (gS A M (ins D x) W C) := by
  rw [goS_eq, goS_eq, gb_pop H h hD]
theorem stk_none (H : P[43]? = some d_gone_back) : exB gl (callF gl P (d + 1)) [goS] (gΓ nv w pl A M F n a (.bool true) x10) (gS A M D [] C) = .ok (.ret .none, gΓ nv w pl A M F n a (.bool true) x10) (gS A M D [] C) := by
  rw [goS_eq, gb_none H]; rfl
theorem stk_back {n' a' x y : Nat} (H : P[43]? = some d_gone_back) (hF : F.length < roomy) (hn : F[n']? = some (.part x y)) :
    exB gl (callF gl P (d + 1)) [goS] (gΓ nv w pl A M F n a (.bool true) x10) (gS A M D (W ++ [(n', a')]) (C ++ [W.length + 1])) = .ok (.next, gΓ nv w pl A M F y a' (.bool true) x10) (gS A M D (W ++ [(n', a')]) C) := by
  rw [goS_eq, gb_some H]
  have e1 : evE gl (callF gl P (d + 1)) (.idx (.idx (.var 5) (.neg (.cInt 1))) (.cInt 1)) (gΓ nv w pl A M F n a (.bool true) x10) (gS A M D (W ++ [(n', a')]) C) = .ok (.int (a' : Int)) (gS A M D (W ++ [(n', a')]) C) := by
    rw [evE_idx, evE_idx, evE_var, show getV (gΓ nv w pl A M F n a (.bool true) x10) 5 = some (.ref (A.length + 1 + M.length)) from rfl, of_some, bind_ok, evE_neg, evE_cInt, bind_ok, neg_i, of_some, bind_ok, last_w]; rfl
  have e2 : evE gl (callF gl P (d + 1)) (.idx (.idx (.var 4) (.idx (.idx (.var 5) (.neg (.cInt 1))) (.cInt 0))) (.cInt 2)) (gΓ nv w pl A M F n a' (.bool true) x10) (gS A M D (W ++ [(n', a')]) C) = .ok (.int (y : Int)) (gS A M D (W ++ [(n', a')]) C) := by
    rw [evE_idx, evE_idx, evE_var, show getV (gΓ nv w pl A M F n a' (.bool true) x10) 4 = some (.lst (F.map Sp.v)) from rfl, of_some, bind_ok, evE_idx, evE_idx, evE_var, show getV (gΓ nv w pl A M F n a' (.bool true) x10) 5 = some (.ref (A.length + 1 + M.length)) from rfl, of_some, bind_ok, evE_neg, evE_cInt, bind_ok, neg_i, of_some, bind_ok, last_w, of_some, bind_ok, evE_cInt, bind_ok]
    show ((Res.of (vIdx _ (.lst (F.map Sp.v)) (.int (n' : Int))) _).bind _) = _
    rw [step_at (k := n') hF hn]; rfl
  show (exB gl (callF gl P (d + 1)) [.asg 8 (.idx (.idx (.var 5) (.neg (.cInt 1))) (.cInt 1)), .asg 7 (.idx (.idx (.var 4) (.idx (.idx (.var 5) (.neg (.cInt 1))) (.cInt 0))) (.cInt 2))] (gΓ nv w pl A M F n a (.bool true) x10) (gS A M D (W ++ [(n', a')]) C)).bind _ = _
  rw [exB_asg e1, show (gΓ nv w pl A M F n a (.bool true) x10).set 8 (.int (a' : Int)) = gΓ nv w pl A M F n a' (.bool true) x10 from rfl, exB_asg e2]; rfl

theorem last_ne {W : List (Nat × Nat)} (h : ∀ k, C.getLast? = some k → k ≤ W.length) : C.getLast? ≠ some (W.length + 1) := fun e => absurd (h _ e) (Nat.not_succ_le_self _)
theorem last_up {x : Nat × Nat} (h : ∀ k, C.getLast? = some k → k ≤ W.length) : ∀ k, C.getLast? = some k → k ≤ (W ++ [x]).length := fun k e => by
  rw [List.length_append]; exact Nat.le_succ_of_le (h k e)
theorem last_new {x : Nat × Nat} : ∀ k, (C ++ [W.length + 1]).getLast? = some k → k ≤ (W ++ [x]).length := fun k e => by
  rw [List.getLast?_append] at e; cases e; rw [List.length_append]; exact Nat.le_refl _
theorem len_up {x : Nat × Nat} (h : C.length ≤ W.length) : C.length ≤ (W ++ [x]).length := by rw [List.length_append]; exact Nat.le_succ_of_le h
theorem len_new {k : Nat} {x : Nat × Nat} (h : C.length ≤ W.length) : (C ++ [k]).length ≤ (W ++ [x]).length := by rw [List.length_append, List.length_append]; exact Nat.succ_le_succ h

theorem Seek.hF (K : Seek F w) : F.length < roomy := Nat.lt_of_le_of_lt (Nat.le_mul_of_pos_right _ (Nat.succ_pos _)) K.room

/-- what a search without a way leaves dead -/
inductive Lost (F : List Sp) (w : List Nat) : List (Nat × Nat) → Nat × Nat → List (Nat × Nat) → Prop
  | known {D : List (Nat × Nat)} {x : Nat × Nat} : x ∈ D → Lost F w D x D
  | stuck {D : List (Nat × Nat)} {n m a : Nat} {b : Bool} {s : List Nat} : (n, a) ∉ D → F[n]? = some (.take b s m) → hit w b s a = false → Lost F w D (n, a) (ins D (n, a))
  | take {D D' : List (Nat × Nat)} {n m a : Nat} {b : Bool} {s : List Nat} : (n, a) ∉ D → F[n]? = some (.take b s m) → hit w b s a = true → Lost F w D (m, a + 1) D' → Lost F w D (n, a) (ins D' (n, a))
  | part {D D' D'' : List (Nat × Nat)} {n x y a : Nat} : (n, a) ∉ D → F[n]? = some (.part x y) → Lost F w D (x, a) D' → Lost F w D' (y, a) D'' → Lost F w D (n, a) (ins D'' (n, a))
/-- what a search with a way leaves dead, and the way -/
inductive Sc (F : List Sp) (w : List Nat) : List (Nat × Nat) → Nat × Nat → List (Nat × Nat) → List (Nat × Nat) → Prop
  | fin {D : List (Nat × Nat)} {n a : Nat} : (n, a) ∉ D → F[n]? = some .fin → Sc F w D (n, a) D [(n, a)]
  | take {D D' p : List (Nat × Nat)} {n m a : Nat} {b : Bool} {s : List Nat} : (n, a) ∉ D → F[n]? = some (.take b s m) → hit w b s a = true → Sc F w D (m, a + 1) D' p → Sc F w D (n, a) D' ((n, a) :: p)
  | left {D D' p : List (Nat × Nat)} {n x y a : Nat} : (n, a) ∉ D → F[n]? = some (.part x y) → Sc F w D (x, a) D' p → Sc F w D (n, a) D' ((n, a) :: p)
  | right {D D' D'' p : List (Nat × Nat)} {n x y a : Nat} : (n, a) ∉ D → F[n]? = some (.part x y) → Lost F w D (x, a) D' → Sc F w D' (y, a) D'' p → Sc F w D (n, a) D'' ((n, a) :: p)
/-- a search without a way comes back to where it began -/
theorem no_go (H : HG P) (K : Seek F w) (h : No F w n a) : ∀ {D W : List (Nat × Nat)} {C : List Nat} {x9 x10 : V}, WayOk F w W (n, a) → DeadOk F w D → (∀ k, C.getLast? = some k → k ≤ W.length) → C.length ≤ W.length →
    ∃ D' n' a' x', (DeadOk F w D' ∧ Lost F w D (n, a) D') ∧ gL gl (callF gl P (d + 2)) (gΓ nv w pl A M F n a x9 x10) (gS A M D W C) = gK gl (callF gl P (d + 2)) (exB gl (callF gl P (d + 2)) [goS] (gΓ nv w pl A M F n' a' (.bool true) x') (gS A M D' W C)) := by
  induction h with
  | stuck e hh =>
    rename_i n m a b s
    intro D W C x9 x10 hW hD hC hl
    by_cases hd : (n, a) ∈ D
    · exact ⟨D, n, a, x10, ⟨hD, .known hd⟩, by rw [gL_eq, go_dead hd]⟩
    · exact ⟨ins D (n, a), n, a, _, ⟨hD.ins hW.hx (.stuck e hh), .stuck hd e hh⟩, by rw [gL_eq, go_stuck H K.len K.hF (hW.len K) hd e hh, stk_pop H.gb (last_ne hC) (hD.len K)]⟩
  | take e hh hn ih =>
    rename_i n m a b s
    intro D W C x9 x10 hW hD hC hl
    by_cases hd : (n, a) ∈ D
    · exact ⟨D, n, a, x10, ⟨hD, .known hd⟩, by rw [gL_eq, go_dead hd]⟩
    · obtain ⟨D', n', a', x', ⟨hD', hf⟩, h⟩ := ih (W := W ++ [(n, a)]) (C := C) (x9 := .bool false) (x10 := (Sp.take b s m).v) (hW.step K (.take e hh)) hD (last_up hC) (len_up hl)
      exact ⟨ins D' (n, a), n', a', x', ⟨hD'.ins hW.hx (.take e hh hn), .take hd e hh hf⟩, by rw [gL_eq, go_hit H K.len K.hF (hW.len K) hd e hh, gK_next, h, stk_pop H.gb (last_ne hC) (hD'.len K)]⟩
  | part e hx hy ih1 ih2 =>
    rename_i n x y a
    intro D W C x9 x10 hW hD hC hl
    by_cases hd : (n, a) ∈ D
    · exact ⟨D, n, a, x10, ⟨hD, .known hd⟩, by rw [gL_eq, go_dead hd]⟩
    · obtain ⟨D', n', a', x', ⟨hD', hf⟩, h⟩ := ih1 (W := W ++ [(n, a)]) (C := C ++ [W.length + 1]) (x9 := .bool false) (x10 := (Sp.part x y).v) (hW.step K (.left e)) hD last_new (len_new hl)
      obtain ⟨D'', n'', a'', x'', ⟨hD'', hf'⟩, h'⟩ := ih2 (W := W ++ [(n, a)]) (C := C) (x9 := .bool true) (x10 := x') (hW.step K (.right e)) hD' (last_up hC) (len_up hl)
      exact ⟨ins D'' (n, a), n'', a'', x'', ⟨hD''.ins hW.hx (.part e hx hy), .part hd e hf hf'⟩, by rw [gL_eq, go_part K.hF (hW.len K) (Nat.lt_of_le_of_lt hl (hW.len K)) hd e, gK_next, h, stk_back H.gb K.hF e, gK_next, h', stk_pop H.gb (last_ne hC) (hD''.len K)]⟩
theorem DeadOk.fresh {x : Nat × Nat} {p : List (Nat × Nat)} (h : DeadOk F w D) (y : Yes F w x.1 x.2 p) : x ∉ D := fun hx => (h.no x hx).not y
/-- a search with a way finds it -/
theorem yes_go (H : HG P) (K : Seek F w) {p : List (Nat × Nat)} (h : Yes F w n a p) : ∀ {D W : List (Nat × Nat)} {C : List Nat} {x9 x10 : V}, WayOk F w W (n, a) → DeadOk F w D → (∀ k, C.getLast? = some k → k ≤ W.length) → C.length ≤ W.length →
    ∃ D' C' Γ', (DeadOk F w D' ∧ Sc F w D (n, a) D' p) ∧ gL gl (callF gl P (d + 2)) (gΓ nv w pl A M F n a x9 x10) (gS A M D W C) = .ok (.ret (.ref (A.length + 1 + M.length)), Γ') (gS A M D' (W ++ p) C') := by
  induction h with
  | fin e =>
    rename_i n a
    intro D W C x9 x10 hW hD hC hl
    exact ⟨D, C, _, ⟨hD, .fin (hD.fresh (x := (n, a)) (.fin e)) e⟩, by rw [gL_eq, go_fin K.hF (hW.len K) (hD.fresh (x := (n, a)) (.fin e)) e]; rfl⟩
  | take e hh y ih =>
    rename_i n m a b s p
    intro D W C x9 x10 hW hD hC hl
    obtain ⟨D', C', Γ', ⟨hD', hs⟩, h⟩ := ih (W := W ++ [(n, a)]) (C := C) (x9 := .bool false) (x10 := (Sp.take b s m).v) (hW.step K (.take e hh)) hD (last_up hC) (len_up hl)
    exact ⟨D', C', Γ', ⟨hD', .take (hD.fresh (x := (n, a)) (.take e hh y)) e hh hs⟩, by rw [gL_eq, go_hit H K.len K.hF (hW.len K) (hD.fresh (x := (n, a)) (.take e hh y)) e hh, gK_next, h, List.append_assoc]; rfl⟩
  | left e y ih =>
    rename_i n x y' a p
    intro D W C x9 x10 hW hD hC hl
    obtain ⟨D', C', Γ', ⟨hD', hs⟩, h⟩ := ih (W := W ++ [(n, a)]) (C := C ++ [W.length + 1]) (x9 := .bool false) (x10 := (Sp.part x y').v) (hW.step K (.left e)) hD last_new (len_new hl)
    exact ⟨D', C', Γ', ⟨hD', .left (hD.fresh (x := (n, a)) (.left e y)) e hs⟩, by rw [gL_eq, go_part K.hF (hW.len K) (Nat.lt_of_le_of_lt hl (hW.len K)) (hD.fresh (x := (n, a)) (.left e y)) e, gK_next, h, List.append_assoc]; rfl⟩
  | right e hn y ih =>
    rename_i n x y' a p
    intro D W C x9 x10 hW hD hC hl
    obtain ⟨D₁, n', a', x', ⟨hD₁, hf⟩, h₁⟩ := no_go (nv := nv) (pl := pl) (A := A) (M := M) (gl := gl) (d := d) H K hn (W := W ++ [(n, a)]) (C := C ++ [W.length + 1]) (x9 := .bool false) (x10 := (Sp.part x y').v) (hW.step K (.left e)) hD last_new (len_new hl)
    obtain ⟨D', C', Γ', ⟨hD', hs⟩, h⟩ := ih (W := W ++ [(n, a)]) (C := C) (x9 := .bool true) (x10 := x') (hW.step K (.right e)) hD₁ (last_up hC) (len_up hl)
    exact ⟨D', C', Γ', ⟨hD', .right (hD.fresh (x := (n, a)) (.right e hn y)) e hf hs⟩, by rw [gL_eq, go_part K.hF (hW.len K) (Nat.lt_of_le_of_lt hl (hW.len K)) (hD.fresh (x := (n, a)) (.right e hn y)) e, gK_next, h₁, stk_back H.gb K.hF e, gK_next, h, List.append_assoc]; rfl⟩

theorem gS_0 : (A ++ .dictP (D.map kv) :: M) ++ [.lst []] ++ [.lst []] = gS A M D [] [] := by rw [gS, List.append_assoc, List.append_assoc]; rfl
theorem gS_n : (A ++ .dictP (D.map kv) :: M).length = A.length + 1 + M.length := by rw [List.length_append, List.length_cons]; (first | lia | omega)
theorem gone_in {N : List Sp × Nat} {pl : Nat} (H : HG P) {r : V} (h : ∃ Γ', gL gl (callF gl P d) (gΓ (netV N) w (.int (pl : Int)) A M N.1 N.2 pl .undef .undef) (gS A M D [] []) = .ok (.ret r, Γ') σ') :
    callF gl P (d + 1) 45 [netV N, .str w, .int (pl : Int), .ref A.length] (A ++ .dictP (D.map kv) :: M) = .ok r σ' := by
  obtain ⟨Γ', h⟩ := h
  refine callF_ret (D := d_gone) (Γ' := Γ') H.go rfl ?_
  refine (exB_asg (v := .lst (N.1.map Sp.v)) (σ' := A ++ .dictP (D.map kv) :: M) rfl).trans ((exB_asg (v := .ref (A.length + 1 + M.length)) (σ' := (A ++ .dictP (D.map kv) :: M) ++ [.lst []]) ?_).trans ((exB_asg (v := .ref (A.length + 1 + M.length + 1)) (σ' := gS A M D [] []) ?_).trans ((exB_asg (v := .int (N.2 : Int)) rfl).trans ((exB_asg (v := .int (pl : Int)) rfl).trans (exB_ret h)))))
  · rw [← gS_n (D := D)]; rfl
  · rw [← gS_0, ← gS_n (D := D)]
    show Res.ok (V.ref (A ++ Cell.dictP (D.map kv) :: M ++ [Cell.lst []]).length) _ = _
    rw [List.length_append]; rfl
theorem WayOk.nil {x : Nat × Nat} (h : x.1 < F.length ∧ x.2 < w.length + 1) : WayOk F w [] x := ⟨List.nodup_nil, fun y hy => (List.not_mem_nil hy).elim, fun y hy => (List.not_mem_nil hy).elim, h⟩
theorem DeadOk.nil : DeadOk F w [] := ⟨List.nodup_nil, fun y hy => (List.not_mem_nil hy).elim, fun y hy => (List.not_mem_nil hy).elim⟩
theorem call_gone {N : List Sp × Nat} {pl : Nat} (H : HG P) (G : Good N) (K : Seek N.1 w) (hp : pl < w.length + 1) (hD : DeadOk N.1 w D) :
    (∃ p D' C', Yes N.1 w N.2 pl p ∧ (DeadOk N.1 w D' ∧ Sc N.1 w D (N.2, pl) D' p) ∧ callF gl P (d + 3) 45 [netV N, .str w, .int (pl : Int), .ref A.length] (A ++ .dictP (D.map kv) :: M) = .ok (.ref (A.length + 1 + M.length)) (gS A M D' p C')) ∨
    (∃ D' C', No N.1 w N.2 pl ∧ (DeadOk N.1 w D' ∧ Lost N.1 w D (N.2, pl) D') ∧ callF gl P (d + 3) 45 [netV N, .str w, .int (pl : Int), .ref A.length] (A ++ .dictP (D.map kv) :: M) = .ok .none (gS A M D' [] C')) := by
  have hw := WayOk.nil (F := N.1) (w := w) (x := (N.2, pl)) ⟨G.st, hp⟩
  rcases G.total w pl G.st with ⟨p, y⟩ | y
  · obtain ⟨D', C', Γ', hD', h⟩ := yes_go (gl := gl) (d := d) (nv := netV N) (pl := .int (pl : Int)) (A := A) (M := M) H K y (C := []) (x9 := .undef) (x10 := .undef) hw hD (fun k e => by cases e) (Nat.le_refl _)
    exact .inl ⟨p, D', C', y, hD', gone_in H ⟨Γ', h⟩⟩
  · obtain ⟨D', n', a', x', hD', h⟩ := no_go (gl := gl) (d := d) (nv := netV N) (pl := .int (pl : Int)) (A := A) (M := M) H K y (C := []) (x9 := .undef) (x10 := .undef) hw hD (fun k e => by cases e) (Nat.le_refl _)
    rw [stk_none H.gb] at h
    exact .inr ⟨D', [], y, hD', gone_in H ⟨_, h⟩⟩
end
end Mine

namespace Mine

/-! ### each once -/
noncomputable def once : List Nat → List Nat
  | [] => []
  | x :: l => x :: (once l).filter (fun y => !(y == x))
noncomputable def manyE (g : Nat → List Nat) (e : Bool) : Nat → Nat → List Nat
  | 0, a => [a]
  | k + 1, a => if e then (g a).flatMap (fun b => if a < b then manyE g e k b else []) ++ [a] else a :: (g a).flatMap (fun b => if a < b then manyE g e k b else [])
mutual
noncomputable def Tree.outs (w : List Nat) : Tree → Nat → List Nat
  | .take b s, a => if hit w b s a then [a + 1] else []
  | .row ts, a => Tree.outsR w ts a
  | .pick ts, a => Tree.outsP w ts a
  | .maybe t e, a => if e then t.outs w a ++ [a] else a :: t.outs w a
  | .many t e, a => manyE (t.outs w) e (w.length - a) a
noncomputable def Tree.outsR (w : List Nat) : List Tree → Nat → List Nat
  | [], a => [a]
  | t :: r, a => (t.outs w a).flatMap (Tree.outsR w r)
noncomputable def Tree.outsP (w : List Nat) : List Tree → Nat → List Nat
  | [], _ => []
  | t :: r, a => t.outs w a ++ Tree.outsP w r a
end
/-- where the ways from a step end -/
inductive Out (F : List Sp) (w : List Nat) : Nat → Nat → List Nat → Prop
  | fin {n a : Nat} : F[n]? = some .fin → Out F w n a [a]
  | stuck {n m a : Nat} {b : Bool} {s : List Nat} : F[n]? = some (.take b s m) → hit w b s a = false → Out F w n a []
  | take {n m a : Nat} {b : Bool} {s : List Nat} {l : List Nat} : F[n]? = some (.take b s m) → hit w b s a = true → Out F w m (a + 1) l → Out F w n a l
  | part {n x y a : Nat} {l l' : List Nat} : F[n]? = some (.part x y) → Out F w x a l → Out F w y a l' → Out F w n a (l ++ l')
theorem Out.yes {F : List Sp} {w : List Nat} {n a : Nat} {l : List Nat} (h : Out F w n a l) : (l = [] → No F w n a) ∧ ∀ {z : Nat} {l' : List Nat}, l = z :: l' → ∃ p q, Yes F w n a p ∧ p.getLast? = some (q, z) := by
  induction h with
  | fin e => exact ⟨fun h => (by cases h), fun h => by cases h; exact ⟨_, _, .fin e, rfl⟩⟩
  | stuck e hh => exact ⟨fun _ => .stuck e hh, fun h => by cases h⟩
  | take e hh _ ih => exact ⟨fun h => .take e hh (ih.1 h), fun h => by
      obtain ⟨p, q, y, hl⟩ := ih.2 h
      exact ⟨_, q, .take e hh y, by rw [List.getLast?_cons, hl]; rfl⟩⟩
  | part e _ _ ih1 ih2 =>
    rename_i l l' _ _
    refine ⟨fun h => .part e (ih1.1 (List.append_eq_nil_iff.mp h).1) (ih2.1 (List.append_eq_nil_iff.mp h).2), fun h => ?_⟩
    cases l with
    | nil =>
      obtain ⟨p, q, y, hl⟩ := ih2.2 h
      exact ⟨_, q, .right e (ih1.1 rfl) y, by rw [List.getLast?_cons, hl]; rfl⟩
    | cons z' l =>
      cases h
      obtain ⟨p, q, y, hl⟩ := ih1.2 rfl
      exact ⟨_, q, .left e y, by rw [List.getLast?_cons, hl]; rfl⟩

theorem Out.partE {F : List Sp} {w : List Nat} {n x y a : Nat} {l l' : List Nat} {e : Bool} (h : F[n]? = some (Mine.partE e x y)) (h1 : Out F w x a l) (h2 : Out F w y a l') : Out F w n a (if e then l ++ l' else l' ++ l) := by
  cases e with
  | true => exact .part h h1 h2
  | false => exact .part h h2 h1
end Mine

namespace Mine

/-- hands back a value; the store just grows -/
noncomputable def Gv (r : Sg → Res V) (v : V) : Prop := ∀ σ, ∃ G, r σ = .ok v (σ ++ G)

section
variable {gl : List V} {cf : CF} {σ σ' : Sg} {Γ Γ' : Fm} {P : List Def} {d : Nat}

structure HE (P : List Def) : Prop where
  on : P[59]? = some d_l_once
  be : P[60]? = some d_l_behind
  tk : P[61]? = some d_l_taken
  rp : P[62]? = some d_l_repeated
  en : P[63]? = some d_l_ends

end
end Mine

namespace Mine

noncomputable def outsO (w : List Nat) (t : Tree) (a : Nat) : List Nat := once (t.outs w a)
noncomputable def tb (w : List Nat) (t : Tree) : List (List Nat) := (List.range (w.length + 1)).map (outsO w t)
section
variable {gl : List V} {cf : CF} {σ σ' : Sg} {Γ Γ' : Fm} {P : List Def} {d : Nat} {w : List Nat}

end
end Mine

namespace Mine

section
variable {gl : List V} {cf : CF} {σ σ' : Sg} {Γ Γ' : Fm} {P : List Def} {d : Nat} {w : List Nat}

end
end Mine

namespace Mine

theorem plains_map {α : Type} {n : Nat} {f : α → V} : ∀ {l : List α}, (∀ x ∈ l, plain n (f x) = true) → plains n (l.map f) = true
  | [], _ => rfl
  | x :: l, h => Bool.and_eq_true_iff.mpr ⟨h x List.mem_cons_self, plains_map fun y hy => h y (List.mem_cons_of_mem _ hy)⟩
/-- texts of takes that may be compared -/
noncomputable def Sp.fine : Sp → Prop
  | .take _ s _ => strFine s = true
  | _ => True
section
variable {gl : List V} {cf : CF} {σ σ' : Sg} {Γ Γ' : Fm} {P : List Def} {d : Nat}

/-! ### the text of a law -/
theorem text_loop (hs : ∀ c σ, cf 1 [.int c] σ = .ok (.str [sign c]) σ) {l : List Nat} (hl : Three l) {v0 : V} : ∀ (cs : List Int) (s : List Nat) (y3 y4 : V), s.length + cs.length ≤ 1000 → (∀ c ∈ s, c ∈ signs) →
    ∃ s' y3' y4', forGo (exB gl cf [.asg 4 (.idx (.var 1) (.bin .mod (.var 3) (.cInt 3))), .ite (.cmp .eq (.bin .mod (.var 3) (.cInt 11)) (.cInt 10)) [.asg 4 (.call 1 [(.bin .fdiv (.var 3) (.cInt 11))])] [], .asg 2 (.bin .add (.var 2) (.var 4))]) 3 (cs.map V.int) [v0, .str l, .str s, y3, y4] σ
      = .ok (.next, [v0, .str l, .str s', y3', y4']) σ ∧ s'.length = s.length + cs.length ∧ ∀ c ∈ s', c ∈ signs
  | [], s, y3, y4, _, h => ⟨s, y3, y4, rfl, rfl, h⟩
  | c :: cs, s, y3, y4, hn, h => by
    rw [List.length_cons] at hn
    obtain ⟨z, hz, hzs⟩ := three_idx (σ := σ) hl c
    have e4 : evE gl cf (.idx (.var 1) (.bin .mod (.var 3) (.cInt 3))) [v0, .str l, .str s, .int c, y4] σ = .ok (.str [z]) σ := by
      show Res.of (vIdx σ (.str l) (.int (c.fmod 3))) σ = _
      rw [hz]; rfl
    have hx : ∃ x, x ∈ signs ∧ exB gl cf [.ite (.cmp .eq (.bin .mod (.var 3) (.cInt 11)) (.cInt 10)) [.asg 4 (.call 1 [(.bin .fdiv (.var 3) (.cInt 11))])] [], .asg 2 (.bin .add (.var 2) (.var 4))] [v0, .str l, .str s, .int c, .str [z]] σ = exB gl cf [.asg 2 (.bin .add (.var 2) (.var 4))] [v0, .str l, .str s, .int c, .str [x]] σ := by
      have hc : evE gl cf (.cmp .eq (.bin .mod (.var 3) (.cInt 11)) (.cInt 10)) [v0, .str l, .str s, .int c, .str [z]] σ = .ok (.bool (c.fmod 11 == 10)) σ := rfl
      cases hb : c.fmod 11 == 10 with
      | true =>
        rw [hb] at hc
        refine ⟨sign (c.fdiv 11), sign_mem _, exB_into hc rfl ((exB_asg (v := .str [sign (c.fdiv 11)]) (σ' := σ) ?_).trans exB_nil0)⟩
        exact hs (c.fdiv 11) σ
      | false =>
        rw [hb] at hc
        exact ⟨z, hzs, exB_skip hc rfl⟩
    obtain ⟨x, hxs, hx⟩ := hx
    obtain ⟨s', y3', y4', h1, h2, h3⟩ := text_loop hs hl (v0 := v0) cs (s ++ [x]) (.int c) (.str [x]) (by rw [List.length_append]; simp only [List.length_cons, List.length_nil]; (first | lia | omega)) (fun q hq => by
      rcases List.mem_append.mp hq with r | r
      · exact h q r
      · rw [List.mem_singleton.mp r]; exact hxs)
    refine ⟨s', y3', y4', ?_, by rw [h2, List.length_append, List.length_cons]; simp only [List.length_cons, List.length_nil]; (first | lia | omega), h3⟩
    rw [List.map_cons, ← h1]
    refine forGo_next ((exB_asg e4).trans (hx.trans ((exB_asg (v := .str (s ++ [x])) (σ' := σ) ?_).trans exB_nil0)))
    show Res.of (vBin σ .add (.str s) (.str [x])) σ = _
    rw [vBin_addS (by unfold roomy; simp only [List.length_cons, List.length_nil]; (first | lia | omega))]; rfl
theorem call_text (H : HS P) (h58 : P[58]? = some d_l_text_by) {l : List Nat} (hl : Three l) {cs : List Int} (hn : cs.length ≤ 1000) :
    ∃ s, callF gl P (d + 2) 58 [.lst (cs.map V.int), .str l] σ = .ok (.str s) σ ∧ s.length = cs.length ∧ ∀ c ∈ s, c ∈ signs := by
  obtain ⟨s, y3, y4, h1, h2, h3⟩ := text_loop (gl := gl) (cf := callF gl P (d + 1)) (σ := σ) (fun c σ => call_sign H c) hl (v0 := .lst (cs.map V.int)) cs [] .undef .undef (by simpa using hn) (fun c hc => (List.not_mem_nil hc).elim)
  exact ⟨s, callF_ret (D := d_l_text_by) h58 rfl ((exB_asg (v := .str []) (σ' := σ) rfl).trans ((exB_next ((exS_for (x := .lst (cs.map V.int)) (y := .none) rfl rfl rfl).trans h1)).trans (exB_rets rfl))), by simpa using h2, h3⟩

/-! ### a net turned -/
theorem turn_loop {v0 : V} {k : Nat} {A : Sg} : ∀ (X R : List Sp) (y : V), (∀ x ∈ X, x.below (k + 1)) → R.length + X.length < roomy → ∃ y', forGo (exB gl cf [.ite (.cmp .eq (.idx (.var 3) (.cInt 0)) (.cStr [116, 97, 107, 101]))
        [.expr (.app (.var 2) (.tup [(.cStr [116, 97, 107, 101]), (.idx (.var 3) (.cInt 1)), (.idx (.var 3) (.cInt 2)), (.bin .sub (.var 1) (.idx (.var 3) (.cInt 3)))]))]
        [.ite (.cmp .eq (.idx (.var 3) (.cInt 0)) (.cStr [112, 97, 114, 116]))
           [.expr (.app (.var 2) (.tup [(.cStr [112, 97, 114, 116]), (.bin .sub (.var 1) (.idx (.var 3) (.cInt 1))), (.bin .sub (.var 1) (.idx (.var 3) (.cInt 2)))]))]
           [.expr (.app (.var 2) (.var 3))]]]) 3 (X.map Sp.v) [v0, .int (k : Int), .ref A.length, y] (A ++ [cel R]) = .ok (.next, [v0, .int (k : Int), .ref A.length, y']) (A ++ [cel (R ++ X.map (Sp.turn k))])
  | [], R, y, _, _ => ⟨y, by rw [List.map_nil, List.map_nil, List.append_nil]; rfl⟩
  | x :: X, R, y, h, hn => by
    rw [List.length_cons] at hn
    obtain ⟨y', ih⟩ := turn_loop (v0 := v0) (k := k) (A := A) X (R ++ [x.turn k]) x.v (fun z hz => h z (List.mem_cons_of_mem _ hz)) (by rw [List.length_append]; simp only [List.length_cons, List.length_nil]; (first | lia | omega))
    refine ⟨y', ?_⟩
    have key : ∀ e : Ex, evE gl cf e [v0, .int (k : Int), .ref A.length, x.v] (A ++ [cel R]) = .ok (x.turn k).v (A ++ [cel R]) → evE gl cf (.app (.var 2) e) [v0, .int (k : Int), .ref A.length, x.v] (A ++ [cel R]) = .ok .none (A ++ [cel (R ++ [x.turn k])]) := fun e he => by
      have := evE_appR (gl := gl) (cf := cf) (o := .var 2) (x := e) (Γ := [v0, .int (k : Int), .ref A.length, x.v]) (σ := A ++ [cel R]) (σ₁ := A ++ [cel R]) (i := A.length) (v := (x.turn k).v) rfl at_get he at_get (by rw [List.length_map]; (first | lia | omega))
      rw [at_set] at this
      rw [this, cel, List.map_append]; rfl
    rw [List.map_cons, List.map_cons, show R ++ Sp.turn k x :: X.map (Sp.turn k) = R ++ [x.turn k] ++ X.map (Sp.turn k) by rw [List.append_assoc]; rfl, ← ih]
    refine forGo_next ?_
    have hb := h x List.mem_cons_self
    cases x with
    | fin => exact (exB_ite_else (v := .bool false) rfl rfl ((exB_ite_else (v := .bool false) rfl rfl ((exB_expr (key _ rfl)).trans exB_nil0)).trans exB_nil0)).trans exB_nil0
    | take b s n => exact (exB_into (v := .bool true) rfl rfl ((exB_expr (key _ (by
        show Res.ok (V.tup [.str [116, 97, 107, 101], .bool b, .str s, .int ((k : Int) - (n : Int))]) _ = _
        rw [← Int.ofNat_sub (Nat.le_of_lt_succ hb)]; rfl))).trans exB_nil0)).trans exB_nil0
    | part p q => exact (exB_ite_else (v := .bool false) rfl rfl ((exB_into (v := .bool true) rfl rfl ((exB_expr (key _ (by
        show Res.ok (V.tup [.str [112, 97, 114, 116], .int ((k : Int) - (p : Int)), .int ((k : Int) - (q : Int))]) _ = _
        rw [← Int.ofNat_sub (Nat.le_of_lt_succ hb.1), ← Int.ofNat_sub (Nat.le_of_lt_succ hb.2)]; rfl))).trans exB_nil0)).trans exB_nil0)).trans exB_nil0
theorem call_turned (h69 : P[69]? = some d_l_turned) {N : List Sp × Nat} (G : Good N) (hn : N.1.length < roomy) : callF gl P (d + 1) 69 [netV N] σ = .ok (netV (turnN N)) (σ ++ [.dead]) := by
  have hp : 0 < N.1.length := Nat.lt_of_le_of_lt (Nat.zero_le _) G.st
  obtain ⟨y, h⟩ := turn_loop (gl := gl) (cf := callF gl P d) (v0 := netV N) (k := N.1.length - 1) (A := σ) N.1.reverse [] .undef (fun x hx => by rw [Nat.sub_add_cancel hp]; exact G.wf x (List.mem_reverse.mp hx)) (by rw [List.length_reverse]; simpa using hn)
  rw [List.nil_append, List.map_reverse] at h
  refine callF_ret (D := d_l_turned) h69 rfl ((exB_asg (v := .int ((N.1.length - 1 : Nat) : Int)) (σ' := σ) ?_).trans ((exB_asg (v := .ref σ.length) (σ' := σ ++ [cel []]) rfl).trans ((exB_next ((exS_for (x := .lst (N.1.map Sp.v)) (y := .none) rfl rfl rfl).trans h)).trans (exB_rets ?_))))
  · show Res.ok (V.int (((N.1.map Sp.v).length : Int) - 1)) σ = _
    rw [List.length_map, Int.ofNat_sub hp]; rfl
  · show (Res.ok (V.tup [.int (((N.1.length - 1 : Nat) : Int) - (N.2 : Int)), .ref σ.length]) (σ ++ [cel (N.1.reverse.map (Sp.turn (N.1.length - 1)))])).bind _ = _
    rw [bind_ok, ← Int.ofNat_sub (Nat.le_sub_one_of_lt G.st), frz_ir (xs := (N.1.reverse.map (Sp.turn (N.1.length - 1))).map Sp.v) (σ := σ ++ [cel (N.1.reverse.map (Sp.turn (N.1.length - 1)))]) at_get, at_set]; rfl

/-! ### the length of a match -/
end
end Mine

namespace Mine

/-- whether a way leads on from a step at a place -/
noncomputable def can (F : List Sp) (w : List Nat) (a n : Nat) : Bool := @decide (∃ p, Yes F w n a p) (Classical.propDecidable _)
theorem can_T {F : List Sp} {w : List Nat} {a n : Nat} : can F w a n = true ↔ ∃ p, Yes F w n a p := @decide_eq_true_iff _ (Classical.propDecidable _)
noncomputable def lf (n : Nat) (f : Nat → Bool) : List V := (List.range n).map fun k => V.bool (f k)
theorem lf_eq {n : Nat} {f g : Nat → Bool} (h : ∀ k, k < n → f k = g k) : lf n f = lf n g := List.map_congr_left fun k hk => by rw [h k (List.mem_range.mp hk)]
theorem lf_plain {n k : Nat} {f : Nat → Bool} : plain (k + 1) (.lst (lf n f)) = true := plains_map fun _ _ => rfl
theorem veqs_lf {f g : Nat → Bool} : ∀ (l : List Nat), veqs (l.map fun k => V.bool (f k)) (l.map fun k => V.bool (g k)) = l.all fun k => f k == g k
  | [] => rfl
  | x :: l => by rw [List.all_cons, ← veqs_lf l]; rfl

/-- one round -/
noncomputable def sp1 (F : List Sp) (f : Nat → Bool) (S : Sp) : Bool := match S with | .part x y => f x || f y | _ => false
noncomputable def spr (F : List Sp) (f : Nat → Bool) (k : Nat) : Bool := f k || (match F[k]? with | some S => sp1 F f S | none => false)
noncomputable def base (F : List Sp) (w : List Nat) (a k : Nat) : Bool := match F[k]? with | some .fin => true | some (.take b s m) => hit w b s a && can F w (a + 1) m | _ => false

/-! counts -/
noncomputable def cn (f : Nat → Bool) : Nat → Nat
  | 0 => 0
  | k + 1 => cn f k + if f k then 1 else 0
theorem cn_max {f : Nat → Bool} : ∀ (n : Nat), cn f n ≤ n
  | 0 => Nat.le_refl _
  | n + 1 => by
    have := cn_max (f := f) n
    rw [cn]; split <;> (first | lia | omega)
theorem cn_all {f : Nat → Bool} : ∀ (n : Nat), n ≤ cn f n → ∀ k, k < n → f k = true
  | 0, _, k, hk => absurd hk (Nat.not_lt_zero _)
  | n + 1, h, k, hk => by
    rw [cn] at h
    have := cn_max (f := f) n
    cases hf : f n with
    | false => rw [hf, if_neg Bool.false_ne_true] at h; (first | lia | omega)
    | true =>
      rw [hf, if_pos rfl] at h
      rcases Nat.lt_or_eq_of_le (Nat.le_of_lt_succ hk) with q | q
      · exact cn_all n (by (first | lia | omega)) k q
      · rw [q]; exact hf

structure Told (F : List Sp) (w : List Nat) (a : Nat) (f : Nat → Bool) : Prop where
  snd : ∀ k, k < F.length → f k = true → can F w a k = true
  bas : ∀ k, k < F.length → base F w a k = true → f k = true
section
variable {F : List Sp} {w : List Nat} {a : Nat} {f : Nat → Bool}
theorem spr_up (k : Nat) (h : f k = true) : spr F f k = true := by rw [spr, h]; rfl
theorem Told.spr {N : List Sp × Nat} (G : Good N) (T : Told N.1 w a f) : Told N.1 w a (spr N.1 f) := by
  refine ⟨fun k hk h => ?_, fun k hk h => spr_up k (T.bas k hk h)⟩
  rw [Mine.spr, Bool.or_eq_true] at h
  rcases h with h | h
  · exact T.snd k hk h
  · cases e : N.1[k]? with
    | none => rw [e] at h; cases h
    | some S =>
      rw [e] at h
      cases S with
      | fin => cases h
      | take b s m => cases h
      | part x y =>
        have hb := below_at G.wf e
        have h : (f x || f y) = true := h
        rcases G.total w a hb.1 with ⟨p, yx⟩ | nx
        · exact can_T.mpr ⟨_, .left e yx⟩
        · rw [Bool.or_eq_true] at h
          rcases h with h | h
          · obtain ⟨p, yx⟩ := can_T.mp (T.snd x hb.1 h)
            exact (nx.not yx).elim
          · obtain ⟨p, yy⟩ := can_T.mp (T.snd y hb.2 h)
            exact can_T.mpr ⟨_, .right e nx yy⟩
theorem fix_all (wf : Wf F) {k : Nat} {p : List (Nat × Nat)} (h : Yes F w k a p) : (∀ k, k < F.length → base F w a k = true → f k = true) → (∀ k, k < F.length → Mine.spr F f k = f k) → f k = true := by
  induction h with
  | fin e => exact fun hb _ => hb _ (List.getElem?_eq_some_iff.mp e).1 (by rw [base, e])
  | take e hh y _ => exact fun hb _ => hb _ (List.getElem?_eq_some_iff.mp e).1 (by rw [base, e]; exact Bool.and_eq_true_iff.mpr ⟨hh, can_T.mpr ⟨_, y⟩⟩)
  | left e y ih =>
    intro hb hf
    rw [← hf _ (List.getElem?_eq_some_iff.mp e).1, Mine.spr, e]
    show (f _ || (f _ || f _)) = true
    rw [ih hb hf, Bool.true_or, Bool.or_true]
  | right e _ y ih =>
    intro hb hf
    rw [← hf _ (List.getElem?_eq_some_iff.mp e).1, Mine.spr, e]
    show (f _ || (f _ || f _)) = true
    rw [ih hb hf, Bool.or_true, Bool.or_true]
theorem Told.fix (T : Told F w a f) (wf : Wf F) (h : ∀ k, k < F.length → Mine.spr F f k = f k) : lf F.length f = lf F.length (can F w a) := by
  refine lf_eq fun k hk => ?_
  cases hc : can F w a k with
  | true =>
    obtain ⟨p, y⟩ := can_T.mp hc
    exact fix_all wf y T.bas h
  | false =>
    cases hf : f k with
    | false => rfl
    | true => rw [T.snd k hk hf] at hc; cases hc
theorem Told.full (T : Told F w a f) (h : F.length ≤ cn f F.length) : lf F.length f = lf F.length (can F w a) :=
  lf_eq fun k hk => (cn_all _ h k hk).trans (T.snd k hk (cn_all _ h k hk)).symm
end

section
variable {gl : List V} {cf : CF} {σ σ' : Sg} {Γ Γ' : Fm} {P : List Def} {d : Nat} {F : List Sp} {w : List Nat} {a : Nat} {f : Nat → Bool}

end
end Mine

namespace Mine

section
variable {gl : List V} {cf : CF} {σ σ' : Sg} {Γ Γ' : Fm} {P : List Def} {d : Nat} {F : List Sp} {w : List Nat} {a : Nat} {f : Nat → Bool}

/-- what a list of words is, live or not -/
noncomputable def ToldV (σ : Sg) (t : V) (c : Cell) (n : Nat) (f : Nat → Bool) : Prop := t = .lst (lf n f) ∨ (t = .ref σ.length ∧ c = .lst (lf n f))
section
variable {t : V} {c : Cell} {n : Nat}
theorem snoc_at : (σ ++ [c])[σ.length]? = some c := by simp
theorem ToldV.seq (T : ToldV σ t c n f) : getSeq (σ ++ [c]) t = some (lf n f) := by
  rcases T with rfl | ⟨rfl, rfl⟩
  · rfl
  · exact seq_ref snoc_at
theorem ToldV.deref (T : ToldV σ t c n f) : deref (σ ++ [c]) t = .lst (lf n f) := by
  rcases T with rfl | ⟨rfl, rfl⟩
  · rfl
  · show (match (σ ++ [Cell.lst (lf n f)])[σ.length]? with | some (.lst xs) => V.lst xs | _ => .undef) = _
    rw [snoc_at]
theorem ToldV.frz (T : ToldV σ t c n f) : ∃ c', freeze (σ ++ [c]) t = some (.lst (lf n f), σ ++ [c']) := by
  rcases T with rfl | ⟨rfl, rfl⟩
  · exact ⟨c, rfl⟩
  · refine ⟨.dead, ?_⟩
    show (match (σ ++ [Cell.lst (lf n f)])[σ.length]? with | some (.lst xs) => some (V.lst xs, (σ ++ [Cell.lst (lf n f)]).set σ.length .dead) | _ => none) = _
    rw [snoc_at]; simp
theorem ToldV.get (T : ToldV σ t c n f) {Γ : Fm} {i : Nat} (h : Γ[i]? = some t) : getV Γ i = some t := by
  rw [getV, h]
  rcases T with rfl | ⟨rfl, rfl⟩ <;> rfl
theorem ToldV.eq (T : ToldV σ t c n f) {g : Nat → Bool} : vCmp (σ ++ [c]) .eq (.lst (lf n g)) t = some ((List.range n).all fun k => g k == f k) := by
  have h : vEqG (σ ++ [c]) (.lst (lf n g)) t = some ((List.range n).all fun k => g k == f k) := by
    rw [vEqG, T.deref]
    show (if plain 7 (.lst (lf n g)) && plain 7 (.lst (lf n f)) then some (veqs (lf n g) (lf n f)) else none) = _
    rw [lf_plain, lf_plain, lf, lf, veqs_lf]; rfl
  exact h
end

end
end Mine

namespace Mine

/-! ### long texts of two signs -/
structure Run (w : List Nat) (s : Nat) (a e : Nat) : Prop where
  le : a ≤ e
  en : e ≤ w.length
  same : ∀ k, a ≤ k → k < e → w[k]? = some s
  stop : w[e]? ≠ some s
theorem hit_one {w : List Nat} {s a : Nat} : hit w true [s] a = (w[a]? == some s) := by
  rw [hit]
  cases w[a]? with
  | none => rfl
  | some c =>
    show ([s].contains c == true) = _
    rw [beq_true, List.contains_cons, List.contains_nil, Bool.or_false]; rfl
theorem Run.yes {w : List Nat} {s a e : Nat} (R : Run w s a e) (h : a < e) : hit w true [s] a = true ∧ Run w s (a + 1) e :=
  ⟨by rw [hit_one, R.same a (Nat.le_refl _) h]; exact beq_self_eq_true _, ⟨h, R.en, fun k h1 h2 => R.same k (Nat.le_of_succ_le h1) h2, R.stop⟩⟩
theorem Run.no {w : List Nat} {s a : Nat} (R : Run w s a a) : hit w true [s] a = false := by
  rw [hit_one, beq_eq_false_iff_ne]; exact R.stop
section
variable {gl : List V} {cf : CF} {σ σ' : Sg} {Γ Γ' : Fm} {P : List Def} {d : Nat}

end
end Mine

namespace Mine

structure H8 (P : List Def) : Prop where
  n : HN P
  g : HG P
  e : HE P
  w : P[9]? = some d_l_whole
  ta : P[68]? = some d_tried_at
section
variable {gl : List V} {cf : CF} {σ σ' : Sg} {Γ Γ' : Fm} {P : List Def} {d : Nat}

theorem call_whole (H : P[9]? = some d_l_whole) {n : Int} : callF gl P (d + 1) 9 [.int n] σ = .ok (.bool true) σ :=
  callF_ret (D := d_l_whole) (Γ' := [.int n]) H rfl (exB_rets rfl)
end
end Mine

namespace Mine

theorem cut_map {lo hi : Option Int} {xs : List Int} : cut (xs.map V.int) lo hi = (cut xs lo hi).map V.int := by
  rw [cut, cut, List.length_map, List.map_drop, List.map_take]
theorem vCut_ints {σ : Sg} {lo hi : Option Int} {xs : List Int} (h1 : smallO lo = true) (h2 : smallO hi = true) : vCut σ (.lst (xs.map V.int)) lo hi = some (.lst ((cut xs lo hi).map V.int)) := by
  rw [vCut_l h1 h2, cut_map]
theorem cut_le_to {α : Type} {xs : List α} (k : Nat) : (cut xs none (some (k : Int))).length ≤ k := by
  rw [cut_to k rfl]; exact List.length_take_le _ _
section
variable {gl : List V} {cf : CF} {σ σ' : Sg} {Γ Γ' : Fm} {w : List Nat} {T : Tree}

end

end Mine

namespace Mine

/-! ### rows, plainly -/
abbrev Row := List (Nat × Nat)
/-- a step is led into a row with all that it leads to -/
noncomputable def vis (F : List Sp) (b : Nat) : Nat → Row → Nat → Row × Bool
  | 0, R, _ => (R, false)
  | k + 1, R, n => if n ∈ R.map (·.1) then (R, false) else match F[n]? with
    | some .fin => (R ++ [(n, b)], true)
    | some (.part x y) => if (vis F b k (R ++ [(n, b)]) x).2 then vis F b k (R ++ [(n, b)]) x else vis F b k (vis F b k (R ++ [(n, b)]) x).1 y
    | _ => (R ++ [(n, b)], false)
structure RowOk (F : List Sp) (R : Row) : Prop where
  nd : (R.map (·.1)).Nodup
  lt : ∀ x ∈ R, x.1 < F.length
noncomputable def ended (F : List Sp) (R : Row) : Bool := match R.getLast? with | some x => (match F[x.1]? with | some .fin => true | _ => false) | none => false

section
variable {F : List Sp} {b n k : Nat} {R : Row}
theorem RowOk.nil : RowOk F [] := ⟨List.nodup_nil, fun x hx => (List.not_mem_nil hx).elim⟩
theorem RowOk.snoc (h : RowOk F R) (hn : n < F.length) (hm : n ∉ R.map (·.1)) : RowOk F (R ++ [(n, b)]) := by
  refine ⟨?_, fun x hx => ?_⟩
  · rw [List.map_append]
    exact List.nodup_append.mpr ⟨h.nd, List.nodup_cons.mpr ⟨List.not_mem_nil, List.nodup_nil⟩, fun x hx y hy e => hm (by have e' : x = n := e.trans (List.mem_singleton.mp hy); exact e' ▸ hx)⟩
  · rcases List.mem_append.mp hx with q | q
    · exact h.lt x q
    · rw [List.mem_singleton.mp q]; exact hn
theorem RowOk.full (h : RowOk F R) (hk : F.length ≤ R.length) (hn : n < F.length) : n ∈ R.map (·.1) := by
  rcases Classical.em (n ∈ R.map (·.1)) with q | q
  · exact q
  · have := nodup_bound F.length (n :: R.map (·.1)) (List.nodup_cons.mpr ⟨q, h.nd⟩) fun x hx => by
      rcases List.mem_cons.mp hx with e | e
      · rw [e]; exact hn
      · obtain ⟨y, hy, rfl⟩ := List.mem_map.mp e; exact h.lt y hy
    rw [List.length_cons, List.length_map] at this
    exact absurd (Nat.lt_of_lt_of_le this hk) (Nat.lt_irrefl _)
theorem RowOk.len (h : RowOk F R) : R.length ≤ F.length := by
  rw [← List.length_map (f := fun x : Nat × Nat => x.1)]
  exact nodup_bound _ _ h.nd fun x hx => by obtain ⟨y, hy, rfl⟩ := List.mem_map.mp hx; exact h.lt y hy
theorem ended_snoc {x : Nat × Nat} : ended F (R ++ [x]) = match F[x.1]? with | some .fin => true | _ => false := by rw [ended, List.getLast?_append]; rfl

/-- what is known of a row made -/
structure VisOk (F : List Sp) (b : Nat) (R : Row) (p : Row × Bool) : Prop where
  ok : RowOk F p.1
  pre : ∃ X, p.1 = R ++ X ∧ ∀ x ∈ X, x.2 = b
  yes : p.2 = true → ended F p.1 = true ∧ ∃ m, p.1.getLast? = some (m, b)
  no : p.2 = false → ended F R = false → ended F p.1 = false
theorem vis_ok (wf : Wf F) : ∀ (k : Nat) {R : Row} {n : Nat}, RowOk F R → n < F.length → VisOk F b R (vis F b k R n)
  | 0, R, n, h, _ => ⟨h, ⟨[], (List.append_nil R).symm, fun x hx => (List.not_mem_nil hx).elim⟩, fun e => (by cases e), fun _ e => e⟩
  | k + 1, R, n, h, hn => by
    rw [vis]
    by_cases hm : n ∈ R.map (·.1)
    · rw [if_pos hm]; exact ⟨h, ⟨[], (List.append_nil R).symm, fun x hx => (List.not_mem_nil hx).elim⟩, fun e => (by cases e), fun _ e => e⟩
    · rw [if_neg hm]
      have h1 : RowOk F (R ++ [(n, b)]) := h.snoc hn hm
      have p1 : ∃ X, R ++ [(n, b)] = R ++ X ∧ ∀ x ∈ X, x.2 = b := ⟨[(n, b)], rfl, fun x hx => by rw [List.mem_singleton.mp hx]⟩
      cases hF : F[n]? with
      | none => exact absurd (List.getElem?_eq_none_iff.mp hF) (Nat.not_le_of_lt hn)
      | some S =>
        cases S with
        | fin => exact ⟨h1, p1, fun _ => ⟨by rw [ended_snoc, hF], n, by rw [List.getLast?_append]; rfl⟩, fun e => by cases e⟩
        | take tb s m => exact ⟨h1, p1, fun e => (by cases e), fun _ _ => by rw [ended_snoc, hF]⟩
        | part x y =>
          have hb := below_at wf hF
          have e0 : ended F (R ++ [(n, b)]) = false := by rw [ended_snoc, hF]
          have V1 := vis_ok wf k h1 hb.1
          obtain ⟨X, hX, hXb⟩ := V1.pre
          have pX : ∃ X', (vis F b k (R ++ [(n, b)]) x).1 = R ++ X' ∧ ∀ z ∈ X', z.2 = b := ⟨(n, b) :: X, by rw [hX, List.append_assoc]; rfl, fun z hz => by
            rcases List.mem_cons.mp hz with q | q
            · rw [q]
            · exact hXb z q⟩
          dsimp only
          cases hv : (vis F b k (R ++ [(n, b)]) x).2 with
          | true => rw [if_pos rfl]; exact ⟨V1.ok, pX, V1.yes, fun e => by rw [hv] at e; cases e⟩
          | false =>
            rw [if_neg Bool.false_ne_true]
            have V2 := vis_ok wf k V1.ok hb.2
            obtain ⟨Y, hY, hYb⟩ := V2.pre
            obtain ⟨X', hX', hXb'⟩ := pX
            exact ⟨V2.ok, ⟨X' ++ Y, by rw [hY, hX', List.append_assoc], fun z hz => (List.mem_append.mp hz).elim (hXb' z) (hYb z)⟩, V2.yes, fun e _ => V2.no e (V1.no hv e0)⟩
end

/-- the row behind a row -/
noncomputable def nrows (F : List Sp) (k c : Nat) : Row → Row → Row × Option Nat
  | [], R => (R, none)
  | x :: r, R => match F[x.1]? with
    | some (.take tb s m) => if s.contains c == tb then (if (vis F x.2 k R m).2 then ((vis F x.2 k R m).1, some x.2) else nrows F k c r (vis F x.2 k R m).1) else nrows F k c r R
    | _ => nrows F k c r R
noncomputable def nfresh (F : List Sp) (n0 k pl : Nat) (fresh : Bool) (p : Row × Option Nat) : Row × Option Nat := match p.2 with
  | some b => (p.1, some b)
  | none => if fresh then ((vis F pl k p.1 n0).1, if (vis F pl k p.1 n0).2 then some pl else none) else (p.1, none)
noncomputable def nrow (F : List Sp) (n0 k c : Nat) (ahead : Row) (fresh : Bool) (pl : Nat) : Row × Option Nat := nfresh F n0 k pl fresh (nrows F k c ahead [])
noncomputable def noteN (pl : Nat) (o : Option Nat) (noted : Option (Nat × Nat)) : Option (Nat × Nat) := match o with | some b => some (b, pl) | none => noted
/-- all rows, and the match noted last: its begin and its end -/
noncomputable def swp (F : List Sp) (n0 k : Nat) (w : List Nat) : List Nat → Row → Option (Nat × Nat) → List Row × Option (Nat × Nat)
  | [], _, noted => ([], noted)
  | p :: ps, ahead, noted =>
    ((nrow F n0 k (w.getD (p - 1) 0) ahead noted.isNone p).1 :: (swp F n0 k w ps (nrow F n0 k (w.getD (p - 1) 0) ahead noted.isNone p).1 (noteN p (nrow F n0 k (w.getD (p - 1) 0) ahead noted.isNone p).2 noted)).1,
     (swp F n0 k w ps (nrow F n0 k (w.getD (p - 1) 0) ahead noted.isNone p).1 (noteN p (nrow F n0 k (w.getD (p - 1) 0) ahead noted.isNone p).2 noted)).2)

section
variable {F : List Sp} {n0 k c pl : Nat}
/-- what is known of a row behind a row -/
structure NxOk (F : List Sp) (p : Row × Option Nat) : Prop where
  ok : RowOk F p.1
  yes : ∀ b, p.2 = some b → ended F p.1 = true ∧ ∃ m, p.1.getLast? = some (m, b)
  no : p.2 = none → ended F p.1 = false
theorem nrows_ok (wf : Wf F) : ∀ (A R : Row), (∀ x ∈ A, x.1 < F.length) → RowOk F R → ended F R = false → NxOk F (nrows F k c A R)
  | [], R, _, h, he => ⟨h, fun _ e => (by cases e), fun _ => he⟩
  | x :: r, R, hA, h, he => by
    have hA' := fun y hy => hA y (List.mem_cons_of_mem _ hy)
    rw [nrows]
    cases hF : F[x.1]? with
    | none => exact nrows_ok wf r R hA' h he
    | some S => cases S with
      | fin => exact nrows_ok wf r R hA' h he
      | part _ _ => exact nrows_ok wf r R hA' h he
      | take tb s m =>
        dsimp only
        by_cases hc : (s.contains c == tb) = true
        · rw [if_pos hc]
          have V := vis_ok (b := x.2) wf k h (below_at wf hF)
          cases hv : (vis F x.2 k R m).2 with
          | true => rw [if_pos rfl]; exact ⟨V.ok, fun b e => Option.some.inj e ▸ V.yes hv, fun e => by cases e⟩
          | false => rw [if_neg Bool.false_ne_true]; exact nrows_ok wf r _ hA' V.ok (V.no hv he)
        · rw [if_neg hc]; exact nrows_ok wf r R hA' h he
theorem nfresh_ok (wf : Wf F) (hn : n0 < F.length) {fresh : Bool} {p : Row × Option Nat} (h : NxOk F p) : NxOk F (nfresh F n0 k pl fresh p) := by
  rw [nfresh]
  cases hp : p.2 with
  | some b => exact ⟨h.ok, fun b' e => Option.some.inj e ▸ h.yes b hp, fun e => by cases e⟩
  | none =>
    cases fresh with
    | false => exact ⟨h.ok, fun _ e => (by cases e), fun _ => h.no hp⟩
    | true =>
      have V := vis_ok (b := pl) wf k h.ok hn
      refine ⟨V.ok, fun b e => ?_, fun e => ?_⟩
      · cases hv : (vis F pl k p.1 n0).2 with
        | true => rw [if_pos rfl, hv, if_pos rfl] at e; exact Option.some.inj e ▸ V.yes hv
        | false => rw [if_pos rfl, hv, if_neg Bool.false_ne_true] at e; cases e
      · cases hv : (vis F pl k p.1 n0).2 with
        | true => rw [if_pos rfl, hv, if_pos rfl] at e; cases e
        | false => exact V.no hv (h.no hp)
theorem nrow_ok (wf : Wf F) (hn : n0 < F.length) {A : Row} (hA : ∀ x ∈ A, x.1 < F.length) {fresh : Bool} : NxOk F (nrow F n0 k c A fresh pl) :=
  nfresh_ok wf hn (nrows_ok wf A [] hA .nil rfl)
end
end Mine

namespace Mine
noncomputable def ki (x : Nat × Nat) : Int := (x.1 : Int)
theorem mem_ki {R : Row} {n : Nat} : (n : Int) ∈ R.map ki ↔ n ∈ R.map (·.1) := by
  constructor
  · intro h; obtain ⟨x, h1, h2⟩ := List.mem_map.mp h; exact List.mem_map.mpr ⟨x, h1, Int.ofNat.inj h2⟩
  · intro h; obtain ⟨x, h1, h2⟩ := List.mem_map.mp h; exact List.mem_map.mpr ⟨x, h1, congrArg Int.ofNat h2⟩
/-- the store while steps are led in -/
noncomputable def wS (A : Sg) (R : Row) (X : Sg) (S : List Nat) : Sg := A ++ .lst (R.map pv) :: .dictI (R.map ki) :: (X ++ [.lst (S.map iv)])
noncomputable def wX (A : Sg) (R : Row) (X : Sg) : Sg := A ++ .lst (R.map pv) :: .dictI (R.map ki) :: X
section
variable {gl : List V} {cf : CF} {σ σ' : Sg} {Γ Γ' : Fm} {P : List Def} {d : Nat} {A X : Sg} {R : Row} {S : List Nat} {F : List Sp} {n b : Nat} {x3 x6 : V}

theorem wS_d : (wS A R X S)[A.length + 1]? = some (.dictI (R.map ki)) := by
  rw [wS, List.getElem?_append_right (Nat.le_add_right _ _), Nat.add_sub_cancel_left]; rfl
theorem wS_w : (wS A R X S)[A.length + 2 + X.length]? = some (.lst (S.map iv)) := by
  rw [wS, List.getElem?_append_right (by omega), show A.length + 2 + X.length - A.length = X.length + 1 + 1 by omega, List.getElem?_cons_succ, List.getElem?_cons_succ]; exact at_get
theorem wS_sw {S' : List Nat} : (wS A R X S).set (A.length + 2 + X.length) (.lst (S'.map iv)) = wS A R X S' := by
  rw [wS, List.set_append_right (h := by omega), show A.length + 2 + X.length - A.length = X.length + 1 + 1 by omega, List.set_cons_succ, List.set_cons_succ, at_set]; rfl

noncomputable def liΓ (F : List Sp) (A X : Sg) (b : Nat) (x3 x6 : V) : Fm := [.lst (F.map Sp.v), .ref A.length, .ref (A.length + 1), x3, .int (b : Int), .ref (A.length + 2 + X.length), x6]
noncomputable def liN : List St := [.sto (.var 2) (.var 3) (.cBool true),
         .expr (.app (.var 1) (.tup [(.var 3), (.var 4)])),
         .asg 6 (.idx (.var 0) (.var 3)),
         .ite (.cmp .eq (.idx (.var 6) (.cInt 0)) (.cStr [101, 110, 100]))
           [.ret (.cBool true)]
           [],
         .ite (.cmp .eq (.idx (.var 6) (.cInt 0)) (.cStr [112, 97, 114, 116]))
           [.expr (.app (.var 5) (.idx (.var 6) (.cInt 2))),
            .expr (.app (.var 5) (.idx (.var 6) (.cInt 1)))]
           []]
noncomputable def liB : List St := [.asg 3 (.pop (.var 5)), .ite (.cmp .notin (.var 3) (.var 2)) liN []]
noncomputable def liW : St := .while (.cmp .gt (.bi .len [(.var 5)]) (.cInt 0)) liB

theorem li_c : evE gl cf (.cmp .gt (.bi .len [(.var 5)]) (.cInt 0)) (liΓ F A X b x3 x6) (wS A R X S) = .ok (.bool (!S.isEmpty)) (wS A R X S) := by
  have h : evE gl cf (.bi .len [(.var 5)]) (liΓ F A X b x3 x6) (wS A R X S) = .ok (.int (S.length : Int)) (wS A R X S) := by
    show Res.of (vBi (wS A R X S) .len [.ref (A.length + 2 + X.length)]) (wS A R X S) = _
    rw [len_ref wS_w, List.length_map]; rfl
  rw [evE_cmp, h, bind_ok, evE_cInt, bind_ok, gt_ii, pos_len]; rfl
theorem li_pop : evE gl cf (.pop (.var 5)) (liΓ F A X b x3 x6) (wS A R X (S ++ [n])) = .ok (iv n) (wS A R X S) := by
  have h1 := evE_popR (gl := gl) (cf := cf) (Γ := liΓ F A X b x3 x6) (σ := wS A R X (S ++ [n])) (o := .var 5) (i := A.length + 2 + X.length) (xs := S.map iv) (v := iv n) rfl (by rw [wS_w, List.map_append]; rfl)
  rw [wS_sw] at h1; exact h1
theorem li_in : evE gl cf (.cmp .notin (.var 3) (.var 2)) (liΓ F A X b (iv n) x6) (wS A R X S) = .ok (.bool (!decide (n ∈ R.map (·.1)))) (wS A R X S) := by
  show (Res.of ((inCell (iv n) (wS A R X S)[A.length + 1]?).map not) _).bind _ = _
  rw [wS_d]
  show Res.ok (V.bool (!decide ((n : Int) ∈ R.map ki))) _ = _
  rw [decide_eq_decide.mpr mem_ki]
theorem li_seen (h : n ∈ R.map (·.1)) : exB gl cf liB (liΓ F A X b x3 x6) (wS A R X (S ++ [n])) = .ok (.next, liΓ F A X b (iv n) x6) (wS A R X S) :=
  (exB_asg li_pop).trans ((exB_skip (v := .bool false) (li_in.trans (by rw [decide_eq_true h]; rfl)) rfl).trans exB_nil0)
theorem store_I' {r : Nat} {ks : List Int} {k : Int} {x : V} (h : σ[r]? = some (.dictI ks)) (hn : ks.length < roomy) : vStore σ (.ref r) (.int k) x = some (σ.set r (.dictI (if k ∈ ks then ks else ks ++ [k]))) := by
  rw [vStore, h]
  show (if ks.length < roomy then _ else _) = _
  rw [if_pos hn]
theorem li_put {Sx : Sp} (hR : R.length < roomy) (hF : F.length < roomy) (h : n ∉ R.map (·.1)) (hn : F[n]? = some Sx) : exB gl cf liN (liΓ F A X b (iv n) x6) (wS A R X S) = exB gl cf (liN.drop 3) (liΓ F A X b (iv n) Sx.v) (wS A (R ++ [(n, b)]) X S) := by
  have e1 : exS gl cf (.sto (.var 2) (.var 3) (.cBool true)) (liΓ F A X b (iv n) x6) (wS A R X S) = .ok (.next, liΓ F A X b (iv n) x6) (A ++ .lst (R.map pv) :: .dictI ((R ++ [(n, b)]).map ki) :: (X ++ [.lst (S.map iv)])) := by
    have hs := store_I' (σ := wS A R X S) (r := A.length + 1) (k := (n : Int)) (x := .bool true) wS_d (by rw [List.length_map]; exact hR)
    rw [if_neg (fun q => h (mem_ki.mp q))] at hs
    rw [exS_sto0, evE_cBool, bind_ok, evE_var]
    show (Res.bind (Res.of (some (V.ref (A.length + 1))) (wS A R X S)) _) = _
    rw [of_some, bind_ok, evE_var]
    show storeR _ (vStore (wS A R X S) (.ref (A.length + 1)) (.int (n : Int)) (.bool true)) = _
    rw [hs, storeR, wS, List.set_append_right (h := Nat.le_add_right _ _), Nat.add_sub_cancel_left, List.map_append]; rfl
  have ha := evE_appR (gl := gl) (cf := cf) (o := .var 1) (x := .tup [(.var 3), (.var 4)]) (Γ := liΓ F A X b (iv n) x6) (σ := A ++ .lst (R.map pv) :: .dictI ((R ++ [(n, b)]).map ki) :: (X ++ [.lst (S.map iv)])) (σ₁ := A ++ .lst (R.map pv) :: .dictI ((R ++ [(n, b)]).map ki) :: (X ++ [.lst (S.map iv)])) (i := A.length) (v := pv (n, b)) rfl at_get rfl at_get (by rw [List.length_map]; exact hR)
  rw [at_set, show R.map pv ++ [pv (n, b)] = (R ++ [(n, b)]).map pv by rw [List.map_append]; rfl] at ha
  refine (exB_next e1).trans ((exB_expr ha).trans (exB_asg (v := Sx.v) (σ' := wS A (R ++ [(n, b)]) X S) ?_))
  show Res.of (vIdx _ (.lst (F.map Sp.v)) (.int (n : Int))) _ = _
  rw [step_at (k := n) hF hn]; rfl
theorem li_new {f : Fl} (h : n ∉ R.map (·.1)) (hb : exB gl cf liN (liΓ F A X b (iv n) x6) (wS A R X S) = .ok (f, Γ') σ') : exB gl cf liB (liΓ F A X b x3 x6) (wS A R X (S ++ [n])) = .ok (f, Γ') σ' := by
  refine (exB_asg li_pop).trans ?_
  have hc := li_in (gl := gl) (cf := cf) (F := F) (A := A) (X := X) (b := b) (n := n) (x6 := x6) (R := R) (S := S)
  rw [decide_eq_false h] at hc
  cases f with
  | next => exact (exB_into hc rfl hb).trans exB_nil0
  | ret v => exact exB_take hc rfl hb
theorem li_fin (hR : R.length < roomy) (hF : F.length < roomy) (h : n ∉ R.map (·.1)) (hn : F[n]? = some .fin) : exB gl cf liB (liΓ F A X b x3 x6) (wS A R X (S ++ [n])) = .ok (.ret (.bool true), liΓ F A X b (iv n) (Sp.v .fin)) (wS A (R ++ [(n, b)]) X S) :=
  li_new h ((li_put hR hF h hn).trans (exB_take (v := .bool true) rfl rfl (exB_rets rfl)))
theorem li_take {tb : Bool} {s : List Nat} {m : Nat} (hR : R.length < roomy) (hF : F.length < roomy) (h : n ∉ R.map (·.1)) (hn : F[n]? = some (.take tb s m)) : exB gl cf liB (liΓ F A X b x3 x6) (wS A R X (S ++ [n])) = .ok (.next, liΓ F A X b (iv n) (Sp.take tb s m).v) (wS A (R ++ [(n, b)]) X S) :=
  li_new h ((li_put hR hF h hn).trans ((exB_skip (v := .bool false) rfl rfl).trans ((exB_skip (v := .bool false) rfl rfl).trans exB_nil0)))
theorem li_push {e : Ex} {y : Nat} (hS : S.length < roomy) (he : evE gl cf e (liΓ F A X b x3 x6) (wS A R X S) = .ok (iv y) (wS A R X S)) : evE gl cf (.app (.var 5) e) (liΓ F A X b x3 x6) (wS A R X S) = .ok .none (wS A R X (S ++ [y])) := by
  have ha := evE_appR (gl := gl) (cf := cf) (o := .var 5) (x := e) (Γ := liΓ F A X b x3 x6) (σ := wS A R X S) (σ₁ := wS A R X S) (i := A.length + 2 + X.length) (v := iv y) rfl wS_w he wS_w (by rw [List.length_map]; exact hS)
  rw [show S.map iv ++ [iv y] = (S ++ [y]).map iv by rw [List.map_append]; rfl, wS_sw] at ha; exact ha
theorem li_part {x y : Nat} (hR : R.length < roomy) (hF : F.length < roomy) (hS : S.length + 1 < roomy) (h : n ∉ R.map (·.1)) (hn : F[n]? = some (.part x y)) : exB gl cf liB (liΓ F A X b x3 x6) (wS A R X (S ++ [n])) = .ok (.next, liΓ F A X b (iv n) (Sp.part x y).v) (wS A (R ++ [(n, b)]) X (S ++ [y] ++ [x])) :=
  li_new h ((li_put hR hF h hn).trans ((exB_skip (v := .bool false) rfl rfl).trans ((exB_into (v := .bool true) (σ' := wS A (R ++ [(n, b)]) X S) rfl rfl ((exB_expr (li_push (y := y) (by omega) rfl)).trans ((exB_expr (li_push (S := S ++ [y]) (y := x) (by rw [List.length_append]; exact hS) rfl)).trans exB_nil0))).trans exB_nil0)))
theorem li_go {f : Fm} (h : exB gl cf liB (liΓ F A X b x3 x6) (wS A R X (S ++ [n])) = .ok (.next, Γ') σ') : exS gl cf liW (liΓ F A X b x3 x6) (wS A R X (S ++ [n])) = exS gl cf liW Γ' σ' :=
  while_step (li_c.trans (by cases S <;> rfl)) h
/-- a step led in, by the stack -/
theorem li_loop (wf : Wf F) (hF : F.length < 1000000) : ∀ (k : Nat) {R : Row} {n : Nat} {S : List Nat} {x3 x6 : V}, RowOk F R → n < F.length → F.length ≤ R.length + k → S.length + F.length < R.length + 2000000 →
    ((vis F b k R n).2 = true → ∃ S' Γ', exS gl cf liW (liΓ F A X b x3 x6) (wS A R X (S ++ [n])) = .ok (.ret (.bool true), Γ') (wS A (vis F b k R n).1 X S')) ∧
    ((vis F b k R n).2 = false → ∃ x3' x6', exS gl cf liW (liΓ F A X b x3 x6) (wS A R X (S ++ [n])) = exS gl cf liW (liΓ F A X b x3' x6') (wS A (vis F b k R n).1 X S))
  | 0, R, n, S, x3, x6, h, hn, hk, hS => ⟨fun e => (by cases e), fun _ => ⟨iv n, x6, li_go (f := []) (li_seen (h.full hk hn))⟩⟩
  | k + 1, R, n, S, x3, x6, h, hn, hk, hS => by
    have hRl := h.len
    have rF : F.length < roomy := by unfold roomy; omega
    have rR : R.length < roomy := by unfold roomy; omega
    rw [vis]
    by_cases hm : n ∈ R.map (·.1)
    · rw [if_pos hm]; exact ⟨fun e => (by cases e), fun _ => ⟨iv n, x6, li_go (f := []) (li_seen hm)⟩⟩
    · rw [if_neg hm]
      cases hx : F[n]? with
      | none => exact absurd (List.getElem?_eq_none_iff.mp hx) (Nat.not_le_of_lt hn)
      | some Sx => cases Sx with
        | fin => exact ⟨fun _ => ⟨S, _, while_ret (li_c.trans (by cases S <;> rfl)) (li_fin rR rF hm hx)⟩, fun e => by cases e⟩
        | take tb s m => exact ⟨fun e => (by cases e), fun _ => ⟨_, _, li_go (f := []) (li_take rR rF hm hx)⟩⟩
        | part x y =>
          have hb := below_at wf hx
          have h1 : RowOk F (R ++ [(n, b)]) := h.snoc hn hm
          have l1 : (R ++ [(n, b)]).length = R.length + 1 := by rw [List.length_append]; rfl
          have hS1 : S.length + 1 < roomy := by unfold roomy; omega
          have step := li_go (f := []) (li_part (gl := gl) (cf := cf) (A := A) (X := X) (b := b) (x3 := x3) (x6 := x6) rR rF hS1 hm hx)
          obtain ⟨i1, i2⟩ := li_loop wf hF k (S := S ++ [y]) (x3 := iv n) (x6 := (Sp.part x y).v) h1 hb.1 (by omega) (by rw [List.length_append, l1]; simp only [List.length_cons, List.length_nil]; omega)
          dsimp only
          cases hv : (vis F b k (R ++ [(n, b)]) x).2 with
          | true =>
            rw [if_pos rfl]
            exact ⟨fun _ => let ⟨S', Γ', e⟩ := i1 hv; ⟨S', Γ', step.trans e⟩, fun e => by rw [hv] at e; cases e⟩
          | false =>
            rw [if_neg Bool.false_ne_true]
            obtain ⟨x3', x6', e⟩ := i2 hv
            have V1 := vis_ok (b := b) wf k h1 hb.1
            obtain ⟨Y, hY, _⟩ := V1.pre
            have l2 : (vis F b k (R ++ [(n, b)]) x).1.length = R.length + 1 + Y.length := by rw [hY, List.length_append, l1]
            obtain ⟨j1, j2⟩ := li_loop wf hF k (S := S) (x3 := x3') (x6 := x6') V1.ok hb.2 (by omega) (by omega)
            exact ⟨fun q => let ⟨S', Γ', e'⟩ := j1 q; ⟨S', Γ', step.trans (e.trans e')⟩, fun q => let ⟨a, c, e'⟩ := j2 q; ⟨a, c, step.trans (e.trans e')⟩⟩
theorem wX_app : wX A R X ++ [.lst (S.map iv)] = wS A R X S := by rw [wX, wS, List.append_assoc]; rfl
theorem wX_len : (wX A R X).length = A.length + 2 + X.length := by rw [wX, List.length_append, List.length_cons, List.length_cons]; omega
/-- led_in -/
theorem call_led_in (H : P[78]? = some d_led_in) (wf : Wf F) (hF : F.length < 1000000) {k : Nat} (h : RowOk F R) (hn : n < F.length) (hk : F.length ≤ k) :
    ∃ X', callF gl P (d + 1) 78 [.lst (F.map Sp.v), .ref A.length, .ref (A.length + 1), .int (n : Int), .int (b : Int)] (wX A R X) = .ok (.bool (vis F b k R n).2) (wX A (vis F b k R n).1 (X ++ X')) := by
  obtain ⟨i1, i2⟩ := li_loop (gl := gl) (cf := callF gl P d) (A := A) (X := X) (b := b) wf hF k (S := []) (x3 := iv n) (x6 := .undef) h hn (by omega) (by simp only [List.length_nil]; omega)
  have start : ∀ (r : Res (Fl × Fm)), exB gl (callF gl P d) [liW, .ret (.cBool false)] (liΓ F A X b (iv n) .undef) (wS A R X [n]) = r → exB gl (callF gl P d) d_led_in.body [.lst (F.map Sp.v), .ref A.length, .ref (A.length + 1), .int (n : Int), .int (b : Int), .undef, .undef] (wX A R X) = r := fun r hr => by
    refine (exB_asg (v := .ref (A.length + 2 + X.length)) (σ' := wS A R X [n]) ?_).trans hr
    rw [← wX_app, ← wX_len (R := R)]; rfl
  have fin : ∀ {R' : Row} {S' : List Nat}, wS A R' X S' = wX A R' (X ++ [.lst (S'.map iv)]) := rfl
  cases hv : (vis F b k R n).2 with
  | true =>
    obtain ⟨S', Γ', e⟩ := i1 hv
    exact ⟨[.lst (S'.map iv)], callF_ret (D := d_led_in) H rfl (start _ (exB_ret e))⟩
  | false =>
    obtain ⟨x3', x6', e⟩ := i2 hv
    exact ⟨[.lst ([].map iv)], callF_ret (D := d_led_in) H rfl (start _ ((exB_next (e.trans (while_end li_c))).trans (exB_rets rfl)))⟩
end
end Mine

namespace Mine
noncomputable def rowV (R : Row) : V := .lst (R.map pv)
noncomputable def optV : Option Nat → V
  | none => .none
  | some b => .int (b : Int)
noncomputable def notV : Option (Nat × Nat) → V
  | none => .none
  | some x => .tup [.int (x.1 : Int), .int ((x.2 : Int) - (x.1 : Int))]
structure HW (P : List Def) : Prop where
  tk : P[4]? = some d_takes
  li : P[78]? = some d_led_in
  nx : P[79]? = some d_next_row
  st : P[80]? = some d_swept_through
section
variable {gl : List V} {cf : CF} {σ σ' : Sg} {Γ Γ' : Fm} {P : List Def} {d : Nat} {A X : Sg} {R : Row} {F : List Sp} {k c pl : Nat} {sv nv fv x8 x9 : V}

noncomputable def nxB : List St := [.asg 9 (.idx (.var 5) (.idx (.var 8) (.cInt 0))),
      .ite (.and (.cmp .eq (.idx (.var 9) (.cInt 0)) (.cStr [116, 97, 107, 101])) (.call 4 [(.idx (.var 9) (.cInt 1)), (.idx (.var 9) (.cInt 2)), (.var 2)]))
        [.ite (.call 78 [(.var 5), (.var 6), (.var 7), (.idx (.var 9) (.cInt 3)), (.idx (.var 8) (.cInt 1))])
           [.ret (.frz (.tup [(.var 6), (.idx (.var 8) (.cInt 1))]))]
           []]
        []]
noncomputable def nxΓ (nv : V) (Ah : Row) (sv fv : V) (pl : Nat) (F : List Sp) (A : Sg) (x8 x9 : V) : Fm := [nv, rowV Ah, sv, fv, .int (pl : Int), .lst (F.map Sp.v), .ref A.length, .ref (A.length + 1), x8, x9]

theorem frz_row {b : V} (hb : b = .none ∨ ∃ i, b = .int i) : freeze (wX A R X) (.tup [.ref A.length, b]) = some (.tup [rowV R, b], A ++ (.dead :: .dictI (R.map ki) :: X)) := by
  rw [wX, frz_ri (xs := R.map pv) at_get hb, at_set]; rfl
theorem nx_step {Ah : Row} {x : Nat × Nat} {Sx : Sp} (hF : F.length < roomy) (hx : F[x.1]? = some Sx) : exB gl cf nxB (nxΓ nv Ah sv fv pl F A (pv x) x9) σ = exB gl cf (nxB.drop 1) (nxΓ nv Ah sv fv pl F A (pv x) Sx.v) σ := by
  refine exB_asg (v := Sx.v) (σ' := σ) ?_
  show Res.of (vIdx σ (.lst (F.map Sp.v)) (.int (x.1 : Int))) σ = _
  rw [step_at (k := x.1) hF hx]; rfl
theorem nx_take {Ah : Row} {x : Nat × Nat} {tb : Bool} {s : List Nat} {m : Nat} (H : P[4]? = some d_takes) : evE gl (callF gl P (d + 1)) (.and (.cmp .eq (.idx (.var 9) (.cInt 0)) (.cStr [116, 97, 107, 101])) (.call 4 [(.idx (.var 9) (.cInt 1)), (.idx (.var 9) (.cInt 2)), (.var 2)])) (nxΓ nv Ah (.str [c]) fv pl F A (pv x) (Sp.take tb s m).v) σ = .ok (.bool (s.contains c == tb)) σ :=
  (and_bb (p := true) (q := s.contains c == tb) rfl fun _ => by rw [evE_call]; exact call_takes (gl := gl) (d := d) H).trans rfl
theorem nx_loop (H : HW P) (wf : Wf F) (hF : F.length < 1000000) (hk : F.length ≤ k) {Ah0 : Row} : ∀ (Ah R : Row) (X : Sg) (x8 x9 : V), (∀ x ∈ Ah, x.1 < F.length) → RowOk F R → (Ah ≠ [] → sv = .str [c]) →
    ((nrows F k c Ah R).2 = none → ∃ X' x8' x9', forGo (exB gl (callF gl P (d + 1)) nxB) 8 (Ah.map pv) (nxΓ nv Ah0 sv fv pl F A x8 x9) (wX A R X) = .ok (.next, nxΓ nv Ah0 sv fv pl F A x8' x9') (wX A (nrows F k c Ah R).1 X')) ∧
    (∀ b, (nrows F k c Ah R).2 = some b → ∃ G Γ', forGo (exB gl (callF gl P (d + 1)) nxB) 8 (Ah.map pv) (nxΓ nv Ah0 sv fv pl F A x8 x9) (wX A R X) = .ok (.ret (.tup [rowV (nrows F k c Ah R).1, .int (b : Int)]), Γ') (A ++ G))
  | [], R, X, x8, x9, _, _, _ => ⟨fun _ => ⟨X, x8, x9, rfl⟩, fun b e => by cases e⟩
  | x :: r, R, X, x8, x9, hA, h, hs => by
    have hA' := fun y hy => hA y (List.mem_cons_of_mem _ hy)
    have rF : F.length < roomy := by unfold roomy; (first | lia | omega)
    have hsv := hs (List.cons_ne_nil _ _)
    rw [nrows, List.map_cons]
    have skip : ∀ {Sx : Sp}, F[x.1]? = some Sx → exB gl (callF gl P (d + 1)) (nxB.drop 1) (nxΓ nv Ah0 sv fv pl F A (pv x) Sx.v) (wX A R X) = .ok (.next, nxΓ nv Ah0 sv fv pl F A (pv x) Sx.v) (wX A R X) →
        ((nrows F k c r R).2 = none → ∃ X' x8' x9', forGo (exB gl (callF gl P (d + 1)) nxB) 8 (pv x :: r.map pv) (nxΓ nv Ah0 sv fv pl F A x8 x9) (wX A R X) = .ok (.next, nxΓ nv Ah0 sv fv pl F A x8' x9') (wX A (nrows F k c r R).1 X')) ∧
        (∀ b, (nrows F k c r R).2 = some b → ∃ G Γ', forGo (exB gl (callF gl P (d + 1)) nxB) 8 (pv x :: r.map pv) (nxΓ nv Ah0 sv fv pl F A x8 x9) (wX A R X) = .ok (.ret (.tup [rowV (nrows F k c r R).1, .int (b : Int)]), Γ') (A ++ G)) := fun {Sx} hx e => by
      have e1 : forGo (exB gl (callF gl P (d + 1)) nxB) 8 (pv x :: r.map pv) (nxΓ nv Ah0 sv fv pl F A x8 x9) (wX A R X) = forGo (exB gl (callF gl P (d + 1)) nxB) 8 (r.map pv) (nxΓ nv Ah0 sv fv pl F A (pv x) Sx.v) (wX A R X) := forGo_next ((nx_step rF hx).trans e)
      rw [e1]
      exact nx_loop H wf hF hk r R X (pv x) Sx.v hA' h fun _ => hsv
    cases hx : F[x.1]? with
    | none => exact absurd (List.getElem?_eq_none_iff.mp hx) (Nat.not_le_of_lt (hA x List.mem_cons_self))
    | some Sx => cases Sx with
      | fin => exact skip hx ((exB_skip (v := .bool false) (and_bb (p := false) (q := true) rfl fun h => by cases h) rfl).trans exB_nil0)
      | part _ _ => exact skip hx ((exB_skip (v := .bool false) (and_bb (p := false) (q := true) rfl fun h => by cases h) rfl).trans exB_nil0)
      | take tb s m =>
        have ht := nx_take (gl := gl) (d := d) (nv := nv) (fv := fv) (pl := pl) (F := F) (A := A) (Ah := Ah0) (x := x) (tb := tb) (s := s) (m := m) (c := c) (σ := wX A R X) H.tk
        rw [← hsv] at ht
        dsimp only
        cases hc : s.contains c == tb with
        | false =>
          rw [hc] at ht
          rw [if_neg Bool.false_ne_true]
          exact skip hx ((exB_skip ht rfl).trans exB_nil0)
        | true =>
          rw [hc] at ht
          rw [if_pos rfl]
          obtain ⟨X', hl⟩ := call_led_in (gl := gl) (d := d) (A := A) (X := X) (b := x.2) H.li wf hF h (below_at wf hx) hk
          have V := vis_ok (b := x.2) wf k h (below_at wf hx)
          have hl' : evE gl (callF gl P (d + 1)) (.call 78 [(.var 5), (.var 6), (.var 7), (.idx (.var 9) (.cInt 3)), (.idx (.var 8) (.cInt 1))]) (nxΓ nv Ah0 sv fv pl F A (pv x) (Sp.take tb s m).v) (wX A R X) = .ok (.bool (vis F x.2 k R m).2) (wX A (vis F x.2 k R m).1 (X ++ X')) := hl
          cases hv : (vis F x.2 k R m).2 with
          | true =>
            rw [hv] at hl'
            rw [if_pos rfl]
            refine ⟨fun e => (by cases e), fun b e => ?_⟩
            have eb : x.2 = b := Option.some.inj e
            refine ⟨.dead :: .dictI ((vis F x.2 k R m).1.map ki) :: (X ++ X'), nxΓ nv Ah0 sv fv pl F A (pv x) (Sp.take tb s m).v, forGo_ret ((nx_step rF hx).trans (exB_take ht rfl (exB_take hl' rfl (exB_rets ?_))))⟩
            show Res.vs (freeze (wX A (vis F x.2 k R m).1 (X ++ X')) (.tup [.ref A.length, .int (x.2 : Int)])) = _
            rw [frz_row (.inr ⟨_, rfl⟩), ← eb]; rfl
          | false =>
            rw [hv] at hl'
            rw [if_neg Bool.false_ne_true]
            have e1 : forGo (exB gl (callF gl P (d + 1)) nxB) 8 (pv x :: r.map pv) (nxΓ nv Ah0 sv fv pl F A x8 x9) (wX A R X) = forGo (exB gl (callF gl P (d + 1)) nxB) 8 (r.map pv) (nxΓ nv Ah0 sv fv pl F A (pv x) (Sp.take tb s m).v) (wX A (vis F x.2 k R m).1 (X ++ X')) :=
              forGo_next ((nx_step rF hx).trans ((exB_into ht rfl ((exB_skip hl' rfl).trans exB_nil0)).trans exB_nil0))
            rw [e1]
            exact nx_loop H wf hF hk r _ _ (pv x) _ hA' V.ok fun _ => hsv
theorem wX_0 : (σ ++ [.lst []]) ++ [.dictI []] = wX σ [] [] := by rw [List.append_assoc]; rfl
/-- next_row -/
theorem call_next (H : HW P) {N : List Sp × Nat} (G : Good N) (hF : N.1.length < 1000000) (hk : N.1.length ≤ k) {Ah : Row} (hA : ∀ x ∈ Ah, x.1 < N.1.length) {fresh : Bool} (hs : Ah ≠ [] → sv = .str [c]) :
    Gv (callF gl P (d + 2) 79 [netV N, rowV Ah, sv, .bool fresh, .int (pl : Int)]) (.tup [rowV (nrow N.1 N.2 k c Ah fresh pl).1, optV (nrow N.1 N.2 k c Ah fresh pl).2]) := fun σ => by
  obtain ⟨i1, i2⟩ := nx_loop (gl := gl) (d := d) (nv := netV N) (fv := .bool fresh) (pl := pl) (A := σ) (c := c) (sv := sv) H G.wf hF hk (Ah0 := Ah) Ah [] [] .undef .undef hA .nil hs
  have NX := nrows_ok (k := k) (c := c) G.wf Ah [] hA .nil rfl
  have start : ∀ (r : Res (Fl × Fm)), exB gl (callF gl P (d + 1)) (d_next_row.body.drop 3) (nxΓ (netV N) Ah sv (.bool fresh) pl N.1 σ .undef .undef) (wX σ [] []) = r → exB gl (callF gl P (d + 1)) d_next_row.body [netV N, rowV Ah, sv, .bool fresh, .int (pl : Int), .undef, .undef, .undef, .undef, .undef] σ = r := fun r hr => by
    refine (exB_asg (v := .lst (N.1.map Sp.v)) (σ' := σ) rfl).trans ((exB_asg (v := .ref σ.length) (σ' := σ ++ [.lst []]) rfl).trans ((exB_asg (v := .ref (σ.length + 1)) (σ' := wX σ [] []) ?_).trans hr))
    rw [← wX_0]
    show Res.ok (V.ref (σ ++ [Cell.lst []]).length) _ = _
    rw [List.length_append]; rfl
  rw [nrow, nfresh]
  generalize nrows N.1 k c Ah [] = p at i1 i2 NX
  obtain ⟨R, o⟩ := p
  cases o with
  | some b =>
    obtain ⟨G, Γ', e⟩ := i2 b rfl
    exact ⟨G, callF_ret (D := d_next_row) H.nx rfl (start _ (exB_ret ((exS_for (x := rowV Ah) (y := .none) rfl rfl rfl).trans e)))⟩
  | none =>
    obtain ⟨X', x8, x9, e⟩ := i1 rfl
    cases fresh with
    | false =>
      refine ⟨_, callF_ret (D := d_next_row) (σ' := σ ++ (.dead :: .dictI (R.map ki) :: X')) H.nx rfl (start _ ((exB_next ((exS_for (x := rowV Ah) (y := .none) rfl rfl rfl).trans e)).trans ((exB_skip (v := .bool false) (and_bb (p := false) (q := true) rfl fun h => by cases h) rfl).trans (exB_rets ?_))))⟩
      show Res.vs (freeze (wX σ R X') (.tup [.ref σ.length, .none])) = _
      rw [frz_row (.inl rfl)]; rfl
    | true =>
      obtain ⟨X'', hl⟩ := call_led_in (gl := gl) (d := d) (A := σ) (X := X') (b := pl) H.li G.wf hF NX.ok G.st hk
      have hl' : evE gl (callF gl P (d + 1)) (.and (.var 3) (.call 78 [(.var 5), (.var 6), (.var 7), (.idx (.var 0) (.cInt 0)), (.var 4)])) (nxΓ (netV N) Ah sv (.bool true) pl N.1 σ x8 x9) (wX σ R X') = .ok (.bool (vis N.1 pl k R N.2).2) (wX σ (vis N.1 pl k R N.2).1 (X' ++ X'')) := by
        rw [evE_and]; exact hl
      cases hv : (vis N.1 pl k R N.2).2 with
      | true =>
        rw [hv] at hl'
        refine ⟨_, callF_ret (D := d_next_row) (σ' := σ ++ (.dead :: .dictI ((vis N.1 pl k R N.2).1.map ki) :: (X' ++ X''))) H.nx rfl (start _ ((exB_next ((exS_for (x := rowV Ah) (y := .none) rfl rfl rfl).trans e)).trans (exB_take hl' rfl (exB_rets ?_))))⟩
        show Res.vs (freeze (wX σ (vis N.1 pl k R N.2).1 (X' ++ X'')) (.tup [.ref σ.length, .int (pl : Int)])) = _
        rw [frz_row (.inr ⟨_, rfl⟩)]; simp only [if_true, hv]; rfl
      | false =>
        rw [hv] at hl'
        refine ⟨_, callF_ret (D := d_next_row) (σ' := σ ++ (.dead :: .dictI ((vis N.1 pl k R N.2).1.map ki) :: (X' ++ X''))) H.nx rfl (start _ ((exB_next ((exS_for (x := rowV Ah) (y := .none) rfl rfl rfl).trans e)).trans ((exB_skip hl' rfl).trans (exB_rets ?_))))⟩
        show Res.vs (freeze (wX σ (vis N.1 pl k R N.2).1 (X' ++ X'')) (.tup [.ref σ.length, .none])) = _
        rw [frz_row (.inl rfl)]; simp only [if_true, hv]; rfl
end
end Mine

namespace Mine
section
variable {gl : List V} {cf : CF} {σ σ' : Sg} {Γ Γ' : Fm} {P : List Def} {d : Nat} {A X : Sg} {N : List Sp × Nat} {k : Nat} {w : List Nat}

noncomputable def swB : List St := [.asg 6 (.cStr []),
      .ite (.cmp .gt (.var 5) (.cInt 0))
        [.asg 6 (.idx (.var 1) (.bin .sub (.var 5) (.cInt 1)))]
        [],
      .asg 7 (.call 79 [(.var 0), (.var 4), (.var 6), (.cmp .is (.var 3) .cNone), (.var 5)]),
      .asg 4 (.idx (.var 7) (.cInt 0)),
      .expr (.app (.var 2) (.var 4)),
      .ite (.cmp .isnot (.idx (.var 7) (.cInt 1)) .cNone)
        [.asg 3 (.tup [(.idx (.var 7) (.cInt 1)), (.bin .sub (.var 5) (.idx (.var 7) (.cInt 1)))])]
        []]
noncomputable def swC (Rs : List Row) : Cell := .lst (Rs.map rowV)
theorem not_is (no : Option (Nat × Nat)) : vIs (notV no) .none = some no.isNone := by cases no <;> rfl
theorem sw_sign {p : Nat} {v0 v2 v3 v4 y6 y7 : V} (hw : w.length < 1000000) (hp : p ≤ w.length) : ∃ sv, (p ≠ 0 → sv = .str [w.getD (p - 1) 0]) ∧ (sv = .str [] ∨ ∃ c, sv = .str [c]) ∧
    exB gl cf swB [v0, .str w, v2, v3, v4, iv p, y6, y7] σ = exB gl cf (swB.drop 2) [v0, .str w, v2, v3, v4, iv p, sv, y7] σ := by
  have hc : evE gl cf (.cmp .gt (.var 5) (.cInt 0)) [v0, .str w, v2, v3, v4, iv p, .str [], y7] σ = .ok (.bool (decide ((p : Int) > 0))) σ := rfl
  cases p with
  | zero => exact ⟨.str [], fun h => (h rfl).elim, .inl rfl, (exB_asg (v := .str []) (σ' := σ) rfl).trans (exB_skip hc rfl)⟩
  | succ q =>
    rw [decide_eq_true (Int.natCast_pos.mpr (Nat.succ_pos q))] at hc
    have hq : w[q]? = some (w.getD q 0) := by rw [List.getD_eq_getElem?_getD, List.getElem?_eq_getElem hp]; rfl
    refine ⟨.str [w.getD q 0], fun _ => rfl, .inr ⟨_, rfl⟩, (exB_asg (v := .str []) (σ' := σ) rfl).trans (exB_into hc rfl ((exB_asg (v := .str [w.getD q 0]) (σ' := σ) ?_).trans exB_nil0))⟩
    show Res.of (vIdx σ (.str w) (.int (((q + 1 : Nat) : Int) - 1))) σ = _
    rw [show ((q + 1 : Nat) : Int) - 1 = (q : Int) by (first | lia | omega), str_at hw hq]; rfl
theorem sw_turn (H : HW P) (G : Good N) (hF : N.1.length < 1000000) (hk : N.1.length ≤ k) (hw : w.length < 1000000) {p : Nat} (hp : p ≤ w.length) {Ah : Row} (hA : ∀ x ∈ Ah, x.1 < N.1.length) (h0 : p = 0 → Ah = []) {no : Option (Nat × Nat)} {Rs : List Row} (hR : Rs.length < roomy) {X : Sg} {y6 y7 : V} :
    ∃ X' y6' y7', exB gl (callF gl P (d + 2)) swB [netV N, .str w, .ref A.length, notV no, rowV Ah, iv p, y6, y7] (A ++ swC Rs :: X)
      = .ok (.next, [netV N, .str w, .ref A.length, notV (noteN p (nrow N.1 N.2 k (w.getD (p - 1) 0) Ah no.isNone p).2 no), rowV (nrow N.1 N.2 k (w.getD (p - 1) 0) Ah no.isNone p).1, iv p, y6', y7']) (A ++ swC (Rs ++ [(nrow N.1 N.2 k (w.getD (p - 1) 0) Ah no.isNone p).1]) :: X') := by
  obtain ⟨sv, hs, hs', e1⟩ := sw_sign (gl := gl) (cf := callF gl P (d + 2)) (σ := A ++ swC Rs :: X) (v0 := netV N) (v2 := .ref A.length) (v3 := notV no) (v4 := rowV Ah) (y6 := y6) (y7 := y7) hw hp
  obtain ⟨G', e2⟩ := call_next (gl := gl) (d := d) (c := w.getD (p - 1) 0) (pl := p) (fresh := no.isNone) (sv := sv) H G hF hk hA (fun h => hs fun q => h (h0 q)) (A ++ swC Rs :: X)
  generalize nrow N.1 N.2 k (w.getD (p - 1) 0) Ah no.isNone p = q at e2 ⊢
  have hv : getV [netV N, .str w, .ref A.length, notV no, rowV Ah, iv p, sv, y7] 6 = some sv := by
    rcases hs' with e | ⟨c, e⟩ <;> rw [e] <;> rfl
  have hn : getV [netV N, .str w, .ref A.length, notV no, rowV Ah, iv p, sv, y7] 3 = some (notV no) := by cases no <;> rfl
  have e3 : evE gl (callF gl P (d + 2)) (.call 79 [(.var 0), (.var 4), (.var 6), (.cmp .is (.var 3) .cNone), (.var 5)]) [netV N, .str w, .ref A.length, notV no, rowV Ah, iv p, sv, y7] (A ++ swC Rs :: X) = .ok (.tup [rowV q.1, optV q.2]) (A ++ swC Rs :: (X ++ G')) := by
    have hi : vCmp (A ++ swC Rs :: X) .is (notV no) .none = some no.isNone := not_is no
    have g0 : getV [netV N, .str w, .ref A.length, notV no, rowV Ah, iv p, sv, y7] 0 = some (netV N) := rfl
    have g4 : getV [netV N, .str w, .ref A.length, notV no, rowV Ah, iv p, sv, y7] 4 = some (rowV Ah) := rfl
    have g5 : getV [netV N, .str w, .ref A.length, notV no, rowV Ah, iv p, sv, y7] 5 = some (iv p) := rfl
    simp only [evE_cNone, evE_cBool, evE_cInt, evE_cStr, evE_var, evE_glob, evE_and, evE_or, evE_not, evE_neg, evE_bin, evE_cmp, evE_cmp2, evE_ite, evE_tup, evE_lst, evE_call, evE_bi, evE_join, evE_idx, evE_slice, evEs_nil, evEs_cons, evO_none, evO_some, g0, g4, g5, hv, hn, of_some, bind_ok, hi]
    rw [List.append_assoc] at e2; exact e2
  have ha := evE_appR (gl := gl) (cf := callF gl P (d + 2)) (o := .var 2) (x := .var 4) (Γ := [netV N, .str w, .ref A.length, notV no, rowV q.1, iv p, sv, .tup [rowV q.1, optV q.2]]) (σ := A ++ swC Rs :: (X ++ G')) (σ₁ := A ++ swC Rs :: (X ++ G')) (i := A.length) (v := rowV q.1) rfl at_get rfl at_get (by rw [List.length_map]; exact hR)
  rw [at_set, show Rs.map rowV ++ [rowV q.1] = (Rs ++ [q.1]).map rowV by rw [List.map_append]; rfl] at ha
  refine ⟨X ++ G', sv, .tup [rowV q.1, optV q.2], e1.trans ((exB_asg e3).trans ((exB_asg (v := rowV q.1) (σ' := A ++ swC Rs :: (X ++ G')) rfl).trans ((exB_expr ha).trans ?_)))⟩
  cases ho : q.2 with
  | none => exact (exB_skip (v := .bool false) rfl rfl).trans exB_nil0
  | some b => exact (exB_into (v := .bool true) rfl rfl ((exB_asg (v := notV (some (b, p))) rfl).trans exB_nil0)).trans exB_nil0
theorem sw_loop (H : HW P) (G : Good N) (hF : N.1.length < 1000000) (hk : N.1.length ≤ k) (hw : w.length < 1000000) : ∀ (m s : Nat) (Ah : Row) (no : Option (Nat × Nat)) (Rs : List Row) (X : Sg) (y5 y6 y7 : V), s + m ≤ w.length + 1 → (∀ x ∈ Ah, x.1 < N.1.length) → (s = 0 → Ah = []) → Rs.length = s →
    ∃ X' Ah' y5' y6' y7', forGo (exB gl (callF gl P (d + 2)) swB) 5 ((List.range' s m).map iv) [netV N, .str w, .ref A.length, notV no, rowV Ah, y5, y6, y7] (A ++ swC Rs :: X)
      = .ok (.next, [netV N, .str w, .ref A.length, notV (swp N.1 N.2 k w (List.range' s m) Ah no).2, rowV Ah', y5', y6', y7']) (A ++ swC (Rs ++ (swp N.1 N.2 k w (List.range' s m) Ah no).1) :: X')
  | 0, s, Ah, no, Rs, X, y5, y6, y7, _, _, _, _ => ⟨X, Ah, y5, y6, y7, by rw [List.range'_zero, swp, List.append_nil]; rfl⟩
  | m + 1, s, Ah, no, Rs, X, y5, y6, y7, hm, hA, h0, hR => by
    obtain ⟨X₁, z6, z7, e⟩ := sw_turn (gl := gl) (d := d) (A := A) H G hF hk hw (p := s) (by (first | lia | omega)) hA h0 (no := no) (Rs := Rs) (by unfold roomy; (first | lia | omega)) (X := X) (y6 := y6) (y7 := y7)
    have NX := nrow_ok (k := k) (c := w.getD (s - 1) 0) (pl := s) G.wf G.st hA (fresh := no.isNone)
    rw [List.range'_succ, swp, List.map_cons]
    generalize nrow N.1 N.2 k (w.getD (s - 1) 0) Ah no.isNone s = q at e NX ⊢
    obtain ⟨X', Ah', y5', y6', y7', ih⟩ := sw_loop H G hF hk hw m (s + 1) q.1 (noteN s q.2 no) (Rs ++ [q.1]) X₁ (iv s) z6 z7 (by (first | lia | omega)) NX.ok.lt (fun e => absurd e (Nat.succ_ne_zero _)) (by rw [List.length_append, hR]; rfl)
    refine ⟨X', Ah', y5', y6', y7', ?_⟩
    rw [List.append_assoc] at ih
    exact (forGo_next e).trans ih
noncomputable def swpA (N : List Sp × Nat) (k : Nat) (w : List Nat) : List Row × Option (Nat × Nat) := swp N.1 N.2 k w (List.range' 0 (w.length + 1)) [] none
theorem call_sweep (H : HW P) (G : Good N) (hF : N.1.length < 1000000) (hk : N.1.length ≤ k) (hw : w.length < 1000000) (σ : Sg) :
    ∃ X, callF gl P (d + 3) 80 [netV N, .str w] σ = .ok (.tup [.ref σ.length, notV (swpA N k w).2]) (σ ++ swC (swpA N k w).1 :: X) := by
  obtain ⟨X, Ah, y5, y6, y7, h⟩ := sw_loop (gl := gl) (d := d) (A := σ) H G hF hk hw (w.length + 1) 0 [] none [] [] .undef .undef .undef (by (first | lia | omega)) (fun x hx => (List.not_mem_nil hx).elim) (fun _ => rfl) rfl
  rw [List.nil_append] at h
  refine ⟨X, callF_ret (D := d_swept_through) H.st rfl ((exB_asg (v := .ref σ.length) (σ' := σ ++ [swC []]) rfl).trans ((exB_asg (v := .none) rfl).trans ((exB_asg (v := rowV []) rfl).trans ((exB_next ((exS_for (x := .int ((w.length : Int) + 1)) (y := .none) (σ₁ := σ ++ [swC []]) (σ₂ := σ ++ [swC []]) rfl rfl ((items_rng (n := w.length + 1) (by (first | lia | omega))).trans (by rw [List.range_eq_range']; rfl))).trans h)).trans (exB_rets ?_)))))⟩
  have hn : getV [netV N, .str w, .ref σ.length, notV (swpA N k w).2, rowV Ah, y5, y6, y7] 3 = some (notV (swpA N k w).2) := by cases (swpA N k w).2 <;> rfl
  show evE gl _ (.tup [.var 2, .var 3]) [netV N, .str w, .ref σ.length, notV (swpA N k w).2, rowV Ah, y5, y6, y7] _ = _
  simp only [evE_cNone, evE_cBool, evE_cInt, evE_cStr, evE_var, evE_glob, evE_and, evE_or, evE_not, evE_neg, evE_bin, evE_cmp, evE_cmp2, evE_ite, evE_tup, evE_lst, evE_call, evE_bi, evE_join, evE_idx, evE_slice, evEs_nil, evEs_cons, evO_none, evO_some, hn, of_some, bind_ok]; rfl

structure HV0 (P : List Def) : Prop where
  w : HW P
  ro : P[81]? = some d_rows
  ct : P[82]? = some d_counted
structure HV (P : List Def) : Prop where
  sw : P[83]? = some d_swept
  v : HV0 P
theorem call_rows (H : HV0 P) (G : Good N) (hF : N.1.length < 1000000) (hk : N.1.length ≤ k) (hw : w.length < 1000000) (σ : Sg) : ∃ X, callF gl P (d + 4) 81 [netV N, .str w] σ = .ok (.ref σ.length) (σ ++ swC (swpA N k w).1 :: X) := by
  obtain ⟨X, h⟩ := call_sweep (gl := gl) (d := d) H.w G hF hk hw σ
  refine ⟨X, callF_ret (D := d_rows) H.ro rfl (exB_rets ?_)⟩
  rw [evE_idx, evE_call]
  show (Res.bind (callF gl P (d + 3) 80 [netV N, .str w] σ) _) = _
  rw [h]; rfl
noncomputable def cntR (Rs : List Row) : Int := (Rs.map fun R => (R.length : Int)).sum
theorem lens_comp {v9 : V} {Γ : Fm} {e : Ex} {Rs : List Row} {j : Nat} {σ₁ : Sg} (hj : Γ.length = j) (h : evE gl cf e Γ σ = .ok (.lst (Rs.map rowV)) σ₁) (hR : Rs.length ≤ roomy) : evE gl cf (.bi .sum [(.comp false (.bi .len [(.var j)]) .val e .cNone none)]) Γ σ = .ok (.int (cntR Rs)) σ₁ := by
  have hc : evE gl cf (.comp false (.bi .len [(.var j)]) .val e .cNone none) Γ σ = .ok (.lst (Rs.map fun R => V.int (R.length : Int))) σ₁ :=
    evE_compM (l := Rs) (h := rowV) (k := fun R => V.int (R.length : Int)) h evE_cNone rfl (fun R _ => by
      have hv : getV (Γ ++ [rowV R]) j = some (rowV R) := by rw [getV, ← hj, List.getElem?_append_right (Nat.le_refl _), Nat.sub_self]; rfl
      rw [evE_bi, evEs_cons, evE_var, hv, of_some, bind_ok, evEs_nil, bind_ok, bind_ok, rowV, bi_len_l, List.length_map]; rfl) hR
  rw [evE_bi, evEs_cons, hc, bind_ok, evEs_nil, bind_ok, bind_ok, bi_sum]; rfl
theorem swp_len : ∀ (ps : List Nat) (Ah : Row) (no : Option (Nat × Nat)), (swp N.1 N.2 k w ps Ah no).1.length = ps.length
  | [], _, _ => rfl
  | p :: ps, Ah, no => by rw [swp, List.length_cons, swp_len ps, List.length_cons]
theorem swpA_len : (swpA N k w).1.length = w.length + 1 := by rw [swpA, swp_len, List.length_range']
theorem call_counted (H : HV0 P) (G : Good N) (hF : N.1.length < 1000000) (hk : N.1.length ≤ k) (hw : w.length < 1000000) : Gv (callF gl P (d + 5) 82 [netV N, .str w]) (.int (cntR (swpA N k w).1)) := fun σ => by
  obtain ⟨X, h⟩ := call_rows (gl := gl) (d := d) H G hF hk hw σ
  refine ⟨.dead :: X, callF_ret (D := d_counted) (Γ' := [netV N, .str w]) H.ct rfl (exB_rets (lens_comp (v9 := .none) (Rs := (swpA N k w).1) (σ₁ := σ ++ .dead :: X) rfl ?_ (by rw [swpA_len]; unfold roomy; (first | lia | omega))))⟩
  rw [evE_frz, evE_call]
  show (Res.bind (callF gl P (d + 4) 81 [netV N, .str w] σ) _) = _
  rw [h, bind_ok, freeze, at_get]
  show Res.ok _ ((σ ++ swC (swpA N k w).1 :: X).set σ.length .dead) = _
  rw [at_set]
end
end Mine

namespace Mine
structure HL (P : List Def) : Prop where
  en : P[85]? = some d_l_ended
  li : P[86]? = some d_l_led_in
  rb : P[87]? = some d_l_row_by
section
variable {gl : List V} {cf : CF} {σ σ' : Sg} {Γ Γ' : Fm} {P : List Def} {d : Nat} {N : List Sp × Nat} {k b n c pl : Nat} {R : Row}

end
end Mine

namespace Mine
structure HR10 (P : List Def) : Prop where
  v : HV P
  l : HL P
  wh : P[9]? = some d_l_whole
  pr : P[71]? = some d_l_pair
  sm : P[84]? = some d_l_same_match_v10
  rr : P[88]? = some d_l_rows_right
section
variable {gl : List V} {cf : CF} {σ σ' : Sg} {Γ Γ' : Fm} {P : List Def} {d : Nat} {A X : Sg} {N : List Sp × Nat} {k : Nat} {w : List Nat}

theorem call_pair (Hw : P[9]? = some d_l_whole) (H : P[71]? = some d_l_pair) {a b : Int} : callF gl P (d + 2) 71 [.tup [.int a, .int b]] σ = .ok (.bool true) σ := by
  refine callF_ret (D := d_l_pair) (Γ' := [.tup [.int a, .int b]]) H rfl (exB_rets ((and_bb (p := true) (q := true) rfl fun _ => (and_bb (p := true) (q := true) rfl fun _ => (and_bb (p := true) (q := true) ?_ fun _ => ?_).trans rfl).trans rfl).trans rfl))
  · exact call_whole (gl := gl) (d := d) Hw
  · exact call_whole (gl := gl) (d := d) Hw
end
end Mine

namespace Mine
section
variable {gl : List V} {cf : CF} {σ σ' : Sg} {Γ Γ' : Fm} {P : List Def} {d : Nat}
theorem fmod_nat (a : Int) {b : Int} (hb : 0 < b) : ∃ j : Nat, a.fmod b = (j : Int) ∧ (j : Int) < b := by
  obtain ⟨h1, h2⟩ := fmod_range a hb
  exact ⟨(a.fmod b).toNat, by (first | lia | omega), by (first | lia | omega)⟩
theorem cut_len_le {α : Type} (xs : List α) (lo hi : Option Int) : (cut xs lo hi).length ≤ xs.length := by
  rw [cut, List.length_drop, List.length_take]; (first | lia | omega)
end

end Mine

namespace Mine
section
variable {F : List Sp} {w : List Nat} {D D' : List (Nat × Nat)} {x : Nat × Nat}
theorem ins_new (h : x ∉ D) : ins D x = D ++ [x] := by rw [ins, if_neg h]
/-- what is added is reached from there, and the step itself is in -/
theorem Lost.spec (K : Seek F w) (h : Lost F w D x D') : x.1 < F.length → ∃ X, D' = D ++ X ∧ (∀ y ∈ X, Reach F w x y) := by
  induction h with
  | known _ => exact fun _ => ⟨[], (List.append_nil _).symm, fun y hy => (List.not_mem_nil hy).elim⟩
  | stuck hn _ _ => exact fun _ => ⟨_, ins_new hn, fun y hy => by rw [List.mem_singleton.mp hy]; exact .refl⟩
  | take hn e hh _ ih =>
    rename_i D D' n m a b s _
    intro hx
    obtain ⟨X, hD, hX⟩ := ih (below_at K.wf e)
    have hm : (n, a) ∉ D ++ X := fun hm => (List.mem_append.mp hm).elim hn fun q => K.ac _ _ hx _ (.take e hh) (hX _ q)
    refine ⟨X ++ [(n, a)], by rw [hD, ins_new hm, List.append_assoc], fun y hy => ?_⟩
    rcases List.mem_append.mp hy with q | q
    · exact .step (.take e hh) (hX y q)
    · rw [List.mem_singleton.mp q]; exact .refl
  | part hn e _ _ ih1 ih2 =>
    rename_i D D' D'' n u v a _ _
    intro hx
    obtain ⟨X, hD, hX⟩ := ih1 (below_at K.wf e).1
    obtain ⟨Y, hD', hY⟩ := ih2 (below_at K.wf e).2
    have hm : (n, a) ∉ D ++ X ++ Y := fun hm => (List.mem_append.mp hm).elim (fun hm => (List.mem_append.mp hm).elim hn fun q => K.ac _ _ hx _ (.left e) (hX _ q)) fun q => K.ac _ _ hx _ (.right e) (hY _ q)
    refine ⟨X ++ Y ++ [(n, a)], by rw [hD', hD, ins_new hm]; simp only [List.append_assoc], fun y hy => ?_⟩
    rcases List.mem_append.mp hy with q | q
    · rcases List.mem_append.mp q with q | q
      · exact .step (.left e) (hX y q)
      · exact .step (.right e) (hY y q)
    · rw [List.mem_singleton.mp q]; exact .refl
theorem Lost.fresh {n a : Nat} (K : Seek F w) {y : Nat × Nat} (h : Lost F w D y D') (e : Edge F w (n, a) y) (hy : y.1 < F.length) (hx : n < F.length) (hn : (n, a) ∉ D) : (n, a) ∉ D' := fun hm => by
  obtain ⟨X, rfl, hX⟩ := h.spec K hy
  rcases List.mem_append.mp hm with q | q
  · exact hn q
  · exact K.ac _ _ hx _ e (hX _ q)
/-- what is known while a search goes on: the dead, and those above -/
structure KOk (F : List Sp) (w : List Nat) (K D g : List (Nat × Nat)) : Prop where
  nd : K.Nodup
  bd : ∀ y ∈ K, y.1 < F.length ∧ y.2 < w.length + 1
  len : K.length = D.length + g.length
  mem : ∀ y, y ∈ K ↔ y ∈ D ∨ y ∈ g
variable {K g : List (Nat × Nat)}
theorem KOk.room (h : KOk F w K D g) (S : Seek F w) : K.length < roomy := Nat.lt_of_le_of_lt (pairs_bound h.nd h.bd) S.room
theorem KOk.not (h : KOk F w K D g) (W : WayOk F w g x) (hn : x ∉ D) : x ∉ K := fun hm => ((h.mem x).mp hm).elim hn fun q => W.fr x q .refl
theorem KOk.put (h : KOk F w K D g) (W : WayOk F w g x) (hn : x ∉ D) : KOk F w (K ++ [x]) D (g ++ [x]) := by
  refine ⟨List.nodup_append.mpr ⟨h.nd, List.nodup_cons.mpr ⟨List.not_mem_nil, List.nodup_nil⟩, fun a ha b hb q => ?_⟩, fun y hy => ?_, by rw [List.length_append, List.length_append, h.len]; exact Nat.add_assoc _ _ _, fun y => ?_⟩
  · rw [List.mem_singleton.mp hb] at q; exact h.not W hn (q ▸ ha)
  · rcases List.mem_append.mp hy with q | q
    · exact h.bd y q
    · rw [List.mem_singleton.mp q]; exact W.hx
  · rw [List.mem_append, List.mem_append, h.mem, or_assoc]
theorem KOk.done (h : KOk F w K D (g ++ [x])) (hn : x ∉ D) : KOk F w K (ins D x) g := by
  rw [ins_new hn]
  refine ⟨h.nd, h.bd, by rw [h.len, List.length_append, List.length_append]; (first | lia | omega), fun y => ?_⟩
  rw [h.mem, List.mem_append, List.mem_append]
  constructor
  · rintro (q | q | q)
    · exact .inl (.inl q)
    · exact .inr q
    · exact .inl (.inr q)
  · rintro ((q | q) | q)
    · exact .inl q
    · exact .inr (.inr q)
    · exact .inr (.inl q)
end
/-- what is counted from one place to the next -/
inductive Tried (F : List Sp) (w : List Nat) (n : Nat) : List (Nat × Nat) → List Nat → Nat → Prop
  | nil {D : List (Nat × Nat)} : Tried F w n D [] D.length
  | fail {D D' : List (Nat × Nat)} {p : Nat} {ps : List Nat} {r : Nat} : Lost F w D (n, p) D' → Tried F w n D' ps r → Tried F w n D (p :: ps) r
  | ok {D D' q : List (Nat × Nat)} {p : Nat} {ps : List Nat} : Sc F w D (n, p) D' q → Tried F w n D (p :: ps) (D'.length + q.length)

noncomputable def tS (A M : Sg) (K S : List (Nat × Nat)) : Sg := A ++ .dictP (K.map kv) :: (M ++ [.lst (S.map pv)])
section
variable {gl : List V} {cf : CF} {σ σ' : Sg} {Γ Γ' : Fm} {P : List Def} {d : Nat} {A M : Sg} {D D' W S K g : List (Nat × Nat)} {F : List Sp} {w : List Nat} {n a : Nat} {v1 v3 : V}
theorem tS_d : (tS A M K S)[A.length]? = some (.dictP (K.map kv)) := at_get
theorem tS_w : (tS A M K S)[A.length + 1 + M.length]? = some (.lst (S.map pv)) := by
  rw [tS, List.getElem?_append_right (by (first | lia | omega)), show A.length + 1 + M.length - A.length = M.length + 1 by (first | lia | omega), List.getElem?_cons_succ]; exact at_get
theorem tS_sd {K' : List (Nat × Nat)} : (tS A M K S).set A.length (.dictP (K'.map kv)) = tS A M K' S := at_set
theorem tS_sw {S' : List (Nat × Nat)} : (tS A M K S).set (A.length + 1 + M.length) (.lst (S'.map pv)) = tS A M K S' := by
  rw [tS, List.set_append_right (h := by (first | lia | omega)), show A.length + 1 + M.length - A.length = M.length + 1 by (first | lia | omega), List.set_cons_succ, at_set]; rfl

theorem while_stepT {c : Ex} {b : List St} {v : V} (h1 : evE gl cf c Γ σ = .ok v σ) (ht : vTrue σ v = some true) (h2 : exB gl cf b Γ σ = .ok (.next, Γ') σ') : exS gl cf (.while c b) Γ σ = exS gl cf (.while c b) Γ' σ' := by
  rw [exS_while0, loopW_unfold, exS_while0]; simp only [h1, bind_ok, ht, of_some, if_true, h2]
theorem while_endT {c : Ex} {b : List St} {v : V} (h1 : evE gl cf c Γ σ = .ok v σ) (ht : vTrue σ v = some false) : exS gl cf (.while c b) Γ σ = .ok (.next, Γ) σ := by
  rw [exS_while0, loopW_unfold]; simp only [h1, bind_ok, ht, of_some]; rfl
theorem while_retT {c : Ex} {b : List St} {v r : V} (h1 : evE gl cf c Γ σ = .ok v σ) (ht : vTrue σ v = some true) (h2 : exB gl cf b Γ σ = .ok (.ret r, Γ') σ') : exS gl cf (.while c b) Γ σ = .ok (.ret r, Γ') σ' := by
  rw [exS_while0, loopW_unfold]; simp only [h1, bind_ok, ht, of_some, if_true, h2]

theorem hit_evE {b : Bool} {s : List Nat} {ea e2 e1 : Ex} {i1 : Nat} (hl : w.length < 1000000) (hw : getV Γ i1 = some (.str w)) (ha : evE gl cf ea Γ σ = .ok (.int (a : Int)) σ) (h2 : evE gl cf e2 Γ σ = .ok (.str s) σ) (h1 : evE gl cf e1 Γ σ = .ok (.bool b) σ) :
    evE gl cf (.and (.cmp .lt ea (.bi .len [(.var i1)])) (.cmp .eq (.cmp .isin (.idx (.var i1) ea) e2) e1)) Γ σ = .ok (.bool (hit w b s a)) σ := by
  have c1 : evE gl cf (.cmp .lt ea (.bi .len [(.var i1)])) Γ σ = .ok (.bool (decide ((a : Int) < (w.length : Int)))) σ := by
    simp only [evE_cNone, evE_cBool, evE_cInt, evE_cStr, evE_var, evE_glob, evE_and, evE_or, evE_not, evE_neg, evE_bin, evE_cmp, evE_cmp2, evE_ite, evE_tup, evE_lst, evE_call, evE_bi, evE_join, evE_idx, evE_slice, evEs_nil, evEs_cons, evO_none, evO_some, hw, ha, of_some, bind_ok, bi_len_s, lt_ii]
  rw [hit]
  cases hc : w[a]? with
  | none =>
    have : decide ((a : Int) < (w.length : Int)) = false := decide_eq_false (fun h => by rw [List.getElem?_eq_none_iff] at hc; (first | lia | omega))
    rw [this] at c1
    exact and_bb (q := true) c1 fun h => by cases h
  | some c =>
    have : decide ((a : Int) < (w.length : Int)) = true := decide_eq_true (by have := (List.getElem?_eq_some_iff.mp hc).1; (first | lia | omega))
    rw [this] at c1
    refine and_bb c1 fun _ => ?_
    rw [evE_cmp, evE_cmp, evE_idx, evE_var, hw, of_some, bind_ok, ha, bind_ok, str_at hl hc, of_some, bind_ok, h2, bind_ok]
    show ((Res.of (some (s.contains c)) σ).bind fun t σ => Res.ok (V.bool t) σ).bind _ = _
    rw [of_some, bind_ok, bind_ok, h1]; rfl

noncomputable def ltC : List St := [.sto (.var 2) (.var 5) (.cBool true),
            .asg 6 (.idx (.idx (.var 0) (.cInt 1)) (.idx (.var 5) (.cInt 0))),
            .ite (.cmp .eq (.idx (.var 6) (.cInt 0)) (.cStr [101, 110, 100]))
              [.ret (.bi .len [(.var 2)])]
              [],
            .ite (.cmp .eq (.idx (.var 6) (.cInt 0)) (.cStr [112, 97, 114, 116]))
              [.expr (.app (.var 4) (.tup [(.idx (.var 6) (.cInt 2)), (.idx (.var 5) (.cInt 1))])),
               .expr (.app (.var 4) (.tup [(.idx (.var 6) (.cInt 1)), (.idx (.var 5) (.cInt 1))]))]
              [.ite (.and (.cmp .lt (.idx (.var 5) (.cInt 1)) (.bi .len [(.var 1)])) (.cmp .eq (.cmp .isin (.idx (.var 1) (.idx (.var 5) (.cInt 1))) (.idx (.var 6) (.cInt 2))) (.idx (.var 6) (.cInt 1))))
                 [.expr (.app (.var 4) (.tup [(.idx (.var 6) (.cInt 3)), (.bin .add (.idx (.var 5) (.cInt 1)) (.cInt 1))]))]
                 []]]
noncomputable def ltB : List St := [.asg 5 (.pop (.var 4)), .ite (.cmp .notin (.var 5) (.var 2)) ltC []]
noncomputable def tΓ (N : List Sp × Nat) (w : List Nat) (A M : Sg) (v3 y5 y6 : V) : Fm := [netV N, .str w, .ref A.length, v3, .ref (A.length + 1 + M.length), y5, y6]
variable {N : List Sp × Nat} {y5 y6 : V} {x : Nat × Nat}
theorem t_true : vTrue (tS A M K (S ++ [x])) (.ref (A.length + 1 + M.length)) = some true := by
  show (match (tS A M K (S ++ [x]))[A.length + 1 + M.length]? with | some (.lst xs) => some (!xs.isEmpty) | _ => none) = _
  rw [tS_w, List.map_append]
  show some (!(S.map pv ++ [pv x]).isEmpty) = _
  cases S <;> rfl
theorem t_pop : exB gl cf ltB (tΓ N w A M v3 y5 y6) (tS A M K (S ++ [x])) = exB gl cf [.ite (.cmp .notin (.var 5) (.var 2)) ltC []] (tΓ N w A M v3 (pv x) y6) (tS A M K S) := by
  have e := evE_popR (gl := gl) (cf := cf) (o := .var 4) (Γ := tΓ N w A M v3 y5 y6) (σ := tS A M K (S ++ [x])) (i := A.length + 1 + M.length) (xs := S.map pv) (v := pv x) rfl (by rw [tS_w, List.map_append]; rfl)
  rw [tS_sw] at e
  exact exB_asg e
theorem t_in : evE gl cf (.cmp .notin (.var 5) (.var 2)) (tΓ N w A M v3 (pv x) y6) (tS A M K S) = .ok (.bool (!decide (x ∈ K))) (tS A M K S) := by
  have h : vCmp (tS A M K S) .notin (pv x) (.ref A.length) = some (!decide (x ∈ K)) := by
    show (inCell (pv x) (tS A M K S)[A.length]?).map not = _
    rw [tS_d]
    show ((some (decide (kv x ∈ K.map kv))).map not) = _
    rw [Option.map_some, decide_eq_decide.mpr mem_kv]
  rw [evE_cmp, show evE gl cf (.var 5) (tΓ N w A M v3 (pv x) y6) (tS A M K S) = .ok (pv x) (tS A M K S) from rfl, bind_ok, show evE gl cf (.var 2) (tΓ N w A M v3 (pv x) y6) (tS A M K S) = .ok (.ref A.length) (tS A M K S) from rfl, bind_ok, h]; rfl
theorem tt_put {P : Sp} (hK : K.length < roomy) (hF : N.1.length < roomy) (hx : x ∉ K) (e : N.1[x.1]? = some P) : exB gl cf ltC (tΓ N w A M v3 (pv x) y6) (tS A M K S) = exB gl cf (ltC.drop 2) (tΓ N w A M v3 (pv x) P.v) (tS A M (K ++ [x]) S) := by
  have hs : vStore (tS A M K S) (.ref A.length) (pv x) (.bool true) = some (tS A M (K ++ [x]) S) := by
    show (match (tS A M K S)[A.length]? with | some (.lst xs) => stL _ _ _ xs (pv x) | some (.dictI ks) => stI _ _ ks (pv x) | some (.dictP ks) => stP (tS A M K S) A.length ks (pv x) | _ => none) = _
    rw [tS_d]
    show (if (K.map kv).length < roomy then (some (kv x)).map fun k => (tS A M K S).set A.length (.dictP (if k ∈ K.map kv then K.map kv else K.map kv ++ [k])) else none) = _
    rw [if_pos (by rw [List.length_map]; exact hK), Option.map_some, if_neg fun q => hx (mem_kv.mp q), show K.map kv ++ [kv x] = (K ++ [x]).map kv by rw [List.map_append]; rfl, tS_sd]
  refine (exB_next (Γ' := tΓ N w A M v3 (pv x) y6) (σ' := tS A M (K ++ [x]) S) ?_).trans (exB_asg (v := P.v) (σ' := tS A M (K ++ [x]) S) ?_)
  · rw [exS_sto0, evE_cBool, bind_ok, show evE gl cf (.var 2) (tΓ N w A M v3 (pv x) y6) (tS A M K S) = .ok (.ref A.length) (tS A M K S) from rfl, bind_ok, show evE gl cf (.var 5) (tΓ N w A M v3 (pv x) y6) (tS A M K S) = .ok (pv x) (tS A M K S) from rfl, bind_ok, hs]; rfl
  · show Res.of (vIdx (tS A M (K ++ [x]) S) (.lst (N.1.map Sp.v)) (.int (x.1 : Int))) _ = _
    rw [step_at (k := 0) hF e]; rfl
theorem t_app {e : Ex} {y : Nat × Nat} {P : Sp} (hS : S.length < roomy) (h : evE gl cf e (tΓ N w A M v3 (pv x) P.v) (tS A M K S) = .ok (pv y) (tS A M K S)) : evE gl cf (.app (.var 4) e) (tΓ N w A M v3 (pv x) P.v) (tS A M K S) = .ok .none (tS A M K (S ++ [y])) := by
  have ea := evE_appR (gl := gl) (cf := cf) (o := .var 4) (x := e) (Γ := tΓ N w A M v3 (pv x) P.v) (i := A.length + 1 + M.length) rfl tS_w h tS_w (by rw [List.length_map]; exact hS)
  rw [show S.map pv ++ [pv y] = (S ++ [y]).map pv by rw [List.map_append]; rfl, tS_sw] at ea
  exact ea
noncomputable def tL (gl : List V) (cf : CF) (N : List Sp × Nat) (w : List Nat) (A M : Sg) (v3 y5 y6 : V) (K S : List (Nat × Nat)) : Res (Fl × Fm) := exS gl cf (.while (.var 4) ltB) (tΓ N w A M v3 y5 y6) (tS A M K S)
theorem t_known (h : x ∈ K) : tL gl cf N w A M v3 y5 y6 K (S ++ [x]) = tL gl cf N w A M v3 (pv x) y6 K S :=
  while_stepT rfl t_true (t_pop.trans ((exB_skip (v := .bool false) (t_in.trans (by rw [decide_eq_true h]; rfl)) rfl).trans exB_nil0))
theorem t_new {P : Sp} {r : Res (Fl × Fm)} (hK : K.length < roomy) (hF : N.1.length < roomy) (hx : x ∉ K) (e : N.1[x.1]? = some P) (h : exB gl cf (ltC.drop 2) (tΓ N w A M v3 (pv x) P.v) (tS A M (K ++ [x]) S) = r) : exB gl cf ltB (tΓ N w A M v3 y5 y6) (tS A M K (S ++ [x])) = r :=
  t_pop.trans (exB_ret_into (v := .bool true) (t_in.trans (by rw [decide_eq_false hx]; rfl)) rfl ((tt_put hK hF hx e).trans h))

theorem lost_go (Q : Seek N.1 w) (h : Lost N.1 w D x D') : ∀ {K g S : List (Nat × Nat)} {y5 y6 : V}, KOk N.1 w K D g → WayOk N.1 w g x → S.length ≤ g.length → ∃ K' z5 z6, KOk N.1 w K' D' g ∧ tL gl cf N w A M v3 y5 y6 K (S ++ [x]) = tL gl cf N w A M v3 z5 z6 K' S := by
  induction h with
  | known hm =>
    intro K g S y5 y6 hK hW hS
    exact ⟨K, _, _, hK, t_known ((hK.mem _).mpr (.inl hm))⟩
  | stuck hn e hh =>
    rename_i D n m a b s
    intro K g S y5 y6 hK hW hS
    refine ⟨K ++ [(n, a)], pv (n, a), (Sp.take b s m).v, (hK.put hW hn).done hn, while_stepT rfl t_true (t_new (hK.room Q) Q.hF (hK.not hW hn) e ?_)⟩
    have hc := hit_evE (gl := gl) (cf := cf) (σ := tS A M (K ++ [(n, a)]) S) (Γ := tΓ N w A M v3 (pv (n, a)) (Sp.take b s m).v) (ea := .idx (.var 5) (.cInt 1)) (e2 := .idx (.var 6) (.cInt 2)) (e1 := .idx (.var 6) (.cInt 1)) (i1 := 1) Q.len rfl rfl rfl rfl
    rw [hh] at hc
    exact (exB_skip (v := .bool false) rfl rfl).trans (exB_ret_else (v := .bool false) rfl rfl ((exB_skip hc rfl).trans exB_nil0))
  | take hn e hh hf ih =>
    rename_i D D' n m a b s
    intro K g S y5 y6 hK hW hS
    obtain ⟨K', z5, z6, hK', ih⟩ := ih (S := S) (y5 := pv (n, a)) (y6 := (Sp.take b s m).v) (hK.put hW hn) (hW.step Q (.take e hh)) (by rw [List.length_append]; (first | lia | omega))
    refine ⟨K', z5, z6, hK'.done (hf.fresh Q (.take e hh) (below_at Q.wf e) hW.hx.1 hn), (while_stepT rfl t_true (t_new (hK.room Q) Q.hF (hK.not hW hn) e ?_)).trans ih⟩
    have hc := hit_evE (gl := gl) (cf := cf) (σ := tS A M (K ++ [(n, a)]) S) (Γ := tΓ N w A M v3 (pv (n, a)) (Sp.take b s m).v) (ea := .idx (.var 5) (.cInt 1)) (e2 := .idx (.var 6) (.cInt 2)) (e1 := .idx (.var 6) (.cInt 1)) (i1 := 1) Q.len rfl rfl rfl rfl
    rw [hh] at hc
    exact (exB_skip (v := .bool false) rfl rfl).trans (exB_ret_else (v := .bool false) rfl rfl (exB_ret_into hc rfl ((exB_expr (t_app (y := (m, a + 1)) (Nat.lt_of_le_of_lt hS (hW.len Q)) rfl)).trans exB_nil0)))
  | part hn e hf1 hf2 ih1 ih2 =>
    rename_i D D' D'' n u v a
    intro K g S y5 y6 hK hW hS
    have hW1 := hW.step Q (.left e)
    obtain ⟨K', z5, z6, hK', ih1⟩ := ih1 (S := S ++ [(v, a)]) (y5 := pv (n, a)) (y6 := (Sp.part u v).v) (hK.put hW hn) hW1 (by rw [List.length_append, List.length_append]; exact Nat.succ_le_succ hS)
    obtain ⟨K'', z5', z6', hK'', ih2⟩ := ih2 (S := S) (y5 := z5) (y6 := z6) hK' (hW.step Q (.right e)) (by rw [List.length_append]; (first | lia | omega))
    have hb := below_at Q.wf e
    refine ⟨K'', z5', z6', hK''.done (hf2.fresh Q (.right e) hb.2 hW.hx.1 (hf1.fresh Q (.left e) hb.1 hW.hx.1 hn)), (while_stepT rfl t_true (t_new (hK.room Q) Q.hF (hK.not hW hn) e ?_)).trans (ih1.trans ih2)⟩
    have hl := hW1.len Q
    rw [List.length_append] at hl
    exact (exB_skip (v := .bool false) rfl rfl).trans (exB_ret_into (v := .bool true) rfl rfl ((exB_expr (t_app (y := (v, a)) (Nat.lt_of_le_of_lt hS (hW.len Q)) rfl)).trans ((exB_expr (t_app (y := (u, a)) (by rw [List.length_append]; simp only [List.length_cons, List.length_nil] at *; (first | lia | omega)) rfl)).trans exB_nil0)))

theorem won_go (Q : Seek N.1 w) {p : List (Nat × Nat)} (h : Sc N.1 w D x D' p) : ∀ {K g S : List (Nat × Nat)} {y5 y6 : V}, KOk N.1 w K D g → WayOk N.1 w g x → S.length ≤ g.length → ∃ Γ' σ', tL gl cf N w A M v3 y5 y6 K (S ++ [x]) = .ok (.ret (.int ((D'.length + g.length + p.length : Nat) : Int)), Γ') σ' := by
  induction h with
  | fin hn e =>
    rename_i D n a
    intro K g S y5 y6 hK hW hS
    refine ⟨_, _, while_retT rfl t_true (t_new (hK.room Q) Q.hF (hK.not hW hn) e (exB_take (v := .bool true) rfl rfl (exB_rets (σ' := tS A M (K ++ [(n, a)]) S) ?_)))⟩
    have hl : vBi (tS A M (K ++ [(n, a)]) S) .len [.ref A.length] = some (.int ((K ++ [(n, a)]).length : Int)) := by
      show (match (tS A M (K ++ [(n, a)]) S)[A.length]? with | some (.lst xs) => some xs.length | some (.dictI ks) => some ks.length | some (.dictP ks) => some ks.length | _ => none).map (fun (n : Nat) => V.int (Int.ofNat n)) = _
      rw [tS_d]
      show some (V.int (((K ++ [(n, a)]).map kv).length : Int)) = _
      rw [List.length_map]
    rw [evE_bi, evEs_cons, show evE gl cf (.var 2) (tΓ N w A M v3 (pv (n, a)) Sp.fin.v) (tS A M (K ++ [(n, a)]) S) = .ok (.ref A.length) (tS A M (K ++ [(n, a)]) S) from rfl, bind_ok, evEs_nil, bind_ok, bind_ok, hl, List.length_append, hK.len]; rfl
  | take hn e hh hs ih =>
    rename_i D D' p n m a b s
    intro K g S y5 y6 hK hW hS
    obtain ⟨Γ', σ', ih⟩ := ih (S := S) (y5 := pv (n, a)) (y6 := (Sp.take b s m).v) (hK.put hW hn) (hW.step Q (.take e hh)) (by rw [List.length_append]; (first | lia | omega))
    refine ⟨Γ', σ', (while_stepT rfl t_true (t_new (hK.room Q) Q.hF (hK.not hW hn) e ?_)).trans (ih.trans (by rw [show D'.length + (g ++ [(n, a)]).length + p.length = D'.length + g.length + ((n, a) :: p).length by simp only [List.length_append, List.length_cons, List.length_nil]; (first | lia | omega)]))⟩
    have hc := hit_evE (gl := gl) (cf := cf) (σ := tS A M (K ++ [(n, a)]) S) (Γ := tΓ N w A M v3 (pv (n, a)) (Sp.take b s m).v) (ea := .idx (.var 5) (.cInt 1)) (e2 := .idx (.var 6) (.cInt 2)) (e1 := .idx (.var 6) (.cInt 1)) (i1 := 1) Q.len rfl rfl rfl rfl
    rw [hh] at hc
    exact (exB_skip (v := .bool false) rfl rfl).trans (exB_ret_else (v := .bool false) rfl rfl (exB_ret_into hc rfl ((exB_expr (t_app (y := (m, a + 1)) (Nat.lt_of_le_of_lt hS (hW.len Q)) rfl)).trans exB_nil0)))
  | left hn e hs ih =>
    rename_i D D' p n u v a
    intro K g S y5 y6 hK hW hS
    have hW1 := hW.step Q (.left e)
    obtain ⟨Γ', σ', ih⟩ := ih (S := S ++ [(v, a)]) (y5 := pv (n, a)) (y6 := (Sp.part u v).v) (hK.put hW hn) hW1 (by rw [List.length_append, List.length_append]; exact Nat.succ_le_succ hS)
    have hl := hW1.len Q
    rw [List.length_append] at hl
    refine ⟨Γ', σ', (while_stepT rfl t_true (t_new (hK.room Q) Q.hF (hK.not hW hn) e ?_)).trans (ih.trans (by rw [show D'.length + (g ++ [(n, a)]).length + p.length = D'.length + g.length + ((n, a) :: p).length by simp only [List.length_append, List.length_cons, List.length_nil]; (first | lia | omega)]))⟩
    exact (exB_skip (v := .bool false) rfl rfl).trans (exB_ret_into (v := .bool true) rfl rfl ((exB_expr (t_app (y := (v, a)) (Nat.lt_of_le_of_lt hS (hW.len Q)) rfl)).trans ((exB_expr (t_app (y := (u, a)) (by rw [List.length_append]; simp only [List.length_cons, List.length_nil] at *; (first | lia | omega)) rfl)).trans exB_nil0)))
  | right hn e hf hs ih =>
    rename_i D D' D'' p n u v a
    intro K g S y5 y6 hK hW hS
    have hW1 := hW.step Q (.left e)
    obtain ⟨K', z5, z6, hK', ih1⟩ := lost_go (gl := gl) (cf := cf) (A := A) (M := M) (v3 := v3) Q hf (S := S ++ [(v, a)]) (y5 := pv (n, a)) (y6 := (Sp.part u v).v) (hK.put hW hn) hW1 (by rw [List.length_append, List.length_append]; exact Nat.succ_le_succ hS)
    obtain ⟨Γ', σ', ih⟩ := ih (S := S) (y5 := z5) (y6 := z6) hK' (hW.step Q (.right e)) (by rw [List.length_append]; (first | lia | omega))
    have hl := hW1.len Q
    rw [List.length_append] at hl
    refine ⟨Γ', σ', (while_stepT rfl t_true (t_new (hK.room Q) Q.hF (hK.not hW hn) e ?_)).trans (ih1.trans (ih.trans (by rw [show D''.length + (g ++ [(n, a)]).length + p.length = D''.length + g.length + ((n, a) :: p).length by simp only [List.length_append, List.length_cons, List.length_nil]; (first | lia | omega)])))⟩
    exact (exB_skip (v := .bool false) rfl rfl).trans (exB_ret_into (v := .bool true) rfl rfl ((exB_expr (t_app (y := (v, a)) (Nat.lt_of_le_of_lt hS (hW.len Q)) rfl)).trans ((exB_expr (t_app (y := (u, a)) (by rw [List.length_append]; simp only [List.length_cons, List.length_nil] at *; (first | lia | omega)) rfl)).trans exB_nil0)))
end
end Mine

namespace Mine
section
variable {gl : List V} {cf : CF} {σ σ' : Sg} {P : List Def} {d : Nat} {A : Sg} {N : List Sp × Nat} {w : List Nat}
noncomputable def ltF : List St := [.asg 4 (.lst true [(.tup [(.idx (.var 0) (.cInt 0)), (.var 3)])]), .while (.var 4) ltB]
theorem lt_loop (Q : Seek N.1 w) (hN : N.2 < N.1.length) {D : List (Nat × Nat)} {ps : List Nat} {r : Nat} (h : Tried N.1 w N.2 D ps r) : ∀ {K : List (Nat × Nat)} {M : Sg} {y3 y4 y5 y6 : V}, KOk N.1 w K D [] → (∀ p ∈ ps, p ≤ w.length) →
    (∃ Γ' σ', forGo (exB gl cf ltF) 3 (ps.map iv) [netV N, .str w, .ref A.length, y3, y4, y5, y6] (A ++ .dictP (K.map kv) :: M) = .ok (.ret (.int (r : Int)), Γ') σ') ∨
    (∃ (K' : List (Nat × Nat)) (M' : Sg) (z3 z4 z5 z6 : V), forGo (exB gl cf ltF) 3 (ps.map iv) [netV N, .str w, .ref A.length, y3, y4, y5, y6] (A ++ .dictP (K.map kv) :: M) = .ok (.next, [netV N, .str w, .ref A.length, z3, z4, z5, z6]) (A ++ .dictP (K'.map kv) :: M') ∧ K'.length = r) := by
  have first : ∀ {K : List (Nat × Nat)} {M : Sg} {y4 y5 y6 : V} {p : Nat} {q : Res (Fl × Fm)}, tL gl cf N w A M (.int (p : Int)) y5 y6 K ([] ++ [(N.2, p)]) = q → exB gl cf ltF [netV N, .str w, .ref A.length, .int (p : Int), y4, y5, y6] (A ++ .dictP (K.map kv) :: M) = q.bind fun p σ => match p.1 with | .next => .ok (.next, p.2) σ | .ret v => .ok (.ret v, p.2) σ := fun {K M y4 y5 y6 p q} hq => by
    have hl : (A ++ Cell.dictP (K.map kv) :: M).length = A.length + 1 + M.length := by rw [List.length_append, List.length_cons]; (first | lia | omega)
    refine (exB_asg (v := .ref (A.length + 1 + M.length)) (σ' := tS A M K ([] ++ [(N.2, p)])) ?_).trans ?_
    · rw [← hl]
      show Res.ok (V.ref (A ++ Cell.dictP (K.map kv) :: M).length) ((A ++ Cell.dictP (K.map kv) :: M) ++ [.lst [pv (N.2, p)]]) = _
      rw [List.append_assoc]; rfl
    · show exB gl cf [.while (.var 4) ltB] (tΓ N w A M (.int (p : Int)) y5 y6) (tS A M K ([] ++ [(N.2, p)])) = _
      rw [exB_cons0, show exS gl cf (.while (.var 4) ltB) (tΓ N w A M (.int (p : Int)) y5 y6) (tS A M K ([] ++ [(N.2, p)])) = q from hq]; rfl
  induction h with
  | nil =>
    intro K M y3 y4 y5 y6 hK _
    exact .inr ⟨K, M, y3, y4, y5, y6, rfl, by rw [hK.len]; rfl⟩
  | fail hf _ ih =>
    rename_i D D' p ps r _
    intro K M y3 y4 y5 y6 hK hp
    obtain ⟨K', z5, z6, hK', e⟩ := lost_go (gl := gl) (cf := cf) (A := A) (M := M) (v3 := .int (p : Int)) Q hf (S := []) (y5 := y5) (y6 := y6) hK (.nil ⟨hN, Nat.lt_succ_of_le (hp p List.mem_cons_self)⟩) (Nat.le_refl _)
    have e0 : tL gl cf N w A M (.int (p : Int)) z5 z6 K' [] = .ok (.next, tΓ N w A M (.int (p : Int)) z5 z6) (tS A M K' []) := by
      refine while_endT (v := .ref (A.length + 1 + M.length)) rfl ?_
      show (match (tS A M K' [])[A.length + 1 + M.length]? with | some (.lst xs) => some (!xs.isEmpty) | _ => none) = _
      rw [tS_w]; rfl
    have st : ∀ {l : List V}, forGo (exB gl cf ltF) 3 (.int (p : Int) :: l) [netV N, .str w, .ref A.length, y3, y4, y5, y6] (A ++ .dictP (K.map kv) :: M) = forGo (exB gl cf ltF) 3 l (tΓ N w A M (.int (p : Int)) z5 z6) (A ++ .dictP (K'.map kv) :: (M ++ [.lst []])) := fun {l} => forGo_next ((first (e.trans e0)).trans rfl)
    rcases ih (K := K') (M := M ++ [.lst []]) (y3 := .int (p : Int)) (y4 := .ref (A.length + 1 + M.length)) (y5 := z5) (y6 := z6) hK' (fun q hq => hp q (List.mem_cons_of_mem _ hq)) with ⟨Γ', σ', h⟩ | ⟨K'', M', a3, a4, a5, a6, h, hr⟩
    · exact .inl ⟨Γ', σ', st.trans h⟩
    · exact .inr ⟨K'', M', a3, a4, a5, a6, st.trans h, hr⟩
  | ok hs =>
    rename_i D D' q p ps
    intro K M y3 y4 y5 y6 hK hp
    obtain ⟨Γ', σ', e⟩ := won_go (gl := gl) (cf := cf) (A := A) (M := M) (v3 := .int (p : Int)) Q hs (S := []) (y5 := y5) (y6 := y6) hK (.nil ⟨hN, Nat.lt_succ_of_le (hp p List.mem_cons_self)⟩) (Nat.le_refl _)
    exact .inl ⟨Γ', σ', forGo_ret ((first e).trans rfl)⟩
theorem call_l_tried (h95 : P[95]? = some d_l_tried) (Q : Seek N.1 w) (hN : N.2 < N.1.length) {r : Nat} (h : Tried N.1 w N.2 [] (List.range (w.length + 1)) r) (σ : Sg) : ∃ σ', callF gl P (d + 1) 95 [netV N, .str w] σ = .ok (.int (r : Int)) σ' := by
  have hk0 : KOk N.1 w [] [] [] := ⟨List.nodup_nil, fun y hy => (List.not_mem_nil hy).elim, rfl, fun y => by simp⟩
  have hw := Q.len
  rcases lt_loop (gl := gl) (cf := callF gl P d) (A := σ) Q hN h (K := []) (M := []) (y3 := .undef) (y4 := .undef) (y5 := .undef) (y6 := .undef) hk0 (fun p hp => Nat.le_of_lt_succ (List.mem_range.mp hp)) with ⟨Γ', σ', e⟩ | ⟨K', M', z3, z4, z5, z6, e, hr⟩
  · exact ⟨σ', callF_ret (D := d_l_tried) (Γ' := Γ') h95 rfl ((exB_asg (v := .ref σ.length) (σ' := σ ++ [.dictP []]) rfl).trans (exB_ret ((exS_for (x := .int ((w.length + 1 : Nat) : Int)) rfl evE_cNone (items_rng (by (first | lia | omega)))).trans e)))⟩
  · refine ⟨_, callF_ret (D := d_l_tried) (σ' := σ ++ .dictP (K'.map kv) :: M') h95 rfl ((exB_asg (v := .ref σ.length) (σ' := σ ++ [.dictP []]) rfl).trans ((exB_next ((exS_for (x := .int ((w.length + 1 : Nat) : Int)) rfl evE_cNone (items_rng (by (first | lia | omega)))).trans e)).trans (exB_rets ?_)))⟩
    have hl : vBi (σ ++ .dictP (K'.map kv) :: M') .len [.ref σ.length] = some (.int (r : Int)) := by
      show (match (σ ++ Cell.dictP (K'.map kv) :: M')[σ.length]? with | some (.lst xs) => some xs.length | some (.dictI ks) => some ks.length | some (.dictP ks) => some ks.length | _ => none).map (fun (n : Nat) => V.int (Int.ofNat n)) = _
      rw [at_get]
      show some (V.int ((K'.map kv).length : Int)) = _
      rw [List.length_map, hr]
    show Res.of (vBi (σ ++ .dictP (K'.map kv) :: M') .len [.ref σ.length]) _ = _
    rw [hl]; rfl

noncomputable def tcB : List St := [.asg 4 (.call 45 [(.var 0), (.var 1), (.var 3), (.var 2)]),
      .ite (.cmp .isnot (.var 4) .cNone)
        [.ret (.bin .add (.bi .len [(.var 2)]) (.bi .len [(.var 4)]))]
        []]
theorem tc_loop (H : HG P) (G : Good N) (Q : Seek N.1 w) : ∀ (ps : List Nat) {D : List (Nat × Nat)} {M : Sg} {y3 y4 : V}, DeadOk N.1 w D → (∀ p ∈ ps, p ≤ w.length) → ∃ r, Tried N.1 w N.2 D ps r ∧ r ≤ N.1.length * (w.length + 1) ∧
    ((∃ Γ' σ', forGo (exB gl (callF gl P (d + 3)) tcB) 3 (ps.map iv) [netV N, .str w, .ref A.length, y3, y4] (A ++ .dictP (D.map kv) :: M) = .ok (.ret (.int (r : Int)), Γ') σ') ∨
    (∃ (D' : List (Nat × Nat)) (M' : Sg) (z3 z4 : V), forGo (exB gl (callF gl P (d + 3)) tcB) 3 (ps.map iv) [netV N, .str w, .ref A.length, y3, y4] (A ++ .dictP (D.map kv) :: M) = .ok (.next, [netV N, .str w, .ref A.length, z3, z4]) (A ++ .dictP (D'.map kv) :: M') ∧ D'.length = r))
  | [], D, M, y3, y4, hD, _ => ⟨D.length, .nil, pairs_bound hD.nd hD.bd, .inr ⟨D, M, y3, y4, rfl, rfl⟩⟩
  | p :: ps, D, M, y3, y4, hD, hp => by
    have hp1 := Nat.lt_succ_of_le (hp p List.mem_cons_self)
    have c45 : ∀ {v : V} {σ' : Sg} {y4 : V}, callF gl P (d + 3) 45 [netV N, .str w, .int (p : Int), .ref A.length] (A ++ .dictP (D.map kv) :: M) = .ok v σ' → evE gl (callF gl P (d + 3)) (.call 45 [(.var 0), (.var 1), (.var 3), (.var 2)]) [netV N, .str w, .ref A.length, .int (p : Int), y4] (A ++ .dictP (D.map kv) :: M) = .ok v σ' := fun h => h
    rcases call_gone (gl := gl) (d := d) (A := A) (M := M) (D := D) H G Q hp1 hD with ⟨q, D', C', y, ⟨hD', hs⟩, h⟩ | ⟨D', C', n, ⟨hD', hf⟩, h⟩
    · refine ⟨D'.length + q.length, .ok hs, ?_, .inl ⟨_, gS A M D' q C', forGo_ret (x := .int (p : Int)) ((exB_asg (c45 h)).trans (exB_take (v := .bool true) rfl rfl (exB_rets ?_)))⟩⟩
      · rw [← List.length_append]
        refine pairs_bound (List.nodup_append.mpr ⟨hD'.nd, y.nodup, fun a ha b hb e => ?_⟩) fun x hx => ?_
        · obtain ⟨_, _, yb⟩ := y.suf hb
          exact (hD'.no a ha).not (e ▸ yb)
        · rcases List.mem_append.mp hx with r | r
          · exact hD'.bd x r
          · have := y.lt (Nat.le_of_lt_succ hp1) x r
            exact ⟨this.1, Nat.lt_succ_of_le this.2⟩
      · have l2 : vBi (gS A M D' q C') .len [.ref A.length] = some (.int (D'.length : Int)) := by
          show (match (gS A M D' q C')[A.length]? with | some (.lst xs) => some xs.length | some (.dictI ks) => some ks.length | some (.dictP ks) => some ks.length | _ => none).map (fun (n : Nat) => V.int (Int.ofNat n)) = _
          rw [gS_d]
          show some (V.int ((D'.map kv).length : Int)) = _
          rw [List.length_map]
        show evE gl (callF gl P (d + 3)) (.bin .add (.bi .len [(.var 2)]) (.bi .len [(.var 4)])) [netV N, .str w, .ref A.length, .int (p : Int), .ref (A.length + 1 + M.length)] (gS A M D' q C') = _
        rw [evE_bin, show evE gl (callF gl P (d + 3)) (.bi .len [(.var 2)]) [netV N, .str w, .ref A.length, .int (p : Int), .ref (A.length + 1 + M.length)] (gS A M D' q C') = Res.of (vBi (gS A M D' q C') .len [.ref A.length]) (gS A M D' q C') from rfl, l2, of_some, bind_ok, show evE gl (callF gl P (d + 3)) (.bi .len [(.var 4)]) [netV N, .str w, .ref A.length, .int (p : Int), .ref (A.length + 1 + M.length)] (gS A M D' q C') = Res.of (vBi (gS A M D' q C') .len [.ref (A.length + 1 + M.length)]) (gS A M D' q C') from rfl, len_w, of_some, bind_ok, vBin_add]; rfl
    · obtain ⟨r, ht, hr, ih⟩ := tc_loop H G Q ps (D := D') (M := M ++ [.lst [], .lst (C'.map iv)]) (y3 := .int (p : Int)) (y4 := .none) hD' (fun q hq => hp q (List.mem_cons_of_mem _ hq))
      have st : ∀ {l : List V}, forGo (exB gl (callF gl P (d + 3)) tcB) 3 (.int (p : Int) :: l) [netV N, .str w, .ref A.length, y3, y4] (A ++ .dictP (D.map kv) :: M) = forGo (exB gl (callF gl P (d + 3)) tcB) 3 l [netV N, .str w, .ref A.length, .int (p : Int), .none] (A ++ .dictP (D'.map kv) :: (M ++ [.lst [], .lst (C'.map iv)])) := fun {l} => forGo_next ((exB_asg (c45 h)).trans ((exB_skip (v := .bool false) rfl rfl).trans exB_nil0))
      refine ⟨r, .fail hf ht, hr, ih.imp (fun ⟨Γ', σ', e⟩ => ⟨Γ', σ', st.trans e⟩) fun ⟨D'', M', z3, z4, e, hl⟩ => ⟨D'', M', z3, z4, st.trans e, hl⟩⟩
theorem call_tried_count (H : HG P) (h93 : P[93]? = some d_tried_count) (G : Good N) (Q : Seek N.1 w) (σ : Sg) : ∃ r σ', Tried N.1 w N.2 [] (List.range (w.length + 1)) r ∧ r ≤ N.1.length * (w.length + 1) ∧ callF gl P (d + 4) 93 [netV N, .str w] σ = .ok (.int (r : Int)) σ' := by
  have hw := Q.len
  obtain ⟨r, ht, hr, h⟩ := tc_loop (gl := gl) (d := d) (A := σ) H G Q (List.range (w.length + 1)) (D := []) (M := []) (y3 := .undef) (y4 := .undef) .nil (fun p hp => Nat.le_of_lt_succ (List.mem_range.mp hp))
  rcases h with ⟨Γ', σ', e⟩ | ⟨D', M', z3, z4, e, hl⟩
  · exact ⟨r, σ', ht, hr, callF_ret (D := d_tried_count) (Γ' := Γ') h93 rfl ((exB_asg (v := .ref σ.length) (σ' := σ ++ [.dictP []]) rfl).trans (exB_ret ((exS_for (x := .int ((w.length + 1 : Nat) : Int)) rfl evE_cNone (items_rng (by (first | lia | omega)))).trans e)))⟩
  · refine ⟨r, _, ht, hr, callF_ret (D := d_tried_count) (σ' := σ ++ .dictP (D'.map kv) :: M') h93 rfl ((exB_asg (v := .ref σ.length) (σ' := σ ++ [.dictP []]) rfl).trans ((exB_next ((exS_for (x := .int ((w.length + 1 : Nat) : Int)) rfl evE_cNone (items_rng (by (first | lia | omega)))).trans e)).trans (exB_rets ?_)))⟩
    have hl' : vBi (σ ++ .dictP (D'.map kv) :: M') .len [.ref σ.length] = some (.int (r : Int)) := by
      show (match (σ ++ Cell.dictP (D'.map kv) :: M')[σ.length]? with | some (.lst xs) => some xs.length | some (.dictI ks) => some ks.length | some (.dictP ks) => some ks.length | _ => none).map (fun (n : Nat) => V.int (Int.ofNat n)) = _
      rw [at_get]
      show some (V.int ((D'.map kv).length : Int)) = _
      rw [List.length_map, hl]
    show Res.of (vBi (σ ++ .dictP (D'.map kv) :: M') .len [.ref σ.length]) _ = _
    rw [hl']; rfl
end
end Mine

namespace Mine
section
variable {F : List Sp} {w : List Nat} {n0 k c : Nat}
theorem vis_beg {b : Nat} : ∀ (k : Nat) (R : Row) (n : Nat), ∀ x ∈ (vis F b k R n).1, x ∈ R ∨ x.2 = b
  | 0, R, n, x, hx => .inl hx
  | k + 1, R, n, x, hx => by
    have one : ∀ {x : Nat × Nat}, x ∈ R ++ [(n, b)] → x ∈ R ∨ x.2 = b := fun {x} h => (List.mem_append.mp h).imp id fun q => by rw [List.mem_singleton.mp q]
    rw [vis] at hx
    split at hx
    · exact .inl hx
    · split at hx
      · exact one hx
      · split at hx
        · exact (vis_beg k _ _ x hx).elim one .inr
        · exact (vis_beg k _ _ x hx).elim (fun h => (vis_beg k _ _ x h).elim one .inr) .inr
      · exact one hx
theorem nrows_beg {q : Nat} : ∀ (A R : Row), (∀ x ∈ A, x.2 ≤ q) → (∀ x ∈ R, x.2 ≤ q) → ∀ x ∈ (nrows F k c A R).1, x.2 ≤ q
  | [], R, _, hR, x, hx => hR x hx
  | y :: A, R, hA, hR, x, hx => by
    have hv : ∀ {m : Nat}, ∀ x ∈ (vis F y.2 k R m).1, x.2 ≤ q := fun {m} x hx => (vis_beg k R m x hx).elim (hR x) fun e => by rw [e]; exact hA y List.mem_cons_self
    have hA' : ∀ x ∈ A, x.2 ≤ q := fun x hx => hA x (List.mem_cons_of_mem _ hx)
    rw [nrows] at hx
    split at hx
    · split at hx
      · split at hx
        · exact hv x hx
        · exact nrows_beg A _ hA' hv x hx
      · exact nrows_beg A R hA' hR x hx
    · exact nrows_beg A R hA' hR x hx
theorem nrow_beg {Ah : Row} {fr : Bool} {pl : Nat} (hA : ∀ x ∈ Ah, x.2 ≤ pl) : ∀ x ∈ (nrow F n0 k c Ah fr pl).1, x.2 ≤ pl := fun x hx => by
  have h := nrows_beg (F := F) (k := k) (c := c) (q := pl) Ah [] hA (fun x hx => (List.not_mem_nil hx).elim)
  rw [nrow, nfresh] at hx
  split at hx
  · exact h x hx
  · split at hx
    · exact (vis_beg k _ _ x hx).elim (h x) fun e => Nat.le_of_eq e
    · exact h x hx

/-- the rows, one for each place -/
noncomputable def RowsOk (F : List Sp) : Nat → List Row → Prop
  | _, [] => True
  | p, R :: Rs => (RowOk F R ∧ ∀ x ∈ R, x.2 ≤ p) ∧ RowsOk F (p + 1) Rs
theorem swp_rows (wf : Wf F) (hn : n0 < F.length) : ∀ (m s : Nat) (Ah : Row) (no : Option (Nat × Nat)), (∀ x ∈ Ah, x.1 < F.length) → (∀ x ∈ Ah, x.2 ≤ s) → RowsOk F s (swp F n0 k w (List.range' s m) Ah no).1
  | 0, s, Ah, no, _, _ => trivial
  | m + 1, s, Ah, no, h1, h2 => by
    rw [List.range'_succ, swp]
    have ok := nrow_ok (k := k) (c := w.getD (s - 1) 0) (pl := s) wf hn h1 (fresh := no.isNone)
    have bg := nrow_beg (F := F) (n0 := n0) (k := k) (c := w.getD (s - 1) 0) (fr := no.isNone) h2
    exact ⟨⟨ok.ok, bg⟩, swp_rows wf hn m (s + 1) _ _ ok.ok.lt fun x hx => Nat.le_succ_of_le (bg x hx)⟩
theorem RowsOk.at {F : List Sp} : ∀ {Rs : List Row} {p i : Nat} {R : Row}, RowsOk F p Rs → Rs[i]? = some R → RowOk F R ∧ ∀ x ∈ R, x.2 ≤ p + i
  | [], p, i, R, _, h => by cases h
  | S :: Rs, p, 0, R, ok, h => by cases h; exact ok.1
  | S :: Rs, p, i + 1, R, ok, h => by
    have := ok.2.at (i := i) h
    rw [Nat.add_right_comm] at this
    exact this
theorem cntR_le {F : List Sp} : ∀ {Rs : List Row} {p : Nat}, RowsOk F p Rs → cntR Rs ≤ ((F.length * Rs.length : Nat) : Int)
  | [], p, _ => by simp [cntR]
  | R :: Rs, p, ok => by
    have h1 := cntR_le ok.2
    have h2 := ok.1.1.len
    rw [cntR, List.map_cons, List.sum_cons, List.length_cons, Nat.mul_succ]
    rw [cntR] at h1
    (first | lia | omega)
end
section
variable {gl : List V} {cf : CF} {σ σ' : Sg} {P : List Def} {d : Nat} {n p : Nat}
noncomputable def rqB : List St := [.ite (.or (.not (.call 71 [(.var 4)])) (.or (.cmp .isin (.idx (.var 4) (.cInt 0)) (.var 3)) (.or (.not (.cmp2 .le .lt (.cInt 0) (.idx (.var 4) (.cInt 0)) (.var 1))) (.not (.cmp2 .le .le (.cInt 0) (.idx (.var 4) (.cInt 1)) (.var 2))))))
        [.ret (.cBool false)]
        [],
      .sto (.var 3) (.idx (.var 4) (.cInt 0)) (.cBool true)]
theorem rq_loop (Hw : P[9]? = some d_l_whole) (Hp : P[71]? = some d_l_pair) {v0 : V} : ∀ (R2 R1 : Row) (y4 : V), ((R1 ++ R2).map (·.1)).Nodup → (∀ x ∈ R2, x.1 < n ∧ x.2 ≤ p) → R1.length + R2.length < roomy →
    ∃ z4, forGo (exB gl (callF gl P (d + 2)) rqB) 4 (R2.map pv) [v0, .int (n : Int), .int (p : Int), .ref σ.length, y4] (σ ++ [.dictI (R1.map ki)]) = .ok (.next, [v0, .int (n : Int), .int (p : Int), .ref σ.length, z4]) (σ ++ [.dictI ((R1 ++ R2).map ki)])
  | [], R1, y4, _, _, _ => ⟨y4, by rw [List.append_nil]; rfl⟩
  | x :: R2, R1, y4, hn, hb, hl => by
    obtain ⟨hx1, hx2⟩ := hb x List.mem_cons_self
    have hm : x.1 ∉ R1.map (·.1) := fun hm => by
      rw [List.map_append, List.map_cons] at hn
      exact (List.nodup_append.mp hn).2.2 _ hm _ List.mem_cons_self rfl
    have v : ∀ {s : Sg}, evE gl (callF gl P (d + 2)) (.idx (.var 4) (.cInt 0)) [v0, .int (n : Int), .int (p : Int), .ref σ.length, pv x] s = .ok (.int (x.1 : Int)) s := fun {s} => rfl
    have v' : ∀ {s : Sg}, evE gl (callF gl P (d + 2)) (.idx (.var 4) (.cInt 1)) [v0, .int (n : Int), .int (p : Int), .ref σ.length, pv x] s = .ok (.int (x.2 : Int)) s := fun {s} => rfl
    have c : evE gl (callF gl P (d + 2)) (.or (.not (.call 71 [(.var 4)])) (.or (.cmp .isin (.idx (.var 4) (.cInt 0)) (.var 3)) (.or (.not (.cmp2 .le .lt (.cInt 0) (.idx (.var 4) (.cInt 0)) (.var 1))) (.not (.cmp2 .le .le (.cInt 0) (.idx (.var 4) (.cInt 1)) (.var 2)))))) [v0, .int (n : Int), .int (p : Int), .ref σ.length, pv x] (σ ++ [.dictI (R1.map ki)]) = .ok (.bool false) (σ ++ [.dictI (R1.map ki)]) := by
      refine or_bb (p := false) (q := false) ?_ fun _ => or_bb (p := false) (q := false) ?_ fun _ => or_bb (p := false) (q := false) ?_ fun _ => ?_
      · have h : evE gl (callF gl P (d + 2)) (.call 71 [(.var 4)]) [v0, .int (n : Int), .int (p : Int), .ref σ.length, pv x] (σ ++ [.dictI (R1.map ki)]) = .ok (.bool true) (σ ++ [.dictI (R1.map ki)]) := call_pair (gl := gl) (d := d) Hw Hp
        rw [evE_not, h]; rfl
      · have h : vCmp (σ ++ [.dictI (R1.map ki)]) .isin (.int (x.1 : Int)) (.ref σ.length) = some false := by
          show inCell (.int (x.1 : Int)) (σ ++ [Cell.dictI (R1.map ki)])[σ.length]? = _
          rw [at_get]
          show some (decide ((x.1 : Int) ∈ R1.map ki)) = _
          rw [decide_eq_false fun q => hm (mem_ki.mp q)]
        rw [evE_cmp, v, bind_ok, show evE gl (callF gl P (d + 2)) (.var 3) [v0, .int (n : Int), .int (p : Int), .ref σ.length, pv x] (σ ++ [.dictI (R1.map ki)]) = .ok (.ref σ.length) (σ ++ [.dictI (R1.map ki)]) from rfl, bind_ok, h]; rfl
      · rw [evE_not, evE_cmp2, evE_cInt, bind_ok, v, bind_ok, le_ii, of_some, bind_ok, decide_eq_true (by (first | lia | omega)), if_pos rfl, show evE gl (callF gl P (d + 2)) (.var 1) [v0, .int (n : Int), .int (p : Int), .ref σ.length, pv x] (σ ++ [.dictI (R1.map ki)]) = .ok (.int (n : Int)) (σ ++ [.dictI (R1.map ki)]) from rfl, bind_ok, lt_ii, decide_eq_true (by (first | lia | omega))]; rfl
      · rw [evE_not, evE_cmp2, evE_cInt, bind_ok, v', bind_ok, le_ii, of_some, bind_ok, decide_eq_true (by (first | lia | omega)), if_pos rfl, show evE gl (callF gl P (d + 2)) (.var 2) [v0, .int (n : Int), .int (p : Int), .ref σ.length, pv x] (σ ++ [.dictI (R1.map ki)]) = .ok (.int (p : Int)) (σ ++ [.dictI (R1.map ki)]) from rfl, bind_ok, le_ii, decide_eq_true (by (first | lia | omega))]; rfl
    have st : exS gl (callF gl P (d + 2)) (.sto (.var 3) (.idx (.var 4) (.cInt 0)) (.cBool true)) [v0, .int (n : Int), .int (p : Int), .ref σ.length, pv x] (σ ++ [.dictI (R1.map ki)]) = .ok (.next, [v0, .int (n : Int), .int (p : Int), .ref σ.length, pv x]) (σ ++ [.dictI ((R1 ++ [x]).map ki)]) := by
      have hs := store_I' (σ := σ ++ [Cell.dictI (R1.map ki)]) (r := σ.length) (ks := R1.map ki) (k := (x.1 : Int)) (x := .bool true) at_get (by rw [List.length_map]; (first | lia | omega))
      rw [if_neg fun q => hm (mem_ki.mp q), show R1.map ki ++ [(x.1 : Int)] = (R1 ++ [x]).map ki by rw [List.map_append]; rfl, show (σ ++ [Cell.dictI (R1.map ki)]).set σ.length (.dictI ((R1 ++ [x]).map ki)) = σ ++ [.dictI ((R1 ++ [x]).map ki)] from at_set] at hs
      rw [exS_sto0, evE_cBool, bind_ok, show evE gl (callF gl P (d + 2)) (.var 3) [v0, .int (n : Int), .int (p : Int), .ref σ.length, pv x] (σ ++ [.dictI (R1.map ki)]) = .ok (.ref σ.length) (σ ++ [.dictI (R1.map ki)]) from rfl, bind_ok, v, bind_ok, hs]; rfl
    rw [List.length_cons] at hl
    obtain ⟨z4, ih⟩ := rq_loop Hw Hp (v0 := v0) R2 (R1 ++ [x]) (pv x) (by rw [List.append_assoc]; exact hn) (fun y hy => hb y (List.mem_cons_of_mem _ hy)) (by rw [List.length_append, List.length_singleton]; (first | lia | omega))
    rw [List.append_assoc] at ih
    exact ⟨z4, (forGo_next (x := pv x) ((exB_skip c rfl).trans ((exB_next st).trans exB_nil0))).trans ih⟩
theorem call_row_right (Hw : P[9]? = some d_l_whole) (Hp : P[71]? = some d_l_pair) (H : P[94]? = some d_l_row_right) {F : List Sp} {R : Row} (hF : F.length < 1000000) (ok : RowOk F R) (hb : ∀ x ∈ R, x.2 ≤ p) : Gv (callF gl P (d + 3) 94 [rowV R, .int (F.length : Int), .int (p : Int)]) (.bool true) := fun σ => by
  have hl := ok.len
  obtain ⟨z4, lp⟩ := rq_loop (gl := gl) (d := d) (σ := σ) (n := F.length) (p := p) Hw Hp (v0 := rowV R) R [] .undef (by rw [List.nil_append]; exact ok.nd) (fun x hx => ⟨ok.lt x hx, hb x hx⟩) (by rw [List.length_nil]; unfold roomy; (first | lia | omega))
  refine ⟨[.dictI (R.map ki)], callF_ret (D := d_l_row_right) H rfl ((exB_asg (v := .ref σ.length) (σ' := σ ++ [.dictI []]) rfl).trans ((exB_skip (v := .bool false) ?_ rfl).trans ((exB_next ((exS_for (items := R.map pv) rfl evE_cNone rfl).trans lp)).trans (exB_rets rfl))))⟩
  refine or_bb (p := false) (q := false) rfl fun _ => ?_
  show Res.ok (V.bool (decide (((R.map pv).length : Int) > (F.length : Int)))) _ = _
  rw [List.length_map, decide_eq_false (by (first | lia | omega))]
end
end Mine

namespace Mine
/-- a made tree of which the law reads the tree and its count -/
noncomputable def made (T : Tree) (b : Bool) (dp : Int) : V := .tup [T.v, .bool b, .int T.cnt, .int dp]
section
variable {gl : List V} {cf : CF} {σ : Sg} {P : List Def} {d : Nat}
theorem made_0 {T : Tree} {b : Bool} {dp : Int} : vIdx σ (made T b dp) (.int 0) = some T.v := idx_t0
theorem made_1 {T : Tree} {b : Bool} {dp : Int} : vIdx σ (made T b dp) (.int 1) = some (.bool b) := idx_t1
theorem made_2 {T : Tree} {b : Bool} {dp : Int} : vIdx σ (made T b dp) (.int 2) = some (.int T.cnt) := idx_t2
theorem made_3 {T : Tree} {b : Bool} {dp : Int} : vIdx σ (made T b dp) (.int 3) = some (.int dp) := idx_t3
theorem chain13 {v0 v1 v2 v4 v5 v6 : V} : ∀ (l : List Nat) (T : Tree) (y7 : V), T.Ok → ∃ (T' : Tree) (z7 : V), forGo (exB gl cf [.asg 3 (.tup [(.cStr [109, 97, 121, 98, 101]), (.var 3), (.cmp .gt (.bin .mod (.var 7) (.cInt 3)) (.cInt 0))])]) 7 (l.map iv) [v0, v1, v2, T.v, v4, v5, v6, y7] σ = .ok (.next, [v0, v1, v2, T'.v, v4, v5, v6, z7]) σ ∧ T'.Ok ∧ T'.dep = T.dep + l.length ∧ T'.cnt = T.cnt + l.length
  | [], T, y7, ok => ⟨T, y7, rfl, ok, rfl, by simp⟩
  | j :: l, T, y7, ok => by
    have hv := getV_t (Γ := [v0, v1, v2, T.v, v4, v5, v6, .int (j : Int)]) (i := 3) (t := T) rfl
    have ho : evE gl cf (.cmp .gt (.bin .mod (.var 7) (.cInt 3)) (.cInt 0)) [v0, v1, v2, T.v, v4, v5, v6, .int (j : Int)] σ = .ok (.bool (decide ((j : Int).fmod 3 > 0))) σ := rfl
    generalize decide ((j : Int).fmod 3 > 0) = b at ho
    have e3 : evE gl cf (.tup [(.cStr [109, 97, 121, 98, 101]), (.var 3), (.cmp .gt (.bin .mod (.var 7) (.cInt 3)) (.cInt 0))]) [v0, v1, v2, T.v, v4, v5, v6, .int (j : Int)] σ = .ok (Tree.maybe T b).v σ := by
      rw [evE_tup, evEs_cons, evE_cStr, bind_ok, evEs_cons, evE_var, hv, of_some, bind_ok, evEs_cons, ho, bind_ok, evEs_nil, bind_ok, bind_ok, bind_ok, bind_ok, tup3, v_maybe]
    have hcn : (Tree.maybe T b).cnt = T.cnt + 1 := by rw [Tree.cnt]
    obtain ⟨T', z7, ih, ok', hd, hc⟩ := chain13 (v0 := v0) (v1 := v1) (v2 := v2) (v4 := v4) (v5 := v5) (v6 := v6) l (.maybe T b) (.int (j : Int)) (by rw [Tree.Ok]; exact ok)
    refine ⟨T', z7, (forGo_next (x := .int (j : Int)) ((exB_asg e3).trans exB_nil0)).trans ih, ok', ?_, ?_⟩
    · rw [hd, dep_maybe, List.length_cons]; (first | lia | omega)
    · rw [hc, hcn, List.length_cons]; (first | lia | omega)
theorem cnts_app13 : ∀ (a b : List Tree), Tree.cnts (a ++ b) = Tree.cnts a + Tree.cnts b
  | [], b => by rw [List.nil_append, Tree.cnts, Int.zero_add]
  | t :: a, b => by rw [List.cons_append, Tree.cnts, Tree.cnts, cnts_app13 a b, Int.add_assoc]
theorem cnts_takes {α : Type} {f : α → List Nat} : ∀ (l : List α), Tree.cnts (l.map fun k => Tree.take true (f k)) = (l.length : Int)
  | [] => by rw [List.map_nil, Tree.cnts]; rfl
  | a :: l => by rw [List.map_cons, Tree.cnts, cnts_takes l, Tree.cnt, List.length_cons]; (first | lia | omega)
theorem deps_le13 {k : Nat} : ∀ {ts : List Tree}, (∀ t ∈ ts, t.dep ≤ k) → Tree.deps ts ≤ k
  | [], _ => by rw [Tree.deps]; exact Nat.zero_le _
  | t :: r, h => by rw [Tree.deps]; exact Nat.max_le.mpr ⟨h t List.mem_cons_self, deps_le13 fun u hu => h u (List.mem_cons_of_mem _ hu)⟩
theorem call_made (H : P[96]? = some d_l_made_by) {s u v : Nat} (hs : s ∈ signs) (hu : u ∈ signs) (hv : v ∈ signs) {T : Tree} (ok : T.Ok) (hd : T.dep ≤ 13) (hc : T.cnt ≤ 62) {b : Bool} {dp c : Int} :
    ∃ (T' : Tree) (b' : Bool) (dp' : Int), callF gl P (d + 1) 96 [.int c, made T b dp, .str [s, u, v]] σ = .ok (made T' b' dp') σ ∧ T'.Ok ∧ T'.dep ≤ 100 ∧ T'.cnt ≤ 2000 := by
  have e3 : evE gl (callF gl P d) (.idx (.var 1) (.cInt 0)) [.int c, made T b dp, .str [s, u, v], .undef, .undef, .undef, .undef, .undef] σ = .ok T.v σ := by
    show Res.of (vIdx σ (made T b dp) (.int 0)) σ = _
    rw [made_0]; rfl
  have c4 : ∀ {y3 y4 y5 y6 y7 : V}, evE gl (callF gl P d) (.cmp .eq (.bin .mod (.var 0) (.cInt 4)) (.cInt 2)) [.int c, made T b dp, .str [s, u, v], y3, y4, y5, y6, y7] σ = .ok (.bool (c.fmod 4 == 2)) σ := fun {y3 y4 y5 y6 y7} => rfl
  have m1 : ∀ {y3 y4 y5 y6 y7 : V}, evE gl (callF gl P d) (.idx (.var 1) (.cInt 1)) [.int c, made T b dp, .str [s, u, v], y3, y4, y5, y6, y7] σ = .ok (.bool b) σ := fun {y3 y4 y5 y6 y7} => by
    show Res.of (vIdx σ (made T b dp) (.int 1)) σ = _
    rw [made_1]; rfl
  have m2 : ∀ {y3 y4 y5 y6 y7 : V}, evE gl (callF gl P d) (.idx (.var 1) (.cInt 2)) [.int c, made T b dp, .str [s, u, v], y3, y4, y5, y6, y7] σ = .ok (.int T.cnt) σ := fun {y3 y4 y5 y6 y7} => by
    show Res.of (vIdx σ (made T b dp) (.int 2)) σ = _
    rw [made_2]; rfl
  have m3 : ∀ {y3 y4 y5 y6 y7 : V}, evE gl (callF gl P d) (.idx (.var 1) (.cInt 3)) [.int c, made T b dp, .str [s, u, v], y3, y4, y5, y6, y7] σ = .ok (.int dp) σ := fun {y3 y4 y5 y6 y7} => by
    show Res.of (vIdx σ (made T b dp) (.int 3)) σ = _
    rw [made_3]; rfl
  by_cases q : c.fmod 4 = 2
  · obtain ⟨n, hn, hn'⟩ := fmod_nat (c.fdiv 4) (b := 1800) (by decide)
    have hg : ∀ k : Nat, ∃ x, x ∈ signs ∧ vIdx σ (.str [s, u, v]) (.int ((k : Int).fmod 3)) = some (.str [x]) := fun k => by
      obtain ⟨j, hj, hj'⟩ := fmod_nat (k : Int) (b := 3) (by decide)
      rw [hj]
      match j, hj' with
      | 0, _ => exact ⟨s, hs, rfl⟩
      | 1, _ => exact ⟨u, hu, rfl⟩
      | 2, _ => exact ⟨v, hv, rfl⟩
    let f : Nat → Nat := fun k => Classical.choose (hg k)
    have hf := fun k => Classical.choose_spec (hg k)
    have e5 : evE gl (callF gl P d) (.comp false (.tup [(.cStr [116, 97, 107, 101]), (.cBool true), (.idx (.var 2) (.bin .mod (.var 8) (.cInt 3)))]) .rng1 (.var 4) .cNone none) [.int c, made T b dp, .str [s, u, v], T.v, .int ((2 + n : Nat) : Int), .undef, .undef, .undef] σ = .ok (.lst ((List.range (2 + n)).map fun k => (Tree.take true [f k]).v)) σ := by
      refine evE_compM (l := List.range (2 + n)) (h := iv) (k := fun k => (Tree.take true [f k]).v) (x := .int ((2 + n : Nat) : Int)) rfl evE_cNone (items_rng (by (first | lia | omega))) (fun k _ => ?_) (by rw [List.length_range]; unfold roomy; (first | lia | omega))
      have h1 : evE gl (callF gl P d) (.idx (.var 2) (.bin .mod (.var 8) (.cInt 3))) [.int c, made T b dp, .str [s, u, v], T.v, .int ((2 + n : Nat) : Int), .undef, .undef, .undef, .int (k : Int)] σ = .ok (.str [f k]) σ := by
        show Res.of (vIdx σ (.str [s, u, v]) (.int ((k : Int).fmod 3))) σ = _
        rw [(hf k).2]; rfl
      show evE gl (callF gl P d) (.tup [(.cStr [116, 97, 107, 101]), (.cBool true), (.idx (.var 2) (.bin .mod (.var 8) (.cInt 3)))]) [.int c, made T b dp, .str [s, u, v], T.v, .int ((2 + n : Nat) : Int), .undef, .undef, .undef, .int (k : Int)] σ = _
      rw [evE_tup, evEs_cons, evE_cStr, bind_ok, evEs_cons, evE_cBool, bind_ok, evEs_cons, h1, bind_ok, evEs_nil, bind_ok, bind_ok, bind_ok, bind_ok, tup3]; rfl
    have hfs : ∀ k, f k ∈ signs := fun k => (hf k).1
    clear_value f
    have e5' : evE gl (callF gl P d) (.bin .add (.comp false (.tup [(.cStr [116, 97, 107, 101]), (.cBool true), (.idx (.var 2) (.bin .mod (.var 8) (.cInt 3)))]) .rng1 (.var 4) .cNone none) (.lst false [(.var 3), (.var 3)])) [.int c, made T b dp, .str [s, u, v], T.v, .int ((2 + n : Nat) : Int), .undef, .undef, .undef] σ = .ok (.lst ((((List.range (2 + n)).map fun k => Tree.take true [f k]) ++ [T, T]).map Tree.v)) σ := by
      have hv3 := getV_t (Γ := [.int c, made T b dp, .str [s, u, v], T.v, .int ((2 + n : Nat) : Int), .undef, .undef, .undef]) (i := 3) (t := T) rfl
      rw [evE_bin, e5, bind_ok, evE_lst, evEs_cons, evE_var, hv3, of_some, bind_ok, evEs_cons, evE_var, hv3, of_some, bind_ok, evEs_nil, bind_ok, bind_ok, bind_ok, putL_f (by simp [roomy]), bind_ok, vBin_addL (by rw [List.length_map, List.length_range]; simp only [List.length_cons, List.length_nil]; unfold roomy; (first | lia | omega)), List.map_append, List.map_map]; rfl
    generalize hQ : ((List.range (2 + n)).map fun k => Tree.take true [f k]) ++ [T, T] = Q at e5'
    have hQl : Q.length = 4 + n := by rw [← hQ, List.length_append, List.length_map, List.length_range]; simp only [List.length_cons, List.length_nil]; (first | lia | omega)
    have hQo : ∀ t ∈ Q, t.Ok ∧ t.dep ≤ 13 := fun t ht => by
      rw [← hQ] at ht
      rcases List.mem_append.mp ht with r | r
      · obtain ⟨k, _, rfl⟩ := List.mem_map.mp r
        exact ⟨by rw [Tree.Ok]; exact ⟨by simp, fun y hy => by rw [List.mem_singleton.mp hy]; exact hfs k⟩, by rw [dep_take]; (first | lia | omega)⟩
      · simp only [List.mem_cons, List.not_mem_nil, or_false, or_self] at r
        rw [r]; exact ⟨ok, hd⟩
    have hQc : Tree.cnts Q = ((2 + n : Nat) : Int) + 2 * T.cnt := by
      rw [← hQ, cnts_app13, cnts_takes, List.length_range, Tree.cnts, Tree.cnts, Tree.cnts]; (first | lia | omega)
    have hTc : (Tree.row Q).cnt = ((2 + n : Nat) : Int) + 2 * T.cnt := by rw [Tree.cnt]; exact hQc
    refine ⟨.row Q, false, 2 + dp, callF_ret (D := d_l_made_by) H rfl ((exB_asg e3).trans (exB_take (c4.trans (by rw [q])) rfl ((exB_asg (v := .int ((2 + n : Nat) : Int)) (σ' := σ) ?_).trans ((exB_asg e5').trans (exB_rets ?_))))), ok_row.mpr ⟨⟨by (first | lia | omega), by (first | lia | omega)⟩, fun t ht => (hQo t ht).1⟩, ?_, by (first | lia | omega)⟩
    · show Res.ok (V.int (2 + (c.fdiv 4).fmod 1800)) σ = _
      rw [hn]; rfl
    · show evE gl (callF gl P d) (.tup [(.tup [(.cStr [114, 111, 119]), (.bi .tuple [(.var 5)])]), (.cBool false), (.bin .add (.var 4) (.bin .mul (.cInt 2) (.idx (.var 1) (.cInt 2)))), (.bin .add (.cInt 2) (.idx (.var 1) (.cInt 3)))]) [.int c, made T b dp, .str [s, u, v], T.v, .int ((2 + n : Nat) : Int), .lst (Q.map Tree.v), .undef, .undef] σ = _
      have er : evE gl (callF gl P d) (.tup [(.cStr [114, 111, 119]), (.bi .tuple [(.var 5)])]) [.int c, made T b dp, .str [s, u, v], T.v, .int ((2 + n : Nat) : Int), .lst (Q.map Tree.v), .undef, .undef] σ = .ok (Tree.row Q).v σ := by
        rw [evE_tup, evEs_cons, evE_cStr, bind_ok, evEs_cons, show evE gl (callF gl P d) (.bi .tuple [(.var 5)]) [.int c, made T b dp, .str [s, u, v], T.v, .int ((2 + n : Nat) : Int), .lst (Q.map Tree.v), .undef, .undef] σ = .ok (.tup (Q.map Tree.v)) σ from rfl, bind_ok, evEs_nil, bind_ok, bind_ok, bind_ok, tup2, v_row]
      rw [evE_tup, evEs_cons, er, bind_ok, evEs_cons, evE_cBool, bind_ok, evEs_cons, evE_bin, show evE gl (callF gl P d) (.var 4) [.int c, made T b dp, .str [s, u, v], T.v, .int ((2 + n : Nat) : Int), .lst (Q.map Tree.v), .undef, .undef] σ = .ok (.int ((2 + n : Nat) : Int)) σ from rfl, bind_ok, evE_bin, evE_cInt, bind_ok, m2, bind_ok, vBin_mul rfl, of_some, bind_ok, vBin_add, of_some, bind_ok, evEs_cons, evE_bin, evE_cInt, bind_ok, m3, bind_ok, vBin_add, of_some, bind_ok, evEs_nil, bind_ok, bind_ok, bind_ok, bind_ok, bind_ok, tup4, made, hTc]
    · rw [dep_row]; have := deps_le13 fun t ht => (hQo t ht).2; (first | lia | omega)
  · obtain ⟨n, hn, hn'⟩ := fmod_nat (c.fdiv 4) (b := 80) (by decide)
    obtain ⟨T', z7, lp, ok', dT', cT'⟩ := chain13 (gl := gl) (cf := callF gl P d) (σ := σ) (v0 := .int c) (v1 := made T b dp) (v2 := .str [s, u, v]) (v4 := .undef) (v5 := .undef) (v6 := .int (n : Int)) (List.range n) T .undef ok
    rw [List.length_range] at dT' cT'
    refine ⟨T', b, dp + n, callF_ret (D := d_l_made_by) H rfl ((exB_asg e3).trans ((exB_skip (c4.trans (by rw [beq_eq_false_iff_ne.mpr q])) rfl).trans ((exB_asg (v := .int (n : Int)) (σ' := σ) ?_).trans ((exB_next ((exS_for (x := .int (n : Int)) rfl evE_cNone (items_rng (by (first | lia | omega)))).trans lp)).trans (exB_rets ?_))))), ok', by (first | lia | omega), by (first | lia | omega)⟩
    · show Res.ok (V.int ((c.fdiv 4).fmod 80)) σ = _
      rw [hn]
    · show evE gl (callF gl P d) (.tup [(.var 3), (.idx (.var 1) (.cInt 1)), (.bin .add (.idx (.var 1) (.cInt 2)) (.var 6)), (.bin .add (.idx (.var 1) (.cInt 3)) (.var 6))]) [.int c, made T b dp, .str [s, u, v], T'.v, .undef, .undef, .int (n : Int), z7] σ = _
      have hv3 := getV_t (Γ := [.int c, made T b dp, .str [s, u, v], T'.v, .undef, .undef, .int (n : Int), z7]) (i := 3) (t := T') rfl
      rw [evE_tup, evEs_cons, evE_var, hv3, of_some, bind_ok, evEs_cons, m1, bind_ok, evEs_cons, evE_bin, m2, bind_ok, show evE gl (callF gl P d) (.var 6) [.int c, made T b dp, .str [s, u, v], T'.v, .undef, .undef, .int (n : Int), z7] σ = .ok (.int (n : Int)) σ from rfl, bind_ok, vBin_add, of_some, bind_ok, evEs_cons, evE_bin, m3, bind_ok, show evE gl (callF gl P d) (.var 6) [.int c, made T b dp, .str [s, u, v], T'.v, .undef, .undef, .int (n : Int), z7] σ = .ok (.int (n : Int)) σ from rfl, bind_ok, vBin_add, of_some, bind_ok, evEs_nil, bind_ok, bind_ok, bind_ok, bind_ok, bind_ok, tup4, made, cT']
end
end Mine

namespace Mine
/-- the law's last part, for a net -/
theorem law13_tail {gl : List V} {cf : CF} {v0 v1 v2 v3 v5 v6 v7 : V} {T : Tree} {b : Bool} {dp : Int} {w : List Nat} {N : List Sp × Nat} {σ : Sg} {Rs : List Row} {X : Sg}
    (hNl : T.cnt + 1 = (N.1.length : Int)) (hn : N.1.length ≤ 2001) (hw : w.length ≤ 140) (hR : RowsOk N.1 0 Rs) (hRl : Rs.length = w.length + 1)
    (h81 : cf 81 [netV N, .str w] σ = .ok (.ref σ.length) (σ ++ swC Rs :: X)) (h82 : Gv (cf 82 [netV N, .str w]) (.int (cntR Rs)))
    (h94 : ∀ (R : Row) (p : Nat), RowOk N.1 R → (∀ x ∈ R, x.2 ≤ p) → Gv (cf 94 [rowV R, .int (N.1.length : Int), .int (p : Int)]) (.bool true))
    (h93 : ∀ σ, ∃ (r : Nat) (σ' : Sg), r ≤ N.1.length * (w.length + 1) ∧ cf 93 [netV N, .str w] σ = .ok (.int (r : Int)) σ' ∧ ∀ σ, ∃ σ', cf 95 [netV N, .str w] σ = .ok (.int (r : Int)) σ') (h9 : ∀ (i : Int) σ, cf 9 [.int i] σ = .ok (.bool true) σ) :
    ∃ Γ' σ', exB gl cf (d_law_v13.body.drop 11) [v0, v1, v2, v3, .str w, v5, v6, v7, made T b dp, netV N, .undef, .undef, .undef, .undef, .undef, .undef] σ = .ok (.ret (.bool true), Γ') σ' := by
  have e10 : evE gl cf (.frz (.call 81 [(.var 9), (.var 4)])) [v0, v1, v2, v3, .str w, v5, v6, v7, made T b dp, netV N, .undef, .undef, .undef, .undef, .undef, .undef] σ = .ok (.lst (Rs.map rowV)) (σ ++ .dead :: X) := by
    have h : evE gl cf (.call 81 [(.var 9), (.var 4)]) [v0, v1, v2, v3, .str w, v5, v6, v7, made T b dp, netV N, .undef, .undef, .undef, .undef, .undef, .undef] σ = .ok (.ref σ.length) (σ ++ swC Rs :: X) := h81
    rw [evE_frz, h, bind_ok, freeze, at_get]
    show Res.ok _ ((σ ++ swC Rs :: X).set σ.length .dead) = _
    rw [at_set]
  have m2 : ∀ {y10 y11 y12 y13 y14 y15 : V} {s : Sg}, evE gl cf (.bin .add (.idx (.var 8) (.cInt 2)) (.cInt 1)) [v0, v1, v2, v3, .str w, v5, v6, v7, made T b dp, netV N, y10, y11, y12, y13, y14, y15] s = .ok (.int (N.1.length : Int)) s := fun {y10 y11 y12 y13 y14 y15 s} => by
    rw [evE_bin, show evE gl cf (.idx (.var 8) (.cInt 2)) [v0, v1, v2, v3, .str w, v5, v6, v7, made T b dp, netV N, y10, y11, y12, y13, y14, y15] s = Res.of (vIdx s (made T b dp) (.int 2)) s from rfl, made_2, of_some, bind_ok, evE_cInt, bind_ok, vBin_add, hNl]; rfl
  have l1 : ∀ {y10 y11 y12 y13 y14 y15 : V} {s : Sg}, evE gl cf (.bin .add (.bi .len [(.var 4)]) (.cInt 1)) [v0, v1, v2, v3, .str w, v5, v6, v7, made T b dp, netV N, y10, y11, y12, y13, y14, y15] s = .ok (.int ((w.length + 1 : Nat) : Int)) s := fun {y10 y11 y12 y13 y14 y15 s} => rfl
  have lf10 : ∀ {y11 y12 y13 y14 y15 : V} {s : Sg}, evE gl cf (.bi .len [(.var 10)]) [v0, v1, v2, v3, .str w, v5, v6, v7, made T b dp, netV N, .lst (Rs.map rowV), y11, y12, y13, y14, y15] s = .ok (.int ((w.length + 1 : Nat) : Int)) s := fun {y11 y12 y13 y14 y15 s} => by
    show Res.ok (V.int ((Rs.map rowV).length : Int)) s = _
    rw [List.length_map, hRl]
  have c11 : evE gl cf (.or (.not (.bi .isLst [(.var 10)])) (.cmp .ne (.bi .len [(.var 10)]) (.bin .add (.bi .len [(.var 4)]) (.cInt 1)))) [v0, v1, v2, v3, .str w, v5, v6, v7, made T b dp, netV N, .lst (Rs.map rowV), .undef, .undef, .undef, .undef, .undef] (σ ++ .dead :: X) = .ok (.bool false) (σ ++ .dead :: X) := by
    refine or_bb (p := false) (q := false) rfl fun _ => ?_
    rw [evE_cmp, lf10, bind_ok, l1, bind_ok, ne_ii, beq_self_eq_true]; rfl
  have loop : ∀ (m j : Nat) (y11 : V) (σ : Sg), j + m = w.length + 1 → ∃ σ' z11, forGo (exB gl cf [.ite (.not (.call 94 [(.idx (.var 10) (.var 11)), (.bin .add (.idx (.var 8) (.cInt 2)) (.cInt 1)), (.var 11)])) [.ret (.cBool false)] []]) 11 ((List.range' j m).map iv) [v0, v1, v2, v3, .str w, v5, v6, v7, made T b dp, netV N, .lst (Rs.map rowV), y11, .undef, .undef, .undef, .undef] σ = .ok (.next, [v0, v1, v2, v3, .str w, v5, v6, v7, made T b dp, netV N, .lst (Rs.map rowV), z11, .undef, .undef, .undef, .undef]) σ' := by
    intro m
    induction m with
    | zero => intro j y11 σ _; exact ⟨σ, y11, rfl⟩
    | succ m ih =>
      intro j y11 σ h
      have hj : j < Rs.length := by (first | lia | omega)
      have hRj : Rs[j]? = some Rs[j] := List.getElem?_eq_getElem hj
      have ok := hR.at hRj
      rw [Nat.zero_add] at ok
      obtain ⟨G, e⟩ := h94 Rs[j] j ok.1 ok.2 σ
      have ei : evE gl cf (.idx (.var 10) (.var 11)) [v0, v1, v2, v3, .str w, v5, v6, v7, made T b dp, netV N, .lst (Rs.map rowV), .int (j : Int), .undef, .undef, .undef, .undef] σ = .ok (rowV Rs[j]) σ := by
        show Res.of (vIdx σ (.lst (Rs.map rowV)) (.int (j : Int))) σ = _
        rw [vIdx_seq j (by (first | lia | omega)) rfl (by rw [List.getElem?_map, hRj]; rfl)]; rfl
      have ec : evE gl cf (.not (.call 94 [(.idx (.var 10) (.var 11)), (.bin .add (.idx (.var 8) (.cInt 2)) (.cInt 1)), (.var 11)])) [v0, v1, v2, v3, .str w, v5, v6, v7, made T b dp, netV N, .lst (Rs.map rowV), .int (j : Int), .undef, .undef, .undef, .undef] σ = .ok (.bool false) (σ ++ G) := by
        rw [evE_not, evE_call, evEs_cons, ei, bind_ok, evEs_cons, m2, bind_ok, evEs_cons, show evE gl cf (.var 11) [v0, v1, v2, v3, .str w, v5, v6, v7, made T b dp, netV N, .lst (Rs.map rowV), .int (j : Int), .undef, .undef, .undef, .undef] σ = .ok (.int (j : Int)) σ from rfl, bind_ok, evEs_nil, bind_ok, bind_ok, bind_ok, bind_ok, e]; rfl
      obtain ⟨σ', z11, ih⟩ := ih (j + 1) (.int (j : Int)) (σ ++ G) (by (first | lia | omega))
      refine ⟨σ', z11, ?_⟩
      rw [List.range'_succ, List.map_cons, ← ih]
      exact forGo_next ((exB_skip ec rfl).trans exB_nil0)
  obtain ⟨σ1, z11, lp⟩ := loop (w.length + 1) 0 .undef (σ ++ .dead :: X) (by (first | lia | omega))
  obtain ⟨G12, e12⟩ := h82 σ1
  obtain ⟨r, σ2, hr, e15, h95⟩ := h93 (σ1 ++ G12)
  obtain ⟨σ3, e95⟩ := h95 σ2
  have hcn := cntR_le hR
  rw [hRl] at hcn
  have e12' : evE gl cf (.call 82 [(.var 9), (.var 4)]) [v0, v1, v2, v3, .str w, v5, v6, v7, made T b dp, netV N, .lst (Rs.map rowV), z11, .undef, .undef, .undef, .undef] σ1 = .ok (.int (cntR Rs)) (σ1 ++ G12) := e12
  have e13 : evE gl cf (.bi .sum [(.comp false (.bi .len [(.var 16)]) .val (.var 10) .cNone none)]) [v0, v1, v2, v3, .str w, v5, v6, v7, made T b dp, netV N, .lst (Rs.map rowV), z11, .int (cntR Rs), .undef, .undef, .undef] (σ1 ++ G12) = .ok (.int (cntR Rs)) (σ1 ++ G12) :=
    lens_comp (v9 := .none) (e := .var 10) (j := 16) rfl rfl (by unfold roomy; (first | lia | omega))
  have e14 : evE gl cf (.bin .mul (.bin .add (.idx (.var 8) (.cInt 2)) (.cInt 1)) (.bin .add (.bi .len [(.var 4)]) (.cInt 1))) [v0, v1, v2, v3, .str w, v5, v6, v7, made T b dp, netV N, .lst (Rs.map rowV), z11, .int (cntR Rs), .int (cntR Rs), .undef, .undef] (σ1 ++ G12) = .ok (.int ((N.1.length * (w.length + 1) : Nat) : Int)) (σ1 ++ G12) := by
    rw [evE_bin, m2, bind_ok, l1, bind_ok, vBin_mul (by rw [small_of (by (first | lia | omega)) (by (first | lia | omega))]; rfl), ← Int.natCast_mul]; rfl
  have c14 : evE gl cf (.or (.not (.call 9 [(.var 12)])) (.or (.cmp .ne (.var 12) (.var 13)) (.cmp .gt (.var 12) (.var 14)))) [v0, v1, v2, v3, .str w, v5, v6, v7, made T b dp, netV N, .lst (Rs.map rowV), z11, .int (cntR Rs), .int (cntR Rs), .int ((N.1.length * (w.length + 1) : Nat) : Int), .undef] (σ1 ++ G12) = .ok (.bool false) (σ1 ++ G12) := by
    refine or_bb (p := false) (q := false) ?_ fun _ => or_bb (p := false) (q := false) ?_ fun _ => ?_
    · have h : evE gl cf (.call 9 [(.var 12)]) [v0, v1, v2, v3, .str w, v5, v6, v7, made T b dp, netV N, .lst (Rs.map rowV), z11, .int (cntR Rs), .int (cntR Rs), .int ((N.1.length * (w.length + 1) : Nat) : Int), .undef] (σ1 ++ G12) = .ok (.bool true) (σ1 ++ G12) := h9 _ _
      rw [evE_not, h]; rfl
    · show Res.ok (V.bool (!(cntR Rs == cntR Rs))) (σ1 ++ G12) = _
      rw [beq_self_eq_true]; rfl
    · show Res.ok (V.bool (decide (cntR Rs > ((N.1.length * (w.length + 1) : Nat) : Int)))) (σ1 ++ G12) = _
      rw [decide_eq_false (by (first | lia | omega))]
  have e15' : evE gl cf (.call 93 [(.var 9), (.var 4)]) [v0, v1, v2, v3, .str w, v5, v6, v7, made T b dp, netV N, .lst (Rs.map rowV), z11, .int (cntR Rs), .int (cntR Rs), .int ((N.1.length * (w.length + 1) : Nat) : Int), .undef] (σ1 ++ G12) = .ok (.int (r : Int)) σ2 := e15
  refine ⟨_, σ3, (exB_asg e10).trans ((exB_skip c11 rfl).trans ((exB_next ((exS_for lf10 evE_cNone (items_rng (by (first | lia | omega)))).trans (by rw [List.range_eq_range']; exact lp))).trans ((exB_asg e12').trans ((exB_asg e13).trans ((exB_asg e14).trans ((exB_skip c14 rfl).trans ((exB_asg e15').trans (exB_rets ?_))))))))⟩
  show evE gl cf (.and (.call 9 [(.var 15)]) (.and (.cmp .eq (.var 15) (.call 95 [(.var 9), (.var 4)])) (.cmp .le (.var 15) (.var 14)))) [v0, v1, v2, v3, .str w, v5, v6, v7, made T b dp, netV N, .lst (Rs.map rowV), z11, .int (cntR Rs), .int (cntR Rs), .int ((N.1.length * (w.length + 1) : Nat) : Int), .int (r : Int)] σ2 = _
  have h9' : evE gl cf (.call 9 [(.var 15)]) [v0, v1, v2, v3, .str w, v5, v6, v7, made T b dp, netV N, .lst (Rs.map rowV), z11, .int (cntR Rs), .int (cntR Rs), .int ((N.1.length * (w.length + 1) : Nat) : Int), .int (r : Int)] σ2 = .ok (.bool true) σ2 := h9 _ _
  have h95' : evE gl cf (.call 95 [(.var 9), (.var 4)]) [v0, v1, v2, v3, .str w, v5, v6, v7, made T b dp, netV N, .lst (Rs.map rowV), z11, .int (cntR Rs), .int (cntR Rs), .int ((N.1.length * (w.length + 1) : Nat) : Int), .int (r : Int)] σ2 = .ok (.int (r : Int)) σ3 := e95
  rw [evE_and, h9', bind_ok, true_b, of_some, bind_ok, if_pos rfl, evE_and, evE_cmp, show evE gl cf (.var 15) [v0, v1, v2, v3, .str w, v5, v6, v7, made T b dp, netV N, .lst (Rs.map rowV), z11, .int (cntR Rs), .int (cntR Rs), .int ((N.1.length * (w.length + 1) : Nat) : Int), .int (r : Int)] σ2 = .ok (.int (r : Int)) σ2 from rfl, bind_ok, h95', bind_ok, eq_ii, beq_self_eq_true, of_some, bind_ok, bind_ok, true_b, of_some, bind_ok, if_pos rfl]
  show Res.ok (V.bool (decide ((r : Int) ≤ ((N.1.length * (w.length + 1) : Nat) : Int)))) σ3 = _
  rw [decide_eq_true (by (first | lia | omega))]
end Mine

namespace Mine
theorem text13 {gl : List V} {cf : CF} {σ : Sg} {s u v : Nat} {t : Nat} (ht : t < 7) {v0 v2 v3 v5 v8 v9 v10 v11 v12 v13 v14 v15 : V} : ∀ (l : List Nat) (w : List Nat) (y7 : V), w.length + l.length ≤ 1000 → ∃ (w' : List Nat) (z7 : V), forGo (exB gl cf [.asg 4 (.bin .add (.var 4) (.idx (.var 1) (.bin .mod (.bin .fdiv (.var 7) (.var 6)) (.cInt 2))))]) 7 (l.map iv) [v0, .str [s, u, v], v2, v3, .str w, v5, .int ((1 + t : Nat) : Int), y7, v8, v9, v10, v11, v12, v13, v14, v15] σ = .ok (.next, [v0, .str [s, u, v], v2, v3, .str w', v5, .int ((1 + t : Nat) : Int), z7, v8, v9, v10, v11, v12, v13, v14, v15]) σ ∧ w'.length = w.length + l.length
  | [], w, y7, _ => ⟨w, y7, rfl, rfl⟩
  | k :: l, w, y7, h => by
    rw [List.length_cons] at h
    obtain ⟨j, hj, hj'⟩ := fmod_nat ((k : Int).fdiv ((1 + t : Nat) : Int)) (b := 2) (by decide)
    obtain ⟨x, hx⟩ : ∃ x, vIdx σ (.str [s, u, v]) (.int (j : Int)) = some (.str [x]) := by
      match j, hj' with
      | 0, _ => exact ⟨s, rfl⟩
      | 1, _ => exact ⟨u, rfl⟩
    obtain ⟨w', z7, ih, hl⟩ := text13 ht (gl := gl) (cf := cf) (σ := σ) (s := s) (u := u) (v := v) (t := t) (v0 := v0) (v2 := v2) (v3 := v3) (v5 := v5) (v8 := v8) (v9 := v9) (v10 := v10) (v11 := v11) (v12 := v12) (v13 := v13) (v14 := v14) (v15 := v15) l (w ++ [x]) (.int (k : Int)) (by rw [List.length_append, List.length_singleton]; (first | lia | omega))
    refine ⟨w', z7, (forGo_next (x := .int (k : Int)) ((exB_asg (v := .str (w ++ [x])) (σ' := σ) ?_).trans exB_nil0)).trans ih, by rw [hl, List.length_append, List.length_singleton, List.length_cons]; (first | lia | omega)⟩
    show evE gl cf (.bin .add (.var 4) (.idx (.var 1) (.bin .mod (.bin .fdiv (.var 7) (.var 6)) (.cInt 2)))) [v0, .str [s, u, v], v2, v3, .str w, v5, .int ((1 + t : Nat) : Int), .int (k : Int), v8, v9, v10, v11, v12, v13, v14, v15] σ = _
    rw [evE_bin, show evE gl cf (.var 4) [v0, .str [s, u, v], v2, v3, .str w, v5, .int ((1 + t : Nat) : Int), .int (k : Int), v8, v9, v10, v11, v12, v13, v14, v15] σ = .ok (.str w) σ from rfl, bind_ok, evE_idx, show evE gl cf (.var 1) [v0, .str [s, u, v], v2, v3, .str w, v5, .int ((1 + t : Nat) : Int), .int (k : Int), v8, v9, v10, v11, v12, v13, v14, v15] σ = .ok (.str [s, u, v]) σ from rfl, bind_ok, evE_bin, evE_bin, show evE gl cf (.var 7) [v0, .str [s, u, v], v2, v3, .str w, v5, .int ((1 + t : Nat) : Int), .int (k : Int), v8, v9, v10, v11, v12, v13, v14, v15] σ = .ok (.int (k : Int)) σ from rfl, bind_ok, show evE gl cf (.var 6) [v0, .str [s, u, v], v2, v3, .str w, v5, .int ((1 + t : Nat) : Int), .int (k : Int), v8, v9, v10, v11, v12, v13, v14, v15] σ = .ok (.int ((1 + t : Nat) : Int)) σ from rfl, bind_ok, vBin_fdiv (small_of (by (first | lia | omega)) (by (first | lia | omega))) (by (first | lia | omega)), of_some, bind_ok, evE_cInt, bind_ok, vBin_mod (by decide), hj, of_some, bind_ok, hx, of_some, bind_ok, vBin_addS (by simp only [List.length_cons, List.length_nil]; unfold roomy; (first | lia | omega))]; rfl

theorem law13_body {gl : List V} {cf : CF} {xs : List Int} (hx : xs.length ≤ 63) {s u v : Nat} (hvs : v ∈ signs) {c1 c2 : Int} (h0 : evE gl cf (.call 2 [(.call 0 [(.var 0), (.cInt 0)])]) [.lst (xs.map V.int), .undef, .undef, .undef, .undef, .undef, .undef, .undef, .undef, .undef, .undef, .undef, .undef, .undef, .undef, .undef] [] = .ok (.str [s, u, v]) []) (h1 : ∀ σ, cf 0 [.lst (xs.map V.int), .int 1] σ = .ok (.int c1) σ) (h2 : ∀ σ, cf 0 [.lst (xs.map V.int), .int 2] σ = .ok (.int c2) σ)
    (htx : ∀ ws : List Int, ws.length ≤ 31 → ∃ w, cf 58 [.lst (ws.map V.int), .str [s, u, v]] [] = .ok (.str w) [] ∧ w.length = ws.length)
    (htr : ∀ cs : List Int, cs.length ≤ 31 → ∃ T : Tree, cf 8 [.lst (cs.map V.int), .str [s, u, v]] [] = .ok (item T) [] ∧ T.Ok ∧ T.dep ≤ 13 ∧ T.cnt ≤ 62)
    (hmb : ∀ (T : Tree) (b : Bool) (dp c : Int), T.Ok → T.dep ≤ 13 → T.cnt ≤ 62 → ∃ (T' : Tree) (b' : Bool) (dp' : Int), cf 96 [.int c, made T b dp, .str [s, u, v]] [] = .ok (made T' b' dp') [] ∧ T'.Ok ∧ T'.dep ≤ 100 ∧ T'.cnt ≤ 2000)
    (hnt : ∀ T : Tree, T.Ok → T.dep ≤ 100 → T.cnt ≤ 2000 → ∃ G, cf 42 [T.v] [] = .ok (netV (Net T)) G)
    (htu : ∀ (N : List Sp × Nat) (σ : Sg), Good N → N.1.length ≤ 2001 → cf 69 [netV N] σ = .ok (netV (turnN N)) (σ ++ [.dead]))
    (htl : ∀ (v3 v5 v6 v7 : V) (T : Tree) (b : Bool) (dp half : Int) (w : List Nat) (N : List Sp × Nat) (σ : Sg), Good N → T.cnt + 1 = (N.1.length : Int) → N.1.length ≤ 2001 → w.length ≤ 140 →
      ∃ Γ' σ', exB gl cf (d_law_v13.body.drop 11) [.lst (xs.map V.int), .str [s, u, v], .int half, v3, .str w, v5, v6, v7, made T b dp, netV N, .undef, .undef, .undef, .undef, .undef, .undef] σ = .ok (.ret (.bool true), Γ') σ') :
    ∃ Γ' σ', exB gl cf d_law_v13.body [.lst (xs.map V.int), .undef, .undef, .undef, .undef, .undef, .undef, .undef, .undef, .undef, .undef, .undef, .undef, .undef, .undef, .undef] [] = .ok (.ret (.bool true), Γ') σ' := by
  generalize hhalf : 2 + Int.fdiv (xs.length : Int) 2 = half
  have hh : 2 ≤ half ∧ half ≤ 34 := by rw [Int.fdiv_eq_ediv_of_nonneg _ (by decide)] at hhalf; (first | lia | omega)
  have hs : small half = true := small_of (by (first | lia | omega)) (by (first | lia | omega))
  generalize hcs : cut (cut xs (some 3) (some half)) none (some 31) = cs
  generalize hws : cut (cut xs (some half) none) none (some 31) = ws
  have lcs : cs.length ≤ 31 := by rw [← hcs]; exact cut_le_to 31
  have lws : ws.length ≤ 31 := by rw [← hws]; exact cut_le_to 31
  obtain ⟨w0, hw0, lw0⟩ := htx ws lws
  have k1 : ∀ {y1 y2 y3 y4 y5 y6 y7 y8 y9 : V} {σ : Sg}, evE gl cf (.call 0 [(.var 0), (.cInt 1)]) [.lst (xs.map V.int), y1, y2, y3, y4, y5, y6, y7, y8, y9, .undef, .undef, .undef, .undef, .undef, .undef] σ = .ok (.int c1) σ := fun {y1 y2 y3 y4 y5 y6 y7 y8 y9 σ} => h1 σ
  have k2 : ∀ {y1 y2 y3 y4 y5 y6 y7 y8 y9 : V} {σ : Sg}, evE gl cf (.call 0 [(.var 0), (.cInt 2)]) [.lst (xs.map V.int), y1, y2, y3, y4, y5, y6, y7, y8, y9, .undef, .undef, .undef, .undef, .undef, .undef] σ = .ok (.int c2) σ := fun {y1 y2 y3 y4 y5 y6 y7 y8 y9 σ} => h2 σ
  have md : ∀ {q m : Int} {y1 y2 y3 y4 y5 y6 y7 y8 y9 : V} {σ : Sg}, m ≠ 0 → evE gl cf (.cmp .eq (.bin .mod (.call 0 [(.var 0), (.cInt 1)]) (.cInt m)) (.cInt q)) [.lst (xs.map V.int), y1, y2, y3, y4, y5, y6, y7, y8, y9, .undef, .undef, .undef, .undef, .undef, .undef] σ = .ok (.bool (c1.fmod m == q)) σ := fun {q m y1 y2 y3 y4 y5 y6 y7 y8 y9 σ} hm => by
    rw [evE_cmp, evE_bin, k1, bind_ok, evE_cInt, bind_ok, vBin_mod hm, of_some, bind_ok, evE_cInt, bind_ok, eq_ii]; rfl
  have pre : exB gl cf d_law_v13.body [.lst (xs.map V.int), .undef, .undef, .undef, .undef, .undef, .undef, .undef, .undef, .undef, .undef, .undef, .undef, .undef, .undef, .undef] [] = exB gl cf (d_law_v13.body.drop 5) [.lst (xs.map V.int), .str [s, u, v], .int half, .lst (cs.map V.int), .str w0, .bool (c1.fmod 4 == 1), .undef, .undef, .undef, .undef, .undef, .undef, .undef, .undef, .undef, .undef] [] := by
    refine (exB_asg h0).trans ((exB_asg (v := .int half) (σ' := []) ?_).trans ((exB_asg (v := .lst (cs.map V.int)) (σ' := []) ?_).trans ((exB_asg (v := .str w0) (σ' := []) ?_).trans (exB_asg (md (by decide))))))
    · show Res.ok (V.int (2 + Int.fdiv ((xs.map V.int).length : Int) 2)) [] = _
      rw [List.length_map, hhalf]
    · have a1 := vCut_ints (σ := []) (lo := some 3) (hi := some half) (xs := xs) rfl hs
      have a2 := vCut_ints (σ := []) (lo := none) (hi := some 31) (xs := cut xs (some 3) (some half)) rfl rfl
      rw [hcs] at a2
      rw [evE_slice, evE_slice]
      show (Res.bind (Res.of (vCut [] (.lst (xs.map V.int)) (some 3) (some half)) []) _) = _
      rw [a1]
      show Res.of (vCut [] (.lst ((cut xs (some 3) (some half)).map V.int)) none (some 31)) [] = _
      rw [a2]; rfl
    · have a1 := vCut_ints (σ := []) (lo := some half) (hi := none) (xs := xs) hs rfl
      have a2 := vCut_ints (σ := []) (lo := none) (hi := some 31) (xs := cut xs (some half) none) rfl rfl
      rw [hws] at a2
      rw [evE_call, evEs_cons, evE_slice, evE_slice]
      show (Res.bind (Res.bind (Res.bind (Res.of (vCut [] (.lst (xs.map V.int)) (some half) none) []) _) _) _) = _
      rw [a1]
      show (Res.bind (Res.bind (Res.of (vCut [] (.lst ((cut xs (some half) none).map V.int)) none (some 31)) []) _) _) = _
      rw [a2, of_some, bind_ok, evEs_cons, evE_var]
      show cf 58 [.lst (ws.map V.int), .str [s, u, v]] [] = _
      exact hw0
  have last : ∀ {v3 v5 v6 v7 : V} {T : Tree} {b : Bool} {dp : Int} {w : List Nat}, T.Ok → T.dep ≤ 100 → T.cnt ≤ 2000 → w.length ≤ 140 → ∃ Γ' σ', exB gl cf (d_law_v13.body.drop 9) [.lst (xs.map V.int), .str [s, u, v], .int half, v3, .str w, v5, v6, v7, made T b dp, .undef, .undef, .undef, .undef, .undef, .undef, .undef] [] = .ok (.ret (.bool true), Γ') σ' := fun {v3 v5 v6 v7 T b dp w} ok hd hc hw => by
    obtain ⟨G, hN⟩ := hnt T ok hd hc
    have hl := led_len T [.fin] 0 ok
    simp only [List.length_cons, List.length_nil] at hl
    have hlen : T.cnt + 1 = ((Net T).1.length : Int) := by rw [Net]; (first | lia | omega)
    have e9 : evE gl cf (.call 42 [(.idx (.var 8) (.cInt 0))]) [.lst (xs.map V.int), .str [s, u, v], .int half, v3, .str w, v5, v6, v7, made T b dp, .undef, .undef, .undef, .undef, .undef, .undef, .undef] [] = .ok (netV (Net T)) G := by
      rw [evE_call, evEs_cons, show evE gl cf (.idx (.var 8) (.cInt 0)) [.lst (xs.map V.int), .str [s, u, v], .int half, v3, .str w, v5, v6, v7, made T b dp, .undef, .undef, .undef, .undef, .undef, .undef, .undef] [] = Res.of (vIdx [] (made T b dp) (.int 0)) [] from rfl, made_0, of_some, bind_ok, evEs_nil, bind_ok, bind_ok]
      exact hN
    have ct : evE gl cf (.cmp .eq (.bin .mod (.call 0 [(.var 0), (.cInt 2)]) (.cInt 2)) (.cInt 1)) [.lst (xs.map V.int), .str [s, u, v], .int half, v3, .str w, v5, v6, v7, made T b dp, netV (Net T), .undef, .undef, .undef, .undef, .undef, .undef] G = .ok (.bool (c2.fmod 2 == 1)) G := by
      rw [evE_cmp, evE_bin, k2, bind_ok, evE_cInt, bind_ok, vBin_mod (by decide), of_some, bind_ok, evE_cInt, bind_ok, eq_ii]; rfl
    cases hq : c2.fmod 2 == 1 with
    | false =>
      rw [hq] at ct
      obtain ⟨Γ', σ', e⟩ := htl v3 v5 v6 v7 T b dp half w (Net T) G (good_net ok) hlen (by (first | lia | omega)) hw
      exact ⟨Γ', σ', (exB_asg e9).trans ((exB_skip ct rfl).trans e)⟩
    | true =>
      rw [hq] at ct
      obtain ⟨Γ', σ', e⟩ := htl v3 v5 v6 v7 T b dp half w (turnN (Net T)) (G ++ [Cell.dead]) (good_turn (good_net ok)) (by rw [turn_len]; exact hlen) (by rw [turn_len]; (first | lia | omega)) hw
      refine ⟨Γ', σ', (exB_asg e9).trans ((exB_into ct rfl ((exB_asg (v := netV (turnN (Net T))) (σ' := G ++ [Cell.dead]) ?_).trans exB_nil0)).trans e)⟩
      exact htu (Net T) G (good_net ok) (by (first | lia | omega))
  have e8 : ∀ {l : List Int} {T : Tree} {w : List Nat} {y5 y6 y7 : V}, cf 8 [.lst (l.map V.int), .str [s, u, v]] [] = .ok (item T) [] → evE gl cf (.call 8 [(.var 3), (.var 1)]) [.lst (xs.map V.int), .str [s, u, v], .int half, .lst (l.map V.int), .str w, y5, y6, y7, .undef, .undef, .undef, .undef, .undef, .undef, .undef, .undef] [] = .ok (item T) [] := fun h => h
  rw [pre]
  by_cases q1 : c1.fmod 4 = 1
  · obtain ⟨t, ht, ht'⟩ := fmod_nat (c1.fdiv 4) (b := 7) (by decide)
    obtain ⟨n, hn, hn'⟩ := fmod_nat c2 (b := 60) (by decide)
    obtain ⟨w1, z7, lp, hw1⟩ := text13 (gl := gl) (cf := cf) (σ := []) (s := s) (u := u) (v := v) (t := t) (by (first | lia | omega)) (v0 := .lst (xs.map V.int)) (v2 := .int half) (v3 := .lst ((cut cs none (some 8)).map V.int)) (v5 := .bool true) (v8 := .undef) (v9 := .undef) (v10 := .undef) (v11 := .undef) (v12 := .undef) (v13 := .undef) (v14 := .undef) (v15 := .undef) (List.range (40 + n)) w0 .undef (by rw [List.length_range]; (first | lia | omega))
    rw [List.length_range] at hw1
    obtain ⟨T, hT, okT, dT, cT⟩ := htr (cut cs none (some 8)) (Nat.le_trans (cut_len_le _ _ _) lcs)
    have okR : (Tree.row [T, .take true [v]]).Ok := ok_row.mpr ⟨⟨by simp, by simp⟩, fun t ht => by
      rcases List.mem_cons.mp ht with q | q
      · rw [q]; exact okT
      · rw [List.mem_singleton.mp q, Tree.Ok]; exact ⟨by simp, fun y hy => by rw [List.mem_singleton.mp hy]; exact hvs⟩⟩
    have cR : (Tree.row [T, .take true [v]]).cnt = T.cnt + 1 := by rw [Tree.cnt, Tree.cnts, Tree.cnts, Tree.cnts, Tree.cnt]; (first | lia | omega)
    have dR : (Tree.row [T, .take true [v]]).dep ≤ 100 := by rw [dep_row]; simp only [Tree.deps, Tree.dep]; (first | lia | omega)
    obtain ⟨Γ', σ', e⟩ := last (v3 := .lst ((cut cs none (some 8)).map V.int)) (v5 := .bool true) (v6 := .int ((1 + t : Nat) : Int)) (v7 := z7) (T := .row [T, .take true [v]]) (b := false) (dp := (T.dep : Int) + 1) (w := w1 ++ [v]) okR dR (by (first | lia | omega)) (by rw [List.length_append, List.length_singleton]; (first | lia | omega))
    rw [show (c1.fmod 4 == 1) = true by rw [q1]; rfl]
    refine ⟨Γ', σ', (exB_into (v := .bool true) rfl rfl ((exB_asg (v := .lst ((cut cs none (some 8)).map V.int)) (σ' := []) ?_).trans ((exB_asg (v := .int ((1 + t : Nat) : Int)) (σ' := []) ?_).trans ((exB_next ((exS_for (x := .int ((40 + n : Nat) : Int)) ?_ evE_cNone (items_rng (by (first | lia | omega)))).trans lp)).trans ((exB_asg (v := .str (w1 ++ [v])) (σ' := []) ?_).trans exB_nil0))))).trans ((exB_asg (e8 hT)).trans ((exB_into (v := .bool true) rfl rfl ((exB_asg (v := made (.row [T, .take true [v]]) false ((T.dep : Int) + 1)) (σ' := []) ?_).trans exB_nil0)).trans ((exB_skip ((md (by decide)).trans (by rw [q1])) rfl).trans e)))⟩
    · have a1 := vCut_ints (σ := []) (lo := none) (hi := some 8) (xs := cs) rfl rfl
      show Res.of (vCut [] (.lst (cs.map V.int)) none (some 8)) [] = _
      rw [a1]; rfl
    · rw [evE_bin, evE_cInt, bind_ok, evE_bin, evE_bin]
      show (Res.bind (Res.bind (Res.bind (cf 0 [.lst (xs.map V.int), .int 1] []) _) _) _) = _
      rw [h1, bind_ok, evE_cInt, bind_ok, vBin_fdiv rfl (by decide), of_some, bind_ok, evE_cInt, bind_ok, vBin_mod (by decide), ht, of_some, bind_ok, vBin_add]; rfl
    · rw [evE_bin, evE_cInt, bind_ok, evE_bin]
      show (Res.bind (Res.bind (cf 0 [.lst (xs.map V.int), .int 2] []) _) _) = _
      rw [h2, bind_ok, evE_cInt, bind_ok, vBin_mod (by decide), hn, of_some, bind_ok, vBin_add]; rfl
    · rw [evE_bin]
      show (Res.bind (Res.of (some (V.str [v])) []) fun b σ => Res.of (vBin σ .add (.str w1) b) σ) = _
      rw [of_some, bind_ok, vBin_addS (by simp only [List.length_cons, List.length_nil]; unfold roomy; (first | lia | omega))]; rfl
    · show evE gl cf (.tup [(.tup [(.cStr [114, 111, 119]), (.tup [(.idx (.var 8) (.cInt 0)), (.tup [(.cStr [116, 97, 107, 101]), (.cBool true), (.idx (.var 1) (.cInt 2))])])]), (.cBool false), (.bin .add (.idx (.var 8) (.cInt 2)) (.cInt 1)), (.bin .add (.idx (.var 8) (.cInt 3)) (.cInt 1))]) [.lst (xs.map V.int), .str [s, u, v], .int half, .lst ((cut cs none (some 8)).map V.int), .str (w1 ++ [v]), .bool true, .int ((1 + t : Nat) : Int), z7, item T, .undef, .undef, .undef, .undef, .undef, .undef, .undef] [] = _
      rw [made, cR]; rfl
  · have n1 : (c1.fmod 4 == 1) = false := beq_eq_false_iff_ne.mpr q1
    rw [n1]
    obtain ⟨T, hT, okT, dT, cT⟩ := htr cs lcs
    by_cases q2 : c1.fmod 4 = 2
    · obtain ⟨T', b', dp', hM, ok', dT', cT'⟩ := hmb T T.bare (T.dep : Int) c2 okT dT cT
      obtain ⟨Γ', σ', e⟩ := last (v3 := .lst (cs.map V.int)) (v5 := .bool false) (v6 := .undef) (v7 := .undef) (T := T') (b := b') (dp := dp') (w := cut w0 none (some 6)) ok' dT' cT' (by have := cut_len_le w0 none (some 6); (first | lia | omega))
      refine ⟨Γ', σ', (exB_skip (v := .bool false) rfl rfl).trans ((exB_asg (e8 hT)).trans ((exB_skip (v := .bool false) rfl rfl).trans ((exB_into ((md (by decide)).trans (by rw [q2])) rfl ((exB_asg (v := made T' b' dp') (σ' := []) ?_).trans ((exB_asg (v := .str (cut w0 none (some 6))) (σ' := []) ?_).trans exB_nil0))).trans e)))⟩
      · rw [evE_call, evEs_cons]
        show (Res.bind (Res.bind (cf 0 [.lst (xs.map V.int), .int 2] []) _) _) = _
        rw [h2, bind_ok]
        exact hM
      · show Res.of (vCut [] (.str w0) none (some 6)) [] = _
        rw [vCut_s rfl rfl]; rfl
    · obtain ⟨Γ', σ', e⟩ := last (v3 := .lst (cs.map V.int)) (v5 := .bool false) (v6 := .undef) (v7 := .undef) (T := T) (b := T.bare) (dp := (T.dep : Int)) (w := w0) okT (by (first | lia | omega)) (by (first | lia | omega)) (by (first | lia | omega))
      exact ⟨Γ', σ', (exB_skip (v := .bool false) rfl rfl).trans ((exB_asg (e8 hT)).trans ((exB_skip (v := .bool false) rfl rfl).trans ((exB_skip ((md (by decide)).trans (by rw [beq_eq_false_iff_ne.mpr q2])) rfl).trans e)))⟩

theorem law_true13 (xs : List Int) (hx : xs.length ≤ 63) : ∃ σ', callF GL13 P13 500 3 [.lst (xs.map V.int)] [] = .ok (.bool true) σ' := by
  have H : HS P13 := ⟨rfl, rfl, rfl⟩
  have HT13 : HT P13 7 := ⟨H, by (first | lia | omega), rfl, rfl, rfl, rfl⟩
  have HN13 : HN P13 := ⟨rfl, rfl, rfl, rfl, rfl⟩
  have HG13 : HG P13 := ⟨rfl, rfl, rfl, rfl⟩
  have HV13 : HV0 P13 := ⟨⟨rfl, rfl, rfl, rfl⟩, rfl, rfl⟩
  have hc : ∀ (k : Nat) (i : Int), i = (k : Int) → ∀ σ, callF GL13 P13 499 0 [.lst (xs.map V.int), .int i] σ = .ok (.int (xs.getD k 0)) σ := fun k i hi σ => call_cell (d := 498) H hx k hi
  have h3 := three_ok (xs.getD 0 0)
  obtain ⟨Γ', σ', h⟩ := law13_body (gl := GL13) (cf := callF GL13 P13 499) hx (s := sign (xs.getD 0 0)) (u := sign (xs.getD 0 0 + 31)) (v := sign (xs.getD 0 0 + 62)) (sign_mem _) (c1 := xs.getD 1 0) (c2 := xs.getD 2 0) (by
      rw [evE_call, evEs_cons, evE_call, evEs_cons, evE_var, show getV [V.lst (xs.map V.int), .undef, .undef, .undef, .undef, .undef, .undef, .undef, .undef, .undef, .undef, .undef, .undef, .undef, .undef, .undef] 0 = some (.lst (xs.map V.int)) from rfl, of_some, bind_ok, evEs_cons, evE_cInt, bind_ok, evEs_nil, bind_ok, bind_ok, bind_ok, hc 0 0 rfl, bind_ok, evEs_nil, bind_ok, bind_ok]
      exact call_three (d := 497) H _) (hc 1 1 rfl) (hc 2 2 rfl)
    (fun ws hws => let ⟨w, h1, h2, _⟩ := call_text (gl := GL13) (σ := []) (d := 497) (P := P13) H rfl h3 (cs := ws) (by (first | lia | omega)); ⟨w, h1, h2⟩)
    (fun cs hcs => let ⟨T, hT, ok, hd, hcnt, _⟩ := call_tree (gl := GL13) (σ := []) (d := 495) HT13 h3 cs (by (first | lia | omega)); ⟨T, hT, ok, hd, by (first | lia | omega)⟩)
    (fun T b dp c ok hd hc => call_made (gl := GL13) (P := P13) (d := 498) rfl (sign_mem _) (sign_mem _) (sign_mem _) ok hd hc)
    (fun T ok hd hc => let ⟨G, hN⟩ := call_net (gl := GL13) (d := 498) (σ := []) HN13 ok (by (first | lia | omega)) (by (first | lia | omega)); ⟨G, hN⟩)
    (fun N σ g l => call_turned (gl := GL13) (P := P13) (d := 498) rfl g (by unfold roomy; (first | lia | omega)))
    (fun v3 v5 v6 v7 T b dp half w N σ g hl hn hw => by
      have Q : Seek N.1 w := g.seek (by
        have := Nat.mul_le_mul hn (show w.length + 1 ≤ 141 by (first | lia | omega))
        unfold roomy; (first | lia | omega)) (by (first | lia | omega))
      have hRs := swp_rows (w := w) (k := 2001) g.wf g.st (w.length + 1) 0 [] none (fun x hx => (List.not_mem_nil hx).elim) (fun x hx => (List.not_mem_nil hx).elim)
      obtain ⟨X, h81⟩ := call_rows (gl := GL13) (P := P13) (d := 495) HV13 g (by (first | lia | omega)) (k := 2001) hn (w := w) (by (first | lia | omega)) σ
      exact law13_tail hl hn hw hRs (swp_len _ _ _ |>.trans (List.length_range' ..)) h81 (call_counted (gl := GL13) (P := P13) (d := 494) HV13 g (by (first | lia | omega)) (k := 2001) hn (w := w) (by (first | lia | omega)))
        (fun R p ok hb => call_row_right (gl := GL13) (P := P13) (d := 496) rfl rfl rfl (by (first | lia | omega)) ok hb)
        (fun σ => by
          obtain ⟨r, σ', ht, hr, e⟩ := call_tried_count (gl := GL13) (P := P13) (d := 495) HG13 rfl g Q σ
          exact ⟨r, σ', hr, e, fun σ => call_l_tried (gl := GL13) (P := P13) (d := 498) rfl Q g.st ht σ⟩) (fun i σ => call_whole (gl := GL13) (P := P13) (d := 498) rfl))
  exact ⟨σ', callF_ret (D := d_law_v13) (Γ' := Γ') rfl rfl h⟩
end Mine

open PySem PySem.W PyProof.Rows
theorem Mine.said13 : OpenLaw.wellSaid PySem.Challenge.rw_uf020004_13 = true := by kernel_rfl
theorem Mine.left13 : LeftO PySem.Challenge.pw_uf020004_13 (view PySem.Challenge.pw_uf020004_13 [1, 3, 4, 5, 6, 7, 9, 10, 11, 12, 13, 15, 16, 17, 18, 20, 21, 22, 23, 24, 25, 26, 27, 28, 29, 30, 31, 32, 33, 34]) [] (fun s => xlAt (view PySem.Challenge.pw_uf020004_13 [1, 3, 4, 5, 6, 7, 9, 10, 11, 12, 13, 15, 16, 17, 18, 20, 21, 22, 23, 24, 25, 26, 27, 28, 29, 30, 31, 32, 33, 34]) [] s && recOk [] s) (Hook.obs Hook.none) (Hook.val Hook.none) 4000 := by intro w; kernel_rfl
set_option maxRecDepth 100000 in
set_option maxHeartbeats 8000000 in
theorem PySem.Challenge.cw_uf020004_13_holds : PySem.Challenge.rw_uf020004_13.Holds := by
  w_on
  refine holds_law Mine.said13 fun said => ?_
  refine holds_open (q := (view PySem.Challenge.pw_uf020004_13 [1, 3, 4, 5, 6, 7, 9, 10, 11, 12, 13, 15, 16, 17, 18, 20, 21, 22, 23, 24, 25, 26, 27, 28, 29, 30, 31, 32, 33, 34])) (loose := []) (Xt := fun s => xlAt (view PySem.Challenge.pw_uf020004_13 [1, 3, 4, 5, 6, 7, 9, 10, 11, 12, 13, 15, 16, 17, 18, 20, 21, 22, 23, 24, 25, 26, 27, 28, 29, 30, 31, 32, 33, 34]) [] s && recOk [] s) (XP := XL (view PySem.Challenge.pw_uf020004_13 [1, 3, 4, 5, 6, 7, 9, 10, 11, 12, 13, 15, 16, 17, 18, 20, 21, 22, 23, 24, 25, 26, 27, 28, 29, 30, 31, 32, 33, 34]) []) (Yf := Hook.obs Hook.none) (Ya := Hook.val Hook.none) (YP := Hook.says Hook.none) (N := 4000) Mine.left13 (Hook.of Hook.none) (Hook.keeps Hook.none) (fun s e => xl_of s (Bool.and_eq_true_iff.mp e).1) XL.keeps (by rfl) (by rfl) (by rfl) (fun s e => recFacts_of (Bool.and_eq_true_iff.mp e).2) (by rfl) (by first | assumption | decide +kernel) (by decide +kernel) ⟨rfl, rfl, rfl, rfl, rfl, by decide +kernel⟩ ?hw ?hc
  case hw => w_witness2
  intro w s₀ s₁ mg mb G Y fa o pm cd doc dV kV ho hd hcd hD hmg hg args vals as hpre hlay hrd hwl hlo
  refine Ground.open G ?_
  intro T B D TE TW
  wrow_args hpre hlay hrd hwl hlo
  rename_i xs _ _ _ _ _ _ _ ad vs _ _ _ w1 _ hI _ hlen _
  have hx : xs.length ≤ 63 := by omega
  obtain ⟨σ', he⟩ := Mine.law_true13 xs hx
  obtain ⟨us, hli, hi⟩ := Mine.well_script w1
  refine wpAny_mono (Mine.law_run (fuel := 200) (N := Mine.NM13) (tbls := Mine.TB13) T (by decide +kernel) (by decide +kernel) rfl (by decide +kernel) rfl hmg (by decide) hli hi hx he) (fun v s' hP => Mine.good_true (raisesW_false (by wrow_none_raised)) (by wrow_post) hg hP) fun _ _ e => e

