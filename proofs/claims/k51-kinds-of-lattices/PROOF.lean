import PyProof.Rows.All
import Wide.All
import OpenK.AllK
import Wide.FinOn
import HandS.ForMost
import HandS.TupAny
import HandS.TupLe
import HandS.Conv
import KE.KIndexOf
import PySem.PyData
import PyProof.P3Statements
import HandS.Deep
import HandS.SortInts
import HandS.Small
import HandS.Set
import HandS.SetFor
import HandS.TupSets
import HandS.Style
import HandS.IsInst
import PyProof.SeqIndex
import PyProof.P3In
import KE.SortData
import KE.DataMinMax
import PySem.Challenge.RW_abovebelow_k51_whole_kinds_of_lattices
set_option Elab.async false
set_option linter.all false
set_option maxRecDepth 100000
/-! JTup: tuples that are known to have no dict of their own (their methods are found): they are laid as whole objects. -/
namespace J
open PySem L2

def PlT (K : PySem.W.Frag) (H : Hp) (a : Addr) (xs : List V) : Prop := (∃ o, H a = some (.frz o (.tup xs)) ∧ o.dict = none) ∨
  ∃ (o : Obj) (its : Array Value) (n : Nat), K.lookup a = some o ∧ o.cls = .type "tuple" ∧ o.dict = none ∧ o.data = .seq its n ∧ its.size ≤ sizeLine ∧ Vals xs its.toList
theorem PlT.sq {K : PySem.W.Frag} {H : Hp} {a : Addr} {xs : List V} (h : PlT K H a xs) : SqT K H a xs := by
  rcases h with ⟨o, h, _⟩ | ⟨o, its, n, h1, h2, _, h3⟩
  · exact .inl (.inr ⟨o, h⟩)
  · exact .inr ⟨o, its, n, h1, h2, h3⟩
/-- a new tuple at any free place -/
def NewT (H : Hp) (ys : List V) (Q : VK) : Prop := ∀ p o, H p = none → o.dict = none → Q (.ref p) (upd H p (.frz o (.tup ys)))
section
variable {X : Cx} {pins : List (Addr × Obj)} {σ : St} {H : Hp} {s : Shared}
theorem lay_tup {xs : List V} {us : List Value} {Q : VK} (I : Inv X pins σ H s) (r : Vals xs us) (hz : xs.length ≤ sizeLine) (q : NewT H xs Q) :
    EP X pins σ Q (.ref s.heap.objs.size) { s with heap := s.heap.push { cls := .type "tuple", data := .seq us.toArray } } := by
  have k := I.hok.fresh (a := s.heap.objs.size) (Nat.le_refl _)
  have J := I.laid (t' := s.toks) (o := .frz { cls := .type "tuple", data := .seq us.toArray } (.tup xs)) (h' := s.heap.push { cls := .type "tuple", data := .seq us.toArray }) (fun _ _ e => Heap.get?_push_of_some _ e) (Nat.le_refl _)
    ⟨Heap.get?_push_size _ rfl, hz, us, r, PyProof.Rows.IsTup.new _ _⟩
  exact ⟨.ref _, _, J, rfl, q _ _ k rfl⟩
end
section
variable {X : Cx} {es : List Expr} {t : TA} {pos : Pos}
def tTupN (t : TA) : TE := fun σ H Q => t σ H fun xs H1 => xs.length ≤ sizeLine ∧ NewT H1 xs Q
theorem pe_tupN {x1} (h : PA X es t) : PE X (.Tuple es x1 pos) (tTupN t) :=
  ⟨fun pins s σ H Q I hq => wpAny_Tuple_spliced (thn (h.run pos pins s σ H _ I hq) fun us s1 ⟨xs, H1, I1, r, z, q⟩ => ⟨r.length ▸ z, lay_tup I1 r z q⟩)⟩
def rCatN (K : PySem.W.Frag) : R2 := fun x y H Q => ∃ a b xs ys, x = .ref a ∧ y = .ref b ∧ SqT K H a xs ∧ SqT K H b ys ∧ xs.length + ys.length ≤ sizeLine ∧
  (xs = [] → Q (.ref b) H) ∧ (xs ≠ [] → ys = [] → Q (.ref a) H) ∧ (xs ≠ [] → ys ≠ [] → NewT H (xs ++ ys) Q)
theorem vals_nil {us : List Value} (r : Vals [] us) : us = [] := by cases r; rfl
theorem op_catN : OpR X (binaryOp .Add) (rCatN X.K) := by
  rintro pins s σ H x y v u Q I rx ry ⟨a, b, xs, ys, rfl, rfl, ha, hb, hz, c1, c2, c3⟩
  cases rx
  cases ry
  obtain ⟨us, k1, t1, _⟩ := I.tuple ha
  obtain ⟨ws, k2, t2, _⟩ := I.tuple hb
  cases xs with
  | nil =>
    rw [vals_nil k1] at t1
    exact cat_tup0 t1 t2 ⟨.ref _, H, I, rfl, c1 rfl⟩
  | cons x0 xs0 =>
    have hn : x0 :: xs0 ≠ [] := by simp
    refine HT.cat_tup t1 t2 (fun z => hn (k1.nil_iff.mp z)) (fun z => ⟨.ref _, H, I, rfl, c2 hn (k2.nil_iff.mp z)⟩) (fun z => ?_) (k1.length ▸ k2.length ▸ hz)
    exact lay_tup I (k1.append k2) (by rw [List.length_append]; exact hz) (c3 hn fun e => z (k2.nil_iff.mpr e))
def rSlN (K : PySem.W.Frag) : V → Option Int → Option Int → Hp → VK → Prop := fun x lo hi H Q => ∃ a xs, x = .ref a ∧ SqT K H a xs ∧
  (HT.sIx xs.length 0 lo = 0 ∧ HT.sIx xs.length xs.length hi = xs.length → Q (.ref a) H) ∧ (¬ (HT.sIx xs.length 0 lo = 0 ∧ HT.sIx xs.length xs.length hi = xs.length) → NewT H (cutV xs lo hi) Q)
theorem sl_tupN : SlR X (rSlN X.K) := by
  rintro pins s σ H x v vl vu lo hi sl Q I rx hs pl pu ⟨a, xs, rfl, hx, c1, c2⟩
  cases rx
  obtain ⟨us, k, t, z⟩ := I.tuple hx
  have e : us.toArray.size = xs.length := by simp [k.length]
  refine ⟨_, _, PyProof.Rows.slot_tuple_getitem.lookup, t.typeIs, ?_⟩
  by_cases hw : HT.sIx xs.length 0 lo = 0 ∧ HT.sIx xs.length xs.length hi = xs.length
  · exact getItem_tuple_whole t hs pl pu (e ▸ hw) ⟨.ref _, H, I, rfl, c1 hw⟩
  · refine HT.getItem_tuple_cut t hs pl pu (e ▸ hw) ?_ (e ▸ z)
    rw [e]
    exact lay_tup I ((k.drop _).take _) (Nat.le_trans (cutV_length xs lo hi) z) (c2 hw)
def rTupN (K : PySem.W.Frag) : List V → Hp → VK → Prop := fun xs H Q => ∃ p ys, xs = [.ref p] ∧ ((SqL K H p ys ∧ NewT H ys Q) ∨ (SqT K H p ys ∧ Q (.ref p) H))
theorem call_tupN : CallR X (.type "tuple") (rTupN X.K) := by
  rintro pins s σ H xs us Q I r ⟨p, ys, rfl, h⟩
  obtain ⟨u, rfl, rx⟩ := vals1 r
  cases rx
  rcases h with ⟨hq, q⟩ | ⟨hq, q⟩
  · obtain ⟨ws, k, pl, hz⟩ := I.list hq
    refine PySem.call_tuple_list pl.isList (fun h' kp => ?_) (by rw [List.size_toArray, ← k.length]; exact hz)
    exact lay_tup (s := { s with heap := h' }) (I.kept (t' := s.toks) kp) k hz q
  · obtain ⟨ws, k, pl, hz⟩ := I.tuple hq
    exact PySem.call_tuple_same pl ⟨.ref _, H, I, rfl, q⟩
end
end J

set_option Elab.async false
set_option linter.all false
/-! JSem: what the program's texts compute, over plain data (no heap): the semantics that the walk (JRel) carries the model's runs to. -/
namespace J
open PySem
abbrev D := PyData
abbrev Env := List (Option D)
/-- the end of a piece of text: a value (and the names), an exception, or nothing is said -/
inductive R (a : Type) where
  | ok (x : a) (r : Env)
  | ex (c : String) (xs : List D) (r : Env)
  | no
def R.bind {a b : Type} (x : R a) (f : a → Env → R b) : R b := match x with
  | .ok x r => f x r
  | .ex c xs r => .ex c xs r
  | .no => .no
theorem bind_ok {a b : Type} (x : a) (r : Env) (f : a → Env → R b) : (R.ok x r).bind f = f x r := rfl
theorem bind_ex {a b : Type} (c : String) (xs : List D) (r : Env) (f : a → Env → R b) : (R.ex c xs r : R a).bind f = R.ex c xs r := rfl
theorem bind_no {a b : Type} (f : a → Env → R b) : (R.no : R a).bind f = R.no := rfl
theorem of_bind {a b : Type} {x : R a} {f : a → Env → R b} {y : b} {r : Env} (h : x.bind f = .ok y r) : ∃ z r1, x = .ok z r1 ∧ f z r1 = .ok y r := by
  cases x with
  | ok z r1 => exact ⟨z, r1, rfl, h⟩
  | ex c xs r1 => exact absurd h (by intro q; cases q)
  | no => exact absurd h (by intro q; cases q)
inductive Fl where
  | nx | bk | ct
  | rt (d : D)
abbrev SE := Env → R D
abbrev SA := Env → R (List D)
abbrev SB := Env → R Bool
abbrev SS := Env → R Fl
/-- the longest list that the model carries -/
def line : Nat := 16777216
def lift (o : Option D) (r : Env) : R D := match o with
  | some d => .ok d r
  | none => .no
theorem of_lift {o : Option D} {r r' : Env} {d : D} (h : lift o r = .ok d r') : o = some d ∧ r' = r := by
  cases o with
  | none => cases h
  | some x => cases h; exact ⟨rfl, rfl⟩

/-! ### expressions -/
def sC (d : D) : SE := fun r => .ok d r
def getS (r : Env) (i : Nat) : Option D := match r[i]? with
  | some (some d) => some d
  | _ => none
def sV (i : Nat) : SE := fun r => lift (getS r i) r
def sNil : SA := fun r => .ok [] r
def sCons (a : SE) (b : SA) : SA := fun r => (a r).bind fun x r1 => (b r1).bind fun xs r2 => .ok (x :: xs) r2
def sTup (a : SA) : SE := fun r => (a r).bind fun xs r1 => .ok (.tuple xs) r1
def sLst (a : SA) : SE := fun r => (a r).bind fun xs r1 => .ok (.list xs) r1
def sBin (f : D → D → Option D) (a b : SE) : SE := fun r => (a r).bind fun x r1 => (b r1).bind fun y r2 => lift (f x y) r2
def sUn (f : D → Option D) (a : SE) : SE := fun r => (a r).bind fun x r1 => lift (f x) r1
/-- a built-in by its values -/
def sFn (f : List D → Option D) (a : SA) : SE := fun r => (a r).bind fun xs r1 => lift (f xs) r1
def toB (d : D) (r : Env) : R Bool := match d with
  | .bool b => .ok b r
  | _ => .no
def sT (a : SE) : SB := fun r => (a r).bind fun x r1 => toB x r1
def sOfB (a : SB) : SE := fun r => (a r).bind fun b r1 => .ok (.bool b) r1
def sAnd (a b : SB) : SB := fun r => (a r).bind fun x r1 => if x = true then b r1 else .ok false r1
def sOr (a b : SB) : SB := fun r => (a r).bind fun x r1 => if x = true then .ok true r1 else b r1
def sNot (a : SB) : SB := fun r => (a r).bind fun x r1 => .ok (!x) r1
def sIfE (c : SB) (a b : SE) : SE := fun r => (c r).bind fun x r1 => if x = true then a r1 else b r1

/-! ### values -/
def dAdd : D → D → Option D
  | .int a, .int b => some (.int (a + b))
  | .str a, .str b => if a.length + b.length ≤ line then some (.str (a ++ b)) else none
  | .list a, .list b => if a.length + b.length ≤ line then some (.list (a ++ b)) else none
  | .tuple a, .tuple b => if a.length + b.length ≤ line then some (.tuple (a ++ b)) else none
  | _, _ => none
def dSub : D → D → Option D
  | .int a, .int b => some (.int (a - b))
  | _, _ => none
def small (a : Int) : Prop := -(2 ^ 64) < a ∧ a < 2 ^ 64
instance (a : Int) : Decidable (small a) := inferInstanceAs (Decidable (_ ∧ _))
def dMul : D → D → Option D
  | .int a, .int b => if small a ∨ small b then some (.int (a * b)) else none
  | .list a, .int k => if -(2 ^ 63) ≤ k ∧ k < 2 ^ 63 ∧ a.length * k.toNat ≤ line then some (.list (List.replicate k.toNat a).flatten) else none
  | _, _ => none
def dDiv : D → D → Option D
  | .int a, .int b => if 0 < b ∧ b < 1073741824 then some (.int (a / b)) else none
  | _, _ => none
def dMod : D → D → Option D
  | .int a, .int b => if 0 < b then some (.int (a % b)) else none
  | _, _ => none
def dNeg : D → Option D
  | .int a => some (.int (-a))
  | _ => none
/-- a test over two asInts -/
def dCmp (p : Int → Int → Bool) : D → D → Option D
  | .int a, .int b => some (.bool (p a b))
  | _, _ => none
def dLt : D → D → Option D := dCmp fun a b => decide (a < b)
def dLe : D → D → Option D := dCmp fun a b => decide (a ≤ b)
def dGt : D → D → Option D := dCmp fun a b => decide (b < a)
def dGe : D → D → Option D := dCmp fun a b => decide (b ≤ a)
/-- no dict anywhere, no deeper than 64 (what the model compares) -/
def shp (d : D) : Bool := d.canLay0 && decide (d.depth ≤ 64)
def dEq (a b : D) : Option D := if shp a = true ∧ shp b = true then some (.bool (PyData.eqv a b)) else none
def dNe (a b : D) : Option D := if shp a = true ∧ shp b = true then some (.bool (!PyData.eqv a b)) else none
def isNon : D → Bool
  | .none => true
  | _ => false
def dIsN (a : D) : Option D := some (.bool (isNon a))
def dNotN (a : D) : Option D := some (.bool (!isNon a))
def dIs (a b : D) : Option D := match b with
  | .none => dIsN a
  | .bool c => (match a with | .bool x => some (.bool (decide (x = c))) | _ => none)
  | _ => none
def dIsnt (a b : D) : Option D := match b with
  | .none => dNotN a
  | .bool c => (match a with | .bool x => some (.bool (!decide (x = c))) | _ => none)
  | _ => none
def items : D → Option (List D)
  | .list xs => some xs
  | .tuple xs => some xs
  | _ => none
def dIn (a b : D) : Option D := match items b with
  | some xs => if shp a = true ∧ shp (.list xs) = true then some (.bool (xs.any fun z => PyData.eqv z a)) else none
  | none => none
def dNin (a b : D) : Option D := match items b with
  | some xs => if shp a = true ∧ shp (.list xs) = true then some (.bool (!(xs.any fun z => PyData.eqv z a))) else none
  | none => none
/-- the place that an index tells -/
def ixD (n : Nat) (i : Int) : Option Nat := if 0 ≤ i then (if i < n then some i.toNat else none) else if -(n : Int) ≤ i then some (i + n).toNat else none
def dIx : D → D → Option D
  | .list xs, .int i => (ixD xs.length i).bind fun j => xs[j]?
  | .tuple xs, .int i => (ixD xs.length i).bind fun j => xs[j]?
  | _, _ => none
/-- a slice's end -/
def slD (n d : Nat) : Option Int → Nat
  | none => d
  | some i => if i < 0 then (i + (n : Int)).toNat else min i.toNat n
def cutD (xs : List D) (lo hi : Option Int) : List D := (xs.drop (slD xs.length 0 lo)).take (slD xs.length xs.length hi - slD xs.length 0 lo)
def dSl (lo hi : Option Int) : D → Option D
  | .list xs => some (.list (cutD xs lo hi))
  | .tuple xs => some (.tuple (cutD xs lo hi))
  | _ => none
def intOf : D → Option Int
  | .int i => some i
  | _ => none
def sPart (a : SE) : Env → R (Option Int) := fun r => (a r).bind fun x r1 => match intOf x with
  | some i => .ok (some i) r1
  | none => .no
def sNoPart : Env → R (Option Int) := fun r => .ok none r
def sSl (a : SE) (lo hi : Env → R (Option Int)) : SE := fun r => (a r).bind fun x r1 => (lo r1).bind fun l r2 => (hi r2).bind fun h r3 => lift (dSl l h x) r3

/-! ### built-ins -/
def dLen : List D → Option D
  | [.list xs] => some (.int xs.length)
  | [.tuple xs] => some (.int xs.length)
  | _ => none
def dAbs : List D → Option D
  | [.int i] => some (.int (if i < 0 then -i else i))
  | _ => none
def dInt : List D → Option D
  | [.int i] => some (.int i)
  | [.bool b] => some (.int (if b then 1 else 0))
  | _ => none
def dMax2 : List D → Option D
  | [.int i, .int j] => some (.int (if j > i then j else i))
  | _ => none
def dMin2 : List D → Option D
  | [.int i, .int j] => some (.int (if j < i then j else i))
  | _ => none
def dTuple : List D → Option D
  | [.list xs] => some (.tuple xs)
  | [.tuple xs] => some (.tuple xs)
  | _ => none
def dList : List D → Option D
  | [.list xs] => some (.list xs)
  | [.tuple xs] => some (.list xs)
  | _ => none
def bools : List D → Option (List Bool)
  | [] => some []
  | .bool b :: r => (bools r).map (b :: ·)
  | _ :: _ => none
def asInts : List D → Option (List Int)
  | [] => some []
  | .int b :: r => (asInts r).map (b :: ·)
  | _ :: _ => none
def dAll : List D → Option D
  | [.list xs] => (bools xs).map fun bs => .bool (bs.all id)
  | _ => none
def dAny : List D → Option D
  | [.list xs] => (bools xs).map fun bs => .bool (bs.any id)
  | _ => none
def dSum : List D → Option D
  | [.list xs] => (asInts xs).map fun bs => .int bs.sum
  | _ => none
/-- integers, ascending -/
def sortI (xs : List Int) : List Int := xs.mergeSort fun a b => decide (a ≤ b)

/-! ### what is walked -/
/-- a target: a name, or names of a tuple -/
inductive Tg where
  | nm (i : Nat)
  | tp (is : List Nat)
def Tg.sl : Tg → List Nat
  | .nm i => [i]
  | .tp is => is
def setAll : List Nat → List D → Env → Option Env
  | [], [], r => some r
  | i :: is, d :: ds, r => setAll is ds (r.set i (some d))
  | _, _, _ => none
def Tg.put : Tg → D → Env → Option Env
  | .nm i, d, r => some (r.set i (some d))
  | .tp is, .tuple ds, r => setAll is ds r
  | .tp _, _, _ => none
abbrev SI := Env → R (List D)
def itSeq (a : SE) : SI := fun r => (a r).bind fun x r1 => match items x with
  | some xs => .ok xs r1
  | none => .no
def upTo (lo : Int) (n : Nat) : List D := (List.range n).map fun k => .int (lo + (k : Nat))
def fits (i : Int) : Prop := -(2 ^ 62) ≤ i ∧ i < 2 ^ 62
instance (a : Int) : Decidable (fits a) := inferInstanceAs (Decidable (_ ∧ _))
def itRg1 (a : SE) : SI := fun r => (a r).bind fun x r1 => match intOf x with
  | some j => if -(2 ^ 62) ≤ j ∧ j < 2 ^ 62 ∧ j.toNat ≤ line then .ok (upTo 0 j.toNat) r1 else .no
  | none => .no
def itRg2 (a b : SE) : SI := fun r => (a r).bind fun x r1 => (b r1).bind fun y r2 => match intOf x, intOf y with
  | some i, some j => if fits i ∧ fits j ∧ (j - i).toNat ≤ line then .ok (upTo i (j - i).toNat) r2 else .no
  | _, _ => .no
def kill : List Nat → Env → Env
  | [], r => r
  | i :: is, r => (kill is r).set i none
/-- the names of a block as they were -/
def back : List Nat → Env → Env → Env
  | [], _, r => r
  | i :: is, r0, r => match r0[i]? with
    | some o => (back is r0 r).set i o
    | none => back is r0 r
/-- the list so far, an item more -/
def lcE (elt : SE) : List D → Env → R (List D) := fun acc r => (elt r).bind fun y r1 => .ok (acc ++ [y]) r1
/-- .. for tg in xs if c -/
def lcG (tg : Tg) (c : SB) (body : List D → Env → R (List D)) (own : List Nat) : List D → List D → Env → R (List D)
  | [], acc, r => .ok acc r
  | x :: xs, acc, r => match tg.put x (kill own r) with
    | none => .no
    | some r1 => (c r1).bind fun b r2 => if b = true then (body acc r2).bind fun acc' r3 => lcG tg c body own xs acc' r3 else lcG tg c body own xs acc r2
/-- a further clause -/
def lcI (tg : Tg) (it : SI) (c : SB) (body : List D → Env → R (List D)) (own : List Nat) : List D → Env → R (List D) := fun acc r => (it r).bind fun xs r1 =>
  if acc.length + xs.length ≤ line then (lcG tg c body own xs acc r1).bind fun ys r2 => .ok ys (kill own r2) else .no
/-- [.. for tg in it if c ..] -/
def sLc (tg : Tg) (it : SI) (c : SB) (body : List D → Env → R (List D)) (own : List Nat) : SE := fun r => (it r).bind fun xs r1 => (lcG tg c body own xs [] r1).bind fun ys r2 => .ok (.list ys) (back own r1 r2)
def sYes : SB := fun r => .ok true r

/-! ### calls -/
inductive RF where
  | ok (d : D) (outs : List D)
  | ex (c : String) (xs : List D) (outs : List D)
  | no
abbrev Fn := List D → RF
/-- an argument: an expression; one whose list (dict) the callee changes and nobody gets back; a name whose list (dict) the callee may change; a name whose list the callee only reads -/
inductive Ag where
  | e (s : SE)
  | eo (s : SE)
  | io (i : Nat)
  | bv (i : Nat)
/-- the arguments that are expressions, from the left; a name's place stays empty -/
def argL : List Ag → Env → R (List (Option D))
  | [], r => .ok [] r
  | .e s :: as, r => (s r).bind fun d r1 => (argL as r1).bind fun ds r2 => .ok (some d :: ds) r2
  | .eo s :: as, r => (s r).bind fun d r1 => (argL as r1).bind fun ds r2 => .ok (some d :: ds) r2
  | .io i :: as, r => match getS r i with
    | some _ => (argL as r).bind fun ds r2 => .ok (none :: ds) r2
    | none => .no
  | .bv i :: as, r => match getS r i with
    | some _ => (argL as r).bind fun ds r2 => .ok (none :: ds) r2
    | none => .no
def argF : List Ag → List (Option D) → Env → Option (List D)
  | [], [], _ => some []
  | .e _ :: as, some d :: ds, r => (argF as ds r).map (d :: ·)
  | .eo _ :: as, some d :: ds, r => (argF as ds r).map (d :: ·)
  | .io i :: as, none :: ds, r => (getS r i).bind fun d => (argF as ds r).map (d :: ·)
  | .bv i :: as, none :: ds, r => (getS r i).bind fun d => (argF as ds r).map (d :: ·)
  | _, _, _ => none
def argB : List Ag → List D → Env → Option Env
  | [], [], r => some r
  | .e _ :: as, outs, r => argB as outs r
  | .eo _ :: as, _ :: outs, r => argB as outs r
  | .bv _ :: as, outs, r => argB as outs r
  | .io i :: as, d :: outs, r => argB as outs (r.set i (some d))
  | _, _, _ => none
def sCall (F : Fn) (as : List Ag) : SE := fun r => (argL as r).bind fun ods r1 => match argF as ods r1 with
  | none => .no
  | some ds => match F ds with
    | .ok d outs => (match argB as outs r1 with | some r2 => .ok d r2 | none => .no)
    | .ex c xs outs => (match argB as outs r1 with | some r2 => .ex c xs r2 | none => .no)
    | .no => .no

/-! ### a list that a name holds, changed -/
def listOf : D → Option (List D)
  | .list xs => some xs
  | _ => none
def getL (r : Env) (i : Nat) : Option (List D) := match getS r i with
  | some d => listOf d
  | none => none
def setL (r : Env) (i : Nat) (xs : List D) : Env := r.set i (some (.list xs))
/-- a method that changes the list of a name: f of its items and the arguments -/
def sMet (f : List D → List D → Option (D × List D)) (i : Nat) (a : SA) : SE := fun r => match getL r i with
  | none => .no
  | some _ => (a r).bind fun args r1 => match getL r1 i with
    | none => .no
    | some xs => match f xs args with
      | some (d, ys) => .ok d (setL r1 i ys)
      | none => .no
def mApp : List D → List D → Option (D × List D)
  | xs, [x] => if xs.length < line then some (.none, xs ++ [x]) else none
  | _, _ => none
def mExt : List D → List D → Option (D × List D)
  | xs, [.list ys] => if xs.length + ys.length ≤ line then some (.none, xs ++ ys) else none
  | _, _ => none
def mPop : List D → List D → Option (D × List D)
  | xs, [] => (xs[xs.length - 1]?).map fun x => (x, xs.dropLast)
  | _, _ => none
def mPopAt : List D → List D → Option (D × List D)
  | xs, [.int k] => if -(2 ^ 63) ≤ k ∧ k < 2 ^ 63 then (ixD xs.length k).bind fun j => (xs[j]?).map fun x => (x, xs.eraseIdx j) else none
  | _, _ => none
def mIns : List D → List D → Option (D × List D)
  | xs, [.int k, x] => if xs.length < line ∧ 0 ≤ k ∧ k < 2 ^ 63 then some (.none, xs.take k.toNat ++ x :: xs.drop k.toNat) else none
  | _, _ => none
def mRev : List D → List D → Option (D × List D)
  | xs, [] => some (.none, xs.reverse)
  | _, _ => none

/-! ### statements -/
def sSeq (a b : SS) : SS := fun r => (a r).bind fun f r1 => match f with
  | .nx => b r1
  | f => .ok f r1
def sPass : SS := fun r => .ok .nx r
def sBk : SS := fun r => .ok .bk r
def sCt : SS := fun r => .ok .ct r
def sRet (a : SE) : SS := fun r => (a r).bind fun x r1 => .ok (.rt x) r1
def sX (a : SE) : SS := fun r => (a r).bind fun _ r1 => .ok .nx r1
def sSet (i : Nat) (a : SE) : SS := fun r => (a r).bind fun x r1 => .ok .nx (r1.set i (some x))
def sAsg (tg : Tg) (a : SE) : SS := fun r => (a r).bind fun x r1 => match tg.put x r1 with
  | some r2 => .ok .nx r2
  | none => .no
/-- a, b = x, y -/
def sPar (i j : Nat) (a b : SE) : SS := fun r => (a r).bind fun x r1 => (b r1).bind fun y r2 => .ok .nx ((r2.set i (some x)).set j (some y))
/-- xs[k] = v -/
def sSub (i : Nat) (k v : SE) : SS := fun r => (v r).bind fun x r1 => match getL r1 i with
  | none => .no
  | some _ => (k r1).bind fun z r2 => match intOf z, getL r2 i with
    | some z, some xs => (match ixD xs.length z with | some j => .ok .nx (setL r2 i (xs.set j x)) | none => .no)
    | _, _ => .no
def sIf (c : SB) (a b : SS) : SS := fun r => (c r).bind fun x r1 => if x = true then a r1 else b r1
def forL (tg : Tg) (body : SS) (ks : List Nat) : List D → Env → R Fl
  | [], r => .ok .nx (kill ks r)
  | x :: xs, r => match tg.put x r with
    | none => .no
    | some r1 => (body r1).bind fun f r2 => match f with
      | .nx => forL tg body ks xs (kill ks r2)
      | .ct => forL tg body ks xs (kill ks r2)
      | .bk => .ok .nx (kill ks r2)
      | .rt d => .ok (.rt d) r2
def sFor (tg : Tg) (it : SI) (body : SS) (ks : List Nat) : SS := fun r => (it r).bind fun xs r1 => forL tg body ks xs (kill ks r1)
def whN (c : SB) (body : SS) (ks : List Nat) : Nat → Env → R Fl
  | 0, _ => .no
  | n + 1, r => (c r).bind fun b r1 => if b = true then (body r1).bind fun f r2 => match f with
      | .nx => whN c body ks n (kill ks r2)
      | .ct => whN c body ks n (kill ks r2)
      | .bk => .ok .nx (kill ks r2)
      | .rt d => .ok (.rt d) r2
    else .ok .nx (kill ks r1)
open Classical in
noncomputable def sWhile (c : SB) (body : SS) (ks : List Nat) : SS := fun r => if h : ∃ n x r', whN c body ks n (kill ks r) = .ok x r' then whN c body ks (Classical.choose h) (kill ks r) else .no
theorem whN_mono {c : SB} {body : SS} {ks : List Nat} : ∀ {n m : Nat} {r : Env} {f : Fl} {r' : Env}, whN c body ks n r = .ok f r' → n ≤ m → whN c body ks m r = .ok f r'
  | 0, _, _, _, _, h, _ => by cases h
  | n + 1, 0, _, _, _, _, h => absurd h (Nat.not_succ_le_zero n)
  | n + 1, m + 1, r, f, r', h, hm => by
    unfold whN at h ⊢
    obtain ⟨b, r1, e1, h⟩ := of_bind h
    rw [e1, bind_ok]
    cases b with
    | false => exact h
    | true =>
      simp only [if_true] at h ⊢
      obtain ⟨g, r2, e2, h⟩ := of_bind h
      rw [e2, bind_ok]
      cases g with
      | nx => exact whN_mono h (Nat.le_of_succ_le_succ hm)
      | ct => exact whN_mono h (Nat.le_of_succ_le_succ hm)
      | bk => exact h
      | rt d => exact h
theorem while_of {c : SB} {body : SS} {ks : List Nat} {n : Nat} {r : Env} {f : Fl} {r' : Env} (h : whN c body ks n (kill ks r) = .ok f r') : sWhile c body ks r = .ok f r' := by
  unfold sWhile
  have hx : ∃ n x r', whN c body ks n (kill ks r) = .ok x r' := ⟨n, f, r', h⟩
  rw [dif_pos hx]
  obtain ⟨g, r'', e⟩ := Classical.choose_spec hx
  have a := whN_mono e (Nat.le_max_left (Classical.choose hx) n)
  have b := whN_mono h (Nat.le_max_right (Classical.choose hx) n)
  rw [e, ← a, b]
theorem of_while {c : SB} {body : SS} {ks : List Nat} {r : Env} {f : Fl} {r' : Env} (h : sWhile c body ks r = .ok f r') : ∃ n, whN c body ks n (kill ks r) = .ok f r' := by
  unfold sWhile at h
  split at h
  · exact ⟨_, h⟩
  · cases h

/-! ### a def: its parameters in the first slots; which of them the caller gets back -/
def outsOf : List Nat → Env → Option (List D)
  | [], _ => some []
  | i :: is, r => match getS r i, outsOf is r with
    | some d, some ds => some (d :: ds)
    | _, _ => none
def runD (n : Nat) (ios : List Nat) (body : SS) : Fn := fun ds => match body (ds.map some ++ List.replicate (n - ds.length) none) with
  | .ok f r => (match outsOf ios r with
    | some outs => (match f with | .rt d => .ok d outs | .nx => .ok .none outs | _ => .no)
    | none => .no)
  | .ex c xs r => (match outsOf ios r with | some outs => .ex c xs outs | none => .no)
  | .no => .no
end J

set_option Elab.async false
set_option linter.all false
set_option maxRecDepth 100000
/-! JRel: how plain data lies in the abstract heap; which lists a name owns. -/
namespace J
open PySem L2

def keyD : Key → D
  | .inl i => .int i
  | .inr x => .str x
def atom : D → Prop
  | .list _ => False
  | .dict _ => False
  | _ => True

section
variable (K : PySem.W.Frag) (U : Addr → Prop) (H : Hp)
mutual
/-- the value is the data; no list (dict) of it stands in U -/
inductive En : D → V → Prop
  | non : En .none .non
  | bl (b : Bool) : En (.bool b) (.bl b)
  | int (i : Int) : En (.int i) (.int i)
  | str (x : Str) : En (.str x) (.str x)
  | tup {a : Addr} {xs : List V} {ds : List D} : PlT K H a xs → EnAll ds xs → En (.tuple ds) (.ref a)
  | lst {a : Addr} {xs : List V} {ds : List D} : H a = some (.lst xs) → ¬ U a → EnAll ds xs → En (.list ds) (.ref a)
  | dic {a : Addr} {kvs : List (Key × V)} {kds : List (D × D)} : H a = some (.dK kvs) → ¬ U a → EnKv kds kvs → En (.dict kds) (.ref a)
inductive EnAll : List D → List V → Prop
  | nil : EnAll [] []
  | cons {d : D} {v : V} {ds : List D} {vs : List V} : En d v → EnAll ds vs → EnAll (d :: ds) (v :: vs)
inductive EnKv : List (D × D) → List (Key × V) → Prop
  | nil : EnKv [] []
  | cons {k : Key} {d : D} {v : V} {ds : List (D × D)} {vs : List (Key × V)} : En d v → EnKv ds vs → EnKv ((keyD k, d) :: ds) ((k, v) :: vs)
end
mutual
/-- the lists of the data, n deep, are owned: they stand at rs, in U -/
inductive Own : Nat → D → V → List Addr → Prop
  | sh {n : Nat} {d : D} {v : V} : En K U H d v → (n = 0 ∨ atom d) → Own n d v []
  | lst {n : Nat} {a : Addr} {xs : List V} {ds : List D} {rs : List Addr} : U a → H a = some (.lst xs) → OwnAll n ds xs rs → Own (n + 1) (.list ds) (.ref a) (a :: rs)
  | dic {n : Nat} {a : Addr} {kvs : List (Key × V)} {kds : List (D × D)} : U a → H a = some (.dK kvs) → EnKv K U H kds kvs → Own (n + 1) (.dict kds) (.ref a) [a]
inductive OwnAll : Nat → List D → List V → List Addr → Prop
  | nil {n : Nat} : OwnAll n [] [] []
  | cons {n : Nat} {d : D} {v : V} {ds : List D} {vs : List V} {r1 r2 : List Addr} : Own n d v r1 → OwnAll n ds vs r2 → OwnAll n (d :: ds) (v :: vs) (r1 ++ r2)
end
end

/-- what stands outside U is kept, and U takes only new places -/
structure Grow (U : Addr → Prop) (H : Hp) (U' : Addr → Prop) (H' : Hp) : Prop where
  keep : ∀ b o, H b = some o → ¬ U b → H' b = some o
  fix : ∀ b o, H b = some o → ¬ Mut (some o) → H' b = some o
  out : ∀ b, U' b → U b ∨ H b = none
theorem Grow.refl {U : Addr → Prop} {H : Hp} : Grow U H U H := ⟨fun _ _ h _ => h, fun _ _ h _ => h, fun _ h => .inl h⟩
theorem Grow.not {U U' : Addr → Prop} {H H' : Hp} (g : Grow U H U' H') {b : Addr} {o : HO} (h : H b = some o) (n : ¬ U b) : ¬ U' b := fun u => by
  rcases g.out b u with z | z
  · exact n z
  · rw [h] at z; cases z
theorem Grow.trans {U U1 U2 : Addr → Prop} {H H1 H2 : Hp} (a : Grow U H U1 H1) (c : Grow U1 H1 U2 H2) (none : ∀ b, H1 b = none → H b = none) : Grow U H U2 H2 :=
  ⟨fun b o h n => c.keep b o (a.keep b o h n) (a.not h n), fun b o h m => c.fix b o (a.fix b o h m) m, fun b u => by
    rcases c.out b u with z | z
    · exact a.out b z
    · exact .inr (none b z)⟩
theorem sqT_grow {K : PySem.W.Frag} {U U' : Addr → Prop} {H H' : Hp} {a : Addr} {xs : List V} (g : Grow U H U' H') (h : SqT K H a xs) : SqT K H' a xs := by
  rcases h with (h | ⟨o, h⟩) | h
  · exact .inl (.inl (g.fix _ _ h (by intro q; exact q)))
  · exact .inl (.inr ⟨o, g.fix _ _ h (by intro q; exact q)⟩)
  · exact .inr h
theorem plT_grow {K : PySem.W.Frag} {U U' : Addr → Prop} {H H' : Hp} {a : Addr} {xs : List V} (g : Grow U H U' H') (h : PlT K H a xs) : PlT K H' a xs :=
  h.imp (fun ⟨o, h, d⟩ => ⟨o, g.fix _ _ h (fun q => q), d⟩) fun h => h
mutual
theorem En.grow {K : PySem.W.Frag} {U U' : Addr → Prop} {H H' : Hp} (g : Grow U H U' H') : ∀ {d : D} {v : V}, En K U H d v → En K U' H' d v
  | _, _, .non => .non
  | _, _, .bl b => .bl b
  | _, _, .int i => .int i
  | _, _, .str x => .str x
  | _, _, .tup h a => .tup (plT_grow g h) (EnAll.grow g a)
  | _, _, .lst h n a => .lst (g.keep _ _ h n) (g.not h n) (EnAll.grow g a)
  | _, _, .dic h n a => .dic (g.keep _ _ h n) (g.not h n) (EnKv.grow g a)
theorem EnAll.grow {K : PySem.W.Frag} {U U' : Addr → Prop} {H H' : Hp} (g : Grow U H U' H') : ∀ {ds : List D} {vs : List V}, EnAll K U H ds vs → EnAll K U' H' ds vs
  | _, _, .nil => .nil
  | _, _, .cons h t => .cons (En.grow g h) (EnAll.grow g t)
theorem EnKv.grow {K : PySem.W.Frag} {U U' : Addr → Prop} {H H' : Hp} (g : Grow U H U' H') : ∀ {ds : List (D × D)} {vs : List (Key × V)}, EnKv K U H ds vs → EnKv K U' H' ds vs
  | _, _, .nil => .nil
  | _, _, .cons h t => .cons (En.grow g h) (EnKv.grow g t)
end

/-- a step of the text: what stands outside W is kept; U and W take only new places -/
structure Step (U W : Addr → Prop) (H : Hp) (U' W' : Addr → Prop) (H' : Hp) : Prop where
  keep : ∀ b o, H b = some o → ¬ W b → H' b = some o
  fix : ∀ b o, H b = some o → ¬ Mut (some o) → H' b = some o
  live : ∀ b, H' b = none → H b = none
  out : ∀ b, U' b → U b ∨ H b = none
  kin : ∀ b, U b → ¬ W b → U' b
  win : ∀ b, W' b → W b ∨ H b = none
theorem Step.refl {U W : Addr → Prop} {H : Hp} : Step U W H U W H := ⟨fun _ _ h _ => h, fun _ _ h _ => h, fun _ h => h, fun _ h => .inl h, fun _ h _ => h, fun _ h => .inl h⟩
theorem Step.notW {U W U' W' : Addr → Prop} {H H' : Hp} (s : Step U W H U' W' H') {b : Addr} {o : HO} (h : H b = some o) (n : ¬ W b) : ¬ W' b := fun u => by
  rcases s.win b u with z | z
  · exact n z
  · rw [h] at z; cases z
theorem Step.notU {U W U' W' : Addr → Prop} {H H' : Hp} (s : Step U W H U' W' H') {b : Addr} {o : HO} (h : H b = some o) (n : ¬ U b) : ¬ U' b := fun u => by
  rcases s.out b u with z | z
  · exact n z
  · rw [h] at z; cases z
theorem Step.trans {U W U1 W1 U2 W2 : Addr → Prop} {H H1 H2 : Hp} (hu : ∀ b, U b → H b ≠ none) (a : Step U W H U1 W1 H1) (c : Step U1 W1 H1 U2 W2 H2) : Step U W H U2 W2 H2 where
  keep b o h n := c.keep b o (a.keep b o h n) (a.notW h n)
  fix b o h m := c.fix b o (a.fix b o h m) m
  live b h := a.live b (c.live b h)
  out b u := by
    rcases c.out b u with z | z
    · exact a.out b z
    · exact .inr (a.live b z)
  kin b u n := by
    have h1 := a.kin b u n
    cases q : H b with
    | none => exact absurd q (hu b u)
    | some o => exact c.kin b h1 (a.notW q n)
  win b u := by
    rcases c.win b u with z | z
    · exact a.win b z
    · exact .inr (a.live b z)
theorem Step.growU {U W U' W' : Addr → Prop} {H H' : Hp} (s : Step U W H U' W' H') (hw : ∀ b, W b → U b) : Grow U H U' H' :=
  ⟨fun b o h n => s.keep b o h fun w => n (hw b w), s.fix, s.out⟩
theorem Step.growW {U W U' W' : Addr → Prop} {H H' : Hp} (s : Step U W H U' W' H') : Grow W H W' H' := ⟨s.keep, s.fix, s.win⟩
/-- only new things come -/
structure Fresh (U : Addr → Prop) (H : Hp) (U' : Addr → Prop) (H' : Hp) : Prop where
  all : ∀ b o, H b = some o → H' b = some o
  inc : ∀ b, U b → U' b
  out : ∀ b, U' b → U b ∨ H b = none
theorem Fresh.refl {U : Addr → Prop} {H : Hp} : Fresh U H U H := ⟨fun _ _ h => h, fun _ h => h, fun _ h => .inl h⟩
theorem Fresh.live {U U' : Addr → Prop} {H H' : Hp} (f : Fresh U H U' H') (b : Addr) (h : H' b = none) : H b = none := by
  cases q : H b with
  | none => rfl
  | some o => rw [f.all b o q] at h; cases h
theorem Fresh.step {U U' W : Addr → Prop} {H H' : Hp} (f : Fresh U H U' H') : Step U W H U' W H' :=
  ⟨fun b o h _ => f.all b o h, fun b o h _ => f.all b o h, f.live, f.out, fun b u _ => f.inc b u, fun _ w => .inl w⟩
theorem Fresh.grow {U U' : Addr → Prop} {H H' : Hp} (f : Fresh U H U' H') : Grow U H U' H' := ⟨fun b o h _ => f.all b o h, fun b o h _ => f.all b o h, f.out⟩
/-- for a set that stays -/
theorem Fresh.growT {U U' T : Addr → Prop} {H H' : Hp} (f : Fresh U H U' H') : Grow T H T H' := ⟨fun b o h _ => f.all b o h, fun b o h _ => f.all b o h, fun _ u => .inl u⟩
theorem Fresh.trans {U U1 U2 : Addr → Prop} {H H1 H2 : Hp} (a : Fresh U H U1 H1) (c : Fresh U1 H1 U2 H2) : Fresh U H U2 H2 :=
  ⟨fun b o h => c.all b o (a.all b o h), fun b u => c.inc b (a.inc b u), fun b u => by
    rcases c.out b u with z | z
    · exact a.out b z
    · exact .inr (a.live b z)⟩
/-- a new object at p, not owned -/
theorem Fresh.new {U : Addr → Prop} {H : Hp} {p : Addr} (o : HO) (h : H p = none) : Fresh U H U (upd H p o) :=
  ⟨fun b u q => by rw [upd_ne (ne_of_none q h)]; exact q, fun _ u => u, fun _ u => .inl u⟩
/-- a new object at p, owned -/
theorem Fresh.newU {U : Addr → Prop} {H : Hp} {p : Addr} (o : HO) (h : H p = none) : Fresh U H (fun b => U b ∨ b = p) (upd H p o) :=
  ⟨fun b u q => by rw [upd_ne (ne_of_none q h)]; exact q, fun _ u => .inl u, fun b u => u.elim .inl fun e => .inr (e ▸ h)⟩

mutual
/-- less is avoided -/
theorem En.less {K : PySem.W.Frag} {U T : Addr → Prop} {H : Hp} (l : ∀ b, T b → U b) : ∀ {d : D} {v : V}, En K U H d v → En K T H d v
  | _, _, .non => .non
  | _, _, .bl b => .bl b
  | _, _, .int i => .int i
  | _, _, .str x => .str x
  | _, _, .tup h a => .tup h (EnAll.less l a)
  | _, _, .lst h n a => .lst h (fun t => n (l _ t)) (EnAll.less l a)
  | _, _, .dic h n a => .dic h (fun t => n (l _ t)) (EnKv.less l a)
theorem EnAll.less {K : PySem.W.Frag} {U T : Addr → Prop} {H : Hp} (l : ∀ b, T b → U b) : ∀ {ds : List D} {vs : List V}, EnAll K U H ds vs → EnAll K T H ds vs
  | _, _, .nil => .nil
  | _, _, .cons h t => .cons (En.less l h) (EnAll.less l t)
theorem EnKv.less {K : PySem.W.Frag} {U T : Addr → Prop} {H : Hp} (l : ∀ b, T b → U b) : ∀ {ds : List (D × D)} {vs : List (Key × V)}, EnKv K U H ds vs → EnKv K T H ds vs
  | _, _, .nil => .nil
  | _, _, .cons h t => .cons (En.less l h) (EnKv.less l t)
end
mutual
theorem Own.inU {K : PySem.W.Frag} {U : Addr → Prop} {H : Hp} : ∀ {n : Nat} {d : D} {v : V} {rs : List Addr}, Own K U H n d v rs → ∀ a ∈ rs, U a
  | _, _, _, _, .sh _ _, a, h => by cases h
  | _, _, _, _, .lst u _ t, a, h => by
    rcases List.mem_cons.mp h with e | h
    · rw [e]; exact u
    · exact OwnAll.inU t a h
  | _, _, _, _, .dic u _ _, a, h => by
    rcases List.mem_cons.mp h with e | h
    · rw [e]; exact u
    · cases h
theorem OwnAll.inU {K : PySem.W.Frag} {U : Addr → Prop} {H : Hp} : ∀ {n : Nat} {ds : List D} {vs : List V} {rs : List Addr}, OwnAll K U H n ds vs rs → ∀ a ∈ rs, U a
  | _, _, _, _, .nil, a, h => by cases h
  | _, _, _, _, .cons o t, a, h => by
    rcases List.mem_append.mp h with h | h
    · exact Own.inU o a h
    · exact OwnAll.inU t a h
end
mutual
/-- what is owned is data, for any set that leaves out what it owns -/
theorem Own.en {K : PySem.W.Frag} {U T : Addr → Prop} {H : Hp} (l : ∀ b, T b → U b) : ∀ {n : Nat} {d : D} {v : V} {rs : List Addr}, Own K U H n d v rs → (∀ a ∈ rs, ¬ T a) → En K T H d v
  | _, _, _, _, .sh e _, _ => En.less l e
  | _, _, _, _, .lst _ h t, q => .lst h (q _ List.mem_cons_self) (OwnAll.en l t fun a m => q a (List.mem_cons_of_mem _ m))
  | _, _, _, _, .dic _ h t, q => .dic h (q _ List.mem_cons_self) (EnKv.less l t)
theorem OwnAll.en {K : PySem.W.Frag} {U T : Addr → Prop} {H : Hp} (l : ∀ b, T b → U b) : ∀ {n : Nat} {ds : List D} {vs : List V} {rs : List Addr}, OwnAll K U H n ds vs rs → (∀ a ∈ rs, ¬ T a) → EnAll K T H ds vs
  | _, _, _, _, .nil, _ => .nil
  | _, _, _, _, .cons o t, q => .cons (Own.en l o fun a m => q a (List.mem_append_left _ m)) (OwnAll.en l t fun a m => q a (List.mem_append_right _ m))
end
mutual
/-- owned things at other places than those that change -/
theorem Own.step {K : PySem.W.Frag} {U U' : Addr → Prop} {H H' : Hp} (g : Grow U H U' H') : ∀ {n : Nat} {d : D} {v : V} {rs : List Addr}, Own K U H n d v rs → (∀ a ∈ rs, U' a ∧ ∀ o, H a = some o → H' a = some o) → Own K U' H' n d v rs
  | _, _, _, _, .sh e a, _ => .sh (En.grow g e) a
  | _, _, _, _, .lst _ h t, q => .lst (q _ List.mem_cons_self).1 ((q _ List.mem_cons_self).2 _ h) (OwnAll.step g t fun a m => q a (List.mem_cons_of_mem _ m))
  | _, _, _, _, .dic _ h t, q => .dic (q _ List.mem_cons_self).1 ((q _ List.mem_cons_self).2 _ h) (EnKv.grow g t)
theorem OwnAll.step {K : PySem.W.Frag} {U U' : Addr → Prop} {H H' : Hp} (g : Grow U H U' H') : ∀ {n : Nat} {ds : List D} {vs : List V} {rs : List Addr}, OwnAll K U H n ds vs rs → (∀ a ∈ rs, U' a ∧ ∀ o, H a = some o → H' a = some o) → OwnAll K U' H' n ds vs rs
  | _, _, _, _, .nil, _ => .nil
  | _, _, _, _, .cons o t, q => .cons (Own.step g o fun a m => q a (List.mem_append_left _ m)) (OwnAll.step g t fun a m => q a (List.mem_append_right _ m))
end
mutual
/-- owned things stand in the heap -/
theorem Own.there {K : PySem.W.Frag} {U : Addr → Prop} {H : Hp} : ∀ {n : Nat} {d : D} {v : V} {rs : List Addr}, Own K U H n d v rs → ∀ a ∈ rs, ∃ o, H a = some o ∧ Mut (some o)
  | _, _, _, _, .sh _ _, a, h => by cases h
  | _, _, _, _, .lst _ h t, a, m => by
    rcases List.mem_cons.mp m with e | m
    · rw [e]; exact ⟨_, h, trivial⟩
    · exact OwnAll.there t a m
  | _, _, _, _, .dic _ h _, a, m => by
    rcases List.mem_cons.mp m with e | m
    · rw [e]; exact ⟨_, h, trivial⟩
    · cases m
theorem OwnAll.there {K : PySem.W.Frag} {U : Addr → Prop} {H : Hp} : ∀ {n : Nat} {ds : List D} {vs : List V} {rs : List Addr}, OwnAll K U H n ds vs rs → ∀ a ∈ rs, ∃ o, H a = some o ∧ Mut (some o)
  | _, _, _, _, .nil, a, h => by cases h
  | _, _, _, _, .cons o t, a, m => by
    rcases List.mem_append.mp m with m | m
    · exact Own.there o a m
    · exact OwnAll.there t a m
end
theorem OwnAll.of0 {K : PySem.W.Frag} {U : Addr → Prop} {H : Hp} : ∀ {ds : List D} {vs : List V}, EnAll K U H ds vs → OwnAll K U H 0 ds vs []
  | _, _, .nil => .nil
  | _, _, .cons h t => .cons (.sh h (.inl rfl)) (OwnAll.of0 t)
theorem OwnAll.to0 {K : PySem.W.Frag} {U : Addr → Prop} {H : Hp} : ∀ {ds : List D} {vs : List V} {rs : List Addr}, OwnAll K U H 0 ds vs rs → EnAll K U H ds vs ∧ rs = []
  | _, _, _, .nil => ⟨.nil, rfl⟩
  | _, _, _, .cons o t => by
    obtain ⟨h1, h2⟩ := OwnAll.to0 t
    cases o with
    | sh e _ => exact ⟨.cons e h1, by rw [h2]; rfl⟩
theorem Own.to0 {K : PySem.W.Frag} {U : Addr → Prop} {H : Hp} {d : D} {v : V} {rs : List Addr} (o : Own K U H 0 d v rs) : En K U H d v ∧ rs = [] := by
  cases o with
  | sh e _ => exact ⟨e, rfl⟩
theorem EnAll.length {K : PySem.W.Frag} {U : Addr → Prop} {H : Hp} : ∀ {ds : List D} {vs : List V}, EnAll K U H ds vs → ds.length = vs.length
  | _, _, .nil => rfl
  | _, _, .cons _ t => by simp [EnAll.length t]
theorem EnAll.get {K : PySem.W.Frag} {U : Addr → Prop} {H : Hp} : ∀ {ds : List D} {vs : List V} {i : Nat} {d : D}, EnAll K U H ds vs → ds[i]? = some d → ∃ v, vs[i]? = some v ∧ En K U H d v
  | _, _, _, _, .nil, h => by simp at h
  | _, _, 0, _, .cons e t, h => by simp at h; subst h; exact ⟨_, rfl, e⟩
  | _, _, i + 1, _, .cons e t, h => by
    obtain ⟨v, h1, h2⟩ := EnAll.get (i := i) t (by simpa using h)
    exact ⟨v, by simpa using h1, h2⟩
theorem EnAll.append {K : PySem.W.Frag} {U : Addr → Prop} {H : Hp} : ∀ {ds es : List D} {vs ws : List V}, EnAll K U H ds vs → EnAll K U H es ws → EnAll K U H (ds ++ es) (vs ++ ws)
  | _, _, _, _, .nil, h => h
  | _, _, _, _, .cons e t, h => .cons e (EnAll.append t h)
theorem EnAll.take {K : PySem.W.Frag} {U : Addr → Prop} {H : Hp} : ∀ {ds : List D} {vs : List V} (n : Nat), EnAll K U H ds vs → EnAll K U H (ds.take n) (vs.take n)
  | _, _, 0, _ => .nil
  | _, _, _ + 1, .nil => .nil
  | _, _, n + 1, .cons e t => .cons e (EnAll.take n t)
theorem EnAll.drop {K : PySem.W.Frag} {U : Addr → Prop} {H : Hp} : ∀ {ds : List D} {vs : List V} (n : Nat), EnAll K U H ds vs → EnAll K U H (ds.drop n) (vs.drop n)
  | _, _, 0, h => h
  | _, _, _ + 1, .nil => .nil
  | _, _, n + 1, .cons e t => EnAll.drop n t
theorem EnAll.eraseIdx {K : PySem.W.Frag} {U : Addr → Prop} {H : Hp} : ∀ {ds : List D} {vs : List V} (n : Nat), EnAll K U H ds vs → EnAll K U H (ds.eraseIdx n) (vs.eraseIdx n)
  | _, _, _, .nil => .nil
  | _, _, 0, .cons e t => t
  | _, _, n + 1, .cons e t => .cons e (EnAll.eraseIdx n t)
theorem EnAll.set {K : PySem.W.Frag} {U : Addr → Prop} {H : Hp} {d : D} {v : V} (e : En K U H d v) : ∀ {ds : List D} {vs : List V} (n : Nat), EnAll K U H ds vs → EnAll K U H (ds.set n d) (vs.set n v)
  | _, _, _, .nil => .nil
  | _, _, 0, .cons _ t => .cons e t
  | _, _, n + 1, .cons q t => .cons q (EnAll.set e n t)
theorem EnAll.dropLast {K : PySem.W.Frag} {U : Addr → Prop} {H : Hp} {ds : List D} {vs : List V} (h : EnAll K U H ds vs) : EnAll K U H ds.dropLast vs.dropLast := by
  rw [List.dropLast_eq_take, List.dropLast_eq_take, ← h.length]
  exact h.take _
theorem EnAll.reverse {K : PySem.W.Frag} {U : Addr → Prop} {H : Hp} : ∀ {ds : List D} {vs : List V}, EnAll K U H ds vs → EnAll K U H ds.reverse vs.reverse
  | _, _, .nil => .nil
  | _, _, .cons e t => by rw [List.reverse_cons, List.reverse_cons]; exact (EnAll.reverse t).append (.cons e .nil)
theorem EnAll.rep {K : PySem.W.Frag} {U : Addr → Prop} {H : Hp} {ds : List D} {vs : List V} (h : EnAll K U H ds vs) : ∀ n : Nat, EnAll K U H (List.replicate n ds).flatten (List.replicate n vs).flatten
  | 0 => .nil
  | n + 1 => by rw [List.replicate_succ, List.replicate_succ, List.flatten_cons, List.flatten_cons]; exact h.append (EnAll.rep h n)

/-! ### how a name holds what it holds; how a value comes -/
/-- a list that is only read, from outside (the script) -/
def FzL (K : PySem.W.Frag) (H : Hp) (a : Addr) (xs : List V) : Prop := (∃ o, H a = some (.frz o (.lst xs))) ∨
    ∃ (o : Obj) (its : Array Value) (n : Nat), K.lookup a = some o ∧ o.cls = .type "list" ∧ o.dict = none ∧ o.data = .seq its n ∧ its.size ≤ sizeLine ∧ Vals xs its.toList
theorem FzL.sq {K : PySem.W.Frag} {H : Hp} {a : Addr} {xs : List V} (h : FzL K H a xs) : SqL K H a xs := h.elim (fun h => .inl (.inr h)) .inr
theorem FzL.grow {K : PySem.W.Frag} {U U' : Addr → Prop} {H H' : Hp} {a : Addr} {xs : List V} (g : Grow U H U' H') (h : FzL K H a xs) : FzL K H' a xs := h.elim (fun ⟨o, h⟩ => .inl ⟨o, g.fix _ _ h fun z => z⟩) .inr
/-- a range 0, 1, .. below n, that a name holds -/
def rngD (n : Int) : D := .dict [(.int n, .none)]
def FzD (K : PySem.W.Frag) (U : Addr → Prop) (H : Hp) (d : D) (v : V) : Prop := (∃ a xs ds, d = .list ds ∧ v = .ref a ∧ FzL K H a xs ∧ EnAll K U H ds xs) ∨ ∃ a n, d = rngD n ∧ v = .ref a ∧ H a = some (.rng 0 n)
theorem FzD.grow {K : PySem.W.Frag} {U U' : Addr → Prop} {H H' : Hp} {d : D} {v : V} (g : Grow U H U' H') (h : FzD K U H d v) : FzD K U' H' d v := by
  rcases h with ⟨a, xs, ds, rfl, rfl, f, t⟩ | ⟨a, n, rfl, rfl, h⟩
  · exact .inl ⟨a, xs, ds, rfl, rfl, f.grow g, EnAll.grow g t⟩
  · exact .inr ⟨a, n, rfl, rfl, g.fix _ _ h fun z => z⟩
inductive Fg where
  /-- borrowed: its list is not the def's to change (someone else may own it); lk: locked for a loop -/
  | b1 | lk
  /-- a list from outside -/
  | fz
  /-- owned n deep (0: shared, nobody changes it any more); io: owned, to be handed back -/
  | ow (n : Nat) | io (n : Nat)
inductive Md where
  | own (n : Nat) | b1 | r1 | an
/-- data whose own list (dict) may stand in U, but not in T -/
def E1 (K : PySem.W.Frag) (U T : Addr → Prop) (H : Hp) (d : D) (v : V) : Prop :=
  En K U H d v ∨ (∃ a xs ds, d = .list ds ∧ v = .ref a ∧ H a = some (.lst xs) ∧ ¬ T a ∧ EnAll K U H ds xs) ∨ ∃ a kvs kds, d = .dict kds ∧ v = .ref a ∧ H a = some (.dK kvs) ∧ ¬ T a ∧ EnKv K U H kds kvs
def Slot (K : PySem.W.Frag) (U T : Addr → Prop) (H : Hp) (f : Fg) (od : Option D) (ov : Option V) (rs : List Addr) : Prop := match od with
  | none => rs = []
  | some d => ∃ v, ov = some v ∧ match f with
    | .b1 => E1 K U T H d v ∧ rs = []
    | .lk => E1 K U T H d v ∧ rs = []
    | .fz => FzD K U H d v ∧ rs = []
    | .ow n => Own K U H n d v rs
    | .io n => Own K U H n d v rs
/-- what stood at the entry -/
structure Ini where
  U : Addr → Prop
  W : Addr → Prop
  H : Hp
  s : St
/-- what a borrowed list is not: the def's own, or new -/
def TN (I : Ini) : Addr → Prop := fun b => I.W b ∨ I.H b = none
abbrev Rs := Nat → List Addr
def Wr (rs : Rs) : Addr → Prop := fun b => ∃ i, b ∈ rs i
def stS (s : St) (i : Nat) : Option V := (s[i]?).join
def fixed : Fg → Bool
  | .lk => true
  | .io _ => true
  | _ => false
def fgAt (fl : List Fg) (i : Nat) : Fg := fl.getD i (.ow 0)
structure Rel (K : PySem.W.Frag) (I : Ini) (fl : List Fg) (U : Addr → Prop) (rs : Rs) (r : Env) (s : St) (H : Hp) : Prop where
  len : r.length = s.length
  fln : fl.length = r.length
  sub : ∀ b, Wr rs b → U b
  nd : ∀ i, (rs i).Nodup
  dis : ∀ i j b, b ∈ rs i → b ∈ rs j → i = j
  st : Step I.U I.W I.H U (Wr rs) H
  iu : ∀ b, I.U b → I.H b ≠ none
  iw : ∀ b, I.W b → I.U b
  ul : ∀ b, U b → H b ≠ none
  sl : ∀ i, Slot K U (TN I) H (fgAt fl i) (getS r i) (stS s i) (rs i)
  pin : ∀ i, fixed (fgAt fl i) = true → s[i]? = I.s[i]?
def Val (K : PySem.W.Frag) (U W T : Addr → Prop) (H : Hp) (m : Md) (d : D) (v : V) (q : List Addr) : Prop := match m with
  | .own n => Own K U H n d v q ∧ (∀ a ∈ q, ¬ W a) ∧ q.Nodup
  | .b1 => E1 K U T H d v ∧ q = []
  | .r1 => E1 K U (fun _ => False) H d v ∧ q = []
  | .an => En K (fun _ => False) H d v ∧ q = []
/-- it stays while other things change -/
def stab : Md → Bool
  | .own _ => true
  | .b1 => true
  | _ => false
end J

set_option Elab.async false
set_option linter.all false
set_option maxRecDepth 100000
/-! JStep: what stays through a step; the readings tJ (an expression), tJA (arguments), tJT (a test). -/
namespace J
open PySem L2

theorem E1.en {K : PySem.W.Frag} {U T : Addr → Prop} {H : Hp} {d : D} {v : V} (h : E1 K U T H d v) : En K (fun _ => False) H d v := by
  rcases h with h | ⟨a, xs, ds, rfl, rfl, ha, _, h⟩ | ⟨a, xs, ds, rfl, rfl, ha, _, h⟩
  · exact En.less (fun _ z => z.elim) h
  · exact .lst ha (fun z => z) (EnAll.less (fun _ z => z.elim) h)
  · exact .dic ha (fun z => z) (EnKv.less (fun _ z => z.elim) h)
theorem E1.less {K : PySem.W.Frag} {U T T' : Addr → Prop} {H : Hp} {d : D} {v : V} (l : ∀ b, T' b → T b) (h : E1 K U T H d v) : E1 K U T' H d v := by
  rcases h with h | ⟨a, xs, ds, rfl, rfl, ha, n, h⟩ | ⟨a, xs, ds, rfl, rfl, ha, n, h⟩
  · exact .inl h
  · exact .inr (.inl ⟨a, xs, ds, rfl, rfl, ha, fun z => n (l _ z), h⟩)
  · exact .inr (.inr ⟨a, xs, ds, rfl, rfl, ha, fun z => n (l _ z), h⟩)
theorem E1.step {K : PySem.W.Frag} {U U' T T' : Addr → Prop} {H H' : Hp} {d : D} {v : V} (g : Grow U H U' H') (gt : Grow T H T' H') (h : E1 K U T H d v) : E1 K U' T' H' d v := by
  rcases h with h | ⟨a, xs, ds, rfl, rfl, ha, n, h⟩ | ⟨a, xs, ds, rfl, rfl, ha, n, h⟩
  · exact .inl (En.grow g h)
  · exact .inr (.inl ⟨a, xs, ds, rfl, rfl, gt.keep _ _ ha n, gt.not ha n, EnAll.grow g h⟩)
  · exact .inr (.inr ⟨a, xs, ds, rfl, rfl, gt.keep _ _ ha n, gt.not ha n, EnKv.grow g h⟩)
theorem Val.step {K : PySem.W.Frag} {U U' W W' T : Addr → Prop} {H H' : Hp} {m : Md} {d : D} {v : V} {q : List Addr} (hw : ∀ b, W b → U b) (ht : ∀ b, W b → T b) (s : Step U W H U' W' H') (hm : stab m = true) (h : Val K U W T H m d v q) : Val K U' W' T H' m d v q := by
  cases m with
  | own n =>
    obtain ⟨h, nw, nd⟩ := h
    refine ⟨Own.step (s.growU hw) h fun a m => ⟨s.kin a (h.inU a m) (nw a m), fun o ho => s.keep a o ho (nw a m)⟩, fun a m => ?_, nd⟩
    obtain ⟨o, ho, _⟩ := h.there a m
    exact s.notW ho (nw a m)
  | b1 => exact ⟨E1.step (s.growU hw) ⟨fun b o h n => s.keep b o h fun w => n (ht b w), s.fix, fun _ z => .inl z⟩ h.1, h.2⟩
  | r1 => cases hm
  | an => cases hm
theorem Val.fresh {K : PySem.W.Frag} {U U' W T : Addr → Prop} {H H' : Hp} {m : Md} {d : D} {v : V} {q : List Addr} (f : Fresh U H U' H') (h : Val K U W T H m d v q) : Val K U' W T H' m d v q := by
  cases m with
  | own n =>
    obtain ⟨h, nw, nd⟩ := h
    exact ⟨Own.step f.grow h fun a m => ⟨f.inc a (h.inU a m), fun o ho => f.all a o ho⟩, nw, nd⟩
  | b1 => exact ⟨E1.step f.grow f.growT h.1, h.2⟩
  | r1 => exact ⟨E1.step f.grow f.growT h.1, h.2⟩
  | an => exact ⟨En.grow f.growT h.1, h.2⟩
theorem Val.en {K : PySem.W.Frag} {U W T : Addr → Prop} {H : Hp} {m : Md} {d : D} {v : V} {q : List Addr} (h : Val K U W T H m d v q) : En K (fun _ => False) H d v := by
  cases m with
  | own n => exact h.1.en (fun _ z => z.elim) fun _ _ z => z
  | b1 => exact h.1.en
  | r1 => exact h.1.en
  | an => exact h.1
theorem Slot.fresh {K : PySem.W.Frag} {U U' T : Addr → Prop} {H H' : Hp} {f : Fg} {od : Option D} {ov : Option V} {rs : List Addr} (g : Fresh U H U' H') (h : Slot K U T H f od ov rs) : Slot K U' T H' f od ov rs := by
  cases od with
  | none => exact h
  | some d =>
    obtain ⟨v, hv, h⟩ := h
    refine ⟨v, hv, ?_⟩
    cases f with
    | b1 => exact ⟨E1.step g.grow g.growT h.1, h.2⟩
    | lk => exact ⟨E1.step g.grow g.growT h.1, h.2⟩
    | fz => exact ⟨h.1.grow g.grow, h.2⟩
    | ow n => exact Own.step g.grow h fun a m => ⟨g.inc a (Own.inU h a m), fun o ho => g.all a o ho⟩
    | io n => exact Own.step g.grow h fun a m => ⟨g.inc a (Own.inU h a m), fun o ho => g.all a o ho⟩
theorem Rel.fresh {K : PySem.W.Frag} {I : Ini} {fl : List Fg} {U U' : Addr → Prop} {rs : Rs} {r : Env} {s : St} {H H' : Hp} (R : Rel K I fl U rs r s H) (f : Fresh U H U' H') (hu : ∀ b, U' b → H' b ≠ none) : Rel K I fl U' rs r s H' where
  len := R.len
  fln := R.fln
  sub b w := f.inc b (R.sub b w)
  nd := R.nd
  dis := R.dis
  st := R.st.trans R.iu f.step
  iu := R.iu
  iw := R.iw
  ul := hu
  sl i := (R.sl i).fresh f
  pin := R.pin

theorem Rel.wt {K : PySem.W.Frag} {I : Ini} {fl : List Fg} {U : Addr → Prop} {rs : Rs} {r : Env} {s : St} {H : Hp} (R : Rel K I fl U rs r s H) : ∀ b, Wr rs b → TN I b := R.st.win
/-- behind an expression: the relation stands, what was is kept, what it owns is new -/
structure Aft (K : PySem.W.Frag) (I : Ini) (fl : List Fg) (U : Addr → Prop) (rs : Rs) (H : Hp) (r' : Env) (s : St) (pu : Bool) (U' : Addr → Prop) (rs' : Rs) (H' : Hp) (q : List Addr) : Prop where
  rel : Rel K I fl U' rs' r' s H'
  st : Step U (Wr rs) H U' (Wr rs') H'
  pur : pu = true → Fresh U H U' H' ∧ rs' = rs
  new : ∀ a ∈ q, Wr rs a ∨ H a = none
def tJ (K : PySem.W.Frag) (fl : List Fg) (e : SE) (m : Md) (pu : Bool) : TE := fun s H Q => ∃ I U rs r d r', Rel K I fl U rs r s H ∧ e r = .ok d r' ∧
  ∀ U' rs' H' v q, Aft K I fl U rs H r' s pu U' rs' H' q → Val K U' (Wr rs') (TN I) H' m d v q → Q v H'
def tJT (K : PySem.W.Frag) (fl : List Fg) (e : SB) (pu : Bool) : TT := fun s H Q => ∃ I U rs r b r', Rel K I fl U rs r s H ∧ e r = .ok b r' ∧
  ∀ U' rs' H', Aft K I fl U rs H r' s pu U' rs' H' [] → Q b H'
inductive ValA (K : PySem.W.Frag) (U W T : Addr → Prop) (H : Hp) : List Md → List D → List V → List Addr → Prop
  | nil : ValA K U W T H [] [] [] []
  | cons {m : Md} {d : D} {v : V} {q1 q2 : List Addr} {ms : List Md} {ds : List D} {vs : List V} : Val K U W T H m d v q1 → ValA K U W T H ms ds vs q2 → (∀ a ∈ q1, a ∉ q2) → ValA K U W T H (m :: ms) (d :: ds) (v :: vs) (q1 ++ q2)
def tJA (K : PySem.W.Frag) (fl : List Fg) (e : SA) (ms : List Md) (pu : Bool) : TA := fun s H Q => ∃ I U rs r ds r', Rel K I fl U rs r s H ∧ e r = .ok ds r' ∧
  ∀ U' rs' H' vs q, Aft K I fl U rs H r' s pu U' rs' H' q → ValA K U' (Wr rs') (TN I) H' ms ds vs q → Q vs H'
abbrev JE (X : Cx) (fl : List Fg) (e : Expr) (s : SE) (m : Md) (pu : Bool) : Prop := PE X e (tJ X.K fl s m pu)
abbrev JT (X : Cx) (fl : List Fg) (e : Expr) (s : SB) (pu : Bool) : Prop := PT X e (tJT X.K fl s pu)
abbrev JW (X : Cx) (fl : List Fg) (e : Expr) (s : SB) (pu : Bool) : Prop := PW X e (tJT X.K fl s pu)
abbrev JA (X : Cx) (fl : List Fg) (es : List Expr) (s : SA) (ms : List Md) (pu : Bool) : Prop := PA X es (tJA X.K fl s ms pu)
theorem pe_mono {X : Cx} {e : Expr} {t t' : TE} (h : PE X e t) (m : ∀ s H Q, t' s H Q → t s H Q) : PE X e t' := ⟨fun pins s st H Q I q => h.run pins s st H Q I (m st H Q q)⟩
theorem pt_mono {X : Cx} {e : Expr} {t t' : TT} (h : PT X e t) (m : ∀ s H Q, t' s H Q → t s H Q) : PT X e t' := ⟨fun pins s st H Q I q => h.run pins s st H Q I (m st H Q q)⟩
theorem pw_mono {X : Cx} {e : Expr} {t t' : TT} (h : PW X e t) (m : ∀ s H Q, t' s H Q → t s H Q) : PW X e t' := ⟨fun w pins s st H Q I q => h.run w pins s st H Q I (m st H Q q)⟩
theorem pa_mono {X : Cx} {es : List Expr} {t t' : TA} (h : PA X es t) (m : ∀ s H Q, t' s H Q → t s H Q) : PA X es t' := ⟨fun pos pins s st H Q I q => h.run pos pins s st H Q I (m st H Q q)⟩
theorem ps_mono {X : Cx} {e : Stmt} {t t' : TS} (h : PS X e t) (m : ∀ D s H, t' D s H → t D s H) : PS X e t' := ⟨fun pins s st H D I q => h.run pins s st H D I (m D st H q)⟩
theorem pss_mono {X : Cx} {e : List Stmt} {t t' : TS} (h : PSs X e t) (m : ∀ D s H, t' D s H → t D s H) : PSs X e t' := ⟨fun pins s st H D I q => h.run pins s st H D I (m D st H q)⟩

section
variable {K : PySem.W.Frag} {I : Ini} {fl : List Fg} {U U1 U2 : Addr → Prop} {rs rs1 rs2 : Rs} {r r1 r2 : Env} {s : St} {H H1 H2 : Hp} {pu pu1 pu2 : Bool} {q q1 q2 : List Addr}
theorem Aft.refl (R : Rel K I fl U rs r s H) : Aft K I fl U rs H r s pu U rs H [] := ⟨R, .refl, fun _ => ⟨.refl, rfl⟩, fun _ h => by cases h⟩
theorem Aft.trans (R : Rel K I fl U rs r s H) (a : Aft K I fl U rs H r1 s pu1 U1 rs1 H1 q1) (b : Aft K I fl U1 rs1 H1 r2 s pu2 U2 rs2 H2 q2) : Aft K I fl U rs H r2 s (pu1 && pu2) U2 rs2 H2 (q1 ++ q2) where
  rel := b.rel
  st := a.st.trans R.ul b.st
  pur h := by
    rw [Bool.and_eq_true] at h
    obtain ⟨f1, e1⟩ := a.pur h.1
    obtain ⟨f2, e2⟩ := b.pur h.2
    exact ⟨f1.trans f2, e2.trans e1⟩
  new c m := by
    rcases List.mem_append.mp m with m | m
    · exact a.new c m
    · rcases b.new c m with z | z
      · exact a.st.win c z
      · exact .inr (a.st.live c z)
theorem Aft.drop (a : Aft K I fl U rs H r s pu U1 rs1 H1 q) (l : ∀ b ∈ q1, b ∈ q) : Aft K I fl U rs H r s pu U1 rs1 H1 q1 := ⟨a.rel, a.st, a.pur, fun b m => a.new b (l b m)⟩
/-- only new things behind it -/
theorem Aft.fresh (a : Aft K I fl U rs H r s pu U1 rs1 H1 q) (f : Fresh U1 H1 U2 H2) (hu : ∀ b, U2 b → H2 b ≠ none) (R : Rel K I fl U rs r1 s H) (hn : ∀ b ∈ q2, H1 b = none) : Aft K I fl U rs H r s pu U2 rs1 H2 q2 where
  rel := a.rel.fresh f hu
  st := a.st.trans R.ul f.step
  pur h := ⟨(a.pur h).1.trans f, (a.pur h).2⟩
  new b m := .inr (a.st.live b (hn b m))
end
/-- the new set of a fresh step, all tracked -/
theorem Fresh.ul {U U' : Addr → Prop} {H H' : Hp} (f : Fresh U H U' H') (hu : ∀ b, U b → H b ≠ none) (hn : ∀ b, U' b → H b = none → H' b ≠ none) : ∀ b, U' b → H' b ≠ none := fun b u z => by
  exact hn b u (f.live b z) z
theorem ul_new {U : Addr → Prop} {H : Hp} {p : Addr} {o : HO} (hu : ∀ b, U b → H b ≠ none) : ∀ b, (U b ∨ b = p) → upd H p o b ≠ none := fun b u z => by
  by_cases e : b = p
  · subst e; rw [upd_same] at z; cases z
  · rw [upd_ne e] at z
    rcases u with u | u
    · exact hu b u z
    · exact e u
theorem ul_old {U : Addr → Prop} {H : Hp} {p : Addr} {o : HO} (hu : ∀ b, U b → H b ≠ none) : ∀ b, U b → upd H p o b ≠ none := fun b u => ul_new hu b (.inl u)

/-! ### weaker ways to come -/
/-- what a value owns is let go: it is shared from now on -/
theorem Rel.letgo {K : PySem.W.Frag} {I : Ini} {fl : List Fg} {U : Addr → Prop} {rs : Rs} {r : Env} {s : St} {H : Hp} (R : Rel K I fl U rs r s H) (q : List Addr) (hw : ∀ a ∈ q, ¬ Wr rs a) (hn : ∀ a ∈ q, I.W a ∨ I.H a = none) : Rel K I fl (fun b => U b ∧ b ∉ q) rs r s H where
  len := R.len
  fln := R.fln
  sub b w := ⟨R.sub b w, fun m => hw b m w⟩
  nd := R.nd
  dis := R.dis
  st := ⟨R.st.keep, R.st.fix, R.st.live, fun b u => R.st.out b u.1, fun b u w => ⟨R.st.kin b u w, fun m => by
    rcases hn b m with z | z
    · exact w z
    · exact R.iu b u z⟩, R.st.win⟩
  iu := R.iu
  iw := R.iw
  ul b u := R.ul b u.1
  sl i := by
    have h := R.sl i
    revert h
    cases getS r i with
    | none => exact fun h => h
    | some d =>
      rintro ⟨v, hv, h⟩
      refine ⟨v, hv, ?_⟩
      have l : ∀ b, (U b ∧ b ∉ q) → U b := fun b u => u.1
      have e1 : ∀ {T : Addr → Prop}, E1 K U T H d v → E1 K (fun b => U b ∧ b ∉ q) T H d v := fun {T} z => by
        rcases z with h | ⟨a, xs, ds, rfl, rfl, ha, n, h⟩ | ⟨a, xs, ds, rfl, rfl, ha, n, h⟩
        · exact .inl (En.less l h)
        · exact .inr (.inl ⟨a, xs, ds, rfl, rfl, ha, n, EnAll.less l h⟩)
        · exact .inr (.inr ⟨a, xs, ds, rfl, rfl, ha, n, EnKv.less l h⟩)
      have ow : ∀ {n : Nat}, Own K U H n d v (rs i) → Own K (fun b => U b ∧ b ∉ q) H n d v (rs i) := fun {n} z =>
        Own.step ⟨fun _ _ h _ => h, fun _ _ h _ => h, fun b u => .inl u.1⟩ z fun a m => ⟨⟨z.inU a m, fun mq => hw a mq ⟨i, m⟩⟩, fun o ho => ho⟩
      cases hf : fgAt fl i with
      | b1 => rw [hf] at h; exact ⟨e1 h.1, h.2⟩
      | lk => rw [hf] at h; exact ⟨e1 h.1, h.2⟩
      | fz => rw [hf] at h; exact ⟨h.1.grow ⟨fun _ _ h _ => h, fun _ _ h _ => h, fun b u => .inl u.1⟩, h.2⟩
      | ow n => rw [hf] at h; exact ow h
      | io n => rw [hf] at h; exact ow h
  pin := R.pin
section
variable {X : Cx} {fl : List Fg} {e : Expr} {s : SE} {pu : Bool}
theorem Aft.letgo {K : PySem.W.Frag} {I : Ini} {fl : List Fg} {U U1 : Addr → Prop} {rs rs1 : Rs} {r r1 : Env} {s : St} {H H1 : Hp} {pu : Bool} {q : List Addr} (R : Rel K I fl U rs r s H) (a : Aft K I fl U rs H r1 s pu U1 rs1 H1 q)
    (p : List Addr) (hp : ∀ b ∈ p, b ∈ q) (hw : ∀ b ∈ p, ¬ Wr rs1 b) : Aft K I fl U rs H r1 s pu (fun b => U1 b ∧ b ∉ p) rs1 H1 q where
  rel := a.rel.letgo p hw fun b m => by
    rcases a.new b (hp b m) with z | z
    · exact R.st.win b z
    · exact .inr (R.st.live b z)
  st := ⟨a.st.keep, a.st.fix, a.st.live, fun b u => a.st.out b u.1, fun b u w => ⟨a.st.kin b u w, fun m => by
    rcases a.new b (hp b m) with z | z
    · exact w z
    · exact R.ul b u z⟩, a.st.win⟩
  pur h := by
    obtain ⟨f, e⟩ := a.pur h
    refine ⟨⟨f.all, fun b u => ⟨f.inc b u, fun m => ?_⟩, fun b u => f.out b u.1⟩, e⟩
    rcases a.new b (hp b m) with z | z
    · exact hw b m (by rw [e]; exact z)
    · exact R.ul b u z
  new := a.new
/-- to be shared -/
theorem je_sh {n : Nat} (h : JE X fl e s (.own n) pu) : JE X fl e s (.own 0) pu := by
  refine pe_mono h ?_
  rintro st H Q ⟨I, U, rs, r, d, r', R, hs, k⟩
  refine ⟨I, U, rs, r, d, r', R, hs, fun U' rs' H' v q A V => ?_⟩
  obtain ⟨o, nw, nd⟩ := V
  refine k (fun b => U' b ∧ b ∉ q) rs' H' v [] ((A.letgo R q (fun _ m => m) nw).drop fun _ m => by cases m) ⟨.sh (o.en (fun b u => u.1) fun a m z => z.2 m) (.inl rfl), (fun _ m => by cases m), List.Pairwise.nil⟩
theorem je_b1 (h : JE X fl e s (.own 0) pu) : JE X fl e s .b1 pu := by
  refine pe_mono h ?_
  rintro st H Q ⟨I, U, rs, r, d, r', R, hs, k⟩
  refine ⟨I, U, rs, r, d, r', R, hs, fun U' rs' H' v q A V => ?_⟩
  obtain ⟨e, rfl⟩ := V.1.to0
  exact k U' rs' H' v [] A ⟨.inl e, rfl⟩
theorem je_r1 (h : JE X fl e s .b1 pu) : JE X fl e s .r1 pu := by
  refine pe_mono h ?_
  rintro st H Q ⟨I, U, rs, r, d, r', R, hs, k⟩
  exact ⟨I, U, rs, r, d, r', R, hs, fun U' rs' H' v q A V => k U' rs' H' v q A ⟨V.1.less fun _ z => z.elim, V.2⟩⟩
theorem je_an (h : JE X fl e s .r1 pu) : JE X fl e s .an pu := by
  refine pe_mono h ?_
  rintro st H Q ⟨I, U, rs, r, d, r', R, hs, k⟩
  exact ⟨I, U, rs, r, d, r', R, hs, fun U' rs' H' v q A V => k U' rs' H' v q A ⟨V.1.en, V.2⟩⟩
end
end J

set_option Elab.async false
set_option linter.all false
set_option maxRecDepth 100000
/-! JExp: expressions: names, constants, operators, comparisons, tests, displays, subscripts, slices, built-ins by value. -/
namespace J
open PySem L2

theorem slot_v {K : PySem.W.Frag} {U T : Addr → Prop} {H : Hp} {f : Fg} {r : Env} {s : St} {i : Nat} {rs : List Addr} {d : D} (h : Slot K U T H f (getS r i) (stS s i) rs) (e : getS r i = some d) :
    ∃ v, s[i]? = some (some v) ∧ Slot K U T H f (some d) (some v) rs := by
  rw [e] at h
  obtain ⟨v, hv, h⟩ := h
  refine ⟨v, ?_, v, rfl, h⟩
  unfold stS at hv
  cases q : s[i]? with
  | none => rw [q] at hv; cases hv
  | some o => rw [q] at hv; exact congrArg some hv
theorem slot_own {K : PySem.W.Frag} {U T : Addr → Prop} {H : Hp} {n : Nat} {v : V} {rs : List Addr} {d : D} (h : Slot K U T H (.ow n) (some d) (some v) rs) : Own K U H n d v rs := by
  obtain ⟨_, e, h⟩ := h
  cases e
  exact h
theorem slot_io {K : PySem.W.Frag} {U T : Addr → Prop} {H : Hp} {n : Nat} {v : V} {rs : List Addr} {d : D} (h : Slot K U T H (.io n) (some d) (some v) rs) : Own K U H n d v rs := by
  obtain ⟨_, e, h⟩ := h
  cases e
  exact h
theorem slot_b1 {K : PySem.W.Frag} {U T : Addr → Prop} {H : Hp} {v : V} {rs : List Addr} {d : D} (h : Slot K U T H .b1 (some d) (some v) rs) : E1 K U T H d v := by
  obtain ⟨_, e, h⟩ := h
  cases e
  exact h.1
theorem slot_lk {K : PySem.W.Frag} {U T : Addr → Prop} {H : Hp} {v : V} {rs : List Addr} {d : D} (h : Slot K U T H .lk (some d) (some v) rs) : E1 K U T H d v := by
  obtain ⟨_, e, h⟩ := h
  cases e
  exact h.1
theorem Own.e1 {K : PySem.W.Frag} {U : Addr → Prop} {H : Hp} {n : Nat} {d : D} {v : V} {rs : List Addr} (hn : n ≤ 1) (o : Own K U H n d v rs) : E1 K U (fun _ => False) H d v := by
  cases o with
  | sh e _ => exact .inl e
  | lst u h t =>
    rename_i m a xs ds rs
    have e : m = 0 := by omega
    subst e
    exact .inr (.inl ⟨_, _, _, rfl, rfl, h, fun z => z, t.to0.1⟩)
  | dic u h t => exact .inr (.inr ⟨_, _, _, rfl, rfl, h, fun z => z, t⟩)
def seen : Fg → Bool
  | .fz => false
  | _ => true
theorem Slot.en {K : PySem.W.Frag} {U T : Addr → Prop} {H : Hp} {f : Fg} {v : V} {rs : List Addr} {d : D} (hf : seen f = true) (h : Slot K U T H f (some d) (some v) rs) : En K (fun _ => False) H d v := by
  cases f with
  | b1 => exact (slot_b1 h).en
  | lk => exact (slot_lk h).en
  | fz => cases hf
  | ow n => exact (slot_own h).en (fun _ z => z.elim) fun _ _ z => z
  | io n => exact (slot_io h).en (fun _ z => z.elim) fun _ _ z => z
/-- flags whose name reads as data with shared items -/
def flat1 : Fg → Bool
  | .b1 => true
  | .lk => true
  | .fz => false
  | .ow n => decide (n ≤ 1)
  | .io n => decide (n ≤ 1)
def still : Fg → Bool
  | .b1 => true
  | .lk => true
  | .fz => false
  | .ow n => decide (n = 0)
  | .io _ => false
theorem Slot.r1 {K : PySem.W.Frag} {U T : Addr → Prop} {H : Hp} {f : Fg} {v : V} {rs : List Addr} {d : D} (hf : flat1 f = true) (h : Slot K U T H f (some d) (some v) rs) : E1 K U (fun _ => False) H d v := by
  cases f with
  | b1 => exact (slot_b1 h).less fun _ z => z.elim
  | lk => exact (slot_lk h).less fun _ z => z.elim
  | fz => cases hf
  | ow n => exact (slot_own h).e1 (of_decide_eq_true hf)
  | io n => exact (slot_io h).e1 (of_decide_eq_true hf)
theorem Slot.still {K : PySem.W.Frag} {U T : Addr → Prop} {H : Hp} {f : Fg} {v : V} {rs : List Addr} {d : D} (hf : still f = true) (h : Slot K U T H f (some d) (some v) rs) : E1 K U T H d v := by
  cases f with
  | b1 => exact slot_b1 h
  | lk => exact slot_lk h
  | fz => cases hf
  | ow n =>
    have e : n = 0 := of_decide_eq_true hf
    subst e
    exact .inl (slot_own h).to0.1
  | io n => cases hf

section
variable {X : Cx} {fl : List Fg}

/-! ### names and constants -/
theorem je_get {e : Expr} {i : Nat} {m : Md} (h : PE X e (tVar i)) (k : ∀ U W T H d v rs, Slot X.K U T H (fgAt fl i) (some d) (some v) rs → Val X.K U W T H m d v []) : JE X fl e (sV i) m true := by
  refine pe_mono h ?_
  rintro st H Q ⟨I, U, rs, r, d, r', R, hs, q⟩
  obtain ⟨hg, rfl⟩ := of_lift hs
  obtain ⟨v, hv, sl⟩ := slot_v (R.sl i) hg
  exact ⟨v, hv, q U rs H v [] (.refl R) (k _ _ _ _ _ _ _ sl)⟩
/-- a name, to be looked at only -/
theorem je_va {e : Expr} {i : Nat} (h : PE X e (tVar i)) (hf : seen (fgAt fl i) = true) : JE X fl e (sV i) .an true := je_get h fun U W T H d v rs sl => ⟨sl.en hf, rfl⟩
/-- a name whose items are shared -/
theorem je_vr {e : Expr} {i : Nat} (h : PE X e (tVar i)) (hf : flat1 (fgAt fl i) = true) : JE X fl e (sV i) .r1 true := je_get h fun U W T H d v rs sl => ⟨sl.r1 hf, rfl⟩
/-- a name whose list stands still -/
theorem je_vb {e : Expr} {i : Nat} (h : PE X e (tVar i)) (hf : still (fgAt fl i) = true) : JE X fl e (sV i) .b1 true := je_get h fun U W T H d v rs sl => ⟨sl.still hf, rfl⟩
/-- a shared name -/
theorem je_vs {e : Expr} {i : Nat} (h : PE X e (tVar i)) (hf : fgAt fl i = .ow 0) : JE X fl e (sV i) (.own 0) true := je_get h fun U W T H d v rs sl => by
  rw [hf] at sl
  exact ⟨.sh (slot_own sl).to0.1 (.inl rfl), (fun _ m => by cases m), List.Pairwise.nil⟩
theorem je_con {e : Expr} {d : D} {v : V} {n : Nat} (h : PE X e (tC v)) (k : ∀ U H, En X.K U H d v) (ha : atom d) : JE X fl e (sC d) (.own n) true := by
  refine pe_mono h ?_
  rintro st H Q ⟨I, U, rs, r, d', r', R, hs, q⟩
  cases hs
  exact q U rs H v [] (.refl R) ⟨.sh (k U H) (.inr ha), (fun _ m => by cases m), List.Pairwise.nil⟩
theorem je_int {i j pos n} : JE X fl (.Constant (.int i) j pos) (sC (.int i)) (.own n) true := je_con pe_int (fun _ _ => .int i) trivial
theorem je_bl {i j pos n} : JE X fl (.Constant (.bool i) j pos) (sC (.bool i)) (.own n) true := je_con pe_bl (fun _ _ => .bl i) trivial
theorem je_non {j pos n} : JE X fl (.Constant .none j pos) (sC .none) (.own n) true := je_con pe_non (fun _ _ => .non) trivial
theorem je_str {i j pos n} : JE X fl (.Constant (.str i) j pos) (sC (.str i)) (.own n) true := je_con pe_str (fun _ _ => .str i) trivial
/-- a module's number -/
theorem je_glb {x : Str} {i : Int} {u : Value} {pos n} (hg : Gl X x) (hm : X.mg x = some u) (r : RelV (.int i) u) (hd : (x == ("__debug__" : Str)) = false := by decide) : JE X fl (.Name x pos) (sC (.int i)) (.own n) true := je_con (pe_glob hg hm r hd) (fun _ _ => .int i) trivial

/-! ### two parts -/
def OpJ (K : PySem.W.Frag) (m1 m2 m : Md) (f : D → D → Option D) (rr : R2) : Prop := ∀ (U W T : Addr → Prop) (H : Hp) (d1 d2 d : D) (v1 v2 : V) (q1 q2 : List Addr) (Q : VK), (∀ b, W b → U b) → (∀ b, U b → H b ≠ none) →
  Val K U W T H m1 d1 v1 q1 → Val K U W T H m2 d2 v2 q2 → f d1 d2 = some d →
  (∀ U' H' v q, Fresh U H U' H' → (∀ b, U' b → H' b ≠ none) → Val K U' W T H' m d v q → (∀ a ∈ q, H a = none) → Q v H') → rr v1 v2 H Q
theorem je_two {e a b : Expr} {f : D → D → Option D} {sa sb : SE} {m1 m2 m : Md} {p1 p2 : Bool} {rr : R2} (ho : ∀ {ta tb : TE}, PE X a ta → PE X b tb → PE X e (tOp rr ta tb)) (hj : OpJ X.K m1 m2 m f rr)
    (ha : JE X fl a sa m1 p1) (hb : JE X fl b sb m2 p2) (hst : stab m1 = true ∨ p2 = true) : JE X fl e (sBin f sa sb) m (p1 && p2) := by
  refine pe_mono (ho ha hb) ?_
  rintro st H Q ⟨I, U, rs, r, d, r', R, hs, k⟩
  obtain ⟨x, r1, e1, hs⟩ := of_bind hs
  obtain ⟨y, r2, e2, hs⟩ := of_bind hs
  obtain ⟨hf, rfl⟩ := of_lift hs
  refine ⟨I, U, rs, r, x, r1, R, e1, fun U1 rs1 H1 v1 q1 A1 V1 => ⟨I, U1, rs1, r1, y, r', A1.rel, e2, fun U2 rs2 H2 v2 q2 A2 V2 => ?_⟩⟩
  have V1' : Val X.K U2 (Wr rs2) (TN I) H2 m1 x v1 q1 := by
    rcases hst with h | h
    · exact V1.step A1.rel.sub A1.rel.wt A2.st h
    · obtain ⟨f, e⟩ := A2.pur h
      rw [e]
      exact V1.fresh f
  have A := A1.trans R A2
  exact hj U2 (Wr rs2) (TN I) H2 x y d v1 v2 q1 q2 Q A.rel.sub A.rel.ul V1' V2 hf fun U' H' v q f hu V hn => k U' rs2 H' v q (A.fresh f hu R hn) V
theorem je_op {a b : Expr} {op : Operator} {f : D → D → Option D} {sa sb : SE} {m1 m2 m : Md} {p1 p2 : Bool} {rr : R2} {pos : Pos} (ho : OpR X (binaryOp op) rr) (hj : OpJ X.K m1 m2 m f rr)
    (ha : JE X fl a sa m1 p1) (hb : JE X fl b sb m2 p2) (hst : stab m1 = true ∨ p2 = true := by first | exact .inl rfl | exact .inr rfl) : JE X fl (.BinOp a op b pos) (sBin f sa sb) m (p1 && p2) :=
  je_two (fun ha hb => pe_op ho ha hb) hj ha hb hst
theorem je_cmp {a b : Expr} {op : CmpOp} {f : D → D → Option D} {sa sb : SE} {m1 m2 m : Md} {p1 p2 : Bool} {rr : R2} {pos : Pos} (ho : OpR X (compareOp op) rr) (hj : OpJ X.K m1 m2 m f rr)
    (ha : JE X fl a sa m1 p1) (hb : JE X fl b sb m2 p2) (hst : stab m1 = true ∨ p2 = true := by first | exact .inl rfl | exact .inr rfl) (hm : behindInMarks op b = false := by first | exact nomark _ | rfl) : JE X fl (.Compare a [op] [b] pos) (sBin f sa sb) m (p1 && p2) :=
  je_two (fun ha hb => pe_cmpR ho ha hb hm) hj ha hb hst
theorem je_ix {a b : Expr} {f : D → D → Option D} {sa sb : SE} {m1 m2 m : Md} {p1 p2 : Bool} {rr : R2} {pos : Pos} (ho : IxR X rr) (hj : OpJ X.K m1 m2 m f rr)
    (ha : JE X fl a sa m1 p1) (hb : JE X fl b sb m2 p2) (hst : stab m1 = true ∨ p2 = true := by first | exact .inl rfl | exact .inr rfl) (hs : PlainIx b := by exact fun _ _ => rfl) : JE X fl (.Subscript a b pos) (sBin f sa sb) m (p1 && p2) :=
  je_two (fun ha hb => pe_ix ho ha hb hs) hj ha hb hst
/-- as a test -/
theorem jt_of {e : Expr} {s : SE} {n : Nat} {p : Bool} {t : TE} (ht : PT X e (tTest t)) (h : ∀ st H Q, tJ X.K fl s (.own n) p st H Q → t st H Q) : JT X fl e (sT s) p := by
  refine pt_mono ht ?_
  rintro st H Q ⟨I, U, rs, r, b, r', R, hs, k⟩
  obtain ⟨x, r1, e1, hs⟩ := of_bind hs
  refine h st H _ ⟨I, U, rs, r, x, r1, R, e1, fun U' rs' H' v q A V => ?_⟩
  cases x with
  | bool c =>
    cases hs
    obtain ⟨o, _, _⟩ := V
    cases o with
    | sh e _ =>
      cases e
      exact ⟨_, rfl, k U' rs' H' (A.drop fun _ m => by cases m)⟩
  | _ => cases hs
theorem jt_cmp {a b : Expr} {op : CmpOp} {f : D → D → Option D} {sa sb : SE} {m1 m2 : Md} {p1 p2 : Bool} {rr : R2} {pos : Pos} (ho : OpR X (compareOp op) rr) (hj : OpJ X.K m1 m2 (.own 0) f rr)
    (ha : JE X fl a sa m1 p1) (hb : JE X fl b sb m2 p2) (hst : stab m1 = true ∨ p2 = true := by first | exact .inl rfl | exact .inr rfl) (hm : behindInMarks op b = false := by first | exact nomark _ | rfl) : JT X fl (.Compare a [op] [b] pos) (sT (sBin f sa sb)) (p1 && p2) := by
  refine jt_of (n := 0) (pt_cmpR ho ha hb hm) fun st H Q h => ?_
  rcases h with ⟨I, U, rs, r, d, r', R, hs, k⟩
  obtain ⟨x, r1, e1, hs⟩ := of_bind hs
  obtain ⟨y, r2, e2, hs⟩ := of_bind hs
  obtain ⟨hf, rfl⟩ := of_lift hs
  refine ⟨I, U, rs, r, x, r1, R, e1, fun U1 rs1 H1 v1 q1 A1 V1 => ⟨I, U1, rs1, r1, y, r', A1.rel, e2, fun U2 rs2 H2 v2 q2 A2 V2 => ?_⟩⟩
  have V1' : Val X.K U2 (Wr rs2) (TN I) H2 m1 x v1 q1 := by
    rcases hst with h | h
    · exact V1.step A1.rel.sub A1.rel.wt A2.st h
    · obtain ⟨f, e⟩ := A2.pur h
      rw [e]
      exact V1.fresh f
  have A := A1.trans R A2
  exact hj U2 (Wr rs2) (TN I) H2 x y d v1 v2 q1 q2 Q A.rel.sub A.rel.ul V1' V2 hf fun U' H' v q f hu V hn => k U' rs2 H' v q (A.fresh f hu R hn) V
theorem jt_val {e : Expr} {s : SE} {n : Nat} {p : Bool} (h : JE X fl e s (.own n) p) (he : ∀ whole, isTrue e X.env whole = (do let v ← whole; standAt e.pos; holding [v] (truthy v)) := by intro _; rfl) : JT X fl e (sT s) p := by
  refine jt_of (n := n) (t := tJ X.K fl s (.own n) p) ?_ fun _ _ _ h => h
  exact pt_val h he

/-! ### and, or, not, if else -/
theorem sAft {K : PySem.W.Frag} {I : Ini} {U U1 U2 : Addr → Prop} {rs rs1 rs2 : Rs} {r r1 r2 : Env} {s : St} {H H1 H2 : Hp} {p1 p2 : Bool} {q2 : List Addr} (R : Rel K I fl U rs r s H) (a : Aft K I fl U rs H r1 s p1 U1 rs1 H1 []) (b : Aft K I fl U1 rs1 H1 r2 s p2 U2 rs2 H2 q2) : Aft K I fl U rs H r2 s (p1 && p2) U2 rs2 H2 q2 := a.trans R b
theorem Aft.less {K : PySem.W.Frag} {I : Ini} {U U1 : Addr → Prop} {rs rs1 : Rs} {r : Env} {s : St} {H H1 : Hp} {p1 p2 : Bool} {q : List Addr} (a : Aft K I fl U rs H r s p1 U1 rs1 H1 q) (l : p2 = true → p1 = true) : Aft K I fl U rs H r s p2 U1 rs1 H1 q := ⟨a.rel, a.st, fun h => a.pur (l h), a.new⟩
theorem jw_and1 {a : Expr} {s : SB} {p : Bool} {pos : Pos} (h : JT X fl a s p) : JW X fl (.BoolOp .And [a] pos) s p := pw_and1 h
theorem jw_or1 {a : Expr} {s : SB} {p : Bool} {pos : Pos} (h : JT X fl a s p) : JW X fl (.BoolOp .Or [a] pos) s p := pw_or1 h
theorem jw_and {a b : Expr} {es : List Expr} {sa sb : SB} {p1 p2 : Bool} {pos : Pos} (ha : JT X fl a sa p1) (hb : JW X fl (.BoolOp .And (b :: es) pos) sb p2) : JW X fl (.BoolOp .And (a :: b :: es) pos) (sAnd sa sb) (p1 && p2) := by
  refine pw_mono (pw_and ha hb) ?_
  rintro st H Q ⟨I, U, rs, r, c, r', R, hs, k⟩
  obtain ⟨x, r1, e1, hs⟩ := of_bind hs
  refine ⟨I, U, rs, r, x, r1, R, e1, fun U1 rs1 H1 A1 => ?_⟩
  cases x with
  | true => exact ⟨I, U1, rs1, r1, c, r', A1.rel, hs, fun U2 rs2 H2 A2 => k U2 rs2 H2 (sAft R A1 A2)⟩
  | false => cases hs; exact k U1 rs1 H1 (A1.less fun h => (Bool.and_eq_true_iff.mp h).1)
theorem jw_or {a b : Expr} {es : List Expr} {sa sb : SB} {p1 p2 : Bool} {pos : Pos} (ha : JT X fl a sa p1) (hb : JW X fl (.BoolOp .Or (b :: es) pos) sb p2) : JW X fl (.BoolOp .Or (a :: b :: es) pos) (sOr sa sb) (p1 && p2) := by
  refine pw_mono (pw_or ha hb) ?_
  rintro st H Q ⟨I, U, rs, r, c, r', R, hs, k⟩
  obtain ⟨x, r1, e1, hs⟩ := of_bind hs
  refine ⟨I, U, rs, r, x, r1, R, e1, fun U1 rs1 H1 A1 => ?_⟩
  cases x with
  | false => exact ⟨I, U1, rs1, r1, c, r', A1.rel, hs, fun U2 rs2 H2 A2 => k U2 rs2 H2 (sAft R A1 A2)⟩
  | true => cases hs; exact k U1 rs1 H1 (A1.less fun h => (Bool.and_eq_true_iff.mp h).1)
theorem jt_w {e : Expr} {s : SB} {p : Bool} (h : JW X fl e s p) : JT X fl e s p := h.pt
theorem jt_not {a : Expr} {s : SB} {p : Bool} {pos : Pos} (h : JT X fl a s p) : JT X fl (.UnaryOp .Not a pos) (sNot s) p := by
  refine pt_mono (pt_not h) ?_
  rintro st H Q ⟨I, U, rs, r, c, r', R, hs, k⟩
  obtain ⟨x, r1, e1, hs⟩ := of_bind hs
  cases hs
  exact ⟨I, U, rs, r, x, _, R, e1, fun U1 rs1 H1 A1 => k U1 rs1 H1 A1⟩
/-- values that are tests -/
theorem ofB {K : PySem.W.Frag} {s : SB} {p : Bool} {st : St} {H : Hp} {Q : VK} (h : tJ K fl (sOfB s) (.own 0) p st H Q) : tJT K fl s p st H fun b H' => Q (.bl b) H' := by
  rcases h with ⟨I, U, rs, r, d, r', R, hs, k⟩
  obtain ⟨x, r1, e1, hs⟩ := of_bind hs
  cases hs
  exact ⟨I, U, rs, r, x, _, R, e1, fun U1 rs1 H1 A1 => k U1 rs1 H1 _ _ A1 ⟨.sh (.bl _) (.inl rfl), (fun _ m => by cases m), List.Pairwise.nil⟩⟩
theorem bool_own {K : PySem.W.Frag} {U : Addr → Prop} {H : Hp} {n : Nat} {b : Bool} {v : V} {q : List Addr} (h : Own K U H n (.bool b) v q) : v = .bl b ∧ q = [] := by
  cases h with
  | sh e _ => cases e; exact ⟨rfl, rfl⟩
theorem je_not {a : Expr} {s : SB} {p : Bool} {pos : Pos} (h : JE X fl a (sOfB s) (.own 0) p) : JE X fl (.UnaryOp .Not a pos) (sOfB (sNot s)) (.own 0) p := by
  refine pe_mono (pe_not h) ?_
  rintro st H Q h
  rcases ofB h with ⟨I, U, rs, r, c, r', R, hs, k⟩
  obtain ⟨x, r1, e1, hs⟩ := of_bind hs
  cases hs
  refine ⟨I, U, rs, r, .bool x, _, R, by unfold sOfB; rw [e1]; rfl, fun U1 rs1 H1 v q A1 V => ?_⟩
  obtain ⟨rfl, rfl⟩ := bool_own V.1
  exact ⟨x, rfl, k U1 rs1 H1 A1⟩
theorem je_one {op} {a : Expr} {s : SE} {m : Md} {p : Bool} {pos : Pos} (h : JE X fl a s m p) : JE X fl (.BoolOp op [a] pos) s m p := pe_one h
theorem je_and {a b : Expr} {es : List Expr} {sa sb : SB} {p1 p2 : Bool} {pos : Pos} (ha : JE X fl a (sOfB sa) (.own 0) p1) (hb : JE X fl (.BoolOp .And (b :: es) pos) (sOfB sb) (.own 0) p2) : JE X fl (.BoolOp .And (a :: b :: es) pos) (sOfB (sAnd sa sb)) (.own 0) (p1 && p2) := by
  refine pe_mono (pe_and ha hb) ?_
  rintro st H Q h
  rcases ofB h with ⟨I, U, rs, r, c, r', R, hs, k⟩
  obtain ⟨x, r1, e1, hs⟩ := of_bind hs
  refine ⟨I, U, rs, r, .bool x, r1, R, by unfold sOfB; rw [e1]; rfl, fun U1 rs1 H1 v q A1 V => ?_⟩
  obtain ⟨rfl, rfl⟩ := bool_own V.1
  refine ⟨x, rfl, ?_⟩
  cases x with
  | true =>
    refine ⟨I, U1, rs1, r1, .bool c, r', A1.rel, by unfold sOfB; rw [show sb r1 = .ok c r' from hs]; rfl, fun U2 rs2 H2 v q A2 V => ?_⟩
    obtain ⟨rfl, rfl⟩ := bool_own V.1
    exact k U2 rs2 H2 (sAft R A1 A2)
  | false => cases hs; exact k U1 rs1 H1 (A1.less fun h => (Bool.and_eq_true_iff.mp h).1)
theorem je_or {a b : Expr} {es : List Expr} {sa sb : SB} {p1 p2 : Bool} {pos : Pos} (ha : JE X fl a (sOfB sa) (.own 0) p1) (hb : JE X fl (.BoolOp .Or (b :: es) pos) (sOfB sb) (.own 0) p2) : JE X fl (.BoolOp .Or (a :: b :: es) pos) (sOfB (sOr sa sb)) (.own 0) (p1 && p2) := by
  refine pe_mono (pe_or ha hb) ?_
  rintro st H Q h
  rcases ofB h with ⟨I, U, rs, r, c, r', R, hs, k⟩
  obtain ⟨x, r1, e1, hs⟩ := of_bind hs
  refine ⟨I, U, rs, r, .bool x, r1, R, by unfold sOfB; rw [e1]; rfl, fun U1 rs1 H1 v q A1 V => ?_⟩
  obtain ⟨rfl, rfl⟩ := bool_own V.1
  refine ⟨x, rfl, ?_⟩
  cases x with
  | false =>
    refine ⟨I, U1, rs1, r1, .bool c, r', A1.rel, by unfold sOfB; rw [show sb r1 = .ok c r' from hs]; rfl, fun U2 rs2 H2 v q A2 V => ?_⟩
    obtain ⟨rfl, rfl⟩ := bool_own V.1
    exact k U2 rs2 H2 (sAft R A1 A2)
  | true => cases hs; exact k U1 rs1 H1 (A1.less fun h => (Bool.and_eq_true_iff.mp h).1)
/-- any value that is a bool, as such a value -/
theorem je_tb {e : Expr} {s : SE} {n : Nat} {p : Bool} (h : JE X fl e s (.own n) p) : JE X fl e (sOfB (sT s)) (.own 0) p := by
  refine pe_mono h ?_
  rintro st H Q h
  rcases ofB h with ⟨I, U, rs, r, c, r', R, hs, k⟩
  obtain ⟨x, r1, e1, hs⟩ := of_bind hs
  refine ⟨I, U, rs, r, x, r1, R, e1, fun U1 rs1 H1 v q A1 V => ?_⟩
  cases x with
  | bool b =>
    cases hs
    obtain ⟨rfl, rfl⟩ := bool_own V.1
    exact k U1 rs1 H1 A1
  | _ => cases hs
theorem je_if {c a b : Expr} {sc : SB} {sa sb : SE} {m : Md} {p0 p1 p2 : Bool} {pos : Pos} (hc : JT X fl c sc p0) (ha : JE X fl a sa m p1) (hb : JE X fl b sb m p2) : JE X fl (.IfExp c a b pos) (sIfE sc sa sb) m (p0 && (p1 && p2)) := by
  refine pe_mono (pe_ifExp hc ha hb) ?_
  rintro st H Q ⟨I, U, rs, r, d, r', R, hs, k⟩
  obtain ⟨x, r1, e1, hs⟩ := of_bind hs
  refine ⟨I, U, rs, r, x, r1, R, e1, fun U1 rs1 H1 A1 => ?_⟩
  cases x with
  | true => exact ⟨I, U1, rs1, r1, d, r', A1.rel, hs, fun U2 rs2 H2 v q A2 V => k U2 rs2 H2 v q ((sAft R A1 A2).less fun h => by revert h; cases p0 <;> cases p1 <;> cases p2 <;> decide) V⟩
  | false => exact ⟨I, U1, rs1, r1, d, r', A1.rel, hs, fun U2 rs2 H2 v q A2 V => k U2 rs2 H2 v q ((sAft R A1 A2).less fun h => by revert h; cases p0 <;> cases p1 <;> cases p2 <;> decide) V⟩

/-! ### arguments, displays -/
theorem ja_nil : JA X fl [] sNil [] true := by
  refine pa_mono pa_nil ?_
  rintro st H Q ⟨I, U, rs, r, d, r', R, hs, k⟩
  cases hs
  exact k U rs H [] [] (.refl R) .nil
theorem ValA.step {K : PySem.W.Frag} {U U' W W' T : Addr → Prop} {H H' : Hp} (hw : ∀ b, W b → U b) (ht : ∀ b, W b → T b) (s : Step U W H U' W' H') : ∀ {ms : List Md} {ds : List D} {vs : List V} {q : List Addr}, ms.all stab = true → ValA K U W T H ms ds vs q → ValA K U' W' T H' ms ds vs q
  | _, _, _, _, _, .nil => .nil
  | _, _, _, _, h, .cons a t d => by
    rw [List.all_cons, Bool.and_eq_true] at h
    exact .cons (a.step hw ht s h.1) (ValA.step hw ht s h.2 t) d
theorem ValA.fresh {K : PySem.W.Frag} {U U' W T : Addr → Prop} {H H' : Hp} (f : Fresh U H U' H') : ∀ {ms : List Md} {ds : List D} {vs : List V} {q : List Addr}, ValA K U W T H ms ds vs q → ValA K U' W T H' ms ds vs q
  | _, _, _, _, .nil => .nil
  | _, _, _, _, .cons a t d => .cons (a.fresh f) (ValA.fresh f t) d
theorem Val.ownd {K : PySem.W.Frag} {U W T : Addr → Prop} {H : Hp} {m : Md} {d : D} {v : V} {q : List Addr} (h : Val K U W T H m d v q) : ∀ a ∈ q, ¬ W a ∧ H a ≠ none := fun a ha => by
  cases m with
  | own n =>
    obtain ⟨o, ho, _⟩ := h.1.there a ha
    exact ⟨h.2.1 a ha, by rw [ho]; exact fun z => by cases z⟩
  | b1 => rw [h.2] at ha; cases ha
  | r1 => rw [h.2] at ha; cases ha
  | an => rw [h.2] at ha; cases ha
theorem ja_cons {e : Expr} {es : List Expr} {s : SE} {t : SA} {m : Md} {ms : List Md} {p1 p2 : Bool} (ha : JE X fl e s m p1) (hr : JA X fl es t ms p2) (hst : stab m = true ∨ p2 = true := by first | exact .inl rfl | exact .inr rfl)
    (hs : starEach (e :: es) X.env = (false, eval e X.env) :: starEach es X.env := by rfl) : JA X fl (e :: es) (sCons s t) (m :: ms) (p1 && p2) := by
  refine pa_mono (pa_cons ha hr hs) ?_
  rintro st H Q ⟨I, U, rs, r, ds, r', R, hs, k⟩
  obtain ⟨x, r1, e1, hs⟩ := of_bind hs
  obtain ⟨xs, r2, e2, hs⟩ := of_bind hs
  cases hs
  refine ⟨I, U, rs, r, x, r1, R, e1, fun U1 rs1 H1 v1 q1 A1 V1 => ⟨I, U1, rs1, r1, xs, _, A1.rel, e2, fun U2 rs2 H2 v2 q2 A2 V2 => ?_⟩⟩
  have V1' : Val X.K U2 (Wr rs2) (TN I) H2 m x v1 q1 := by
    rcases hst with h | h
    · exact V1.step A1.rel.sub A1.rel.wt A2.st h
    · obtain ⟨f, e⟩ := A2.pur h
      rw [e]
      exact V1.fresh f
  refine k U2 rs2 H2 (v1 :: v2) (q1 ++ q2) (A1.trans R A2) (.cons V1' V2 fun a h1 h2 => ?_)
  rcases A2.new a h2 with z | z
  · exact (V1.ownd a h1).1 z
  · exact (V1.ownd a h1).2 z
/-- all arguments owned n deep -/
theorem ValA.owned {K : PySem.W.Frag} {U W T : Addr → Prop} {H : Hp} {n : Nat} : ∀ {k : Nat} {ds : List D} {vs : List V} {q : List Addr}, ValA K U W T H (List.replicate k (.own n)) ds vs q → OwnAll K U H n ds vs q ∧ (∀ a ∈ q, ¬ W a) ∧ q.Nodup
  | 0, _, _, _, .nil => ⟨.nil, (fun _ m => by cases m), List.Pairwise.nil⟩
  | k + 1, _, _, _, .cons a t d => by
    obtain ⟨o, nw, nd⟩ := a
    obtain ⟨o', nw', nd'⟩ := ValA.owned (k := k) t
    refine ⟨.cons o o', fun b m => (List.mem_append.mp m).elim (nw b) (nw' b), List.nodup_append.mpr ⟨nd, nd', fun x hx y hy e => d x hx (e ▸ hy)⟩⟩
theorem ValA.len {K : PySem.W.Frag} {U W T : Addr → Prop} {H : Hp} : ∀ {ms : List Md} {ds : List D} {vs : List V} {q : List Addr}, ValA K U W T H ms ds vs q → vs.length = ms.length
  | _, _, _, _, .nil => rfl
  | _, _, _, _, .cons _ t _ => by simp [ValA.len t]
theorem line_eq : line = sizeLine := by rw [sizeLine_eq]; rfl
theorem je_lst {es : List Expr} {s : SA} {n k : Nat} {p : Bool} {pos : Pos} (h : JA X fl es s (List.replicate k (.own n)) p) (hk : k ≤ line := by decide) : JE X fl (.List es pos) (sLst s) (.own (n + 1)) p := by
  refine pe_mono (pe_lst h) ?_
  rintro st H Q ⟨I, U, rs, r, d, r', R, hs, c⟩
  obtain ⟨xs, r1, e1, hs⟩ := of_bind hs
  cases hs
  refine ⟨I, U, rs, r, xs, _, R, e1, fun U1 rs1 H1 vs q A V => ?_⟩
  have hl : vs.length = k := by
    rw [V.len, List.length_replicate]
  obtain ⟨o, nw, nd⟩ := V.owned
  refine ⟨by rw [hl, ← line_eq]; exact hk, fun a ha => ?_⟩
  have f := Fresh.newU (U := U1) (.lst vs) ha
  have na : ∀ b ∈ q, b ≠ a := fun b m e => by
    obtain ⟨ob, ho, _⟩ := OwnAll.there o b m
    rw [e, ha] at ho; cases ho
  refine c (fun b => U1 b ∨ b = a) rs1 (upd H1 a (.lst vs)) (.ref a) (a :: q) ⟨A.rel.fresh f (ul_new A.rel.ul), A.st.trans R.ul f.step, fun hp => ⟨(A.pur hp).1.trans f, (A.pur hp).2⟩, fun b m => ?_⟩ ⟨.lst (.inr rfl) upd_same ?_, fun b m => ?_, ?_⟩
  · rcases List.mem_cons.mp m with e | m
    · exact .inr (A.st.live b (e ▸ ha))
    · exact A.new b m
  · exact OwnAll.step f.grow o fun b m => ⟨.inl (OwnAll.inU o b m), fun ob ho => f.all b ob ho⟩
  · rcases List.mem_cons.mp m with e | m
    · intro w
      have := A.rel.ul b (A.rel.sub b w)
      rw [e] at this
      exact this ha
    · exact nw b m
  · exact List.nodup_cons.mpr ⟨fun m => na a m rfl, nd⟩
theorem je_tup {es : List Expr} {s : SA} {n k : Nat} {p : Bool} {x1 : Nat} {pos : Pos} (h : JA X fl es s (List.replicate k (.own 0)) p) (hk : k ≤ line := by decide) : JE X fl (.Tuple es x1 pos) (sTup s) (.own n) p := by
  refine pe_mono (pe_tupN h) ?_
  rintro st H Q ⟨I, U, rs, r, d, r', R, hs, c⟩
  obtain ⟨xs, r1, e1, hs⟩ := of_bind hs
  cases hs
  refine ⟨I, U, rs, r, xs, _, R, e1, fun U1 rs1 H1 vs q A V => ?_⟩
  have hl : vs.length = k := by
    rw [V.len, List.length_replicate]
  obtain ⟨o, nw, nd⟩ := V.owned
  obtain ⟨o2, e2⟩ := o.to0
  subst e2
  refine ⟨by rw [hl, ← line_eq]; exact hk, fun a ob ha hd => ?_⟩
  have f := Fresh.new (U := U1) (.frz ob (.tup vs)) ha
  exact c U1 rs1 (upd H1 a (.frz ob (.tup vs))) (.ref a) [] ⟨A.rel.fresh f (ul_old A.rel.ul), A.st.trans R.ul f.step, fun hp => ⟨(A.pur hp).1.trans f, (A.pur hp).2⟩, fun b m => by cases m⟩
    ⟨.sh (.tup (.inl ⟨ob, upd_same, hd⟩) (EnAll.grow f.grow o2)) (.inr trivial), (fun _ m => by cases m), List.Pairwise.nil⟩
end
end J

set_option Elab.async false
set_option linter.all false
set_option maxRecDepth 100000
/-! JVal: the operators by their values. -/
namespace J
open PySem L2

theorem val_scal {K : PySem.W.Frag} {U W T : Addr → Prop} {H : Hp} {n : Nat} {d : D} {v : V} (e : En K U H d v) (a : atom d) : Val K U W T H (.own n) d v [] := ⟨.sh e (.inr a), (fun _ m => by cases m), List.Pairwise.nil⟩
theorem val_sh {K : PySem.W.Frag} {U W T : Addr → Prop} {H : Hp} {d : D} {v : V} (e : En K U H d v) : Val K U W T H (.own 0) d v [] := ⟨.sh e (.inl rfl), (fun _ m => by cases m), List.Pairwise.nil⟩
/-- the result is a plain value -/
theorem opj_scal {K : PySem.W.Frag} {m1 m2 : Md} {n : Nat} {f : D → D → Option D} {rr : R2}
    (h : ∀ U W T H d1 d2 d v1 v2 q1 q2, Val K U W T H m1 d1 v1 q1 → Val K U W T H m2 d2 v2 q2 → f d1 d2 = some d → ∃ v, (∀ U', En K U' H d v) ∧ atom d ∧ ∀ Q : VK, Q v H → rr v1 v2 H Q) : OpJ K m1 m2 (.own n) f rr := by
  intro U W T H d1 d2 d v1 v2 q1 q2 Q hw hu V1 V2 hf k
  obtain ⟨v, e, a, g⟩ := h U W T H d1 d2 d v1 v2 q1 q2 V1 V2 hf
  exact g Q (k U H v [] .refl hu (val_scal (e U) a) fun _ m => by cases m)
theorem en_int {K : PySem.W.Frag} {U : Addr → Prop} {H : Hp} {i : Int} {v : V} (h : En K U H (.int i) v) : v = .int i := by cases h; rfl
theorem en_bool {K : PySem.W.Frag} {U : Addr → Prop} {H : Hp} {i : Bool} {v : V} (h : En K U H (.bool i) v) : v = .bl i := by cases h; rfl
theorem en_str {K : PySem.W.Frag} {U : Addr → Prop} {H : Hp} {i : Str} {v : V} (h : En K U H (.str i) v) : v = .str i := by cases h; rfl
theorem en_non {K : PySem.W.Frag} {U : Addr → Prop} {H : Hp} {v : V} (h : En K U H .none v) : v = .non := by cases h; rfl
theorem en_tupP {K : PySem.W.Frag} {U : Addr → Prop} {H : Hp} {ds : List D} {v : V} (h : En K U H (.tuple ds) v) : ∃ a xs, v = .ref a ∧ PlT K H a xs ∧ EnAll K U H ds xs := by
  cases h with
  | tup s t => exact ⟨_, _, rfl, s, t⟩
theorem en_tup {K : PySem.W.Frag} {U : Addr → Prop} {H : Hp} {ds : List D} {v : V} (h : En K U H (.tuple ds) v) : ∃ a xs, v = .ref a ∧ SqT K H a xs ∧ EnAll K U H ds xs := by
  cases h with
  | tup s t => exact ⟨_, _, rfl, s.sq, t⟩
theorem en_lst {K : PySem.W.Frag} {U : Addr → Prop} {H : Hp} {ds : List D} {v : V} (h : En K U H (.list ds) v) : ∃ a xs, v = .ref a ∧ H a = some (.lst xs) ∧ ¬ U a ∧ EnAll K U H ds xs := by
  cases h with
  | lst s n t => exact ⟨_, _, rfl, s, n, t⟩
theorem e1_lst {K : PySem.W.Frag} {U T : Addr → Prop} {H : Hp} {ds : List D} {v : V} (h : E1 K U T H (.list ds) v) : ∃ a xs, v = .ref a ∧ H a = some (.lst xs) ∧ EnAll K U H ds xs := by
  rcases h with h | ⟨a, xs, es, e, rfl, ha, _, h⟩ | ⟨_, _, _, e, _⟩
  · obtain ⟨a, xs, e, ha, _, t⟩ := en_lst h
    exact ⟨a, xs, e, ha, t⟩
  · cases e; exact ⟨a, xs, rfl, ha, h⟩
  · cases e
theorem e1_tupP {K : PySem.W.Frag} {U T : Addr → Prop} {H : Hp} {ds : List D} {v : V} (h : E1 K U T H (.tuple ds) v) : ∃ a xs, v = .ref a ∧ PlT K H a xs ∧ EnAll K U H ds xs := by
  rcases h with h | ⟨_, _, _, e, _⟩ | ⟨_, _, _, e, _⟩
  · exact en_tupP h
  · cases e
  · cases e
theorem e1_tup {K : PySem.W.Frag} {U T : Addr → Prop} {H : Hp} {ds : List D} {v : V} (h : E1 K U T H (.tuple ds) v) : ∃ a xs, v = .ref a ∧ SqT K H a xs ∧ EnAll K U H ds xs := by
  rcases h with h | ⟨_, _, _, e, _⟩ | ⟨_, _, _, e, _⟩
  · exact en_tup h
  · cases e
  · cases e
theorem e1_dic {K : PySem.W.Frag} {U T : Addr → Prop} {H : Hp} {ds : List (D × D)} {v : V} (h : E1 K U T H (.dict ds) v) : ∃ a xs, v = .ref a ∧ H a = some (.dK xs) ∧ EnKv K U H ds xs := by
  rcases h with h | ⟨_, _, _, e, _⟩ | ⟨a, xs, es, e, rfl, ha, _, h⟩
  · cases h with
    | dic s n t => exact ⟨_, _, rfl, s, t⟩
  · cases e
  · cases e; exact ⟨a, xs, rfl, ha, h⟩
theorem EnAll.sz {K : PySem.W.Frag} {U : Addr → Prop} {H : Hp} {ds : List D} {vs : List V} (h : EnAll K U H ds vs) : vs.length = ds.length := h.length.symm
/-- ints: the rule and the semantics -/
theorem opj_int {K : PySem.W.Frag} {m1 m2 : Md} {n : Nat} {f : D → D → Option D} {C : Int → Int → Prop} {g : Int → Int → Int} (hf : ∀ a b d, f a b = some d → ∃ i j, a = .int i ∧ b = .int j ∧ C i j ∧ d = .int (g i j)) :
    OpJ K m1 m2 (.own n) f (rI C fun i j => .int (g i j)) := opj_scal fun U W T H d1 d2 d v1 v2 q1 q2 V1 V2 h => by
  obtain ⟨i, j, rfl, rfl, c, rfl⟩ := hf _ _ _ h
  exact ⟨.int (g i j), fun _ => .int _, trivial, fun Q q => ⟨i, j, en_int V1.en, en_int V2.en, c, q⟩⟩
theorem opj_int0 {K : PySem.W.Frag} {m1 m2 : Md} {n : Nat} {f : D → D → Option D} {g : Int → Int → Int} (hf : ∀ a b d, f a b = some d → ∃ i j, a = .int i ∧ b = .int j ∧ d = .int (g i j)) :
    OpJ K m1 m2 (.own n) f (rI0 fun i j => .int (g i j)) := opj_scal fun U W T H d1 d2 d v1 v2 q1 q2 V1 V2 h => by
  obtain ⟨i, j, rfl, rfl, rfl⟩ := hf _ _ _ h
  exact ⟨.int (g i j), fun _ => .int _, trivial, fun Q q => ⟨i, j, en_int V1.en, en_int V2.en, q⟩⟩
theorem opj_cmp {K : PySem.W.Frag} {m1 m2 : Md} {n : Nat} {g : Int → Int → Bool} : OpJ K m1 m2 (.own n) (dCmp g) (rI0 fun i j => .bl (g i j)) := opj_scal fun U W T H d1 d2 d v1 v2 q1 q2 V1 V2 h => by
  unfold dCmp at h
  split at h
  · cases h
    exact ⟨.bl _, fun _ => .bl _, trivial, fun Q q => ⟨_, _, en_int V1.en, en_int V2.en, q⟩⟩
  · cases h
section
variable {K : PySem.W.Frag} {m1 m2 : Md} {n : Nat}
theorem oj_lt : OpJ K m1 m2 (.own n) dLt (rI0 fun i j => .bl (decide (i < j))) := opj_cmp
theorem oj_le : OpJ K m1 m2 (.own n) dLe (rI0 fun i j => .bl (decide (i ≤ j))) := opj_cmp
theorem oj_gt : OpJ K m1 m2 (.own n) dGt (rI0 fun i j => .bl (decide (j < i))) := opj_cmp
theorem oj_ge : OpJ K m1 m2 (.own n) dGe (rI0 fun i j => .bl (decide (j ≤ i))) := opj_cmp
theorem oj_sub : OpJ K m1 m2 (.own n) dSub (rI0 fun i j => .int (i - j)) := opj_int0 fun a b d h => by
  unfold dSub at h
  split at h
  · cases h; exact ⟨_, _, rfl, rfl, rfl⟩
  · cases h
theorem oj_div : OpJ K m1 m2 (.own n) dDiv (rI CDiv fun i j => .int (i / j)) := opj_int fun a b d h => by
  unfold dDiv at h
  split at h
  · split at h
    · rename_i c
      cases h; exact ⟨_, _, rfl, rfl, c, rfl⟩
    · cases h
  · cases h
theorem oj_mod : OpJ K m1 m2 (.own n) dMod (rI (fun _ j => 0 < j) fun i j => .int (i % j)) := opj_int fun a b d h => by
  unfold dMod at h
  split at h
  · split at h
    · rename_i c
      cases h; exact ⟨_, _, rfl, rfl, c, rfl⟩
    · cases h
  · cases h

/-! ### equality, membership -/
mutual
theorem En.dp {U : Addr → Prop} {H : Hp} : ∀ {d : D} {v : V}, En K U H d v → d.canLay0 = true → Dp K H v d
  | _, _, .non, _ => .non
  | _, _, .bl b, _ => .bl b
  | _, _, .int i, _ => .int i
  | _, _, .str x, _ => .str x
  | _, _, .tup h a, c => .tup h.sq (EnAll.dp a (by simpa [PyData.canLay0] using c))
  | _, _, .lst h n a, c => .lst (SqL.of h) (EnAll.dp a (by simpa [PyData.canLay0] using c))
  | _, _, .dic h n a, c => absurd c (by simp [PyData.canLay0])
theorem EnAll.dp {U : Addr → Prop} {H : Hp} : ∀ {ds : List D} {vs : List V}, EnAll K U H ds vs → PyData.canLayAll0 ds = true → DpAll K H vs ds
  | _, _, .nil, _ => .nil
  | _, _, .cons h t, c => by
    rw [PyData.canLayAll0, Bool.and_eq_true] at c
    exact .cons (En.dp h c.1) (EnAll.dp t c.2)
end
theorem shp_lay {d : D} (h : shp d = true) : d.canLay0 = true := (Bool.and_eq_true_iff.mp h).1
theorem oj_eq : OpJ K m1 m2 (.own n) dEq (rEqD K) := opj_scal fun U W T H d1 d2 d v1 v2 q1 q2 V1 V2 h => by
  unfold dEq at h
  split at h
  · rename_i c
    cases h
    exact ⟨.bl _, fun _ => .bl _, trivial, fun Q q => ⟨_, _, V1.en.dp (shp_lay c.1), V2.en.dp (shp_lay c.2), c.1, c.2, q⟩⟩
  · cases h
theorem oj_ne : OpJ K m1 m2 (.own n) dNe (rNeD K) := opj_scal fun U W T H d1 d2 d v1 v2 q1 q2 V1 V2 h => by
  unfold dNe at h
  split at h
  · rename_i c
    cases h
    exact ⟨.bl _, fun _ => .bl _, trivial, fun Q q => ⟨_, _, V1.en.dp (shp_lay c.1), V2.en.dp (shp_lay c.2), c.1, c.2, q⟩⟩
  · cases h
theorem oj_is : OpJ K m1 (.own 0) (.own n) dIs (fun x y H Q => (y = .non ∧ Q (.bl (decide (x = .non))) H) ∨ (∃ a b, x = .bl a ∧ y = .bl b ∧ Q (.bl (decide (a = b))) H)) := opj_scal fun U W T H d1 d2 d v1 v2 q1 q2 V1 V2 h => by
  unfold dIs at h
  split at h
  · cases h
    refine ⟨.bl (isNon d1), fun _ => .bl _, trivial, fun Q q => .inl ⟨en_non V2.en, ?_⟩⟩
    have e : decide (v1 = V.non) = isNon d1 := by
      have := V1.en
      cases this <;> simp [isNon]
    rw [e]; exact q
  · split at h
    · cases h
      exact ⟨_, fun _ => .bl _, trivial, fun Q q => .inr ⟨_, _, en_bool V1.en, en_bool V2.en, q⟩⟩
    · cases h
  · cases h
theorem oj_isnt : OpJ K m1 (.own 0) (.own n) dIsnt (fun x y H Q => (y = .non ∧ Q (.bl (!decide (x = .non))) H) ∨ (∃ a b, x = .bl a ∧ y = .bl b ∧ Q (.bl (!decide (a = b))) H)) := opj_scal fun U W T H d1 d2 d v1 v2 q1 q2 V1 V2 h => by
  unfold dIsnt at h
  split at h
  · cases h
    refine ⟨.bl (!isNon d1), fun _ => .bl _, trivial, fun Q q => .inl ⟨en_non V2.en, ?_⟩⟩
    have e : decide (v1 = V.non) = isNon d1 := by
      have := V1.en
      cases this <;> simp [isNon]
    rw [e]; exact q
  · split at h
    · cases h
      exact ⟨_, fun _ => .bl _, trivial, fun Q q => .inr ⟨_, _, en_bool V1.en, en_bool V2.en, q⟩⟩
    · cases h
  · cases h
end
/-- x in t, a tuple of data -/
def rInT (K : PySem.W.Frag) (neg : Bool) : R2 := fun x y H Q => ∃ d ds, Dp K H x d ∧ Dp K H y (.tuple ds) ∧ SeqAt.shaped d = true ∧ SeqAt.shaped (.tuple ds) = true ∧ Q (.bl (if neg then !(ds.any fun z => PyData.eqv z d) else ds.any fun z => PyData.eqv z d)) H
section
variable {X : Cx}
theorem op_is : OpR X (compareOp .Is) (fun x y H Q => (y = .non ∧ Q (.bl (decide (x = .non))) H) ∨ (∃ a b, x = .bl a ∧ y = .bl b ∧ Q (.bl (decide (a = b))) H)) := op_isN.or op_is_bl
theorem op_isnt : OpR X (compareOp .IsNot) (fun x y H Q => (y = .non ∧ Q (.bl (!decide (x = .non))) H) ∨ (∃ a b, x = .bl a ∧ y = .bl b ∧ Q (.bl (!decide (a = b))) H)) := op_notN.or op_isnot_bl
theorem op_inT (hu : X.A.units + 65 < cLine) : OpR X (compareOp .In) (rInT X.K false) := by
  intro pins s σ H x y v u Q I rx ry h
  obtain ⟨d, ds, hd, he, sd, se, q⟩ := h
  obtain ⟨as, r1⟩ := Dp.reads I d x v hd rx
  obtain ⟨bs, r2⟩ := Dp.reads I (.tuple ds) y u he ry
  exact SeqAt.in_tuple_reads r2 r1 (SeqAt.canLay_of_shaped se) (SeqAt.canLay_of_shaped sd) (PyProof.Rows.room_in_shaped sd hu) ⟨.bl _, H, I, rfl, q⟩
theorem op_ninT (hu : X.A.units + 65 < cLine) : OpR X (compareOp .NotIn) (rInT X.K true) := by
  intro pins s σ H x y v u Q I rx ry h
  obtain ⟨d, ds, hd, he, sd, se, q⟩ := h
  obtain ⟨as, r1⟩ := Dp.reads I d x v hd rx
  obtain ⟨bs, r2⟩ := Dp.reads I (.tuple ds) y u he ry
  exact SeqAt.notIn_tuple_reads r2 r1 (SeqAt.canLay_of_shaped se) (SeqAt.canLay_of_shaped sd) (PyProof.Rows.room_in_shaped sd hu) ⟨.bl _, H, I, rfl, q⟩
def rInLT (K : PySem.W.Frag) : R2 := fun x y H Q => rInD K x y H Q ∨ rInT K false x y H Q
def rNinLT (K : PySem.W.Frag) : R2 := fun x y H Q => rNotInD K x y H Q ∨ rInT K true x y H Q
theorem op_inLT (hu : X.A.units + 65 < cLine) : OpR X (compareOp .In) (rInLT X.K) := (op_inD hu).or (op_inT hu)
theorem op_ninLT (hu : X.A.units + 65 < cLine) : OpR X (compareOp .NotIn) (rNinLT X.K) := (op_notInD hu).or (op_ninT hu)
end
section
variable {K : PySem.W.Frag} {m1 m2 : Md} {n : Nat}
theorem shp_tup {xs : List D} : shp (.tuple xs) = shp (.list xs) := by simp [shp, PyData.canLay0, PyData.depth]
theorem oj_in : OpJ K m1 m2 (.own n) dIn (rInLT K) := opj_scal fun U W T H d1 d2 d v1 v2 q1 q2 V1 V2 h => by
  unfold dIn at h
  split at h
  · rename_i xs e
    split at h
    · rename_i c
      cases h
      refine ⟨.bl _, fun _ => .bl _, trivial, fun Q q => ?_⟩
      cases d2 with
      | list ys => cases e; exact .inl ⟨_, _, V1.en.dp (shp_lay c.1), V2.en.dp (shp_lay c.2), c.1, c.2, q⟩
      | tuple ys => cases e; exact .inr ⟨_, _, V1.en.dp (shp_lay c.1), V2.en.dp (shp_lay (shp_tup.trans c.2)), c.1, shp_tup.trans c.2, q⟩
      | _ => cases e
    · cases h
  · cases h
theorem oj_nin : OpJ K m1 m2 (.own n) dNin (rNinLT K) := opj_scal fun U W T H d1 d2 d v1 v2 q1 q2 V1 V2 h => by
  unfold dNin at h
  split at h
  · rename_i xs e
    split at h
    · rename_i c
      cases h
      refine ⟨.bl _, fun _ => .bl _, trivial, fun Q q => ?_⟩
      cases d2 with
      | list ys => cases e; exact .inl ⟨_, _, V1.en.dp (shp_lay c.1), V2.en.dp (shp_lay c.2), c.1, c.2, q⟩
      | tuple ys => cases e; exact .inr ⟨_, _, V1.en.dp (shp_lay c.1), V2.en.dp (shp_lay (shp_tup.trans c.2)), c.1, shp_tup.trans c.2, q⟩
      | _ => cases e
    · cases h
  · cases h

/-! ### sums, products -/
def rAddAll (K : PySem.W.Frag) : R2 := fun x y H Q => rI0 (fun i j => .int (i + j)) x y H Q ∨ (∃ i j, x = .str i ∧ y = .str j ∧ i.length + j.length ≤ sizeLine ∧ Q (.str (i ++ j)) H) ∨ rCat x y H Q ∨ rCatN K x y H Q
theorem op_addAll {X : Cx} : OpR X (binaryOp .Add) (rAddAll X.K) := op_add.or (op_add_str.or (op_cat.or op_catN))
theorem oj_add : OpJ K .r1 .r1 (.own 1) dAdd (rAddAll K) := by
  intro U W T H d1 d2 d v1 v2 q1 q2 Q hw hu V1 V2 hf k
  unfold dAdd at hf
  split at hf
  · cases hf
    exact .inl ⟨_, _, en_int V1.en, en_int V2.en, k U H _ [] .refl hu (val_scal (.int _) trivial) fun _ m => by cases m⟩
  · split at hf
    · rename_i c
      cases hf
      exact .inr (.inl ⟨_, _, en_str V1.en, en_str V2.en, by rw [← line_eq]; exact c, k U H _ [] .refl hu (val_scal (.str _) trivial) fun _ m => by cases m⟩)
    · cases hf
  · split at hf
    · rename_i c
      cases hf
      obtain ⟨a, xs, rfl, ha, t⟩ := e1_lst V1.1
      obtain ⟨b, ys, rfl, hb, t'⟩ := e1_lst V2.1
      refine .inr (.inr (.inl ⟨a, b, xs, ys, rfl, rfl, ha, hb, by rw [← line_eq, t.sz, t'.sz]; exact c, fun p hp => ?_⟩))
      have f := Fresh.newU (U := U) (.lst (xs ++ ys)) hp
      refine k _ _ (.ref p) [p] f (ul_new hu) ⟨.lst (.inr rfl) upd_same (OwnAll.of0 (EnAll.grow f.grow (t.append t'))), fun b m w => ?_, by simp⟩ fun b m => ?_
      · have e : b = p := by simpa using m
        exact hu b (hw b w) (e ▸ hp)
      · have e : b = p := by simpa using m
        rw [e]; exact hp
    · cases hf
  · split at hf
    · rename_i c
      cases hf
      obtain ⟨a, xs, rfl, ha, t⟩ := e1_tupP V1.1
      obtain ⟨b, ys, rfl, hb, t'⟩ := e1_tupP V2.1
      refine .inr (.inr (.inr ⟨a, b, xs, ys, rfl, rfl, ha.sq, hb.sq, by rw [← line_eq, t.sz, t'.sz]; exact c, fun e => ?_, fun _ e => ?_, fun _ _ p ob hp hd => ?_⟩))
      · have e' : _ = [] := List.eq_nil_of_length_eq_zero (by rw [t.length, e]; rfl)
        subst e'
        exact k U H _ [] .refl hu (val_scal (.tup hb t') trivial) fun _ m => by cases m
      · have e' : _ = [] := List.eq_nil_of_length_eq_zero (by rw [t'.length, e]; rfl)
        subst e'
        rw [List.append_nil] at k
        exact k U H _ [] .refl hu (val_scal (.tup ha t) trivial) fun _ m => by cases m
      · have f := Fresh.new (U := U) (.frz ob (.tup (xs ++ ys))) hp
        exact k U _ (.ref p) [] f (ul_old hu) (val_scal (.tup (.inl ⟨ob, upd_same, hd⟩) (EnAll.grow f.grow (t.append t'))) trivial) fun _ m => by cases m
    · cases hf
  · cases hf
def rMulAll : R2 := fun x y H Q => rI CMul (fun i j => .int (i * j)) x y H Q ∨ rRep x y H Q
theorem op_mulAll {X : Cx} : OpR X (binaryOp .Mult) rMulAll := op_mul.or op_rep
theorem oj_mul : OpJ K .r1 m2 (.own 1) dMul rMulAll := by
  intro U W T H d1 d2 d v1 v2 q1 q2 Q hw hu V1 V2 hf k
  unfold dMul at hf
  split at hf
  · split at hf
    · rename_i c
      cases hf
      exact .inl ⟨_, _, en_int V1.en, en_int V2.en, c, k U H _ [] .refl hu (val_scal (.int _) trivial) fun _ m => by cases m⟩
    · cases hf
  · rename_i kk
    split at hf
    · rename_i c
      cases hf
      obtain ⟨a, xs, rfl, ha, t⟩ := e1_lst V1.1
      refine .inr ⟨a, _, xs, rfl, en_int V2.en, ha, c.1, c.2.1, by rw [← line_eq, t.sz]; exact c.2.2, fun p hp => ?_⟩
      have f := Fresh.newU (U := U) (.lst (List.replicate kk.toNat xs).flatten) hp
      refine k _ _ (.ref p) [p] f (ul_new hu) ⟨.lst (.inr rfl) upd_same (OwnAll.of0 (EnAll.grow f.grow (t.rep _))), fun b m w => ?_, by simp⟩ fun b m => ?_
      · have e : b = p := by simpa using m
        exact hu b (hw b w) (e ▸ hp)
      · have e : b = p := by simpa using m
        rw [e]; exact hp
    · cases hf
  · cases hf

/-! ### items, slices -/
theorem ixD_eq (n : Nat) (i : Int) : ixD n i = ixN n i := rfl
theorem atI_of {U : Addr → Prop} {H : Hp} {ds : List D} {xs : List V} {i : Int} {d : D} (t : EnAll K U H ds xs) (h : ((ixD ds.length i).bind fun j => ds[j]?) = some d) : ∃ v, atI xs i = some v ∧ En K U H d v := by
  unfold atI
  rw [← t.length, ← ixD_eq]
  cases hj : ixD ds.length i with
  | none => rw [hj] at h; cases h
  | some j =>
    rw [hj] at h
    exact t.get (show ds[j]? = some d from h)
theorem oj_ix : OpJ K .r1 m2 (.own 0) dIx (rIx K) := by
  intro U W T H d1 d2 d v1 v2 q1 q2 Q hw hu V1 V2 hf k
  unfold dIx at hf
  split at hf
  · obtain ⟨a, xs, rfl, ha, t⟩ := e1_lst V1.1
    obtain ⟨v, hv, e⟩ := atI_of t hf
    exact .inl ⟨a, xs, _, v, rfl, en_int V2.en, SqL.of ha, hv, k U H v [] .refl hu (val_sh e) fun _ m => by cases m⟩
  · obtain ⟨a, xs, rfl, ha, t⟩ := e1_tup V1.1
    obtain ⟨v, hv, e⟩ := atI_of t hf
    exact .inr (.inl ⟨a, xs, _, v, rfl, en_int V2.en, ha, hv, k U H v [] .refl hu (val_sh e) fun _ m => by cases m⟩)
  · cases hf
theorem oj_ixa : OpJ K .an m2 .an dIx (rIx K) := by
  intro U W T H d1 d2 d v1 v2 q1 q2 Q hw hu V1 V2 hf k
  unfold dIx at hf
  split at hf
  · obtain ⟨a, xs, rfl, ha, _, t⟩ := en_lst V1.1
    obtain ⟨v, hv, e⟩ := atI_of t hf
    exact .inl ⟨a, xs, _, v, rfl, en_int V2.en, SqL.of ha, hv, k U H v [] .refl hu ⟨e, rfl⟩ fun _ m => by cases m⟩
  · obtain ⟨a, xs, rfl, ha, t⟩ := en_tup V1.1
    obtain ⟨v, hv, e⟩ := atI_of t hf
    exact .inr (.inl ⟨a, xs, _, v, rfl, en_int V2.en, ha, hv, k U H v [] .refl hu ⟨e, rfl⟩ fun _ m => by cases m⟩)
  · cases hf
end
/-- a slice's part -/
def tJO (K : PySem.W.Frag) (fl : List Fg) (e : Env → R (Option Int)) (pu : Bool) : TO := fun s H Q => ∃ I U rs r b r', Rel K I fl U rs r s H ∧ e r = .ok b r' ∧
  ∀ U' rs' H', Aft K I fl U rs H r' s pu U' rs' H' [] → Q b H'
abbrev JO (X : Cx) (fl : List Fg) (e : Option Expr) (s : Env → R (Option Int)) (pu : Bool) : Prop := PO X e (tJO X.K fl s pu)
theorem po_mono {X : Cx} {e : Option Expr} {t t' : TO} (h : PO X e t) (m : ∀ s H Q, t' s H Q → t s H Q) : PO X e t' := ⟨fun pins s st H Q I q => h.run pins s st H Q I (m st H Q q)⟩
section
variable {X : Cx} {fl : List Fg}
theorem jo_none : JO X fl none sNoPart true := by
  refine po_mono po_none ?_
  rintro st H Q ⟨I, U, rs, r, d, r', R, hs, k⟩
  cases hs
  exact k U rs H (.refl R)
theorem jo_some {e : Expr} {s : SE} {n : Nat} {p : Bool} (h : JE X fl e s (.own n) p) : JO X fl (some e) (sPart s) p := by
  refine po_mono (po_some h) ?_
  rintro st H Q ⟨I, U, rs, r, d, r', R, hs, k⟩
  obtain ⟨x, r1, e1, hs⟩ := of_bind hs
  refine ⟨I, U, rs, r, x, r1, R, e1, fun U' rs' H' v q A V => ?_⟩
  cases x with
  | int i =>
    cases hs
    exact ⟨i, en_int V.en, k U' rs' H' (A.drop fun _ m => by cases m)⟩
  | _ => cases hs
def rSlAll (K : PySem.W.Frag) : V → Option Int → Option Int → Hp → VK → Prop := fun x lo hi H Q => rSlL K x lo hi H Q ∨ rSlN K x lo hi H Q
theorem sl_all : SlR X (rSlAll X.K) := sl_list.or sl_tupN
theorem slD_eq (n d : Nat) (o : Option Int) : slD n d o = HT.sIx n d o := by cases o <;> rfl
theorem en_cut {K : PySem.W.Frag} {U : Addr → Prop} {H : Hp} {ds : List D} {xs : List V} (t : EnAll K U H ds xs) (lo hi : Option Int) : EnAll K U H (cutD ds lo hi) (cutV xs lo hi) := by
  unfold cutD cutV
  rw [slD_eq, slD_eq, t.length]
  exact (t.drop _).take _
theorem sIx_le' (n : Nat) (o : Option Int) : HT.sIx n n o ≤ n ∨ True := .inr trivial
theorem je_sl {e : Expr} {lo hi : Option Expr} {s : SE} {sl sh : Env → R (Option Int)} {p1 p2 p3 : Bool} {pos p2' : Pos} (he : JE X fl e s .r1 p1) (hl : JO X fl lo sl p2) (hh : JO X fl hi sh p3) (hp : (p2 && p3) = true) :
    JE X fl (.Subscript e (.Slice lo hi none p2') pos) (sSl s sl sh) (.own 1) p1 := by
  have hp2 : p2 = true := by revert hp; cases p2 <;> simp
  have hp3 : p3 = true := by revert hp; cases p3 <;> simp
  refine pe_mono (pe_slice sl_all he hl hh) ?_
  rintro st H Q ⟨I, U, rs, r, d, r', R, hs, k⟩
  obtain ⟨x, r1, e1, hs⟩ := of_bind hs
  obtain ⟨l, r2, e2, hs⟩ := of_bind hs
  obtain ⟨h, r3, e3, hs⟩ := of_bind hs
  obtain ⟨hf, rfl⟩ := of_lift hs
  refine ⟨I, U, rs, r, x, r1, R, e1, fun U1 rs1 H1 v q A1 V1 => ⟨I, U1, rs1, r1, l, r2, A1.rel, e2, fun U2 rs2 H2 A2 => ⟨I, U2, rs2, r2, h, r', A2.rel, e3, fun U3 rs3 H3 A3 => ?_⟩⟩⟩
  obtain ⟨f2, g2⟩ := A2.pur hp2
  obtain ⟨f3, g3⟩ := A3.pur hp3
  have V := (V1.fresh f2).fresh f3
  have A := (A1.trans R (A2.trans A1.rel A3)).less (p2 := p1) fun h => by rw [h, hp2, hp3]; rfl
  have hw := A.rel.sub
  have hu := A.rel.ul
  unfold dSl at hf
  split at hf
  · cases hf
    obtain ⟨a, xs, rfl, ha, t⟩ := e1_lst V.1
    refine .inl ⟨a, xs, rfl, SqL.of ha, fun p hp => ?_⟩
    have f := Fresh.newU (U := U3) (.lst (cutV xs l h)) hp
    refine k _ rs3 _ (.ref p) [p] (A.fresh f (ul_new hu) R fun b m => ?_) ⟨.lst (.inr rfl) upd_same (OwnAll.of0 (EnAll.grow f.grow (en_cut t l h))), fun b m w => ?_, by simp⟩
    · have e : b = p := by simpa using m
      rw [e]; exact hp
    · have e : b = p := by simpa using m
      exact hu b (hw b w) (e ▸ hp)
  · cases hf
    obtain ⟨a, xs, rfl, ha, t⟩ := e1_tupP V.1
    have tc := en_cut t l h
    refine .inr ⟨a, xs, rfl, ha.sq, fun hc => ?_, fun _ p ob hp hd => ?_⟩
    · have e : cutV xs l h = xs := by
        unfold cutV
        rw [hc.1, hc.2, List.drop_zero, Nat.sub_zero, List.take_length]
      rw [e] at tc
      exact k U3 rs3 H3 _ [] (A.drop fun _ m => by cases m) (val_scal (.tup ha tc) trivial)
    · have f := Fresh.new (U := U3) (.frz ob (.tup (cutV xs l h))) hp
      exact k U3 rs3 _ (.ref p) [] (A.fresh f (ul_old hu) R fun b m => by cases m) (val_scal (.tup (.inl ⟨ob, upd_same, hd⟩) (EnAll.grow f.grow tc)) trivial)
  · cases hf
/-- -a -/
theorem je_neg {a : Expr} {s : SE} {m : Md} {n : Nat} {p : Bool} {pos : Pos} (ha : JE X fl a s m p) : JE X fl (.UnaryOp .USub a pos) (sUn dNeg s) (.own n) p := by
  refine pe_mono (pe_un un_neg ha) ?_
  rintro st H Q ⟨I, U, rs, r, d, r', R, hs, k⟩
  obtain ⟨x, r1, e1, hs⟩ := of_bind hs
  obtain ⟨hf, rfl⟩ := of_lift hs
  refine ⟨I, U, rs, r, x, _, R, e1, fun U' rs' H' v q A V => ?_⟩
  cases x with
  | int i =>
    cases hf
    exact ⟨i, en_int V.en, k U' rs' H' _ [] (A.drop fun _ m => by cases m) (val_scal (.int _) trivial)⟩
  | _ => cases hf

/-! ### built-ins by values -/
def FnJ (K : PySem.W.Frag) (ms : List Md) (m : Md) (f : List D → Option D) (rr : List V → Hp → VK → Prop) : Prop := ∀ (U W T : Addr → Prop) (H : Hp) (ds : List D) (d : D) (vs : List V) (q : List Addr) (Q : VK), (∀ b, W b → U b) → (∀ b, U b → H b ≠ none) →
  ValA K U W T H ms ds vs q → f ds = some d →
  (∀ U' H' v q, Fresh U H U' H' → (∀ b, U' b → H' b ≠ none) → Val K U' W T H' m d v q → (∀ a ∈ q, H a = none) → Q v H') → rr vs H Q
theorem je_args {e : Expr} {es : List Expr} {f : List D → Option D} {sa : SA} {ms : List Md} {m : Md} {p : Bool} {rr : List V → Hp → VK → Prop} (ho : ∀ {t : TA}, PA X es t → PE X e (tCB rr t)) (hj : FnJ X.K ms m f rr)
    (ha : JA X fl es sa ms p) : JE X fl e (sFn f sa) m p := by
  refine pe_mono (ho ha) ?_
  rintro st H Q ⟨I, U, rs, r, d, r', R, hs, k⟩
  obtain ⟨x, r1, e1, hs⟩ := of_bind hs
  obtain ⟨hf, rfl⟩ := of_lift hs
  refine ⟨I, U, rs, r, x, _, R, e1, fun U1 rs1 H1 v1 q1 A1 V1 => ?_⟩
  exact hj U1 (Wr rs1) (TN I) H1 x d v1 q1 Q A1.rel.sub A1.rel.ul V1 hf fun U' H' v q f hu V hn => k U' rs1 H' v q (A1.fresh f hu R hn) V
theorem je_fn {x : Str} {id : String} {e : Expr} {es : List Expr} {f : List D → Option D} {sa : SA} {ms : List Md} {m : Md} {p : Bool} {rr : List V → Hp → VK → Prop} {p0 pos : Pos} (hc : CallR X (.builtin id) rr) (hj : FnJ X.K ms m f rr) (hv : bootBuiltins x = some (.builtin id)) (hg : Gl X x) (hm : X.mg x = none)
    (ha : JA X fl (e :: es) sa ms p) (hn : x ≠ "__name__" := by decide) (hdb : (x == ("__debug__" : Str)) = false := by decide) (he : starEach (e :: es) X.env = (false, eval e X.env) :: starEach es X.env := by rfl) (hpl : (backTo pos (starEach es X.env)).any (·.1) = false := by rfl) :
    JE X fl (.Call (.Name x p0) (e :: es) [] pos) (sFn f sa) m p := je_args (fun ha => pe_callB hc hg hm hv ha hn hdb he hpl) hj ha
theorem je_ty {x : Str} {T : String} {e : Expr} {es : List Expr} {f : List D → Option D} {sa : SA} {ms : List Md} {m : Md} {p : Bool} {rr : List V → Hp → VK → Prop} {p0 pos : Pos} (hc : CallR X (.type T) rr) (hj : FnJ X.K ms m f rr) (hv : bootBuiltins x = some (.type T)) (hg : Gl X x) (hm : X.mg x = none)
    (ha : JA X fl (e :: es) sa ms p) (hn : x ≠ "__name__" := by decide) (hdb : (x == ("__debug__" : Str)) = false := by decide) (he : starEach (e :: es) X.env = (false, eval e X.env) :: starEach es X.env := by rfl) (hpl : (backTo pos (starEach es X.env)).any (·.1) = false := by rfl) :
    JE X fl (.Call (.Name x p0) (e :: es) [] pos) (sFn f sa) m p := je_args (fun ha => pe_callTy hc hg hm hv ha hn hdb he hpl) hj ha
end
end J

set_option Elab.async false
set_option linter.all false
set_option maxRecDepth 100000
/-! JStm: names stored, statements, what is walked, loops. -/
namespace J
open PySem L2

/-! ### a name is stored -/
def setR (rs : Rs) (i : Nat) (q : List Addr) : Rs := fun j => if j = i then q else rs j
theorem setR_same {rs : Rs} {i : Nat} {q : List Addr} : setR rs i q i = q := by unfold setR; rw [if_pos rfl]
theorem setR_ne {rs : Rs} {i j : Nat} {q : List Addr} (h : j ≠ i) : setR rs i q j = rs j := by unfold setR; rw [if_neg h]
theorem wr_set {rs : Rs} {i : Nat} {q : List Addr} {b : Addr} (h : Wr (setR rs i q) b) : Wr rs b ∨ b ∈ q := by
  obtain ⟨j, m⟩ := h
  by_cases e : j = i
  · subst e; rw [setR_same] at m; exact .inr m
  · rw [setR_ne e] at m; exact .inl ⟨j, m⟩
theorem getS_set {r : Env} {i : Nat} {o : Option D} (h : i < r.length) : getS (r.set i o) i = o := by
  unfold getS
  rw [List.getElem?_set_self h]
  cases o <;> rfl
theorem getS_ne {r : Env} {i j : Nat} {o : Option D} (h : j ≠ i) : getS (r.set i o) j = getS r j := by
  unfold getS
  rw [List.getElem?_set_ne (Ne.symm h)]
theorem stS_set {s : St} {i : Nat} {v : Option V} (h : i < s.length) : stS (s.set i v) i = v := by
  unfold stS
  rw [List.getElem?_set_self h]
  rfl
theorem stS_ne {s : St} {i j : Nat} {v : Option V} (h : j ≠ i) : stS (s.set i v) j = stS s j := by
  unfold stS
  rw [List.getElem?_set_ne (Ne.symm h)]
theorem fgAt_set {fl : List Fg} {i : Nat} {f : Fg} (h : i < fl.length) : fgAt (fl.set i f) i = f := by
  unfold fgAt
  rw [List.getD_eq_getElem?_getD, List.getElem?_set_self h]
  rfl
theorem fgAt_ne {fl : List Fg} {i j : Nat} {f : Fg} (h : j ≠ i) : fgAt (fl.set i f) j = fgAt fl j := by
  unfold fgAt
  rw [List.getD_eq_getElem?_getD, List.getElem?_set_ne (Ne.symm h), ← List.getD_eq_getElem?_getD]
/-- which flag a name gets that holds a value that comes so -/
def held : Md → Option Fg
  | .own n => some (.ow n)
  | .b1 => some .b1
  | _ => none
theorem Rel.set {K : PySem.W.Frag} {I : Ini} {fl : List Fg} {U : Addr → Prop} {rs : Rs} {r : Env} {s : St} {H : Hp} {i : Nat} {m : Md} {f : Fg} {d : D} {v : V} {q : List Addr} (R : Rel K I fl U rs r s H)
    (hf : i < fl.length) (hx : fixed (fgAt fl i) = false) (hm : held m = some f) (V : Val K U (Wr rs) (TN I) H m d v q) (hq : ∀ a ∈ q, TN I a) :
    Rel K I (fl.set i f) U (setR rs i q) (r.set i (some d)) (s.set i (some v)) H where
  len := by rw [List.length_set, List.length_set]; exact R.len
  fln := by rw [List.length_set, List.length_set]; exact R.fln
  sub b w := by
    rcases wr_set w with w | w
    · exact R.sub b w
    · cases m with
      | own n => exact V.1.inU b w
      | b1 => rw [V.2] at w; cases w
      | r1 => cases hm
      | an => cases hm
  nd j := by
    by_cases e : j = i
    · subst e; rw [setR_same]
      cases m with
      | own n => exact V.2.2
      | b1 => rw [V.2]; exact List.Pairwise.nil
      | r1 => cases hm
      | an => cases hm
    · rw [setR_ne e]; exact R.nd j
  dis j k b h1 h2 := by
    have nw : ∀ b ∈ q, ¬ Wr rs b := fun b mq => (V.ownd b mq).1
    by_cases e : j = i
    · by_cases e2 : k = i
      · rw [e, e2]
      · subst e
        rw [setR_same] at h1
        rw [setR_ne e2] at h2
        exact absurd ⟨k, h2⟩ (nw b h1)
    · by_cases e2 : k = i
      · subst e2
        rw [setR_same] at h2
        rw [setR_ne e] at h1
        exact absurd ⟨j, h1⟩ (nw b h2)
      · rw [setR_ne e] at h1
        rw [setR_ne e2] at h2
        exact R.dis j k b h1 h2
  st := ⟨R.st.keep, R.st.fix, R.st.live, R.st.out, R.st.kin, fun b w => by
    rcases wr_set w with w | w
    · exact R.st.win b w
    · exact hq b w⟩
  iu := R.iu
  iw := R.iw
  ul := R.ul
  sl j := by
    by_cases e : j = i
    · subst e
      rw [fgAt_set hf, getS_set (by rw [← R.fln]; exact hf), stS_set (by rw [← R.len, ← R.fln]; exact hf), setR_same]
      cases m with
      | own n => cases hm; exact ⟨v, rfl, V.1⟩
      | b1 => cases hm; exact ⟨v, rfl, V⟩
      | r1 => cases hm
      | an => cases hm
    · rw [fgAt_ne e, getS_ne e, stS_ne e, setR_ne e]
      exact R.sl j
  pin j h := by
    by_cases e : j = i
    · subst e
      rw [fgAt_set hf] at h
      cases m with
      | own n => cases hm; cases h
      | b1 => cases hm; cases h
      | r1 => cases hm
      | an => cases hm
    · rw [fgAt_ne e] at h
      rw [List.getElem?_set_ne (Ne.symm e)]
      exact R.pin j h
theorem step_set {U W U' W' W2 : Addr → Prop} {H H' : Hp} (s : Step U W H U' W' H') (h : ∀ b, W2 b → W b ∨ H b = none) : Step U W H U' W2 H' := ⟨s.keep, s.fix, s.live, s.out, s.kin, h⟩

/-! ### weaker flags -/
/-- one flag to another: shared ones may be borrowed, owned ones shared -/
def wk1 : Fg → Fg → Bool
  | .b1, .b1 => true
  | .lk, .lk => true
  | .fz, .fz => true
  | .ow n, .ow m => decide (n = m) || decide (m = 0)
  | .ow _, .b1 => true
  | .io n, .io m => decide (n = m)
  | _, _ => false
def weak (f g : List Fg) (ks : List Nat) : Bool := decide (f.length = g.length) && (List.range f.length).all fun i => (ks.contains i && !fixed (fgAt g i)) || wk1 (fgAt f i) (fgAt g i)
theorem weak_len {f g : List Fg} {ks : List Nat} (h : weak f g ks = true) : f.length = g.length := by
  unfold weak at h
  rw [Bool.and_eq_true, decide_eq_true_eq] at h
  exact h.1
theorem fgAt_out {f : List Fg} {i : Nat} (h : f.length ≤ i) : fgAt f i = .ow 0 := by
  unfold fgAt
  rw [List.getD_eq_getElem?_getD, List.getElem?_eq_none h]
  rfl
theorem weak_at {f g : List Fg} {ks : List Nat} (h : weak f g ks = true) (i : Nat) : (ks.contains i = true ∧ fixed (fgAt g i) = false) ∨ wk1 (fgAt f i) (fgAt g i) = true := by
  unfold weak at h
  rw [Bool.and_eq_true, decide_eq_true_eq, List.all_eq_true] at h
  by_cases hi : i < f.length
  · have q := h.2 i (List.mem_range.mpr hi)
    rw [Bool.or_eq_true, Bool.and_eq_true] at q
    rcases q with ⟨a, b⟩ | q
    · exact .inl ⟨a, by simpa using b⟩
    · exact .inr q
  · have h1 : f.length ≤ i := by omega
    rw [fgAt_out h1, fgAt_out (by rw [← h.1]; exact h1)]
    exact .inr (by simp [wk1])
theorem kill_len : ∀ (ks : List Nat) (r : Env), (kill ks r).length = r.length
  | [], _ => rfl
  | k :: ks, r => by unfold kill; rw [List.length_set, kill_len ks r]
theorem getS_kill : ∀ {ks : List Nat} {r : Env} {i : Nat}, getS (kill ks r) i = if ks.contains i = true then none else getS r i
  | [], _, _ => rfl
  | k :: ks, r, i => by
    unfold kill
    rw [List.contains_cons]
    by_cases e : i = k
    · subst e
      rw [show ((i == i) || ks.contains i) = true by simp, if_pos rfl]
      by_cases hl : i < (kill ks r).length
      · rw [getS_set hl]
      · unfold getS
        rw [List.getElem?_eq_none (by rw [List.length_set]; omega)]
    · rw [getS_ne e, getS_kill (ks := ks)]
      simp [e]
/-- names are killed, flags weakened -/
theorem Rel.weak {K : PySem.W.Frag} {I : Ini} {fl fg : List Fg} {ks : List Nat} {U : Addr → Prop} {rs : Rs} {r : Env} {s : St} {H : Hp} (R : Rel K I fl U rs r s H) (h : weak fl fg ks = true) :
    ∃ U' rs', Rel K I fg U' rs' (kill ks r) s H ∧ Step U (Wr rs) H U' (Wr rs') H ∧ (∀ b, U' b → U b) := by
  -- the roots that stay
  let rs' : Rs := fun i => if ks.contains i = true then [] else match fgAt fl i, fgAt fg i with
    | .ow n, .ow m => if n = m then rs i else []
    | .io n, _ => rs i
    | _, _ => []
  let U' : Addr → Prop := fun b => U b ∧ (Wr rs b → Wr rs' b ∨ ∃ i, ks.contains i = true ∧ b ∈ rs i)
  have sub' : ∀ i b, b ∈ rs' i → b ∈ rs i := by
    intro i b m
    show b ∈ rs i
    have m : b ∈ (if ks.contains i = true then ([] : List Addr) else match fgAt fl i, fgAt fg i with
      | .ow n, .ow m => if n = m then rs i else []
      | .io n, _ => rs i
      | _, _ => []) := m
    split at m
    · cases m
    · split at m
      · split at m
        · exact m
        · cases m
      · exact m
      · cases m
  have wsub : ∀ b, Wr rs' b → Wr rs b := fun b ⟨i, m⟩ => ⟨i, sub' i b m⟩
  have hst : Step U (Wr rs) H U' (Wr rs') H := ⟨fun _ _ h _ => h, fun _ _ h _ => h, fun _ h => h, fun b u => .inl u.1, fun b u n => ⟨u, fun w => absurd w n⟩, fun b w => .inl (wsub b w)⟩
  have lessE1 : ∀ {T : Addr → Prop} {d : D} {v : V}, E1 K U T H d v → E1 K U' T H d v := fun {T d v} z => by
    have l : ∀ b, U' b → U b := fun b u => u.1
    rcases z with h | ⟨a, xs, ds, rfl, rfl, ha, n, h⟩ | ⟨a, xs, ds, rfl, rfl, ha, n, h⟩
    · exact .inl (En.less l h)
    · exact .inr (.inl ⟨a, xs, ds, rfl, rfl, ha, n, EnAll.less l h⟩)
    · exact .inr (.inr ⟨a, xs, ds, rfl, rfl, ha, n, EnKv.less l h⟩)
  have g : Grow U H U' H := ⟨fun _ _ h _ => h, fun _ _ h _ => h, fun b u => .inl u.1⟩
  refine ⟨U', rs', ⟨by rw [kill_len]; exact R.len, by rw [kill_len]; exact (weak_len h).symm.trans R.fln, fun b w => ⟨R.sub b (wsub b w), fun _ => .inl w⟩, fun i => ?_, fun i j b h1 h2 => R.dis i j b (sub' i b h1) (sub' j b h2), R.st.trans R.iu hst, R.iu, R.iw, fun b u => R.ul b u.1, fun i => ?_, fun i hp => ?_⟩, hst, fun b u => u.1⟩
  · show (if ks.contains i = true then ([] : List Addr) else match fgAt fl i, fgAt fg i with
      | .ow n, .ow m => if n = m then rs i else []
      | .io n, _ => rs i
      | _, _ => []).Nodup
    split
    · exact List.Pairwise.nil
    · split
      · split
        · exact R.nd i
        · exact List.Pairwise.nil
      · exact R.nd i
      · exact List.Pairwise.nil
  · rw [getS_kill]
    by_cases hk : ks.contains i = true
    · rw [if_pos hk]
      show rs' i = []
      show (if ks.contains i = true then ([] : List Addr) else _) = []
      rw [if_pos hk]
    · rw [if_neg hk]
      have e : rs' i = match fgAt fl i, fgAt fg i with
        | .ow n, .ow m => if n = m then rs i else []
        | .io n, _ => rs i
        | _, _ => [] := by
        show (if ks.contains i = true then ([] : List Addr) else _) = _
        rw [if_neg hk]
      have w := (weak_at h i).resolve_left fun z => hk z.1
      have sl := R.sl i
      revert sl
      cases hg : getS r i with
      | none =>
        intro sl
        have sl : rs i = [] := sl
        show rs' i = []
        cases q : rs' i with
        | nil => rfl
        | cons a t =>
          have := sub' i a (by rw [q]; exact List.mem_cons_self)
          rw [sl] at this; cases this
      | some d =>
        rintro ⟨v, hv, sl⟩
        refine ⟨v, hv, ?_⟩
        revert sl w e
        cases hf : fgAt fl i with
        | b1 =>
          cases hg' : fgAt fg i with
          | b1 => intro e w sl; exact ⟨lessE1 sl.1, e⟩
          | lk => intro e w sl; cases w
          | fz => intro e w sl; cases w
          | ow m => intro e w sl; cases w
          | io m => intro e w sl; cases w
        | lk =>
          cases hg' : fgAt fg i with
          | b1 => intro e w sl; cases w
          | lk => intro e w sl; exact ⟨lessE1 sl.1, e⟩
          | fz => intro e w sl; cases w
          | ow m => intro e w sl; cases w
          | io m => intro e w sl; cases w
        | fz =>
          cases hg' : fgAt fg i with
          | b1 => intro e w sl; cases w
          | lk => intro e w sl; cases w
          | fz => intro e w sl; exact ⟨sl.1.grow g, e⟩
          | ow m => intro e w sl; cases w
          | io m => intro e w sl; cases w
        | io n =>
          cases hg' : fgAt fg i with
          | b1 => intro e w sl; cases w
          | lk => intro e w sl; cases w
          | fz => intro e w sl; cases w
          | ow m => intro e w sl; cases w
          | io m =>
            intro e w sl
            have z : n = m := of_decide_eq_true w
            subst z
            have e : rs' i = rs i := e
            rw [e]
            exact Own.step g sl fun a ma => ⟨⟨Own.inU sl a ma, fun _ => .inl ⟨i, by rw [e]; exact ma⟩⟩, fun o ho => ho⟩
        | ow n =>
          -- what is let go is in U' no more
          have go : rs' i = [] → Own K U H n d v (rs i) → En K U' H d v := fun e sl => sl.en (fun b u => u.1) fun a ma u => by
            rcases u.2 ⟨i, ma⟩ with ⟨j, mj⟩ | ⟨j, cj, mj⟩
            · have := R.dis j i a (sub' j a mj) ma
              subst this
              rw [e] at mj; cases mj
            · have := R.dis j i a mj ma
              subst this
              exact hk cj
          cases hg' : fgAt fg i with
          | b1 => intro e w sl; exact ⟨.inl (go e sl), e⟩
          | lk => intro e w sl; cases w
          | fz => intro e w sl; cases w
          | io m => intro e w sl; cases w
          | ow m =>
            intro e0 w sl
            have e : rs' i = if n = m then rs i else [] := e0
            clear e0
            by_cases z : n = m
            · subst z
              rw [if_pos rfl] at e
              show Own K U' H n d v (rs' i)
              rw [e]
              exact Own.step g sl fun a ma => ⟨⟨Own.inU sl a ma, fun _ => .inl ⟨i, by rw [e]; exact ma⟩⟩, fun o ho => ho⟩
            · rw [if_neg z] at e
              have z0 : m = 0 := by
                rw [show wk1 (.ow n) (.ow m) = (decide (n = m) || decide (m = 0)) from rfl, Bool.or_eq_true, decide_eq_true_eq, decide_eq_true_eq] at w
                exact w.resolve_left z
              subst z0
              show Own K U' H 0 d v (rs' i)
              rw [e]
              exact .sh (go e sl) (.inl rfl)
  · rcases weak_at h i with ⟨_, z⟩ | w
    · rw [z] at hp; cases hp
    · refine R.pin i ?_
      revert hp w
      cases fgAt fl i <;> cases fgAt fg i <;> simp [fixed, wk1]

/-! ### statements -/
/-- around a statement: the flags at a loop's head, the names killed there; the names handed back; how the def's value comes -/
structure SC where
  lp : List Fg
  ks : List Nat
  ios : List (Nat × Nat)
  rm : Md
def ioOk (fl : List Fg) (ios : List (Nat × Nat)) : Bool := ios.all fun p => match fgAt fl p.1 with
  | .io n => decide (n = p.2)
  | _ => false
def tJS (K : PySem.W.Frag) (C : SC) (fl : List Fg) (e : SS) (fn : List Fg) : TS := fun D s H => ∃ I U rs r f r', Rel K I fl U rs r s H ∧ e r = .ok f r' ∧ ∀ U' rs' s' H', Step U (Wr rs) H U' (Wr rs') H' → match f with
  | .nx => Rel K I fn U' rs' r' s' H' → D.nx s' H'
  | .bk => ∀ fb, weak fb C.lp C.ks = true → Rel K I fb U' rs' r' s' H' → D.bk s' H'
  | .ct => ∀ fb, weak fb C.lp C.ks = true → Rel K I fb U' rs' r' s' H' → D.ct s' H'
  | .rt d => ∀ fb r2 v q, (∀ p ∈ C.ios, getS r2 p.1 = getS r' p.1) → ioOk fb C.ios = true → Rel K I fb U' rs' r2 s' H' → Val K U' (Wr rs') (TN I) H' C.rm d v q → (∀ a ∈ q, TN I a) → D.rt v H'
abbrev JS (X : Cx) (C : SC) (fl : List Fg) (st : Stmt) (e : SS) (fn : List Fg) : Prop := PS X st (tJS X.K C fl e fn)
abbrev JSs (X : Cx) (C : SC) (fl : List Fg) (st : List Stmt) (e : SS) (fn : List Fg) : Prop := PSs X st (tJS X.K C fl e fn)
section
variable {X : Cx} {C : SC} {fl fm fn : List Fg}
theorem js_cons {st : Stmt} {sts : List Stmt} {a b : SS} (h1 : JS X C fl st a fm) (h2 : JSs X C fm sts b fn) : JSs X C fl (st :: sts) (sSeq a b) fn := by
  refine pss_mono (pss_cons h1 h2) ?_
  rintro D s H ⟨I, U, rs, r, f, r', R, hs, k⟩
  obtain ⟨g, r1, e1, hs⟩ := of_bind hs
  refine ⟨I, U, rs, r, g, r1, R, e1, fun U1 rs1 s1 H1 S1 => ?_⟩
  cases g with
  | nx => exact fun R1 => ⟨I, U1, rs1, r1, f, r', R1, hs, fun U2 rs2 s2 H2 S2 => k U2 rs2 s2 H2 (S1.trans R.ul S2)⟩
  | bk => cases hs; exact k U1 rs1 s1 H1 S1
  | ct => cases hs; exact k U1 rs1 s1 H1 S1
  | rt d => cases hs; exact k U1 rs1 s1 H1 S1
theorem js_one {st : Stmt} {a : SS} (h1 : JS X C fl st a fn) : JSs X C fl [st] a fn := pss_one h1
theorem js_nil : JSs X C fl [] sPass fl := by
  refine pss_mono pss_nil ?_
  rintro D s H ⟨I, U, rs, r, f, r', R, hs, k⟩
  cases hs
  exact k U rs s H .refl R
/-- ahead of a statement: what is owned is shared from here on -/
theorem js_pre {sts : List Stmt} {a : SS} (w : weak fl fm [] = true) (h : JSs X C fm sts a fn) : JSs X C fl sts a fn := by
  refine pss_mono h ?_
  rintro D s H ⟨I, U, rs, r, f, r', R, hs, k⟩
  obtain ⟨U1, rs1, R1, S1, _⟩ := R.weak w
  exact ⟨I, U1, rs1, r, f, r', R1, hs, fun U2 rs2 s2 H2 S2 => k U2 rs2 s2 H2 (S1.trans R.ul S2)⟩
/-- behind statements -/
theorem js_post {sts : List Stmt} {a : SS} (h : JSs X C fl sts a fm) (w : weak fm fn [] = true) : JSs X C fl sts a fn := by
  refine pss_mono h ?_
  rintro D s H ⟨I, U, rs, r, f, r', R, hs, k⟩
  refine ⟨I, U, rs, r, f, r', R, hs, fun U1 rs1 s1 H1 S1 => ?_⟩
  cases f with
  | nx =>
    intro R1
    obtain ⟨U2, rs2, R2, S2, _⟩ := R1.weak w
    exact k U2 rs2 s1 H1 (S1.trans R.ul S2) R2
  | bk => exact k U1 rs1 s1 H1 S1
  | ct => exact k U1 rs1 s1 H1 S1
  | rt d => exact k U1 rs1 s1 H1 S1
theorem js_pass {pos : Pos} : JS X C fl (.Pass pos) sPass fl := by
  refine ps_mono ps_pass ?_
  rintro D s H ⟨I, U, rs, r, f, r', R, hs, k⟩
  cases hs
  exact k U rs s H .refl R
theorem js_bk {pos : Pos} (w : weak fl C.lp C.ks = true) : JS X C fl (.Break pos) sBk fn := by
  refine ps_mono ps_break ?_
  rintro D s H ⟨I, U, rs, r, f, r', R, hs, k⟩
  cases hs
  exact k U rs s H .refl fl w R
theorem js_ct {pos : Pos} (w : weak fl C.lp C.ks = true) : JS X C fl (.Continue pos) sCt fn := by
  refine ps_mono ps_continue ?_
  rintro D s H ⟨I, U, rs, r, f, r', R, hs, k⟩
  cases hs
  exact k U rs s H .refl fl w R
theorem js_x {e : Expr} {a : SE} {m : Md} {p : Bool} {pos : Pos} (h : JE X fl e a m p) (hs : swapsWith e none pos.line X.env = pure false := by rfl) : JS X C fl (.Expr e pos) (sX a) fl := by
  refine ps_mono (ps_expr h hs) ?_
  rintro D s H ⟨I, U, rs, r, f, r', R, hs, k⟩
  obtain ⟨x, r1, e1, hs⟩ := of_bind hs
  cases hs
  exact ⟨I, U, rs, r, x, _, R, e1, fun U' rs' H' v q A V => k U' rs' s H' A.st A.rel⟩
theorem Aft.ti {K : PySem.W.Frag} {I : Ini} {fl : List Fg} {U U1 : Addr → Prop} {rs rs1 : Rs} {r r1 : Env} {s : St} {H H1 : Hp} {pu : Bool} {q : List Addr} (R : Rel K I fl U rs r s H) (a : Aft K I fl U rs H r1 s pu U1 rs1 H1 q) : ∀ b ∈ q, TN I b := fun b m => by
  rcases a.new b m with z | z
  · exact R.st.win b z
  · exact .inr (R.st.live b z)
theorem js_ret {e : Expr} {a : SE} {p : Bool} {pos : Pos} (h : JE X fl e a C.rm p) (io : ioOk fl C.ios = true) : JS X C fl (.Return (some e) pos) (sRet a) fn := by
  refine ps_mono (ps_ret h) ?_
  rintro D s H ⟨I, U, rs, r, f, r', R, hs, k⟩
  obtain ⟨x, r1, e1, hs⟩ := of_bind hs
  cases hs
  exact ⟨I, U, rs, r, x, _, R, e1, fun U' rs' H' v q A V => k U' rs' s H' A.st fl _ v q (fun _ _ => rfl) io A.rel V (A.ti R)⟩
/-- the name's list is handed out -/
theorem js_retV {e : Expr} {i n : Nat} {pos : Pos} (h : PE X e (tVar i)) (hm : C.rm = .own n) (hf : fgAt fl i = .ow n) (io : ioOk fl C.ios = true) : JS X C fl (.Return (some e) pos) (sRet (sV i)) fn := by
  refine ps_mono (ps_ret h) ?_
  rintro D s H ⟨I, U, rs, r, f, r', R, hs, k⟩
  obtain ⟨x, r1, e1, hs⟩ := of_bind hs
  cases hs
  obtain ⟨hg, rfl⟩ := of_lift e1
  obtain ⟨v, hv, sl⟩ := slot_v (R.sl i) hg
  rw [hf] at sl
  have o := slot_own sl
  refine ⟨v, hv, ?_⟩
  -- its roots leave the names
  have hlt : i < s.length := (List.getElem?_eq_some_iff.mp hv).1
  have S : Step U (Wr rs) H U (Wr (setR rs i [])) H := ⟨fun _ _ h _ => h, fun _ _ h _ => h, fun _ h => h, fun b u => .inl u, fun b u _ => u, fun b w => by
    rcases wr_set w with w | w
    · exact .inl w
    · cases w⟩
  have R2 : Rel X.K I fl U (setR rs i []) (r'.set i none) s H := by
    refine ⟨by rw [List.length_set]; exact R.len, by rw [List.length_set]; exact R.fln, fun b w => ?_, fun j => ?_, fun j k b h1 h2 => ?_, R.st.trans R.iu S, R.iu, R.iw, R.ul, fun j => ?_, R.pin⟩
    · rcases wr_set w with w | w
      · exact R.sub b w
      · cases w
    · by_cases e : j = i
      · subst e; rw [setR_same]; exact List.Pairwise.nil
      · rw [setR_ne e]; exact R.nd j
    · by_cases e : j = i
      · subst e; rw [setR_same] at h1; cases h1
      · by_cases e2 : k = i
        · subst e2; rw [setR_same] at h2; cases h2
        · rw [setR_ne e] at h1
          rw [setR_ne e2] at h2
          exact R.dis j k b h1 h2
    · by_cases e : j = i
      · subst e
        rw [setR_same, getS_set (by rw [R.len]; exact hlt)]
        exact rfl
      · rw [setR_ne e, getS_ne e]; exact R.sl j
  have V : Val X.K U (Wr (setR rs i [])) (TN I) H C.rm x v (rs i) := by
    rw [hm]
    refine ⟨o, fun a ma w => ?_, R.nd i⟩
    obtain ⟨j, mj⟩ := w
    by_cases e : j = i
    · subst e; rw [setR_same] at mj; cases mj
    · rw [setR_ne e] at mj
      exact e (R.dis j i a mj ma)
  refine k U (setR rs i []) s H S fl _ v (rs i) (fun p hp => ?_) io R2 V fun a ma => R.st.win a ⟨i, ma⟩
  have z := List.all_eq_true.mp io p hp
  refine getS_ne fun e => ?_
  rw [e, hf] at z
  cases z
end
end J

set_option Elab.async false
set_option linter.all false
set_option maxRecDepth 100000
/-! JLst: names stored from expressions, targets, if, lists that a name owns and the text changes. -/
namespace J
open PySem L2

section
variable {X : Cx} {C : SC} {fl fm fn : List Fg}
theorem Rel.hi {K : PySem.W.Frag} {I : Ini} {fl : List Fg} {U : Addr → Prop} {rs : Rs} {r : Env} {s : St} {H : Hp} (R : Rel K I fl U rs r s H) {i : Nat} (h : i < fl.length) : i < r.length := by rw [← R.fln]; exact h
theorem wr_setI {rs : Rs} {i : Nat} {q : List Addr} {H : Hp} {W : Addr → Prop} {U : Addr → Prop} (hq : ∀ a ∈ q, W a ∨ H a = none) (hw : ∀ b, Wr rs b → W b ∨ H b = none) : ∀ b, Wr (setR rs i q) b → W b ∨ H b = none := fun b w => (wr_set w).elim (hw b) (hq b)
/-- name = e -/
theorem js_set {i : Nat} {x : Str} {e : Expr} {a : SE} {m : Md} {f : Fg} {p : Bool} {pos pos' : Pos} (hN : X.N.Nodup) (hi : X.N[i]? = some x) (hx : Loc X.env.scope x) (he : JE X fl e a m p) (hm : held m = some f) (hfx : fixed (fgAt fl i) = false) (hl : i < fl.length) (hfn : fl.set i f = fn)
    (hs : swapsWith e (some (.Name x pos')) pos.line X.env = pure false := by rfl) (hf : X.fn x = true ∨ X.env.scope.names.lookup x = some .local := by first | exact .inl rfl | exact .inr rfl) : JS X C fl (.Assign [.Name x pos'] e pos) (sSet i a) fn := by
  refine ps_mono (ps_set hN hi hx he hs hf) ?_
  rintro D s H ⟨I, U, rs, r, f', r', R, hs, k⟩
  obtain ⟨d, r1, e1, hs⟩ := of_bind hs
  cases hs
  refine ⟨I, U, rs, r, d, r1, R, e1, fun U' rs' H' v q A V => ?_⟩
  subst hfn
  have R' := A.rel.set hl hfx hm V (A.ti R)
  exact k U' (setR rs' i q) _ H' (step_set A.st (wr_setI (U := U) A.new A.st.win)) R'
/-- a target gets shared data -/
def tJG (K : PySem.W.Frag) (fl : List Fg) (t : Tg) (fn : List Fg) : TG := fun v s H Q => ∃ I U rs r d r', Rel K I fl U rs r s H ∧ En K U H d v ∧ t.put d r = some r' ∧ ∀ rs' s', Rel K I fn U rs' r' s' H → (∀ b, Wr rs' b → Wr rs b) → (∀ j, j ∉ t.sl → s'[j]? = s[j]?) → (∀ j, j ∉ t.sl → rs' j = rs j) → Q s' H
def tJGs (K : PySem.W.Frag) (fl : List Fg) (is : List Nat) (fn : List Fg) : TGs := fun vs s H Q => ∃ I U rs r ds r', Rel K I fl U rs r s H ∧ EnAll K U H ds vs ∧ setAll is ds r = some r' ∧ ∀ rs' s', Rel K I fn U rs' r' s' H → (∀ b, Wr rs' b → Wr rs b) → (∀ j, j ∉ is → s'[j]? = s[j]?) → (∀ j, j ∉ is → rs' j = rs j) → Q s' H
theorem pg_mono {e : Expr} {t t' : TG} (h : PG X e t) (m : ∀ v s H Q, t' v s H Q → t v s H Q) : PG X e t' := ⟨fun pins s st H v u Q I r q => h.run pins s st H v u Q I r (m v st H Q q)⟩
theorem pgs_mono {e : List Expr} {t t' : TGs} (h : PGs X e t) (m : ∀ v s H Q, t' v s H Q → t v s H Q) : PGs X e t' := ⟨fun pins s st H v u Q I r q => h.run pins s st H v u Q I r (m v st H Q q)⟩
theorem Rel.set0 {K : PySem.W.Frag} {I : Ini} {fl : List Fg} {U : Addr → Prop} {rs : Rs} {r : Env} {s : St} {H : Hp} {i : Nat} {d : D} {v : V} (R : Rel K I fl U rs r s H) (hf : i < fl.length) (hx : fixed (fgAt fl i) = false) (e : En K U H d v) :
    Rel K I (fl.set i (.ow 0)) U (setR rs i []) (r.set i (some d)) (s.set i (some v)) H := R.set (m := .own 0) hf hx rfl ⟨.sh e (.inl rfl), (fun _ m => by cases m), List.Pairwise.nil⟩ fun _ m => by cases m
theorem wr_set0 {rs : Rs} {i : Nat} : ∀ b, Wr (setR rs i []) b → Wr rs b := fun b w => (wr_set w).elim id fun m => by cases m
theorem jg_nm {e : Expr} {i : Nat} (h : PG X e (gName i)) (hx : fixed (fgAt fl i) = false) (hl : i < fl.length) (hfn : fl.set i (.ow 0) = fn) : PG X e (tJG X.K fl (.nm i) fn) := by
  refine pg_mono h ?_
  rintro v s H Q ⟨I, U, rs, r, d, r', R, e, hp, k⟩
  cases hp
  subst hfn
  exact k _ _ (R.set0 hl hx e) wr_set0 (fun j hj => List.getElem?_set_ne fun z => hj (by show j ∈ [i]; rw [z]; exact List.mem_cons_self)) fun j hj => setR_ne fun z => hj (by show j ∈ [i]; rw [z]; exact List.mem_cons_self)
theorem jgs_nil : PGs X [] (tJGs X.K fl [] fl) := by
  refine pgs_mono pgs_nil ?_
  rintro v s H Q ⟨I, U, rs, r, d, r', R, e, hp, k⟩
  cases d with
  | nil =>
    cases e
    cases hp
    exact ⟨rfl, k rs s R (fun _ w => w) (fun _ _ => rfl) fun _ _ => rfl⟩
  | cons _ _ => cases hp
theorem jgs_cons {e : Expr} {es : List Expr} {i : Nat} {is : List Nat} (h : PG X e (gName i)) (hx : fixed (fgAt fl i) = false) (hl : i < fl.length) (hr : PGs X es (tJGs X.K (fl.set i (.ow 0)) is fn))
    (hs : (assignEach (e :: es) X.env).map (·.2) = assign e X.env :: (assignEach es X.env).map (·.2) := by rfl) : PGs X (e :: es) (tJGs X.K fl (i :: is) fn) := by
  refine pgs_mono (pgs_cons h hr hs) ?_
  rintro v s H Q ⟨I, U, rs, r, ds, r', R, e, hp, k⟩
  cases ds with
  | nil => cases hp
  | cons d ds =>
    cases e with
    | cons e t => exact ⟨_, _, rfl, I, U, setR rs i [], r.set i (some d), ds, r', R.set0 hl hx e, t, hp, fun rs' s' R' w hs hr => k rs' s' R' (fun b wb => wr_set0 b (w b wb)) (fun j hj => by
        rw [List.mem_cons, not_or] at hj
        rw [hs j hj.2, List.getElem?_set_ne (Ne.symm hj.1)]) fun j hj => by
        rw [List.mem_cons, not_or] at hj
        rw [hr j hj.2, setR_ne hj.1]⟩
theorem setAll_len : ∀ {is : List Nat} {ds : List D} {r r' : Env}, setAll is ds r = some r' → is.length = ds.length
  | [], [], _, _, _ => rfl
  | [], _ :: _, _, _, h => by cases h
  | _ :: _, [], _, _, h => by cases h
  | i :: is, d :: ds, r, r', h => by
    have := setAll_len (is := is) (ds := ds) (show setAll is ds (r.set i (some d)) = some r' from h)
    simp [this]
theorem jg_tp {es : List Expr} {k : Nat} {is : List Nat} {pos : Pos} (hc : X.calm = true) (h : PGs X es (tJGs X.K fl is fn))
    (hn : (assignEach es X.env).length = is.length := by rfl) (hst : (assignEach es X.env).findIdx? (·.1) = none := by rfl) : PG X (.Tuple es k pos) (tJG X.K fl (.tp is) fn) := by
  refine pg_mono (pg_tup hc h hn hst) ?_
  rintro v s H Q ⟨I, U, rs, r, d, r', R, e, hp, k⟩
  cases d with
  | tuple ds =>
    obtain ⟨a, xs, rfl, ha, t⟩ := en_tup e
    exact ⟨a, xs, rfl, ha, by rw [← t.length]; exact (setAll_len hp).symm, I, U, rs, r, ds, r', R, t, hp, k⟩
  | _ => cases hp
/-- target = e, shared -/
theorem js_asg {tg e : Expr} {t : Tg} {a : SE} {p : Bool} {pos : Pos} (he : JE X fl e a (.own 0) p) (hg : PG X tg (tJG X.K fl t fn)) (hs : swapsWithSole [tg] e pos.line X.env = pure false := by rfl) (hw : swappedStores [tg] e X.env = pure none := by rfl)
    (h1 : (assignEach [tg] X.env).map (·.2) = [assign tg X.env] := by rfl) : JS X C fl (.Assign [tg] e pos) (sAsg t a) fn := by
  refine ps_mono (ps_asg he hg hs hw h1) ?_
  rintro D s H ⟨I, U, rs, r, f', r', R, hs, k⟩
  obtain ⟨d, r1, e1, hs⟩ := of_bind hs
  refine ⟨I, U, rs, r, d, r1, R, e1, fun U' rs' H' v q A V => ?_⟩
  cases hp : t.put d r1 with
  | none => rw [hp] at hs; cases hs
  | some r2 =>
    rw [hp] at hs
    cases hs
    exact ⟨I, U', rs', r1, d, r', A.rel, V.1.to0.1, hp, fun rs2 s2 R2 w _ _ => k U' rs2 s2 H' (step_set A.st fun b wb => A.st.win b (w b wb)) R2⟩
theorem js_if {c : Expr} {a b : List Stmt} {sc : SB} {sa sb : SS} {p : Bool} {pos : Pos} (hc : JT X fl c sc p) (ha : JSs X C fl a sa fn) (hb : JSs X C fl b sb fn) : JS X C fl (.If c a b pos) (sIf sc sa sb) fn := by
  refine ps_mono (ps_if hc ha hb) ?_
  rintro D s H ⟨I, U, rs, r, f, r', R, hs, k⟩
  obtain ⟨x, r1, e1, hs⟩ := of_bind hs
  refine ⟨I, U, rs, r, x, r1, R, e1, fun U1 rs1 H1 A1 => ?_⟩
  cases x with
  | true => exact ⟨I, U1, rs1, r1, f, r', A1.rel, hs, fun U2 rs2 s2 H2 S2 => k U2 rs2 s2 H2 (A1.st.trans R.ul S2)⟩
  | false => exact ⟨I, U1, rs1, r1, f, r', A1.rel, hs, fun U2 rs2 s2 H2 S2 => k U2 rs2 s2 H2 (A1.st.trans R.ul S2)⟩

/-! ### a, b, .. = x, y, .. by a tuple -/
/-- several values into several names -/
def putA : List Nat → List D → Env → Option Env := setAll
def sParN (is : List Nat) (a : SA) : SS := fun r => (a r).bind fun ds r1 => match setAll is ds r1 with
  | some r2 => .ok .nx r2
  | none => .no
/-- the flags behind -/
def setFs : List Nat → List Fg → List Fg → List Fg
  | i :: is, f :: fs, fl => setFs is fs (fl.set i f)
  | _, _, fl => fl
def tJP (K : PySem.W.Frag) (fl : List Fg) (is : List Nat) (ms : List Md) (fn : List Fg) : TGs := fun vs s H Q => ∃ I U rs r ds r' q, Rel K I fl U rs r s H ∧ ValA K U (Wr rs) (TN I) H ms ds vs q ∧ (∀ a ∈ q, TN I a) ∧ setAll is ds r = some r' ∧
  ∀ rs' s', Rel K I fn U rs' r' s' H → (∀ b, Wr rs' b → Wr rs b ∨ b ∈ q) → Q s' H
theorem jp_nil : PGs X [] (tJP X.K fl [] [] fl) := by
  refine pgs_mono pgs_nil ?_
  rintro v s H Q ⟨I, U, rs, r, d, r', q, R, e, hq, hp, k⟩
  cases e
  cases hp
  exact ⟨rfl, k rs s R fun _ w => .inl w⟩
theorem Val.lessW {K : PySem.W.Frag} {U W W' T : Addr → Prop} {H : Hp} {m : Md} {d : D} {v : V} {q : List Addr} (h : Val K U W T H m d v q) (l : ∀ a ∈ q, W' a → W a) : Val K U W' T H m d v q := by
  cases m with
  | own n => exact ⟨h.1, fun a m w => h.2.1 a m (l a m w), h.2.2⟩
  | b1 => exact h
  | r1 => exact h
  | an => exact h
theorem ValA.lessW {K : PySem.W.Frag} {U W W' T : Addr → Prop} {H : Hp} : ∀ {ms : List Md} {ds : List D} {vs : List V} {q : List Addr}, ValA K U W T H ms ds vs q → (∀ a ∈ q, W' a → W a) → ValA K U W' T H ms ds vs q
  | _, _, _, _, .nil, _ => .nil
  | _, _, _, _, .cons a t d, l => .cons (a.lessW fun b m => l b (List.mem_append_left _ m)) (ValA.lessW t fun b m => l b (List.mem_append_right _ m)) d
theorem jp_cons {e : Expr} {es : List Expr} {i : Nat} {is : List Nat} {m : Md} {ms : List Md} {f : Fg} (h : PG X e (gName i)) (hm : held m = some f) (hx : fixed (fgAt fl i) = false) (hl : i < fl.length) (hr : PGs X es (tJP X.K (fl.set i f) is ms fn))
    (hs : (assignEach (e :: es) X.env).map (·.2) = assign e X.env :: (assignEach es X.env).map (·.2) := by rfl) : PGs X (e :: es) (tJP X.K fl (i :: is) (m :: ms) fn) := by
  refine pgs_mono (pgs_cons h hr hs) ?_
  rintro v s H Q ⟨I, U, rs, r, ds, r', q, R, e, hq, hp, k⟩
  cases e with
  | cons a t dj =>
    rename_i d v1 q1 q2 ds vs
    refine ⟨_, _, rfl, I, U, setR rs i q1, r.set i (some d), ds, r', q2, R.set hl hx hm a fun b m => hq b (List.mem_append_left _ m), t.lessW fun b m w => ?_, fun b m => hq b (List.mem_append_right _ m), hp, fun rs' s' R' w => k rs' s' R' fun b wb => ?_⟩
    · rcases wr_set w with w | w
      · exact w
      · exact absurd m (dj b w)
    · rcases w b wb with w | w
      · rcases wr_set w with w | w
        · exact .inl w
        · exact .inr (List.mem_append_left _ w)
      · exact .inr (List.mem_append_right _ w)
theorem js_par {ts es : List Expr} {k1 k2 : Nat} {is : List Nat} {ms : List Md} {a : SA} {p : Bool} {tp ep pos : Pos} (hc : X.calm = true) (ha : JA X fl es a ms p) (h : PGs X ts (tJP X.K fl is ms fn)) (hz : ms.length ≤ line := by decide)
    (hn : (assignEach ts X.env).length = ms.length := by rfl) (hst : (assignEach ts X.env).findIdx? (·.1) = none := by rfl)
    (hs : swapsWithSole [.Tuple ts k1 tp] (.Tuple es k2 ep) pos.line X.env = pure false := by rfl) (hw : swappedStores [.Tuple ts k1 tp] (.Tuple es k2 ep) X.env = pure none := by rfl)
    (h1 : (assignEach [.Tuple ts k1 tp] X.env).map (·.2) = [assign (.Tuple ts k1 tp) X.env] := by rfl) : JS X C fl (.Assign [.Tuple ts k1 tp] (.Tuple es k2 ep) pos) (sParN is a) fn := by
  refine ps_mono (ps_asg (pe_tup ha) (pg_tup hc h hn hst) hs hw h1) ?_
  rintro D s H ⟨I, U, rs, r, f', r', R, hs, k⟩
  obtain ⟨ds, r1, e1, hs⟩ := of_bind hs
  refine ⟨I, U, rs, r, ds, r1, R, e1, fun U' rs' H' vs q A V => ⟨by rw [V.len, ← line_eq]; exact hz, fun t ht => ?_⟩⟩
  cases hp : setAll is ds r1 with
  | none => rw [hp] at hs; cases hs
  | some r2 =>
    rw [hp] at hs
    cases hs
    have f := Fresh.new (U := U') (.tup vs) ht
    refine ⟨t, vs, rfl, SqT.of upd_same, V.len, I, U', rs', r1, ds, r', q, A.rel.fresh f (ul_old A.rel.ul), V.fresh f, A.ti R, hp, fun rs2 s2 R2 w => k U' rs2 s2 _ (step_set (A.st.trans R.ul f.step) fun b wb => ?_) R2⟩
    rcases w b wb with w | w
    · exact A.st.win b w
    · exact A.new b w

/-! ### the list of a name changes -/
theorem own_lst {K : PySem.W.Frag} {U : Addr → Prop} {H : Hp} {n : Nat} {ds : List D} {v : V} {q : List Addr} (o : Own K U H (n + 1) (.list ds) v q) : ∃ a xs t, v = .ref a ∧ U a ∧ H a = some (.lst xs) ∧ OwnAll K U H n ds xs t ∧ q = a :: t := by
  cases o with
  | sh _ z => exact z.elim (fun z => absurd z (Nat.succ_ne_zero n)) (fun z => z.elim)
  | lst u h t => exact ⟨_, _, _, rfl, u, h, t, rfl⟩
/-- a flag by which a name's list is the def's to change -/
def mine : Fg → Nat → Bool
  | .ow m, n => decide (m = n)
  | .io m, n => decide (m = n)
  | _, _ => false
theorem slot_mine {K : PySem.W.Frag} {U T : Addr → Prop} {H : Hp} {f : Fg} {n : Nat} {v : V} {q : List Addr} {d : D} (hf : mine f n = true) (h : Slot K U T H f (some d) (some v) q) : Own K U H n d v q := by
  cases f with
  | b1 => cases hf
  | lk => cases hf
  | fz => cases hf
  | ow m => have e : m = n := of_decide_eq_true hf; subst e; exact slot_own h
  | io m => have e : m = n := of_decide_eq_true hf; subst e; exact slot_io h
theorem mine_slot {K : PySem.W.Frag} {U T : Addr → Prop} {H : Hp} {f : Fg} {n : Nat} {v : V} {q : List Addr} {d : D} (hf : mine f n = true) (h : Own K U H n d v q) : Slot K U T H f (some d) (some v) q := by
  refine ⟨v, rfl, ?_⟩
  cases f with
  | b1 => cases hf
  | lk => cases hf
  | fz => cases hf
  | ow m => have e : m = n := of_decide_eq_true hf; subst e; exact h
  | io m => have e : m = n := of_decide_eq_true hf; subst e; exact h
theorem mine_lt {fl : List Fg} {i n : Nat} (h : mine (fgAt fl i) (n + 1) = true) : i < fl.length := by
  by_cases hi : i < fl.length
  · exact hi
  · rw [fgAt_out (by omega)] at h
    have z : 0 = n + 1 := of_decide_eq_true (show decide (0 = n + 1) = true from h)
    omega
/-- a write at the root a of the slot i -/
theorem Rel.write {K : PySem.W.Frag} {I : Ini} {fl : List Fg} {U : Addr → Prop} {rs : Rs} {r : Env} {s : St} {H : Hp} (R : Rel K I fl U rs r s H) {i n : Nat} {a : Addr} {o : HO} {t : List Addr} {d' : D} {o' : HO} {t' : List Addr}
    (hf : mine (fgAt fl i) (n + 1) = true) (hr : rs i = a :: t) (ha : H a = some o) (hmu : Mut (some o)) (hv : stS s i = some (.ref a)) (hown : Own K U (upd H a o') (n + 1) d' (.ref a) (a :: t')) (nd : (a :: t').Nodup) (ht : ∀ b ∈ t', b ∈ t ∨ (¬ Wr rs b ∧ TN I b)) :
    Rel K I fl U (setR rs i (a :: t')) (r.set i (some d')) s (upd H a o') ∧ Step U (Wr rs) H U (Wr rs) (upd H a o') := by
  have wa : Wr rs a := ⟨i, by rw [hr]; exact List.mem_cons_self⟩
  have ua : U a := R.sub a wa
  have hlt := R.hi (mine_lt hf)
  have na : ∀ b u, H b = some u → ¬ Mut (some u) → b ≠ a := fun b u h m e => by rw [e, ha] at h; cases h; exact m hmu
  have S : Step U (Wr rs) H U (Wr rs) (upd H a o') := ⟨fun b u h w => by rw [upd_ne fun e => w (by rw [e]; exact wa)]; exact h, fun b u h m => by rw [upd_ne (na b u h m)]; exact h, fun b h => by
    by_cases e : b = a
    · rw [e, upd_same] at h; cases h
    · rw [upd_ne e] at h; exact h, fun b u => .inl u, fun b u _ => u, fun b w => .inl w⟩
  have g : Grow U H U (upd H a o') := S.growU R.sub
  have wt : ∀ b, Wr (setR rs i (a :: t')) b → Wr rs b ∨ TN I b := fun b w => by
    rcases wr_set w with w | w
    · exact .inl w
    · rcases List.mem_cons.mp w with e | w
      · exact .inl (e ▸ wa)
      · rcases ht b w with w | w
        · exact .inl ⟨i, by rw [hr]; exact List.mem_cons_of_mem _ w⟩
        · exact .inr w.2
  refine ⟨⟨by rw [List.length_set]; exact R.len, by rw [List.length_set]; exact R.fln, fun b w => ?_, fun j => ?_, fun j k b h1 h2 => ?_, ?_, R.iu, R.iw, fun b u => ?_, fun j => ?_, R.pin⟩, S⟩
  · rcases wr_set w with w | w
    · exact R.sub b w
    · exact hown.inU b w
  · by_cases e : j = i
    · subst e; rw [setR_same]; exact nd
    · rw [setR_ne e]; exact R.nd j
  · have key : ∀ {j k : Nat}, j = i → k ≠ i → b ∈ setR rs i (a :: t') j → b ∈ setR rs i (a :: t') k → False := fun {j k} e e2 h1 h2 => by
      subst e
      rw [setR_same] at h1
      rw [setR_ne e2] at h2
      rcases List.mem_cons.mp h1 with z | z
      · exact e2 (R.dis k j b h2 (by rw [hr, z]; exact List.mem_cons_self))
      · rcases ht b z with z | z
        · exact e2 (R.dis k j b h2 (by rw [hr]; exact List.mem_cons_of_mem _ z))
        · exact z.1 ⟨k, h2⟩
    by_cases e : j = i
    · by_cases e2 : k = i
      · rw [e, e2]
      · exact (key e e2 h1 h2).elim
    · by_cases e2 : k = i
      · exact (key e2 e h2 h1).elim
      · rw [setR_ne e] at h1
        rw [setR_ne e2] at h2
        exact R.dis j k b h1 h2
  · exact step_set (R.st.trans R.iu S) fun b w => (wt b w).elim (R.st.win b) id
  · by_cases e : b = a
    · rw [e, upd_same]; exact fun z => by cases z
    · rw [upd_ne e]; exact R.ul b u
  · by_cases e : j = i
    · subst e
      rw [setR_same, getS_set hlt, hv]
      exact mine_slot hf hown
    · rw [setR_ne e, getS_ne e]
      have sl := R.sl j
      revert sl
      cases getS r j with
      | none => exact fun h => h
      | some d =>
        rintro ⟨v, hv, sl⟩
        refine ⟨v, hv, ?_⟩
        have nin : ∀ b ∈ rs j, b ≠ a := fun b m z => e (R.dis j i b m (by rw [hr, z]; exact List.mem_cons_self))
        have gt : Grow (TN I) H (TN I) (upd H a o') := ⟨fun b u h n => by rw [upd_ne fun e => n (by rw [e]; exact R.wt a wa)]; exact h, S.fix, fun _ z => .inl z⟩
        cases hg : fgAt fl j with
        | b1 => rw [hg] at sl; exact ⟨E1.step g gt sl.1, sl.2⟩
        | lk => rw [hg] at sl; exact ⟨E1.step g gt sl.1, sl.2⟩
        | fz => rw [hg] at sl; exact ⟨sl.1.grow g, sl.2⟩
        | ow m => rw [hg] at sl; exact Own.step g sl fun b mb => ⟨Own.inU sl b mb, fun u h => by rw [upd_ne (nin b mb)]; exact h⟩
        | io m => rw [hg] at sl; exact Own.step g sl fun b mb => ⟨Own.inU sl b mb, fun u h => by rw [upd_ne (nin b mb)]; exact h⟩
theorem OwnAll.append {K : PySem.W.Frag} {U : Addr → Prop} {H : Hp} : ∀ {n : Nat} {ds es : List D} {vs ws : List V} {p q : List Addr}, OwnAll K U H n ds vs p → OwnAll K U H n es ws q → OwnAll K U H n (ds ++ es) (vs ++ ws) (p ++ q)
  | _, _, _, _, _, _, _, .nil, h => h
  | _, _, _, _, _, _, _, .cons a t, h => by rw [List.append_assoc]; exact .cons a (OwnAll.append t h)
theorem OwnAll.length {K : PySem.W.Frag} {U : Addr → Prop} {H : Hp} : ∀ {n : Nat} {ds : List D} {vs : List V} {p : List Addr}, OwnAll K U H n ds vs p → vs.length = ds.length
  | _, _, _, _, .nil => rfl
  | _, _, _, _, .cons _ t => by simp [OwnAll.length t]
theorem of_getL {r : Env} {i : Nat} {xs : List D} (h : getL r i = some xs) : getS r i = some (.list xs) := by
  unfold getL at h
  cases e : getS r i with
  | none => rw [e] at h; cases h
  | some d =>
    rw [e] at h
    cases d with
    | list ys => cases h; rfl
    | _ => cases h
/-- what stands at a name that the def may change -/
theorem Rel.root {K : PySem.W.Frag} {I : Ini} {fl : List Fg} {U : Addr → Prop} {rs : Rs} {r : Env} {s : St} {H : Hp} (R : Rel K I fl U rs r s H) {i n : Nat} {ds : List D} (hf : mine (fgAt fl i) (n + 1) = true) (h : getS r i = some (.list ds)) :
    ∃ a xs t, s[i]? = some (some (.ref a)) ∧ stS s i = some (.ref a) ∧ U a ∧ H a = some (.lst xs) ∧ OwnAll K U H n ds xs t ∧ rs i = a :: t := by
  obtain ⟨v, hv, sl⟩ := slot_v (R.sl i) h
  obtain ⟨a, xs, t, rfl, ua, ha, o, e⟩ := own_lst (slot_mine hf sl)
  refine ⟨a, xs, t, hv, ?_, ua, ha, o, e⟩
  unfold stS
  rw [hv]
  rfl
theorem nodup_root {rs : Rs} {i : Nat} {a : Addr} {t : List Addr} (nd : (rs i).Nodup) (e : rs i = a :: t) : (a :: t).Nodup := e ▸ nd
theorem tyL {K : PySem.W.Frag} {H : Hp} {a : Addr} {xs : List V} (h : H a = some (.lst xs)) : tyV K "list" (.ref a) H := .inl ⟨rfl, _, SqL.of h⟩
/-- a method on a list whose items are shared -/
def MutJ (K : PySem.W.Frag) (ms : List Md) (f : List D → List D → Option (D × List D)) (rr : V → List V → Hp → VK → Prop) : Prop := ∀ (U W T : Addr → Prop) (H : Hp) (a : Addr) (xs vs : List V) (ds args ds' : List D) (q : List Addr) (d : D) (Q : VK), U a → H a = some (.lst xs) → EnAll K U H ds xs →
  ValA K U W T H ms args vs q → f ds args = some (d, ds') → (∀ xs' v, EnAll K U H ds' xs' → En K U H d v → Q v (upd H a (.lst xs'))) → rr (.ref a) vs H Q
theorem sMet_inv {f : List D → List D → Option (D × List D)} {i : Nat} {a : SA} {r r' : Env} {d : D} (h : sMet f i a r = .ok d r') : ∃ xs0 args r1 xs ys, getS r i = some (.list xs0) ∧ a r = .ok args r1 ∧ getS r1 i = some (.list xs) ∧ f xs args = some (d, ys) ∧ r' = setL r1 i ys := by
  unfold sMet at h
  cases g : getL r i with
  | none => rw [g] at h; cases h
  | some xs0 =>
    rw [g] at h
    obtain ⟨args, r1, e1, h⟩ := of_bind h
    cases g1 : getL r1 i with
    | none => rw [g1] at h; cases h
    | some xs =>
      rw [g1] at h
      simp only at h
      cases e : f xs args with
      | none => rw [e] at h; cases h
      | some p =>
        obtain ⟨d', ys⟩ := p
        rw [e] at h
        cases h
        exact ⟨xs0, args, r1, xs, ys, of_getL g, e1, of_getL g1, e, rfl⟩
theorem je_met {e : Expr} {i : Nat} {f : List D → List D → Option (D × List D)} {a : SA} {ms : List Md} {p : Bool} {rr : V → List V → Hp → VK → Prop} {t : TE}
    (hb : PE X e t) (ht : ∀ s H Q, (∃ x, s[i]? = some (some x) ∧ tyV X.K "list" x H ∧ tJA X.K fl a ms p s H fun xs H2 => rr x xs H2 Q) → t s H Q) (hj : MutJ X.K ms f rr) (hf : mine (fgAt fl i) 1 = true) : JE X fl e (sMet f i a) (.own 0) false := by
  refine pe_mono hb ?_
  rintro s H Q ⟨I, U, rs, r, d, r', R, hs, c⟩
  obtain ⟨xs0, args, r1, xs, ys, g0, e1, g1, ef, rfl⟩ := sMet_inv hs
  obtain ⟨a0, xs1, t1, hv, hst, ua, ha, o, er⟩ := R.root hf g0
  refine ht s H Q ⟨.ref a0, hv, tyL ha, I, U, rs, r, args, r1, R, e1, fun U1 rs1 H1 vs q A1 V1 => ?_⟩
  obtain ⟨a2, xs2, t2, hv2, hst2, ua2, ha2, o2, er2⟩ := A1.rel.root hf g1
  have ea : a2 = a0 := by
    rw [hv] at hv2
    exact (V.ref.inj (Option.some.inj (Option.some.inj hv2))).symm
  subst ea
  obtain ⟨t, rfl⟩ := o2.to0
  refine hj U1 (Wr rs1) (TN I) H1 a2 xs2 vs xs args ys q d Q ua2 ha2 t V1 ef fun xs' v t' ev => ?_
  have S0 : Grow U1 H1 U1 (upd H1 a2 (.lst xs')) := ⟨fun b u h n => by rw [upd_ne fun e => n (by rw [e]; exact ua2)]; exact h, fun b u h m => by rw [upd_ne fun e => m (by rw [e, ha2] at h; cases h; trivial)]; exact h, fun _ u => .inl u⟩
  obtain ⟨R2, S2⟩ := A1.rel.write (t' := []) (d' := .list ys) (o' := .lst xs') hf er2 ha2 trivial hst2 (.lst ua2 upd_same (OwnAll.of0 (EnAll.grow S0 t'))) (by simp) fun _ m => by cases m
  refine c U1 _ _ v [] ⟨R2, step_set (A1.st.trans R.ul S2) fun b w => ?_, (fun z => by cases z), fun _ m => by cases m⟩ (val_sh (En.grow S0 ev))
  rcases wr_set w with w | w
  · exact A1.st.win b w
  · have e : b = a2 := by simpa using w
    rw [e]
    exact A1.st.win a2 ⟨i, by rw [er2]; exact List.mem_cons_self⟩
theorem je_meth {o e : Expr} {es : List Expr} {name : Str} {id : String} {i : Nat} {f : List D → List D → Option (D × List D)} {a : SA} {ms : List Md} {p : Bool} {rr : V → List V → Hp → VK → Prop} {apos cpos : Pos} (slot : PySem.Slot "list" name id) (hty : typeOf (.builtin id) = pure (.type "method_descriptor")) (hm : MtR X id rr)
    (hj : MutJ X.K ms f rr) (ho : PE X o (tVar i)) (ha : JA X fl (e :: es) a ms p) (hf : mine (fgAt fl i) 1 = true) (hbase : attributeBase o name X.env (eval o X.env) = eval o X.env := by rfl)
    (hfew : ((backTo cpos (starEach (e :: es) X.env)).all (fun x => !x.1) && (backToKw cpos (keywordEach [] X.env)).all (fun x => x.1.isSome)
      && decide ((e :: es).length + ([] : List Keyword).length + (if ([] : List Keyword).isEmpty then 0 else 1) < 30)) = true := by rfl)
    (hline : (apos.endLine == cpos.line) = true := by rfl) (hs : starEach (e :: es) X.env = (false, eval e X.env) :: starEach es X.env := by rfl) (hplain : (backTo cpos (starEach es X.env)).any (·.1) = false := by rfl) :
    JE X fl (.Call (.Attribute o name apos) (e :: es) [] cpos) (sMet f i a) (.own 0) false :=
  je_met (pe_bm PySem.F.plainAttrs_list slot hty hm ho ha hbase hfew hline hs hplain) (fun s H Q ⟨x, hv, ty, h⟩ => ⟨x, hv, ty, h⟩) hj hf
theorem je_meth0 {o : Expr} {name : Str} {id : String} {i : Nat} {f : List D → List D → Option (D × List D)} {rr : V → List V → Hp → VK → Prop} {apos cpos : Pos} (slot : PySem.Slot "list" name id) (hty : typeOf (.builtin id) = pure (.type "method_descriptor")) (hm : MtR X id rr)
    (hj : MutJ X.K [] f rr) (ho : PE X o (tVar i)) (hf : mine (fgAt fl i) 1 = true) (hbase : attributeBase o name X.env (eval o X.env) = eval o X.env := by rfl) (hline : (apos.endLine == cpos.line) = true := by rfl) :
    JE X fl (.Call (.Attribute o name apos) [] [] cpos) (sMet f i sNil) (.own 0) false :=
  je_met (p := true) (pe_bm0 PySem.F.plainAttrs_list slot hty hm ho hbase hline) (fun s H Q ⟨x, hv, ty, I, U, rs, r, ds, r', R, hs, k⟩ => ⟨x, hv, ty, by
    cases hs
    exact k U rs H [] [] (.refl R) .nil⟩) hj hf
end

section
variable {K : PySem.W.Frag} {m : Md}
theorem valA1 {U W T : Addr → Prop} {H : Hp} {m : Md} {args : List D} {vs : List V} {q : List Addr} (h : ValA K U W T H [m] args vs q) : ∃ d v q1, args = [d] ∧ vs = [v] ∧ Val K U W T H m d v q1 := by
  cases h with
  | cons a t _ => cases t; exact ⟨_, _, _, rfl, rfl, a⟩
theorem valA2 {U W T : Addr → Prop} {H : Hp} {m m' : Md} {args : List D} {vs : List V} {q : List Addr} (h : ValA K U W T H [m, m'] args vs q) : ∃ d v q1 d' v' q2, args = [d, d'] ∧ vs = [v, v'] ∧ Val K U W T H m d v q1 ∧ Val K U W T H m' d' v' q2 := by
  cases h with
  | cons a t _ =>
    obtain ⟨d', v', q2, rfl, rfl, b⟩ := valA1 t
    exact ⟨_, _, _, _, _, _, rfl, rfl, a, b⟩
theorem mj_app : MutJ K [.own 0] mApp rAppend := by
  intro U W T H a xs vs ds args ds' q d Q ua ha t V hf k
  obtain ⟨x, v, q1, rfl, rfl, V1⟩ := valA1 V
  simp only [mApp] at hf
  split at hf
  · rename_i hl
    cases hf
    exact ⟨a, xs, v, rfl, rfl, ha, by rw [← line_eq, t.sz]; exact hl, k _ _ (t.append (.cons V1.1.to0.1 .nil)) .non⟩
  · cases hf
theorem mj_ext : MutJ K [.r1] mExt rExtend := by
  intro U W T H a xs vs ds args ds' q d Q ua ha t V hf k
  obtain ⟨x, v, q1, rfl, rfl, V1⟩ := valA1 V
  cases x with
  | list zs =>
    simp only [mExt] at hf
    split at hf
    · rename_i hl
      cases hf
      obtain ⟨b, ys, rfl, hb, t'⟩ := e1_lst V1.1
      exact ⟨a, b, xs, ys, rfl, rfl, ha, hb, by rw [← line_eq, t.sz, t'.sz]; exact hl, k _ _ (t.append t') .non⟩
    · cases hf
  | _ => simp only [mExt] at hf; cases hf
theorem mj_pop : MutJ K [] mPop rPop := by
  intro U W T H a xs vs ds args ds' q d Q ua ha t V hf k
  cases V
  simp only [mPop] at hf
  cases e : ds[ds.length - 1]? with
  | none => rw [e] at hf; cases hf
  | some x =>
    rw [e] at hf
    cases hf
    obtain ⟨v, hv, ev⟩ := t.get e
    exact ⟨a, xs, v, rfl, rfl, ha, by rw [t.sz]; exact hv, k _ _ t.dropLast ev⟩
theorem mj_popAt {n : Nat} : MutJ K [.own n] mPopAt rPopAt := by
  intro U W T H a xs vs ds args ds' q d Q ua ha t V hf k
  obtain ⟨x, v, q1, rfl, rfl, V1⟩ := valA1 V
  cases x with
  | int z =>
    simp only [mPopAt] at hf
    split at hf
    · rename_i c
      cases ej : ixD ds.length z with
      | none => rw [ej] at hf; cases hf
      | some j =>
        rw [ej] at hf
        simp only [Option.bind_some] at hf
        cases e : ds[j]? with
        | none => rw [e] at hf; cases hf
        | some y =>
          rw [e] at hf
          cases hf
          obtain ⟨w, hw, ew⟩ := t.get e
          exact ⟨a, xs, z, j, w, rfl, by rw [en_int V1.en], ha, c.1, c.2, by rw [t.sz]; exact (ixN_seq ej).1, hw, k _ _ (t.eraseIdx j) ew⟩
    · cases hf
  | _ => simp only [mPopAt] at hf; cases hf
theorem mj_rev : MutJ K [] mRev rReverse := by
  intro U W T H a xs vs ds args ds' q d Q ua ha t V hf k
  cases V
  simp only [mRev] at hf
  cases hf
  exact ⟨a, xs, rfl, rfl, ha, k _ _ t.reverse .non⟩
end
section
variable {X : Cx} {C : SC} {fl fm fn : List Fg}
/-- name[k] = e -/
theorem js_sub {o e1 e : Expr} {i n : Nat} {b a : SE} {p1 p2 : Bool} {pos tpos : Pos} (he : JE X fl e a (.own 0) p1) (ho : PE X o (tVar i)) (hk : JE X fl e1 b (.own n) p2) (hf : mine (fgAt fl i) 1 = true)
    (hs : swapsWithSole [.Subscript o e1 tpos] e pos.line X.env = pure false := by rfl) (hw : swappedStores [.Subscript o e1 tpos] e X.env = pure none := by rfl)
    (h1 : (assignEach [.Subscript o e1 tpos] X.env).map (·.2) = [assign (.Subscript o e1 tpos) X.env] := by rfl)
    (ha : ∀ v, assign (.Subscript o e1 tpos) X.env v = (do
      let ov ← holding [v] (eval o X.env)
      let iv ← holding [v, ov] (eval e1 X.env)
      standAt tpos
      holding [v, ov, iv] (setItem ov iv v)
      release [v, ov, iv] []) := by intro _; rfl) : JS X C fl (.Assign [.Subscript o e1 tpos] e pos) (sSub i b a) fl := by
  refine ps_mono (ps_asg he (pg_sub ho hk set_list ha) hs hw h1) ?_
  rintro D s H ⟨I, U, rs, r, f', r', R, hs, k⟩
  obtain ⟨x, r1, e1, hs⟩ := of_bind hs
  cases g0 : getL r1 i with
  | none => rw [g0] at hs; cases hs
  | some xs0 =>
    rw [g0] at hs
    obtain ⟨z, r2, e2, hs⟩ := of_bind hs
    cases z with
    | int z =>
      cases g : getL r2 i with
      | none => rw [g] at hs; cases hs
      | some xs =>
        rw [g] at hs
        simp only [intOf] at hs
        cases ej : ixD xs.length z with
        | none => rw [ej] at hs; cases hs
        | some j =>
          rw [ej] at hs
          cases hs
          refine ⟨I, U, rs, r, x, r1, R, e1, fun U1 rs1 H1 v1 q1 A1 V1 => ?_⟩
          obtain ⟨ex, he1⟩ := V1.1.to0
          subst he1
          obtain ⟨a0, ys, t0, hv, hst, ua, ha, o, er⟩ := A1.rel.root hf (of_getL g0)
          refine ⟨.ref a0, hv, I, U1, rs1, r1, .int z, r2, A1.rel, e2, fun U2 rs2 H2 v2 q2 A2 V2 => ?_⟩
          obtain ⟨a2, xs2, t2, hv2, hst2, ua2, ha2, o2, er2⟩ := A2.rel.root hf (of_getL g)
          have ea : a2 = a0 := by
            rw [hv] at hv2
            exact (V.ref.inj (Option.some.inj (Option.some.inj hv2))).symm
          subst ea
          obtain ⟨t, ht2⟩ := o2.to0
          subst ht2
          have ex2 : En X.K U2 H2 x v1 := En.grow (A2.st.growU A1.rel.sub) ex
          refine ⟨a2, xs2, z, j, rfl, en_int V2.en, ha2, by rw [t.sz]; exact ej, ?_⟩
          have S0 : Grow U2 H2 U2 (upd H2 a2 (.lst (xs2.set j v1))) := ⟨fun b u h n => by rw [upd_ne fun e => n (by rw [e]; exact ua2)]; exact h, fun b u h m => by rw [upd_ne fun e => m (by rw [e, ha2] at h; cases h; trivial)]; exact h, fun _ u => .inl u⟩
          obtain ⟨R3, S3⟩ := A2.rel.write (t' := []) (d' := .list (xs.set j x)) (o' := .lst (xs2.set j v1)) hf er2 ha2 trivial hst2 (.lst ua2 upd_same (OwnAll.of0 (EnAll.grow S0 (t.set ex2 j)))) (by simp) fun _ m => by cases m
          have S := (A1.st.trans R.ul A2.st).trans R.ul S3
          refine k U2 _ s _ (step_set S fun b w => ?_) R3
          rcases wr_set w with w | w
          · exact S.win b w
          · have e : b = a2 := by simpa using w
            rw [e]
            exact S.win a2 ⟨i, by rw [er2]; exact List.mem_cons_self⟩
    | _ => cases hs
end
end J

set_option Elab.async false
set_option linter.all false
set_option maxRecDepth 100000
/-! JLoop: what is walked, for, while, comprehensions. -/
namespace J
open PySem L2 PyProof.Rows

/-- the iterator walks the data ds, as long as steps keep what is not owned -/
def Walks (K : PySem.W.Frag) (U W : Addr → Prop) (H : Hp) (J : It) (ds : List D) : Prop := ∀ U2 W2 H2, Step U W H U2 W2 H2 → (∀ i d, ds[i]? = some d → J.go i H2 ∧ ∀ x H3, J.yld i H2 x H3 → H3 = H2 ∧ En K U2 H2 d x) ∧ J.stop ds.length H2
/-- what is walked; pe: during the walk nothing but new things is written (and the lists at q0) -/
def tJI (K : PySem.W.Frag) (fl : List Fg) (e : SI) (pu pe : Bool) : TI := fun s H Q => ∃ I U rs r ds r', Rel K I fl U rs r s H ∧ e r = .ok ds r' ∧
  ∀ U' rs' H' J, Aft K I fl U rs H r' s pu U' rs' H' [] → ds.length ≤ line → (∀ q0 : List Addr, (∀ b ∈ q0, U' b ∧ TN I b ∧ ¬ Wr rs' b) → Walks K U' (fun b => (pe = false ∧ Wr rs' b) ∨ b ∈ q0) H' J ds) → Q J H'
abbrev JI (X : Cx) (fl : List Fg) (tg it : Expr) (e : SI) (pu pe : Bool) : Prop := PI X tg it (tJI X.K fl e pu pe)
theorem Step.wider {U W V U' W' : Addr → Prop} {H H' : Hp} (s : Step U W H U' W' H') (h : ∀ b, W b → V b) : Step U V H U' W' H' :=
  ⟨fun b o e n => s.keep b o e fun z => n (h b z), s.fix, s.live, s.out, fun b u n => s.kin b u fun z => n (h b z), fun b w => (s.win b w).elim (fun z => .inl (h b z)) .inr⟩
theorem Walks.less {K : PySem.W.Frag} {U W V : Addr → Prop} {H : Hp} {J : It} {ds : List D} (w : Walks K U V H J ds) (h : ∀ b, W b → V b) : Walks K U W H J ds := fun U2 W2 H2 S => w U2 W2 H2 (S.wider h)
theorem q_sub {U : Addr → Prop} {rs : Rs} {I : Ini} {q0 : List Addr} {pe : Bool} (hs : ∀ b, Wr rs b → U b) (hq : ∀ b ∈ q0, U b ∧ TN I b ∧ ¬ Wr rs b) : ∀ b, ((pe = false ∧ Wr rs b) ∨ b ∈ q0) → U b := fun b z => z.elim (fun z => hs b z.2) fun z => (hq b z).1
theorem pi_mono {X : Cx} {tg e : Expr} {t t' : TI} (h : PI X tg e t) (m : ∀ s H Q, t' s H Q → t s H Q) : PI X tg e t' := ⟨fun pins s st H Q I q => h.run pins s st H Q I (m st H Q q)⟩
section
variable {X : Cx} {C : SC} {fl fm fn : List Fg} {tg : Expr}
theorem walks_list {K : PySem.W.Frag} {U W : Addr → Prop} {H : Hp} {a : Addr} {xs : List V} {ds : List D} (hw : ∀ b, W b → U b) (ha : H a = some (.lst xs)) (na : ¬ W a) (t : EnAll K U H ds xs) : Walks K U W H (Itl K a) ds := fun U2 W2 H2 S => by
  have h2 := S.keep a _ ha na
  have t2 := EnAll.grow (S.growU hw) t
  refine ⟨fun i d hd => ?_, xs, SqL.of h2, by rw [t.sz]; exact Nat.le_refl _⟩
  obtain ⟨v, hv, e⟩ := t2.get hd
  refine ⟨⟨xs, v, SqL.of h2, hv⟩, fun x H3 y => ⟨y.1, ?_⟩⟩
  have := y.2 xs (SqL.of h2)
  rw [hv] at this
  cases this
  exact e
theorem walks_tup {K : PySem.W.Frag} {U W : Addr → Prop} {H : Hp} {a : Addr} {xs : List V} {ds : List D} (hw : ∀ b, W b → U b) (ha : SqT K H a xs) (t : EnAll K U H ds xs) : Walks K U W H (Itt K a) ds := fun U2 W2 H2 S => by
  have h2 := sqT_grow (S.growU hw) ha
  have t2 := EnAll.grow (S.growU hw) t
  refine ⟨fun i d hd => ?_, xs, h2, by rw [t.sz]; exact Nat.le_refl _⟩
  obtain ⟨v, hv, e⟩ := t2.get hd
  refine ⟨⟨xs, v, h2, hv⟩, fun x H3 y => ⟨y.1, ?_⟩⟩
  have := y.2 xs h2
  rw [hv] at this
  cases this
  exact e
theorem upTo_len {lo : Int} {n : Nat} : (upTo lo n).length = n := by unfold upTo; simp
theorem walks_range {K : PySem.W.Frag} {U W : Addr → Prop} {H : Hp} {lo : Int} {n : Nat} : Walks K U W H (Itr lo n) (upTo lo n) := fun U2 W2 H2 S => by
  refine ⟨fun i d hd => ?_, by show n ≤ (upTo lo n).length; rw [upTo_len]; exact Nat.le_refl _⟩
  unfold upTo at hd
  rw [List.getElem?_map] at hd
  have hi : i < n := by
    cases e : (List.range n)[i]? with
    | none => rw [e] at hd; cases hd
    | some k =>
      have := (List.getElem?_eq_some_iff.mp e).1
      simpa using this
  rw [List.getElem?_range hi] at hd
  cases hd
  exact ⟨hi, fun x H3 y => ⟨y.1, by rw [y.2]; exact .int _⟩⟩
/-- a list or a tuple, whichever comes -/
def iSeq (K : PySem.W.Frag) (tl : TE) : TI := fun σ H R => tl σ H fun x H1 => ∃ a, x = .ref a ∧ ((∃ xs, SqL K H1 a xs ∧ (xs.length ≤ sizeLine → R (Itl K a) H1)) ∨ ∃ xs, SqT K H1 a xs ∧ (xs.length ≤ sizeLine → R (Itt K a) H1))
theorem pi_seq {l : Expr} {tl : TE} (hl : PE X l tl) : PI X tg l (iSeq X.K tl) := by
  refine ⟨fun pins s σ H R I h => ?_⟩
  refine thn (hl.run pins s σ H _ I h) fun v s1 ⟨x, H1, I1, r1, q1⟩ => ?_
  obtain ⟨a, e, ⟨xs, hq, q⟩ | ⟨xs, hq, q⟩⟩ := q1
  · subst e
    cases r1
    obtain ⟨its, rv, p, hz⟩ := I1.list hq
    refine wpAny_pyIter_list p.isList ?_
    refine ⟨s1.heap.objs.size, [s1.heap.objs.size], _, _, H1, rfl, I1.kept (t' := s1.toks) fun b o e => Heap.get?_push_of_some _ e, turn_list a _, ⟨_, Heap.get?_push_size _ rfl, rfl, rfl⟩, fun b hb => ?_, q hz⟩
    have e : b = s1.heap.objs.size := by simpa using hb
    subst e
    exact I1.fpOk (Nat.le_refl _) (I1.hok.fresh (Nat.le_refl _))
  · subst e
    cases r1
    obtain ⟨its, rv, p, hz⟩ := I1.tuple hq
    refine wpAny_pyIter_tuple (show s1.heap.IsTuple a its.toArray from p) ?_
    refine ⟨s1.heap.objs.size, [s1.heap.objs.size], _, _, H1, rfl, I1.kept (t' := s1.toks) fun b o e => Heap.get?_push_of_some _ e, turn_tuple a _, ⟨_, Heap.get?_push_size _ rfl, rfl, rfl⟩, fun b hb => ?_, q hz⟩
    have e : b = s1.heap.objs.size := by simpa using hb
    subst e
    exact I1.fpOk (Nat.le_refl _) (I1.hok.fresh (Nat.le_refl _))
theorem itSeq_inv {a : SE} {r r' : Env} {ds : List D} (h : itSeq a r = .ok ds r') : (a r = .ok (.list ds) r') ∨ (a r = .ok (.tuple ds) r') := by
  obtain ⟨x, r1, e1, h⟩ := of_bind h
  cases x with
  | list xs => cases h; exact .inl e1
  | tuple xs => cases h; exact .inr e1
  | _ => cases h
theorem ji_seq {l : Expr} {a : SE} {p pe : Bool} (h : JE X fl l a .b1 p) : JI X fl tg l (itSeq a) p pe := by
  refine pi_mono (pi_seq h) ?_
  rintro s H Q ⟨I, U, rs, r, ds, r', R, hs, k⟩
  rcases itSeq_inv hs with e1 | e1
  · refine ⟨I, U, rs, r, _, _, R, e1, fun U1 rs1 H1 v q A V => ?_⟩
    obtain ⟨a, ys, rfl, ha, t, na⟩ : ∃ a ys, v = .ref a ∧ H1 a = some (.lst ys) ∧ EnAll X.K U1 H1 ds ys ∧ ¬ (U1 a ∧ TN I a) := by
      rcases V.1 with e | ⟨a, ys, es, e, rfl, ha, na, t⟩ | ⟨_, _, _, e, _⟩
      · obtain ⟨a, ys, rfl, ha, na, t⟩ := en_lst e
        exact ⟨a, ys, rfl, ha, t, fun w => na w.1⟩
      · cases e; exact ⟨a, ys, rfl, ha, t, fun w => na w.2⟩
      · cases e
    exact ⟨a, rfl, .inl ⟨ys, SqL.of ha, fun hz => k U1 rs1 H1 _ (A.drop fun _ m => by cases m) (by rw [line_eq, ← t.sz]; exact hz) fun q0 hq => walks_list (q_sub A.rel.sub hq) ha (fun z => na (z.elim (fun z => ⟨A.rel.sub a z.2, A.rel.wt a z.2⟩) fun z => ⟨(hq a z).1, (hq a z).2.1⟩)) t⟩⟩
  · refine ⟨I, U, rs, r, _, _, R, e1, fun U1 rs1 H1 v q A V => ?_⟩
    obtain ⟨a, ys, rfl, ha, t⟩ := e1_tup V.1
    exact ⟨a, rfl, .inr ⟨ys, ha, fun hz => k U1 rs1 H1 _ (A.drop fun _ m => by cases m) (by rw [line_eq, ← t.sz]; exact hz) fun q0 hq => walks_tup (q_sub A.rel.sub hq) ha t⟩⟩
/-- a list just made, owned by nobody else -/
theorem ji_own {l : Expr} {a : SE} {n : Nat} {p pe : Bool} (h : JE X fl l a (.own n) p) : JI X fl tg l (itSeq a) p pe := ji_seq (je_b1 (je_sh h))
/-- one's own list, by its name, in a comprehension that changes nothing -/
theorem ji_nm {l : Expr} {i : Nat} (h : PE X l (tVar i)) (hf : flat1 (fgAt fl i) = true) : JI X fl tg l (itSeq (sV i)) true true := by
  refine pi_mono (pi_seq h) ?_
  rintro s H Q ⟨I, U, rs, r, ds, r', R, hs, k⟩
  have sub : ∀ {q0 : List Addr} {b : Addr}, (true = false ∧ Wr rs b) ∨ b ∈ q0 → b ∈ q0 := fun z => z.elim (fun z => by cases z.1) id
  rcases itSeq_inv hs with e1 | e1
  · obtain ⟨hg, rfl⟩ := of_lift e1
    obtain ⟨v, hv, sl⟩ := slot_v (R.sl i) hg
    refine ⟨v, hv, ?_⟩
    obtain ⟨a, ys, rfl, ha, t, na⟩ : ∃ a ys, v = .ref a ∧ H a = some (.lst ys) ∧ EnAll X.K U H ds ys ∧ (¬ U a ∨ ¬ TN I a ∨ Wr rs a) := by
      have e1 : E1 X.K U (TN I) H (.list ds) v → ∃ a ys, v = .ref a ∧ H a = some (.lst ys) ∧ EnAll X.K U H ds ys ∧ (¬ U a ∨ ¬ TN I a ∨ Wr rs a) := fun e => by
        rcases e with e | ⟨a, ys, es, e, rfl, ha, na, t⟩ | ⟨_, _, _, e, _⟩
        · obtain ⟨a, ys, rfl, ha, na, t⟩ := en_lst e
          exact ⟨a, ys, rfl, ha, t, .inl na⟩
        · cases e; exact ⟨a, ys, rfl, ha, t, .inr (.inl na)⟩
        · cases e
      have ow : ∀ n, n ≤ 1 → Own X.K U H n (.list ds) v (rs i) → ∃ a ys, v = .ref a ∧ H a = some (.lst ys) ∧ EnAll X.K U H ds ys ∧ (¬ U a ∨ ¬ TN I a ∨ Wr rs a) := fun n hn o => by
        generalize hq : rs i = q at o
        cases o with
        | sh e _ => exact e1 (.inl e)
        | lst u ha t =>
          rename_i n a xs q'
          have e0 : n = 0 := by omega
          subst e0
          exact ⟨a, xs, rfl, ha, t.to0.1, .inr (.inr ⟨i, by rw [hq]; exact List.mem_cons_self⟩)⟩
      revert sl hf
      cases fgAt fl i with
      | b1 => intro hf sl; exact e1 (slot_b1 sl)
      | lk => intro hf sl; exact e1 (slot_lk sl)
      | fz => intro hf sl; cases hf
      | ow n => intro hf sl; exact ow n (of_decide_eq_true hf) (slot_own sl)
      | io n => intro hf sl; exact ow n (of_decide_eq_true hf) (slot_io sl)
    refine ⟨a, rfl, .inl ⟨ys, SqL.of ha, fun hz => k U rs H _ (.refl R) (by rw [line_eq, ← t.sz]; exact hz) fun q0 hq => walks_list (fun b z => (hq b (sub z)).1) ha (fun z => ?_) t⟩⟩
    obtain ⟨h1, h2, h3⟩ := hq a (sub z)
    rcases na with na | na | na
    · exact na h1
    · exact na h2
    · exact h3 na
  · obtain ⟨hg, rfl⟩ := of_lift e1
    obtain ⟨v, hv, sl⟩ := slot_v (R.sl i) hg
    refine ⟨v, hv, ?_⟩
    obtain ⟨a, ys, rfl, ha, t⟩ := e1_tup (sl.r1 hf)
    exact ⟨a, rfl, .inr ⟨ys, ha, fun hz => k U rs H _ (.refl R) (by rw [line_eq, ← t.sz]; exact hz) fun q0 hq => walks_tup (fun b z => (hq b (sub z)).1) ha t⟩⟩
/-- a list from outside -/
theorem ji_fz {l : Expr} {i : Nat} {pe : Bool} (h : PE X l (tVar i)) (hf : fgAt fl i = .fz) : JI X fl tg l (itSeq (sV i)) true pe := by
  refine pi_mono (pi_seq h) ?_
  rintro s H Q ⟨I, U, rs, r, ds, r', R, hs, k⟩
  have key : ∀ d, getS r i = some d → (∀ n, d ≠ rngD n) → ∃ a xs ds v, d = .list ds ∧ v = .ref a ∧ s[i]? = some (some v) ∧ FzL X.K H a xs ∧ EnAll X.K U H ds xs := fun d hg hn => by
    obtain ⟨v, hv, sl⟩ := slot_v (R.sl i) hg
    rw [hf] at sl
    obtain ⟨v', e, sl⟩ := sl
    cases e
    rcases sl.1 with ⟨a, xs, ds, rfl, rfl, f, t⟩ | ⟨a, n, e, _, _⟩
    · exact ⟨a, xs, ds, _, rfl, rfl, hv, f, t⟩
    · exact absurd e (hn n)
  rcases itSeq_inv hs with e1 | e1
  · obtain ⟨hg, rfl⟩ := of_lift e1
    obtain ⟨a, xs, ds', v, e, rfl, hv, f, t⟩ := key _ hg (fun n e => by cases e)
    cases e
    refine ⟨_, hv, a, rfl, .inl ⟨xs, f.sq, fun hz => k U rs H _ (.refl R) (by rw [line_eq, ← t.sz]; exact hz) fun q0 hq => ?_⟩⟩
    intro U2 W2 H2 S
    have g := S.growU (q_sub R.sub hq)
    have f2 := f.grow g
    have t2 := EnAll.grow g t
    refine ⟨fun i d hd => ?_, xs, f2.sq, by rw [t.sz]; exact Nat.le_refl _⟩
    obtain ⟨v, hv, e⟩ := t2.get hd
    refine ⟨⟨xs, v, f2.sq, hv⟩, fun x H3 y => ⟨y.1, ?_⟩⟩
    have := y.2 xs f2.sq
    rw [hv] at this
    cases this
    exact e
  · obtain ⟨hg, rfl⟩ := of_lift e1
    obtain ⟨a, xs, ds', v, e, rfl, hv, f, t⟩ := key _ hg (fun n e => by cases e)
    cases e
theorem ji_rg1 {a : Expr} {s : SE} {n : Nat} {p : Bool} {pe : Bool} {p0 pos : Pos} (hg : Gl X "range") (hm : X.mg "range" = none) (ha : JE X fl a s (.own n) p) (hs : starEach [a] X.env = [(false, eval a X.env)] := by rfl) : JI X fl tg (.Call (.Name "range" p0) [a] [] pos) (itRg1 s) p pe := by
  refine pi_mono (pi_range1 hg hm (pa_cons ha pa_nil (by rw [hs]; rfl)) hs) ?_
  rintro st H Q ⟨I, U, rs, r, ds, r', R, h, k⟩
  obtain ⟨x, r1, e1, h⟩ := of_bind h
  refine ⟨I, U, rs, r, x, r1, R, e1, fun U1 rs1 H1 v q A V => ?_⟩
  cases x with
  | int j =>
    simp only [intOf] at h
    split at h
    · rename_i c
      cases h
      refine ⟨j, by rw [en_int V.en], c.1, c.2.1, k U1 rs1 H1 _ (A.drop fun _ m => by cases m) (by rw [upTo_len]; exact c.2.2) fun _ _ => walks_range⟩
    · cases h
  | _ => cases h
theorem ji_rg2 {a b : Expr} {s t : SE} {n m : Nat} {p1 p2 pe : Bool} {p0 pos : Pos} (hg : Gl X "range") (hm : X.mg "range" = none) (ha : JE X fl a s (.own n) p1) (hb : JE X fl b t (.own m) p2) (hs : starEach [a, b] X.env = [(false, eval a X.env), (false, eval b X.env)] := by rfl) (hs2 : starEach [b] X.env = [(false, eval b X.env)] := by rfl) :
    JI X fl tg (.Call (.Name "range" p0) [a, b] [] pos) (itRg2 s t) (p1 && p2) pe := by
  refine pi_mono (pi_range2 hg hm (pa_cons ha (pa_cons hb pa_nil (by rw [hs2]; rfl)) (by rw [hs, hs2])) hs hs2) ?_
  rintro st H Q ⟨I, U, rs, r, ds, r', R, h, k⟩
  obtain ⟨x, r1, e1, h⟩ := of_bind h
  obtain ⟨y, r2, e2, h⟩ := of_bind h
  refine ⟨I, U, rs, r, x, r1, R, e1, fun U1 rs1 H1 v q A V => ⟨I, U1, rs1, r1, y, r2, A.rel, e2, fun U2 rs2 H2 v2 q2 A2 V2 => ?_⟩⟩
  cases x with
  | int i =>
    cases y with
    | int j =>
      simp only [intOf] at h
      split at h
      · rename_i c
        cases h
        exact ⟨i, j, by rw [en_int V.en, en_int V2.en], ⟨c.1.1, c.1.2, c.2.1.1, c.2.1.2⟩, k U2 rs2 H2 _ ((A.trans R A2).drop fun _ m => by cases m) (by rw [upTo_len]; exact c.2.2) fun _ _ => walks_range⟩
      · cases h
    | _ => cases h
  | _ => cases h

/-! ### for -/
theorem js_for {it : Expr} {body : List Stmt} {t : Tg} {a : SI} {b : SS} {p : Bool} {ks : List Nat} {f0 f1 f2 : List Fg} {pos : Pos} (hp : PassesOwn (model X.prog X.w) X.A X.env X.xe) (hc : X.calm = true)
    (hi : JI X fl tg it a p false) (w0 : weak fl f0 ks = true) (hg : PG X tg (tJG X.K f0 t f1)) (hb : JSs X { C with lp := f0, ks := ks } f1 body b f2) (w2 : weak f2 f0 ks = true) (hs : ∀ x, foldedSetIterable it X.env x = pure x := by intro _; rfl) :
    JS X C fl (.For tg it body [] pos) (sFor t a b ks) f0 := by
  refine ps_mono (ps_for hp hc hi hg hb hs) ?_
  rintro D s H ⟨I, U, rs, r, f, r', R, h, k⟩
  obtain ⟨ds, r1, e1, h⟩ := of_bind h
  refine ⟨I, U, rs, r, ds, r1, R, e1, fun U1 rs1 H1 J A hz w => ?_⟩
  obtain ⟨Ua, rsa, Ra, Sa, _⟩ := A.rel.weak w0
  -- the loop's invariant
  refine ⟨fun i m s2 H2 => m = ds.length - i ∧ i ≤ ds.length ∧ ∃ U2 rs2 r2, Rel X.K I f0 U2 rs2 r2 s2 H2 ∧ Step U1 (Wr rs1) H1 U2 (Wr rs2) H2 ∧ forL t b ks (ds.drop i) r2 = .ok f r', ⟨ds.length, rfl, Nat.zero_le _, Ua, rsa, kill ks r1, Ra, Sa, h⟩, ?_⟩
  rintro i m s2 H2 ⟨rfl, hi, U2, rs2, r2, R2, S2, hf⟩
  obtain ⟨wi, ws⟩ := w [] (fun _ m => by cases m) U2 (Wr rs2) H2 (S2.wider fun b z => .inl ⟨rfl, z⟩)
  by_cases hlt : i < ds.length
  · have hd : ds[i]? = some ds[i] := List.getElem?_eq_getElem hlt
    obtain ⟨go, yl⟩ := wi i _ hd
    rw [List.drop_eq_getElem_cons hlt] at hf
    unfold forL at hf
    refine .inr ⟨go, fun s3 H3 => ∃ U3 rs3 r3, Rel X.K I f0 U3 rs3 r3 s3 H3 ∧ Step U1 (Wr rs1) H1 U3 (Wr rs3) H3 ∧ forL t b ks (ds.drop (i + 1)) r3 = .ok f r', fun s3 H3 ⟨U3, rs3, r3, R3, S3, h3⟩ => ⟨ds.length - (i + 1), by omega, rfl, hlt, U3, rs3, r3, R3, S3, h3⟩, fun x H3 y => ?_⟩
    obtain ⟨rfl, ex⟩ := yl x H3 y
    cases hput : t.put ds[i] r2 with
    | none => rw [hput] at hf; cases hf
    | some r3 =>
      rw [hput] at hf
      refine ⟨I, U2, rs2, r2, ds[i], r3, R2, ex, hput, fun rs3 s3 R3 wr3 _ _ => ?_⟩
      obtain ⟨g, r4, e4, hf⟩ := of_bind hf
      refine ⟨I, U2, rs3, r3, g, r4, R3, e4, fun U4 rs4 s4 H4 S4 => ?_⟩
      have S24 : Step U1 (Wr rs1) H1 U4 (Wr rs4) H4 := S2.trans A.rel.ul (step_set (W2 := Wr rs4) ⟨fun b o h n => S4.keep b o h fun z => n (wr3 b z), S4.fix, S4.live, S4.out, fun b u n => S4.kin b u fun z => n (wr3 b z), fun b z => (S4.win b z).elim (fun z => .inl (wr3 b z)) .inr⟩ fun b z => (S4.win b z).elim (fun z => .inl (wr3 b z)) .inr)
      cases g with
      | nx =>
        intro R4
        obtain ⟨U5, rs5, R5, S5, _⟩ := R4.weak w2
        exact ⟨U5, rs5, kill ks r4, R5, S24.trans A.rel.ul S5, hf⟩
      | ct =>
        intro fb wf R4
        obtain ⟨U5, rs5, R5, S5, _⟩ := R4.weak wf
        exact ⟨U5, rs5, kill ks r4, R5, S24.trans A.rel.ul S5, hf⟩
      | bk =>
        intro fb wf R4
        obtain ⟨U5, rs5, R5, S5, _⟩ := R4.weak wf
        cases hf
        exact k U5 rs5 s4 H4 (A.st.trans R.ul (S24.trans A.rel.ul S5)) R5
      | rt d =>
        intro fb r2' v q hag io R4 V nq
        cases hf
        exact k U4 rs4 s4 H4 (A.st.trans R.ul S24) fb r2' v q hag io R4 V nq
  · have e : i = ds.length := by omega
    subst e
    rw [List.drop_length] at hf
    cases hf
    refine .inl ⟨ws, ?_⟩
    obtain ⟨U5, rs5, R5, S5, _⟩ := R2.weak (show weak f0 f0 ks = true by
      unfold weak
      rw [Bool.and_eq_true, decide_eq_true_eq, List.all_eq_true]
      refine ⟨rfl, fun i _ => ?_⟩
      rw [Bool.or_eq_true]
      refine .inr ?_
      cases fgAt f0 i <;> simp [wk1])
    exact k U5 rs5 s2 H2 (A.st.trans R.ul (S2.trans A.rel.ul S5)) R5
/-! ### while -/
theorem js_while {c : Expr} {body : List Stmt} {sc : SB} {b : SS} {p : Bool} {ks : List Nat} {f0 f2 : List Fg} {pos : Pos} (hp : PassesOwn (model X.prog X.w) X.A X.env X.xe)
    (w0 : weak fl f0 ks = true) (hc : JT X f0 c sc p) (hb : JSs X { C with lp := f0, ks := ks } f0 body b f2) (w2 : weak f2 f0 ks = true) : JS X C fl (.While c body [] pos) (sWhile sc b ks) f0 := by
  refine ps_mono (ps_while hp hc hb) ?_
  rintro D s H ⟨I, U, rs, r, f, r', R, h, k⟩
  obtain ⟨n, hn⟩ := of_while h
  obtain ⟨Ua, rsa, Ra, Sa, _⟩ := R.weak w0
  refine ⟨fun m s2 H2 => ∃ U2 rs2 r2, Rel X.K I f0 U2 rs2 r2 s2 H2 ∧ Step U (Wr rs) H U2 (Wr rs2) H2 ∧ whN sc b ks m r2 = .ok f r', ⟨n, Ua, rsa, kill ks r, Ra, Sa, hn⟩, ?_⟩
  rintro m s2 H2 ⟨U2, rs2, r2, R2, S2, hf⟩
  cases m with
  | zero => cases hf
  | succ m =>
    unfold whN at hf
    obtain ⟨x, r3, e3, hf⟩ := of_bind hf
    refine ⟨I, U2, rs2, r2, x, r3, R2, e3, fun U3 rs3 H3 A3 => ?_⟩
    have S3 := S2.trans R.ul A3.st
    cases x with
    | false =>
      simp only [Bool.false_eq_true, if_false] at hf ⊢
      cases hf
      obtain ⟨U5, rs5, R5, S5, _⟩ := A3.rel.weak (show weak f0 f0 ks = true by
        unfold weak
        rw [Bool.and_eq_true, decide_eq_true_eq, List.all_eq_true]
        refine ⟨rfl, fun i _ => ?_⟩
        rw [Bool.or_eq_true]
        refine .inr ?_
        cases fgAt f0 i <;> simp [wk1])
      exact k U5 rs5 s2 H3 (S3.trans R.ul S5) R5
    | true =>
      simp only [if_true] at hf ⊢
      refine ⟨fun s4 H4 => ∃ U4 rs4 r4, Rel X.K I f0 U4 rs4 r4 s4 H4 ∧ Step U (Wr rs) H U4 (Wr rs4) H4 ∧ whN sc b ks m r4 = .ok f r', fun s4 H4 ⟨U4, rs4, r4, R4, S4, h4⟩ => ⟨m, Nat.lt_succ_self m, U4, rs4, r4, R4, S4, h4⟩, ?_⟩
      obtain ⟨g, r4, e4, hf⟩ := of_bind hf
      refine ⟨I, U3, rs3, r3, g, r4, A3.rel, e4, fun U4 rs4 s4 H4 S4 => ?_⟩
      have S24 := S3.trans R.ul S4
      cases g with
      | nx =>
        intro R4
        obtain ⟨U5, rs5, R5, S5, _⟩ := R4.weak w2
        exact ⟨U5, rs5, kill ks r4, R5, S24.trans R.ul S5, hf⟩
      | ct =>
        intro fb wf R4
        obtain ⟨U5, rs5, R5, S5, _⟩ := R4.weak wf
        exact ⟨U5, rs5, kill ks r4, R5, S24.trans R.ul S5, hf⟩
      | bk =>
        intro fb wf R4
        obtain ⟨U5, rs5, R5, S5, _⟩ := R4.weak wf
        cases hf
        exact k U5 rs5 s4 H4 (S24.trans R.ul S5) R5
      | rt d =>
        intro fb r2' v q hag io R4 V nq
        cases hf
        exact k U4 rs4 s4 H4 S24 fb r2' v q hag io R4 V nq
end
end J

set_option Elab.async false
set_option linter.all false
set_option maxRecDepth 100000
/-! JComp: list comprehensions with one clause. -/
namespace J
open PySem L2

section
variable {X : Cx} {fl : List Fg} {tg it : Expr} {a : SI} {p : Bool}
/-- a clause's test -/
abbrev JTs (X : Cx) (fl : List Fg) (es : List Expr) (s : SB) (pu : Bool) : Prop := PTs X es (tJT X.K fl s pu)
theorem jts_nil : JTs X fl [] sYes true := by
  refine ⟨fun pins s st H Q I h => (pts_nil (X := X)).run pins s st H Q I ?_⟩
  obtain ⟨I', U, rs, r, b, r', R, hs, k⟩ := h
  cases hs
  exact k U rs H (.refl R)
theorem jts_one {c : Expr} {s : SB} (h : JT X fl c s p) : JTs X fl [c] s p := pts_one h
end
/-- the flags within a block: its own names are free -/
def blkF (own : List Nat) (fl : List Fg) : List Fg := match own with
  | [] => fl
  | i :: is => (blkF is fl).set i (.ow 0)
theorem blkF_len : ∀ {own : List Nat} {fl : List Fg}, (blkF own fl).length = fl.length
  | [], _ => rfl
  | i :: is, fl => by unfold blkF; rw [List.length_set, blkF_len]
theorem blkF_at : ∀ {own : List Nat} {fl : List Fg} {i : Nat}, i ∉ own → fgAt (blkF own fl) i = fgAt fl i
  | [], _, _, _ => rfl
  | j :: is, fl, i, h => by
    unfold blkF
    rw [List.mem_cons, not_or] at h
    rw [fgAt_ne h.1, blkF_at h.2]
theorem blkF_in : ∀ {own : List Nat} {fl : List Fg} {i : Nat}, i ∈ own → fgAt (blkF own fl) i = .ow 0
  | j :: is, fl, i, h => by
    unfold blkF
    by_cases e : i = j
    · subst e
      by_cases hl : i < (blkF is fl).length
      · rw [fgAt_set hl]
      · exact fgAt_out (by rw [List.length_set]; omega)
    · rw [fgAt_ne e]
      exact blkF_in ((List.mem_cons.mp h).resolve_left e)
theorem wipe_at : ∀ {s : St} {vs : List Nat} {i : Nat}, i ∉ vs → (wipe s vs)[i]? = s[i]?
  | _, [], _, _ => rfl
  | s, v :: vs, i, h => by
    unfold wipe
    rw [List.mem_cons, not_or] at h
    rw [List.getElem?_set_ne (Ne.symm h.1), wipe_at h.2]
theorem wipe_in : ∀ {s : St} {vs : List Nat} {i : Nat}, i ∈ vs → i < s.length → (wipe s vs)[i]? = some none
  | s, v :: vs, i, h, hl => by
    unfold wipe
    by_cases e : i = v
    · subst e
      rw [List.getElem?_set_self (by rw [wipe_length]; exact hl)]
    · rw [List.getElem?_set_ne (Ne.symm e)]
      exact wipe_in ((List.mem_cons.mp h).resolve_left e) hl
theorem wipe_eq {s s' : St} {vs : List Nat} (hl : s'.length = s.length) (h : ∀ j, j ∉ vs → s'[j]? = s[j]?) : wipe s' vs = wipe s vs := by
  refine List.ext_getElem? fun i => ?_
  by_cases m : i ∈ vs
  · by_cases hi : i < s.length
    · rw [wipe_in m hi, wipe_in m (by rw [hl]; exact hi)]
    · rw [List.getElem?_eq_none (by rw [wipe_length, hl]; omega), List.getElem?_eq_none (by rw [wipe_length]; omega)]
  · rw [wipe_at m, wipe_at m, h i m]
theorem wipe_idem {s : St} {vs : List Nat} : wipe (wipe s vs) vs = wipe s vs := wipe_eq (wipe_length s vs) fun j hj => wipe_at hj
theorem getS_kill_in {ks : List Nat} {r : Env} {i : Nat} (h : i ∈ ks) : getS (kill ks r) i = none := by
  rw [getS_kill, if_pos (by simpa using h)]
theorem getS_kill_out {ks : List Nat} {r : Env} {i : Nat} (h : i ∉ ks) : getS (kill ks r) i = getS r i := by
  rw [getS_kill, if_neg (by simpa using h)]
/-- into a block -/
theorem Rel.into {K : PySem.W.Frag} {I : Ini} {fl : List Fg} {U : Addr → Prop} {rs : Rs} {r : Env} {s : St} {H : Hp} (R : Rel K I fl U rs r s H) (own : List Nat) (hx : ∀ i ∈ own, fixed (fgAt fl i) = false) :
    Rel K I (blkF own fl) U (fun i => if i ∈ own then [] else rs i) (kill own r) (wipe s own) H ∧ Step U (Wr rs) H U (Wr fun i => if i ∈ own then [] else rs i) H := by
  have ws : ∀ b, (Wr fun i => if i ∈ own then [] else rs i) b → Wr rs b := fun b ⟨i, m⟩ => by
    have m : b ∈ (if i ∈ own then ([] : List Addr) else rs i) := m
    split at m
    · cases m
    · exact ⟨i, m⟩
  have S : Step U (Wr rs) H U (Wr fun i => if i ∈ own then [] else rs i) H := ⟨fun _ _ h _ => h, fun _ _ h _ => h, fun _ h => h, fun _ u => .inl u, fun _ u _ => u, fun b w => .inl (ws b w)⟩
  refine ⟨⟨by rw [kill_len, wipe_length]; exact R.len, by rw [blkF_len, kill_len]; exact R.fln, fun b w => R.sub b (ws b w), fun i => ?_, fun i j b h1 h2 => ?_, R.st.trans R.iu S, R.iu, R.iw, R.ul, fun i => ?_, fun i h => ?_⟩, S⟩
  · show (if i ∈ own then ([] : List Addr) else rs i).Nodup
    split
    · exact List.Pairwise.nil
    · exact R.nd i
  · have h1 : b ∈ (if i ∈ own then ([] : List Addr) else rs i) := h1
    have h2 : b ∈ (if j ∈ own then ([] : List Addr) else rs j) := h2
    split at h1
    · cases h1
    · split at h2
      · cases h2
      · exact R.dis i j b h1 h2
  · by_cases m : i ∈ own
    · rw [getS_kill_in m]
      show (if i ∈ own then ([] : List Addr) else rs i) = []
      rw [if_pos m]
    · rw [getS_kill_out m, blkF_at m]
      have e : stS (wipe s own) i = stS s i := by unfold stS; rw [wipe_at m]
      rw [e, if_neg m]
      exact R.sl i
  · by_cases m : i ∈ own
    · rw [blkF_in m] at h; cases h
    · rw [blkF_at m] at h
      rw [wipe_at m]; exact R.pin i h
theorem back_len : ∀ {own : List Nat} {r0 r : Env}, (back own r0 r).length = r.length
  | [], _, _ => rfl
  | i :: is, r0, r => by
    unfold back
    split
    · rw [List.length_set, back_len]
    · exact back_len
theorem getS_back : ∀ {own : List Nat} {r0 r : Env} {i : Nat}, r0.length = r.length → getS (back own r0 r) i = if i ∈ own then getS r0 i else getS r i
  | [], _, _, _, _ => by simp [back]
  | j :: is, r0, r, i, hl => by
    unfold back
    by_cases e : i = j
    · subst e
      rw [if_pos List.mem_cons_self]
      cases h : r0[i]? with
      | none =>
        simp only
        rw [getS_back hl]
        have h0 : getS r0 i = none := by unfold getS; rw [h]
        have h1 : getS r i = none := by
          unfold getS
          rw [List.getElem?_eq_none (by rw [← hl]; exact List.getElem?_eq_none_iff.mp h)]
        rw [h0, h1]
        split <;> rfl
      | some o =>
        simp only
        have hi : i < r.length := by rw [← hl]; exact (List.getElem?_eq_some_iff.mp h).1
        rw [getS_set (by rw [back_len]; exact hi)]
        unfold getS
        rw [h]
        cases o <;> rfl
    · have em : (i ∈ j :: is) = (i ∈ is) := by
        rw [List.mem_cons]
        exact propext ⟨fun z => z.resolve_left e, .inr⟩
      simp only [em]
      split
      · rw [getS_ne e, getS_back hl]
      · rw [getS_back hl]
/-- out of a block: R0 as it was ahead, R1 as it is behind -/
theorem Rel.outof {K : PySem.W.Frag} {I : Ini} {fl : List Fg} {own : List Nat} {U0 U1 : Addr → Prop} {rs0 rs1 : Rs} {r0 r1 : Env} {s : St} {H0 H1 : Hp} (R0 : Rel K I fl U0 rs0 r0 s H0) (R1 : Rel K I (blkF own fl) U1 rs1 (kill own r1) (wipe s own) H1)
    (hx : ∀ i ∈ own, fixed (fgAt fl i) = false) (S : Step U0 (Wr fun i => if i ∈ own then [] else rs0 i) H0 U1 (Wr rs1) H1) :
    Rel K I fl U1 (fun i => if i ∈ own then rs0 i else rs1 i) (back own r0 r1) s H1 ∧ Step U0 (Wr rs0) H0 U1 (Wr fun i => if i ∈ own then rs0 i else rs1 i) H1 := by
  have hl : r0.length = r1.length := by
    have := R1.len
    rw [kill_len, wipe_length] at this
    rw [R0.len]; exact this.symm
  -- what the block's names had
  have n0 : ∀ i ∈ own, ∀ b ∈ rs0 i, ¬ (Wr fun i => if i ∈ own then [] else rs0 i) b := fun i hi b hb ⟨j, m⟩ => by
    have m : b ∈ (if j ∈ own then ([] : List Addr) else rs0 j) := m
    split at m
    · cases m
    · rename_i hj
      have := R0.dis j i b m hb
      subst this
      exact hj hi
  have k0 : ∀ i ∈ own, ∀ b ∈ rs0 i, U1 b ∧ (∀ o, H0 b = some o → H1 b = some o) ∧ ¬ Wr rs1 b := fun i hi b hb => by
    have hn := n0 i hi b hb
    have hu := R0.sub b ⟨i, hb⟩
    cases q : H0 b with
    | none => exact absurd q (R0.ul b hu)
    | some o => exact ⟨S.kin b hu hn, fun o' ho => by cases ho; exact S.keep b o q hn, S.notW q hn⟩
  have e1 : ∀ i ∈ own, rs1 i = [] := fun i hi => by
    have := R1.sl i
    rw [getS_kill_in hi] at this
    exact this
  have ws : ∀ b, (Wr fun i => if i ∈ own then rs0 i else rs1 i) b → (∃ i ∈ own, b ∈ rs0 i) ∨ Wr rs1 b := fun b ⟨i, m⟩ => by
    have m : b ∈ (if i ∈ own then rs0 i else rs1 i) := m
    split at m
    · rename_i hi
      exact .inl ⟨i, hi, m⟩
    · exact .inr ⟨i, m⟩
  have sub0 : ∀ b, (Wr fun i => if i ∈ own then [] else rs0 i) b → Wr rs0 b := fun b ⟨i, m⟩ => by
    have m : b ∈ (if i ∈ own then ([] : List Addr) else rs0 i) := m
    split at m
    · cases m
    · exact ⟨i, m⟩
  have S' : Step U0 (Wr rs0) H0 U1 (Wr fun i => if i ∈ own then rs0 i else rs1 i) H1 := ⟨fun b o h n => S.keep b o h fun z => n (sub0 b z), S.fix, S.live, S.out, fun b u n => S.kin b u fun z => n (sub0 b z), fun b w => by
    rcases ws b w with ⟨i, _, m⟩ | w
    · exact .inl ⟨i, m⟩
    · exact (S.win b w).elim (fun z => .inl (sub0 b z)) .inr⟩
  have g : Grow U0 H0 U1 H1 := S.growU fun b w => R0.sub b (sub0 b w)
  refine ⟨⟨by rw [back_len, ← hl]; exact R0.len, by rw [back_len, ← hl]; exact R0.fln, fun b w => ?_, fun i => ?_, fun i j b h1 h2 => ?_, R0.st.trans R0.iu S', R0.iu, R0.iw, R1.ul, fun i => ?_, R0.pin⟩, S'⟩
  · rcases ws b w with ⟨i, hi, m⟩ | w
    · exact (k0 i hi b m).1
    · exact R1.sub b w
  · show (if i ∈ own then rs0 i else rs1 i).Nodup
    split
    · exact R0.nd i
    · exact R1.nd i
  · have h1 : b ∈ (if i ∈ own then rs0 i else rs1 i) := h1
    have h2 : b ∈ (if j ∈ own then rs0 j else rs1 j) := h2
    split at h1
    · rename_i hi
      split at h2
      · exact R0.dis i j b h1 h2
      · exact absurd ⟨j, h2⟩ (k0 i hi b h1).2.2
    · split at h2
      · rename_i hj
        exact absurd ⟨i, h1⟩ (k0 j hj b h2).2.2
      · exact R1.dis i j b h1 h2
  · rw [getS_back hl]
    by_cases m : i ∈ own
    · rw [if_pos m, if_pos m]
      have sl := R0.sl i
      revert sl
      cases getS r0 i with
      | none => exact fun h => h
      | some d =>
        rintro ⟨v, hv, sl⟩
        refine ⟨v, hv, ?_⟩
        have gt : Grow (TN I) H0 (TN I) H1 := ⟨fun b u h n => S.keep b u h fun z => n (R0.wt b (sub0 b z)), S.fix, fun _ z => .inl z⟩
        cases hg : fgAt fl i with
        | b1 => rw [hg] at sl; exact ⟨E1.step g gt sl.1, sl.2⟩
        | lk => rw [hg] at sl; exact ⟨E1.step g gt sl.1, sl.2⟩
        | fz => rw [hg] at sl; exact ⟨sl.1.grow g, sl.2⟩
        | ow n => rw [hg] at sl; exact Own.step g sl fun b mb => ⟨(k0 i m b mb).1, (k0 i m b mb).2.1⟩
        | io n => rw [hg] at sl; exact Own.step g sl fun b mb => ⟨(k0 i m b mb).1, (k0 i m b mb).2.1⟩
    · rw [if_neg m, if_neg m]
      have sl := R1.sl i
      rw [getS_kill_out m, blkF_at m] at sl
      have e : stS (wipe s own) i = stS s i := by unfold stS; rw [wipe_at m]
      rw [e] at sl
      exact sl
/-- an item more in a list that nobody else has -/
theorem val_push {K : PySem.W.Frag} {U W T : Addr → Prop} {H : Hp} {n : Nat} {ds : List D} {a : Addr} {q q1 : List Addr} {d : D} {v : V} (h : Val K U W T H (.own (n + 1)) (.list ds) (.ref a) q) (e : Val K U W T H (.own n) d v q1) (dj : ∀ b ∈ q1, b ∉ q) :
    ∃ xs, H a = some (.lst xs) ∧ xs.length = ds.length ∧ Val K U W T (upd H a (.lst (xs ++ [v]))) (.own (n + 1)) (.list (ds ++ [d])) (.ref a) (q ++ q1) ∧ a ∈ q ∧ U a := by
  obtain ⟨o, nw, nd⟩ := h
  obtain ⟨o1, nw1, nd1⟩ := e
  obtain ⟨a', xs, t, e, ua, ha, ot, rfl⟩ := own_lst o
  cases e
  have g : Grow U H U (upd H a (.lst (xs ++ [v]))) := ⟨fun b u h n => by rw [upd_ne fun e => n (by rw [e]; exact ua)]; exact h, fun b u h m => by rw [upd_ne fun e => m (by rw [e, ha] at h; cases h; trivial)]; exact h, fun _ u => .inl u⟩
  have nat' : a ∉ t := (List.nodup_cons.mp nd).1
  have s1 := OwnAll.step g ot fun b m => ⟨OwnAll.inU ot b m, fun u hu => by rw [upd_ne fun e => nat' (by rw [← e]; exact m)]; exact hu⟩
  have s2 := Own.step g o1 fun b m => ⟨o1.inU b m, fun u hu => by rw [upd_ne fun e => dj b m (by rw [e]; exact List.mem_cons_self)]; exact hu⟩
  have s3 := s1.append (OwnAll.cons s2 .nil)
  rw [List.append_nil] at s3
  refine ⟨xs, ha, ot.length, ⟨.lst ua upd_same s3, fun b m => ?_, ?_⟩, List.mem_cons_self, ua⟩
  · rcases List.mem_append.mp m with m | m
    · exact nw b m
    · exact nw1 b m
  · exact List.nodup_append.mpr ⟨nd, nd1, fun x hx y hy e => dj y hy (by rw [← e]; exact hx)⟩
theorem Rel.kill0 {K : PySem.W.Frag} {I : Ini} {fl : List Fg} {vs : List Nat} {U : Addr → Prop} {rs : Rs} {r : Env} {s s' : St} {H : Hp} (R : Rel K I fl U rs r s H) (hf : ∀ i ∈ vs, fgAt fl i = .ow 0) (hl : s'.length = s.length) (hs : ∀ j, j ∉ vs → s'[j]? = s[j]?) : Rel K I fl U rs (kill vs r) s' H := by
  refine ⟨by rw [kill_len, hl]; exact R.len, by rw [kill_len]; exact R.fln, R.sub, R.nd, R.dis, R.st, R.iu, R.iw, R.ul, fun i => ?_, fun i h => ?_⟩
  · have sl := R.sl i
    by_cases m : i ∈ vs
    · rw [getS_kill_in m]
      revert sl
      rw [hf i m]
      cases getS r i with
      | none => exact fun h => h
      | some d =>
        rintro ⟨v, hv, sl⟩
        exact (Own.to0 sl).2
    · rw [getS_kill_out m]
      have e : stS s' i = stS s i := by unfold stS; rw [hs i m]
      rw [e]; exact sl
  · by_cases m : i ∈ vs
    · rw [hf i m] at h; cases h
    · rw [hs i m]; exact R.pin i h
/-- a list that no name has is changed -/
theorem Rel.updT {K : PySem.W.Frag} {I : Ini} {fl : List Fg} {U : Addr → Prop} {rs : Rs} {r : Env} {s : St} {H : Hp} {a : Addr} {o o' : HO} (R : Rel K I fl U rs r s H) (ua : U a) (na : ¬ Wr rs a) (ha : H a = some o) (mu : Mut (some o)) (hn : TN I a) : Rel K I fl U rs r s (upd H a o') := by
  have g : Grow U H U (upd H a o') := ⟨fun b u h n => by rw [upd_ne fun e => n (by rw [e]; exact ua)]; exact h, fun b u h m => by rw [upd_ne fun e => m (by rw [e, ha] at h; cases h; exact mu)]; exact h, fun _ u => .inl u⟩
  have gt : Grow (TN I) H (TN I) (upd H a o') := ⟨fun b u h n => by rw [upd_ne fun e => n (by rw [e]; exact hn)]; exact h, g.fix, fun _ u => .inl u⟩
  refine ⟨R.len, R.fln, R.sub, R.nd, R.dis, ⟨fun b u h n => ?_, fun b u h m => g.fix b u (R.st.fix b u h m) m, fun b h => ?_, R.st.out, R.st.kin, R.st.win⟩, R.iu, R.iw, fun b u => ?_, fun i => ?_, R.pin⟩
  · have : b ≠ a := fun e => by
      rcases hn with z | z
      · exact n (by rw [e]; exact z)
      · rw [e, z] at h; cases h
    rw [upd_ne this]; exact R.st.keep b u h n
  · by_cases e : b = a
    · rw [e, upd_same] at h; cases h
    · rw [upd_ne e] at h; exact R.st.live b h
  · by_cases e : b = a
    · rw [e, upd_same]; exact fun z => by cases z
    · rw [upd_ne e]; exact R.ul b u
  · have sl := R.sl i
    revert sl
    cases getS r i with
    | none => exact fun h => h
    | some d =>
      rintro ⟨v, hv, sl⟩
      refine ⟨v, hv, ?_⟩
      cases hg : fgAt fl i with
      | b1 => rw [hg] at sl; exact ⟨E1.step g gt sl.1, sl.2⟩
      | lk => rw [hg] at sl; exact ⟨E1.step g gt sl.1, sl.2⟩
      | fz => rw [hg] at sl; exact ⟨sl.1.grow g, sl.2⟩
      | ow n => rw [hg] at sl; exact Own.step g sl fun b mb => ⟨Own.inU sl b mb, fun u h => by rw [upd_ne fun e => na ⟨i, by rw [← e]; exact mb⟩]; exact h⟩
      | io n => rw [hg] at sl; exact Own.step g sl fun b mb => ⟨Own.inU sl b mb, fun u h => by rw [upd_ne fun e => na ⟨i, by rw [← e]; exact mb⟩]; exact h⟩

/-! ### one clause's walk -/
def Loop (J : It) (g : TG) (tt : TT) (B : St → Hp → (Hp → Prop) → Prop) (Fin : Hp → Prop) (σ : St) (vs : List Nat) (H0 : Hp) : Prop := ∃ W : Nat → Nat → Hp → Prop, (∃ m, W 0 m H0) ∧ ∀ i m H, W i m H →
  (J.stop i H ∧ Fin H) ∨ (J.go i H ∧ ∃ Nx : Hp → Prop, (∀ H', Nx H' → ∃ m', m' < m ∧ W (i + 1) m' H') ∧ ∀ x H', J.yld i H x H' → g x (wipe σ vs) H' fun σ2 H2 => wipe σ2 vs = wipe σ vs ∧ tt σ2 H2 fun b H3 => if b = true then B σ2 H3 Nx else Nx H3)
/-- what stands behind an item of the new list -/
structure LcInv (K : PySem.W.Frag) (I : Ini) (F : List Fg) (n : Nat) (D0 : Addr) (U : Addr → Prop) (rs : Rs) (H : Hp) (q : List Addr) (pu : Bool) (r' : Env) (s' : St) (acc' : List D) (U' : Addr → Prop) (rs' : Rs) (H' : Hp) (q' : List Addr) : Prop where
  rel : Rel K I F U' rs' r' s' H'
  st : Step U (fun b => Wr rs b ∨ b ∈ q) H U' (fun b => Wr rs' b ∨ b ∈ q') H'
  pur : pu = true → Step U (fun b => b ∈ q) H U' (fun b => b ∈ q') H' ∧ rs' = rs
  val : Val K U' (Wr rs') (TN I) H' (.own (n + 1)) (.list acc') (.ref D0) q'
  ti : ∀ b ∈ q', TN I b
def BodyOk (K : PySem.W.Frag) (F : List Fg) (vb : List Nat) (bd : List D → Env → R (List D)) (n : Nat) (pu one : Bool) (D0 : Addr) (B : St → Hp → (Hp → Prop) → Prop) : Prop :=
  ∀ {I : Ini} {U : Addr → Prop} {rs : Rs} {r : Env} {s : St} {H : Hp} {acc : List D} {q : List Addr} {acc' : List D} {r' : Env} {Nx : Hp → Prop}, Rel K I F U rs r s H → Val K U (Wr rs) (TN I) H (.own (n + 1)) (.list acc) (.ref D0) q → (∀ b ∈ q, TN I b) → (one = true → acc.length < line) → bd acc r = .ok acc' r' →
    (∀ U' rs' s' H' q', LcInv K I F n D0 U rs H q pu r' s' acc' U' rs' H' q' → (∀ j, j ∉ vb → s'[j]? = s[j]?) → s'.length = s.length → (one = true → acc'.length = acc.length + 1) → Nx H') → B s H Nx
section
variable {K : PySem.W.Frag} {F : List Fg} {I : Ini} {U0 : Addr → Prop} {rs0 : Rs} {H0 : Hp} {q0 : List Addr} {n : Nat} {D0 : Addr}
theorem lc_loop {J : It} {t : Tg} {c : SB} {bd : List D → Env → R (List D)} {vs vb : List Nat} {pc pb pe one : Bool} {B : St → Hp → (Hp → Prop) → Prop} {Fin : Hp → Prop} {σ : St} {r : Env} {ds acc ys : List D} {rf : Env}
    (hF : ∀ i ∈ vs, fgAt F i = .ow 0) (ht : ∀ i ∈ t.sl, i ∈ vs) (hvb : ∀ i ∈ vb, i ∈ vs) (hb : BodyOk K F vb bd n pb one D0 B) (hpe : pe = true → pc = true ∧ pb = true)
    (R : Rel K I F U0 rs0 (kill vs r) (wipe σ vs) H0) (V : Val K U0 (Wr rs0) (TN I) H0 (.own (n + 1)) (.list acc) (.ref D0) q0) (T : ∀ b ∈ q0, TN I b) (wk : Walks K U0 (fun b => (pe = false ∧ Wr rs0 b) ∨ b ∈ q0) H0 J ds)
    (hone : one = true → acc.length + ds.length ≤ line) (hl : lcG t c bd vs ds acc r = .ok ys rf)
    (fin : ∀ U' rs' H' q', LcInv K I F n D0 U0 rs0 H0 q0 (pc && pb) (kill vs rf) (wipe σ vs) ys U' rs' H' q' → Fin H') : Loop J (tJG K F t F) (tJT K F c pc) B Fin σ vs H0 := by
  refine ⟨fun i m H2 => m = ds.length - i ∧ i ≤ ds.length ∧ ∃ U2 rs2 r2 acc2 q2, LcInv K I F n D0 U0 rs0 H0 q0 (pc && pb) (kill vs r2) (wipe σ vs) acc2 U2 rs2 H2 q2 ∧ (one = true → acc2.length + (ds.length - i) ≤ line) ∧ lcG t c bd vs (ds.drop i) acc2 r2 = .ok ys rf,
    ⟨ds.length, rfl, Nat.zero_le _, U0, rs0, r, acc, q0, ⟨R, .refl, fun _ => ⟨.refl, rfl⟩, V, T⟩, hone, hl⟩, ?_⟩
  rintro i m H2 ⟨rfl, hi, U2, rs2, r2, acc2, q2, L, ho, hl⟩
  have Sw : Step U0 (fun b => (pe = false ∧ Wr rs0 b) ∨ b ∈ q0) H0 U2 (fun b => (pe = false ∧ Wr rs2 b) ∨ b ∈ q2) H2 := by
    cases pe with
    | false =>
      have z := L.st
      exact ⟨fun b o h w => z.keep b o h fun w' => w (w'.elim (fun w => .inl ⟨rfl, w⟩) .inr), z.fix, z.live, z.out, fun b u w => z.kin b u fun w' => w (w'.elim (fun w => .inl ⟨rfl, w⟩) .inr), fun b w => (z.win b (w.elim (fun w => .inl w.2) .inr)).elim (fun w => .inl (w.elim (fun w => .inl ⟨rfl, w⟩) .inr)) .inr⟩
    | true =>
      have z := (L.pur (by rw [(hpe rfl).1, (hpe rfl).2]; rfl)).1
      exact ⟨fun b o h w => z.keep b o h fun w' => w (.inr w'), z.fix, z.live, z.out, fun b u w => z.kin b u fun w' => w (.inr w'), fun b w => (z.win b (w.elim (fun w => by cases w.1) id)).elim (fun w => .inl (.inr w)) .inr⟩
  obtain ⟨wi, ws⟩ := wk U2 _ H2 Sw
  have Ri := L.rel
  by_cases hlt : i < ds.length
  · have hd : ds[i]? = some ds[i] := List.getElem?_eq_getElem hlt
    obtain ⟨go, yl⟩ := wi i _ hd
    rw [List.drop_eq_getElem_cons hlt] at hl
    unfold lcG at hl
    refine .inr ⟨go, fun H3 => ∃ U3 rs3 r3 acc3 q3, LcInv K I F n D0 U0 rs0 H0 q0 (pc && pb) (kill vs r3) (wipe σ vs) acc3 U3 rs3 H3 q3 ∧ (one = true → acc3.length + (ds.length - (i + 1)) ≤ line) ∧ lcG t c bd vs (ds.drop (i + 1)) acc3 r3 = .ok ys rf,
      fun H3 ⟨U3, rs3, r3, acc3, q3, i3, a3, h3⟩ => ⟨ds.length - (i + 1), by omega, rfl, hlt, U3, rs3, r3, acc3, q3, i3, a3, h3⟩, fun x H3 y => ?_⟩
    obtain ⟨rfl, ex⟩ := yl x H3 y
    cases hput : t.put ds[i] (kill vs r2) with
    | none => rw [hput] at hl; cases hl
    | some r3 =>
      rw [hput] at hl
      obtain ⟨b, r4, e4, hl⟩ := of_bind hl
      refine ⟨I, U2, rs2, kill vs r2, ds[i], r3, Ri, ex, hput, fun rs3 s3 R3 wr3 hs3 hrs3 => ?_⟩
      have hs3l : s3.length = (wipe σ vs).length := by
        rw [← R3.len, ← Ri.len]
        rw [← R3.fln, ← Ri.fln]
      have hs3' : ∀ j, j ∉ vs → s3[j]? = (wipe σ vs)[j]? := fun j hj => hs3 j fun m => hj (ht j m)
      have hw3 : wipe s3 vs = wipe σ vs := (wipe_eq hs3l hs3').trans wipe_idem
      refine ⟨hw3, I, U2, rs3, r3, b, r4, R3, e4, fun U4 rs4 H4 A4 => ?_⟩
      have e32 : rs3 = rs2 := funext fun j => by
        by_cases hj : j ∈ vs
        · have e3 : rs3 j = [] := by
            have sl := R3.sl j
            rw [hF j hj] at sl
            revert sl
            cases getS r3 j with
            | none => exact fun h => h
            | some d => rintro ⟨v, hv, sl⟩; exact (Own.to0 sl).2
          have e2 : rs2 j = [] := by
            have sl := Ri.sl j
            rw [getS_kill_in hj] at sl
            exact sl
          rw [e3, e2]
        · exact hrs3 j fun m => hj (ht j m)
      subst e32
      have V4 : Val K U4 (Wr rs4) (TN I) H4 (.own (n + 1)) (.list acc2) (.ref D0) q2 := L.val.step Ri.sub Ri.wt A4.st rfl
      have wid : Step U2 (fun b => Wr rs3 b ∨ b ∈ q2) H3 U4 (fun b => Wr rs4 b ∨ b ∈ q2) H4 := by
        have z := A4.st
        exact ⟨fun b o h w => z.keep b o h fun w' => w (.inl w'), z.fix, z.live, z.out, fun b u w => z.kin b u fun w' => w (.inl w'), fun b w => w.elim (fun w => (z.win b w).elim (fun w => .inl (.inl w)) .inr) fun w => .inl (.inr w)⟩
      have widp : pc = true → Step U2 (fun b => b ∈ q2) H3 U4 (fun b => b ∈ q2) H4 ∧ rs4 = rs3 := fun h => by
        obtain ⟨f, e⟩ := A4.pur h
        exact ⟨f.step, e⟩
      have S4 := L.st.trans R.ul wid
      have P4 : (pc && pb) = true → Step U0 (fun b => b ∈ q0) H0 U4 (fun b => b ∈ q2) H4 ∧ rs4 = rs0 := fun h => by
        obtain ⟨a, e⟩ := L.pur h
        obtain ⟨a', e'⟩ := widp (Bool.and_eq_true_iff.mp h).1
        exact ⟨a.trans R.ul a', e'.trans e⟩
      cases b with
      | false =>
        simp only [Bool.false_eq_true, if_false] at hl ⊢
        exact ⟨U4, rs4, r4, acc2, q2, ⟨A4.rel.kill0 hF (by rw [hs3l]) fun j hj => (hs3' j hj).symm, S4, P4, V4, L.ti⟩, fun h => by have := ho h; omega, hl⟩
      | true =>
        simp only [if_true] at hl ⊢
        obtain ⟨acc3, r5, e5, hl⟩ := of_bind hl
        refine hb A4.rel V4 L.ti (fun h => by have := ho h; omega) e5 fun U5 rs5 s5 H5 q5 L5 hs5 hl5 ho5 => ?_
        refine ⟨U5, rs5, r5, acc3, q5, ⟨L5.rel.kill0 hF (by rw [hl5, hs3l]) fun j hj => ?_, S4.trans R.ul L5.st, fun h => ?_, L5.val, L5.ti⟩, fun h => by have := ho h; have := ho5 h; omega, hl⟩
        · rw [hs5 j fun m => hj (hvb j m), hs3' j hj]
        · obtain ⟨a, e⟩ := P4 h
          obtain ⟨a', e'⟩ := L5.pur (Bool.and_eq_true_iff.mp h).2
          exact ⟨a.trans R.ul a', e'.trans e⟩
  · have e : i = ds.length := by omega
    subst e
    rw [List.drop_length] at hl
    cases hl
    exact .inl ⟨ws, fin U2 rs2 H2 q2 L⟩
/-- an item more -/
theorem body_one {s : SE} {pe : Bool} : BodyOk K F [] (lcE s) n pe true D0 (fun σ H Nx => tJ K F s (.own n) pe σ H fun y H4 => ∃ acc, H4 D0 = some (.lst acc) ∧ acc.length < sizeLine ∧ Nx (upd H4 D0 (.lst (acc ++ [y])))) := by
  intro I U rs r st H acc q acc' r' Nx R V T ho hb k
  obtain ⟨y, r1, e1, hb⟩ := of_bind hb
  cases hb
  refine ⟨I, U, rs, r, y, _, R, e1, fun U5 rs5 H5 v q1 A V5 => ?_⟩
  have V4 := V.step R.sub R.wt A.st rfl
  have dj : ∀ b ∈ q1, b ∉ q := fun b h1 h2 => by
    obtain ⟨nw, nn⟩ := V.ownd b h2
    rcases A.new b h1 with z | z
    · exact nw z
    · exact nn z
  obtain ⟨xs, hxs, hxl, V6, mD, uD⟩ := val_push V4 V5 dj
  have nD := V4.ownd D0 mD
  have nD0 := V.ownd D0 mD
  have tq : ∀ b ∈ q1, TN I b := fun b m => by
    rcases A.new b m with z | z
    · exact R.wt b z
    · exact .inr (R.st.live b z)
  have live : ∀ b, upd H5 D0 (.lst (xs ++ [v])) b = none → H b = none := fun b h => by
    by_cases e : b = D0
    · rw [e, upd_same] at h; cases h
    · rw [upd_ne e] at h; exact A.st.live b h
  have fix : ∀ b o, H b = some o → ¬ Mut (some o) → upd H5 D0 (.lst (xs ++ [v])) b = some o := fun b o h m => by
    have h5 := A.st.fix b o h m
    by_cases e : b = D0
    · rw [e, hxs] at h5
      cases h5
      exact absurd trivial m
    · rw [upd_ne e]; exact h5
  refine ⟨xs, hxs, by rw [hxl, ← line_eq]; exact ho rfl, k U5 rs5 st (upd H5 D0 (.lst (xs ++ [v]))) (q ++ q1) ⟨A.rel.updT uD nD.1 hxs trivial (T D0 mD), ⟨fun b o h w => ?_, fix, live, A.st.out, fun b u w => A.st.kin b u fun w' => w (.inl w'), fun b w => ?_⟩, fun h => ?_, V6, fun b m => (List.mem_append.mp m).elim (T b) (tq b)⟩ (fun _ _ => rfl) rfl fun _ => by rw [List.length_append]; rfl⟩
  · rw [upd_ne fun e => w (.inr (by rw [e]; exact mD))]
    exact A.st.keep b o h fun w' => w (.inl w')
  · rcases w with w | w
    · exact (A.st.win b w).elim (fun w => .inl (.inl w)) .inr
    · rcases List.mem_append.mp w with w | w
      · exact .inl (.inr w)
      · rcases A.new b w with z | z
        · exact .inl (.inl z)
        · exact .inr z
  · obtain ⟨f, e⟩ := A.pur h
    refine ⟨⟨fun b o h w => ?_, fix, live, f.out, fun b u _ => f.inc b u, fun b w => ?_⟩, e⟩
    · rw [upd_ne fun e => w (by rw [e]; exact mD)]
      exact f.all b o h
    · rcases List.mem_append.mp w with w | w
      · exact .inl w
      · rcases A.new b w with z | z
        · exact absurd z (by
            intro z
            have := (V5.ownd b w).1
            rw [e] at this
            exact this z)
        · exact .inr z
/-- a further clause -/
theorem body_in {t : Tg} {a : SI} {c : SB} {bd : List D → Env → R (List D)} {vs vb : List Nat} {pi pc pb one : Bool} {B : St → Hp → (Hp → Prop) → Prop}
    (hF : ∀ i ∈ vs, fgAt F i = .ow 0) (ht : ∀ i ∈ t.sl, i ∈ vs) (hvb : ∀ i ∈ vb, i ∈ vs) (hb : BodyOk K F vb bd n pb one D0 B) : BodyOk K F vs (lcI t a c bd vs) n (pi && (pc && pb)) false D0 (fun σ H Nx => tJI K F a pi (pc && pb) σ H fun J1 H4 => Loop J1 (tJG K F t F) (tJT K F c pc) B Nx σ vs H4) := by
  intro I U rs r st H acc q acc' r' Nx R V T ho hl k
  obtain ⟨ds, r1, e1, hl⟩ := of_bind hl
  split at hl
  · rename_i hz
    obtain ⟨ys, rf, ef, hl⟩ := of_bind hl
    cases hl
    refine ⟨I, U, rs, r, ds, r1, R, e1, fun U1 rs1 H1 J A _ wk => ?_⟩
    have V1 := V.step R.sub R.wt A.st rfl
    have R1 := A.rel.kill0 hF (wipe_length st vs) fun j hj => wipe_at hj
    have nq : ∀ b ∈ q, U1 b ∧ TN I b ∧ ¬ Wr rs1 b := fun b m => ⟨V1.1.inU b m, T b m, (V1.ownd b m).1⟩
    refine lc_loop hF ht hvb hb (fun h => Bool.and_eq_true_iff.mp h) R1 V1 T (wk q nq) (fun _ => hz) ef fun U2 rs2 H2 q2 L => ?_
    have S1 : Step U (fun b => Wr rs b ∨ b ∈ q) H U1 (fun b => Wr rs1 b ∨ b ∈ q) H1 := by
      have z := A.st
      exact ⟨fun b o h w => z.keep b o h fun w' => w (.inl w'), z.fix, z.live, z.out, fun b u w => z.kin b u fun w' => w (.inl w'), fun b w => w.elim (fun w => (z.win b w).elim (fun w => .inl (.inl w)) .inr) fun w => .inl (.inr w)⟩
    refine k U2 rs2 _ H2 q2 ⟨L.rel, S1.trans R.ul L.st, fun h => ?_, L.val, L.ti⟩ (fun j hj => wipe_at hj) (wipe_length st vs) fun h => by cases h
    rw [Bool.and_eq_true] at h
    obtain ⟨f, e⟩ := A.pur h.1
    obtain ⟨a', e'⟩ := L.pur h.2
    exact ⟨(Fresh.step f).trans R.ul a', e'.trans e⟩
  · cases hl
end
section
variable {X : Cx} {fl : List Fg} {tg it elt tg1 it1 : Expr}
/-- behind the whole -/
theorem lc_top {K : PySem.W.Frag} {vs vb : List Nat} {t : Tg} {a : SI} {c : SB} {bd : List D → Env → R (List D)} {n : Nat} {pi pc pb one : Bool} {B : Addr → St → Hp → (Hp → Prop) → Prop} (hx : vs.all (fun i => !fixed (fgAt fl i)) = true) (ht : t.sl.all (fun i => vs.contains i) = true) (hvb : ∀ i ∈ vb, i ∈ vs)
    (hb : ∀ D0, BodyOk K (blkF vs fl) vb bd n pb one D0 (B D0)) {st : St} {H : Hp} {Q : VK} (h : tJ K fl (sLc t a c bd vs) (.own (n + 1)) (pi && (pc && pb)) st H Q) :
    tJI K fl a pi (pc && pb) st H fun J H1 => ∀ D0, H1 D0 = none → Loop J (tJG K (blkF vs fl) t (blkF vs fl)) (tJT K (blkF vs fl) c pc) (B D0) (fun H => Q (.ref D0) H) st vs (upd H1 D0 (.lst [])) := by
  have hx' : ∀ i ∈ vs, fixed (fgAt fl i) = false := fun i m => by simpa using List.all_eq_true.mp hx i m
  have ht' : ∀ i ∈ t.sl, i ∈ vs := fun i m => by simpa using List.all_eq_true.mp ht i m
  obtain ⟨I, U, rs, r, d, r', R, h, k⟩ := h
  obtain ⟨ds, r1, e1, h⟩ := of_bind h
  obtain ⟨ys, rf, ef, h⟩ := of_bind h
  cases h
  refine ⟨I, U, rs, r, ds, r1, R, e1, fun U1 rs1 H1 J A hz wk D0 hD => ?_⟩
  have f := Fresh.newU (U := U1) (.lst []) hD
  have R2 := A.rel.fresh f (ul_new A.rel.ul)
  obtain ⟨Rb, Sb⟩ := R2.into vs hx'
  have nwD : ¬ Wr rs1 D0 := fun z => A.rel.ul D0 (A.rel.sub D0 z) hD
  have w0 : ∀ b, (Wr fun i => if i ∈ vs then [] else rs1 i) b → Wr rs1 b := fun b ⟨i, m⟩ => by
    have m : b ∈ (if i ∈ vs then ([] : List Addr) else rs1 i) := m
    split at m
    · cases m
    · exact ⟨i, m⟩
  have tD : TN I D0 := .inr (R.st.live D0 (A.st.live D0 hD))
  have wk2 : Walks K (fun b => U1 b ∨ b = D0) (fun b => ((pc && pb) = false ∧ (Wr fun i => if i ∈ vs then [] else rs1 i) b) ∨ b ∈ [D0]) (upd H1 D0 (.lst [])) J ds := fun U2 W2 H2 S => by
    refine wk [] (fun _ m => by cases m) U2 W2 H2 ?_
    refine Step.trans A.rel.ul (U1 := fun b => U1 b ∨ b = D0) (W1 := fun b => ((pc && pb) = false ∧ (Wr fun i => if i ∈ vs then [] else rs1 i) b) ∨ b ∈ [D0]) ⟨fun b o h _ => f.all b o h, fun b o h _ => f.all b o h, f.live, f.out, fun b u _ => f.inc b u, fun b w => ?_⟩ S
    rcases w with w | w
    · exact .inl (.inl ⟨w.1, w0 b w.2⟩)
    · have e : b = D0 := by simpa using w
      exact .inr (by rw [e]; exact hD)
  refine lc_loop (pe := pc && pb) (fun i m => blkF_in m) ht' hvb (hb D0) (fun h => Bool.and_eq_true_iff.mp h) Rb ⟨.lst (.inr rfl) upd_same .nil, fun b m z => ?_, by simp⟩ (fun b m => ?_) wk2 (fun _ => by simpa using hz) ef fun U2 rs2 H2 q L => ?_
  · have e : b = D0 := by simpa using m
    exact nwD (by rw [← e]; exact w0 b z)
  · have e : b = D0 := by simpa using m
    rw [e]; exact tD
  · -- the end
    have Si : Step U1 (Wr fun i => if i ∈ vs then [] else rs1 i) H1 U2 (fun b => Wr rs2 b ∨ b ∈ q) H2 := by
      have z := L.st
      have ne : ∀ b o, H1 b = some o → b ≠ D0 := fun b o h e => by rw [e, hD] at h; cases h
      refine ⟨fun b o h w => z.keep b o (f.all b o h) fun w' => w'.elim w fun m => ne b o h (by simpa using m), fun b o h m => z.fix b o (f.all b o h) m, fun b h => f.live b (z.live b h), fun b u => ?_, fun b u w => z.kin b (f.inc b u) fun w' => w'.elim w fun m => ?_, fun b w => ?_⟩
      · rcases z.out b u with u | u
        · exact f.out b u
        · exact .inr (f.live b u)
      · have e : b = D0 := by simpa using m
        exact A.rel.ul b u (by rw [e]; exact hD)
      · rcases z.win b w with w | w
        · rcases w with w | w
          · exact .inl w
          · have e : b = D0 := by simpa using w
            exact .inr (by rw [e]; exact hD)
        · exact .inr (f.live b w)
    have Si' : Step U1 (Wr fun i => if i ∈ vs then [] else rs1 i) H1 U2 (Wr rs2) H2 := step_set Si fun b w => Si.win b (.inl w)
    obtain ⟨Ro, So⟩ := A.rel.outof L.rel hx' Si'
    have nq : ∀ b ∈ q, ¬ (Wr fun i => if i ∈ vs then rs1 i else rs2 i) b := fun b m ⟨j, mj⟩ => by
      have mj : b ∈ (if j ∈ vs then rs1 j else rs2 j) := mj
      split at mj
      · rename_i hj
        have hu := A.rel.ul b (A.rel.sub b ⟨j, mj⟩)
        rcases Si.win b (.inr m) with ⟨j2, m2⟩ | z
        · have m2 : b ∈ (if j2 ∈ vs then ([] : List Addr) else rs1 j2) := m2
          split at m2
          · cases m2
          · rename_i hj2
            have := A.rel.dis j2 j b m2 mj
            subst this
            exact hj2 hj
        · exact hu z
      · exact (L.val.ownd b m).1 ⟨j, mj⟩
    refine k U2 _ H2 _ q ⟨Ro, A.st.trans R.ul So, fun hp => ?_, fun b m => ?_⟩ ⟨L.val.1, nq, L.val.2.2⟩
    · rw [Bool.and_eq_true] at hp
      obtain ⟨F, e⟩ := L.pur hp.2
      obtain ⟨F0, e0⟩ := A.pur hp.1
      have F1 : Fresh U1 H1 U2 H2 := by
        have ne : ∀ b, H1 b ≠ none → b ∉ [D0] := fun b h m => by
          have e : b = D0 := by simpa using m
          rw [e] at h; exact h hD
        refine ⟨fun b o h => F.keep b o (f.all b o h) (ne b (by rw [h]; exact fun z => by cases z)), fun b u => F.kin b (f.inc b u) (ne b (A.rel.ul b u)), fun b u => ?_⟩
        rcases F.out b u with u | u
        · exact f.out b u
        · exact .inr (f.live b u)
      refine ⟨F0.trans F1, ?_⟩
      rw [← e0]
      funext j
      by_cases hj : j ∈ vs
      · rw [if_pos hj]
      · rw [if_neg hj, e]
        show (if j ∈ vs then ([] : List Addr) else rs1 j) = rs1 j
        rw [if_neg hj]
    · rcases Si.win b (.inr m) with z | z
      · exact A.st.win b (w0 b z)
      · exact .inr (A.st.live b z)
theorem je_lc {ifs : List Expr} {scope : Scope} {own : List (Str × Nat)} {pos : Pos} {t : Tg} {a : SI} {c : SB} {s : SE} {n : Nat} {pi pc pe : Bool} (hc : X.calm = true) (hN : X.N.Nodup) (hi : JI X fl tg it a pi (pc && pe)) (ok : BlkOk X.N X.env.scope scope own)
    (hx : (own.map (·.2)).all (fun i => !fixed (fgAt fl i)) = true) (ht : t.sl.all (fun i => (own.map (·.2)).contains i) = true)
    (hg : ∀ (s : Shared) (H : Hp) (C : Addr) (cl : List (Str × Addr)) (fp : List Addr), PG (X.blk s H scope (compEnvC scope cl C X.env) fp) tg (tJG X.K (blkF (own.map (·.2)) fl) t (blkF (own.map (·.2)) fl)))
    (hcs : ∀ (s : Shared) (H : Hp) (C : Addr) (cl : List (Str × Addr)) (fp : List Addr), PTs (X.blk s H scope (compEnvC scope cl C X.env) fp) ifs (tJT X.K (blkF (own.map (·.2)) fl) c pc))
    (he : ∀ (st : Shared) (H : Hp) (C : Addr) (cl : List (Str × Addr)) (fp : List Addr), PE (X.blk st H scope (compEnvC scope cl C X.env) fp) elt (tJ X.K (blkF (own.map (·.2)) fl) s (.own n) pe)) (hs : ∀ x, foldedSetIterable it X.env x = pure x := by intro _; rfl) :
    JE X fl (.ListComp elt [⟨tg, it, ifs, 0⟩] scope pos) (sLc t a c (lcE s) (own.map (·.2))) (.own (n + 1)) (pi && (pc && pe)) :=
  pe_mono (pe_lc hc hN hi ok hg hcs he hs) fun _ _ _ h => lc_top hx ht (fun _ m => by cases m) (fun _ => body_one) h
theorem je_lc2 {ifs ifs1 : List Expr} {scope : Scope} {own : List (Str × Nat)} {vs1 : List Nat} {pos : Pos} {t t1 : Tg} {a a1 : SI} {c c1 : SB} {s : SE} {n : Nat} {pi pc pi1 pc1 pe : Bool} (hc : X.calm = true) (hN : X.N.Nodup) (hi : JI X fl tg it a pi (pc && (pi1 && (pc1 && pe)))) (ok : BlkOk X.N X.env.scope scope own)
    (hv : ∀ i ∈ vs1, i ∈ own.map (·.2)) (hx : (own.map (·.2)).all (fun i => !fixed (fgAt fl i)) = true) (ht : t.sl.all (fun i => (own.map (·.2)).contains i) = true) (ht1 : ∀ i ∈ t1.sl, i ∈ vs1)
    (hg : ∀ (s : Shared) (H : Hp) (C : Addr) (cl : List (Str × Addr)) (fp : List Addr), PG (X.blk s H scope (compEnvC scope cl C X.env) fp) tg (tJG X.K (blkF (own.map (·.2)) fl) t (blkF (own.map (·.2)) fl)))
    (hcs : ∀ (s : Shared) (H : Hp) (C : Addr) (cl : List (Str × Addr)) (fp : List Addr), PTs (X.blk s H scope (compEnvC scope cl C X.env) fp) ifs (tJT X.K (blkF (own.map (·.2)) fl) c pc))
    (hi1 : ∀ (s : Shared) (H : Hp) (C : Addr) (cl : List (Str × Addr)) (fp : List Addr), PI (X.blk s H scope (compEnvC scope cl C X.env) fp) tg1 it1 (tJI X.K (blkF (own.map (·.2)) fl) a1 pi1 (pc1 && pe)))
    (hg1 : ∀ (s : Shared) (H : Hp) (C : Addr) (cl : List (Str × Addr)) (fp : List Addr), PG (X.blk s H scope (compEnvC scope cl C X.env) fp) tg1 (tJG X.K (blkF (own.map (·.2)) fl) t1 (blkF (own.map (·.2)) fl)))
    (hcs1 : ∀ (s : Shared) (H : Hp) (C : Addr) (cl : List (Str × Addr)) (fp : List Addr), PTs (X.blk s H scope (compEnvC scope cl C X.env) fp) ifs1 (tJT X.K (blkF (own.map (·.2)) fl) c1 pc1))
    (he : ∀ (st : Shared) (H : Hp) (C : Addr) (cl : List (Str × Addr)) (fp : List Addr), PE (X.blk st H scope (compEnvC scope cl C X.env) fp) elt (tJ X.K (blkF (own.map (·.2)) fl) s (.own n) pe)) (hs : ∀ x, foldedSetIterable it X.env x = pure x := by intro _; rfl) (hs1 : ∀ env x, foldedSetIterable it1 env x = pure x := by intro _ _; rfl) :
    JE X fl (.ListComp elt [⟨tg, it, ifs, 0⟩, ⟨tg1, it1, ifs1, 0⟩] scope pos) (sLc t a c (lcI t1 a1 c1 (lcE s) vs1) (own.map (·.2))) (.own (n + 1)) (pi && (pc && (pi1 && (pc1 && pe)))) :=
  pe_mono (pe_lc2 hc hN hi ok hv hg hcs hi1 hg1 hcs1 he hs hs1) fun _ _ _ h => lc_top hx ht hv (fun _ => body_in (fun i m => blkF_in (hv i m)) ht1 (fun _ m => by cases m) body_one) h
end
end J

set_option Elab.async false
set_option linter.all false
set_option maxRecDepth 100000
/-! JDic: dicts that a name holds: display, d[k], d[k] = v, in. -/
namespace J
open PySem L2
open PyProof.Rows (tail_any)

def dkey : D → Option Key
  | .int i => some (.inl i)
  | .str x => some (.inr x)
  | _ => none
def dFind (kds : List (D × D)) (k : Key) : Option D := (kds.find? fun p => decide (dkey p.1 = some k)).map (·.2)
def dStore (kds : List (D × D)) (k : Key) (d : D) : List (D × D) :=
  if (kds.any fun p => decide (dkey p.1 = some k)) = true then kds.map (fun p => if dkey p.1 = some k then (p.1, d) else p) else kds ++ [(keyD k, d)]
def dGetD : D → D → Option D
  | .dict kds, y => (dkey y).bind fun k => dFind kds k
  | _, _ => none
def dInD : D → D → Option D
  | y, .dict kds => (dkey y).map fun k => .bool (dFind kds k).isSome
  | _, _ => none
def dNinD : D → D → Option D
  | y, .dict kds => (dkey y).map fun k => .bool (!(dFind kds k).isSome)
  | _, _ => none
def dictOf : D → Option (List (D × D))
  | .dict xs => some xs
  | _ => none
def getD (r : Env) (i : Nat) : Option (List (D × D)) := match getS r i with
  | some d => dictOf d
  | none => none
/-- d[k] = v -/
def sDPut (i : Nat) (k v : SE) : SS := fun r => (v r).bind fun x r1 => match getD r1 i with
  | none => .no
  | some _ => (k r1).bind fun z r2 => match dkey z, getD r2 i with
    | some z, some xs => if xs.length < line then .ok .nx (r2.set i (some (.dict (dStore xs z x)))) else .no
    | _, _ => .no
def sKvs : List (Key × SE) → Env → R (List (Key × D))
  | [], r => .ok [] r
  | (k, e) :: ps, r => (e r).bind fun d r1 => (sKvs ps r1).bind fun ds r2 => .ok ((k, d) :: ds) r2
def dMerge (kds : List (D × D)) (more : List (Key × D)) : List (D × D) := more.foldl (fun acc kv => dStore acc kv.1 kv.2) kds
def sDic (ps : List (Key × SE)) : SE := fun r => (sKvs ps r).bind fun kds r1 => .ok (.dict (dMerge [] kds)) r1

theorem dkey_keyD (k : Key) : dkey (keyD k) = some k := by cases k <;> rfl
theorem kV_of {K : PySem.W.Frag} {U : Addr → Prop} {H : Hp} {d : D} {v : V} {k : Key} (e : En K U H d v) (h : dkey d = some k) : v = kV k := by
  cases e <;> simp [dkey] at h <;> subst h <;> rfl
section
variable {K : PySem.W.Frag} {U : Addr → Prop} {H : Hp}
theorem EnKv.find {k : Key} : ∀ {kds : List (D × D)} {kvs : List (Key × V)}, EnKv K U H kds kvs → (∀ d, dFind kds k = some d → ∃ v, valV kvs k = some v ∧ En K U H d v) ∧ (dFind kds k = none → valV kvs k = none)
  | _, _, .nil => ⟨fun d h => by simp [dFind] at h, fun _ => rfl⟩
  | _, _, .cons (k := k') (d := d) (v := v) (ds := ds) (vs := vs) e t => by
    obtain ⟨h1, h2⟩ := EnKv.find (k := k) t
    by_cases ek : k' = k
    · have a : dFind ((keyD k', d) :: ds) k = some d := by simp [dFind, List.find?_cons, dkey_keyD, ek]
      have b : valV ((k', v) :: vs) k = some v := valV_pos (p := (k', v)) ek
      rw [a, b]
      exact ⟨fun x hx => ⟨v, rfl, by cases hx; exact e⟩, fun h => by cases h⟩
    · have a : dFind ((keyD k', d) :: ds) k = dFind ds k := by simp [dFind, List.find?_cons, dkey_keyD, ek]
      have b : valV ((k', v) :: vs) k = valV vs k := valV_neg (p := (k', v)) ek
      rw [a, b]
      exact ⟨h1, h2⟩
theorem EnKv.isSome {k : Key} {kds : List (D × D)} {kvs : List (Key × V)} (t : EnKv K U H kds kvs) : (valV kvs k).isSome = (dFind kds k).isSome := by
  obtain ⟨h1, h2⟩ := t.find (k := k)
  cases e : dFind kds k with
  | none => rw [h2 e]; rfl
  | some d => obtain ⟨v, hv, _⟩ := h1 d e; rw [hv]; rfl
theorem EnKv.any {k : Key} : ∀ {kds : List (D × D)} {kvs : List (Key × V)}, EnKv K U H kds kvs → (kds.any fun p => decide (dkey p.1 = some k)) = (kvs.any fun p => decide (p.1 = k))
  | _, _, .nil => rfl
  | _, _, .cons _ t => by rw [List.any_cons, List.any_cons, EnKv.any t, dkey_keyD]; simp
theorem EnKv.repl {k : Key} {d : D} {v : V} (e : En K U H d v) : ∀ {kds : List (D × D)} {kvs : List (Key × V)}, EnKv K U H kds kvs → EnKv K U H (kds.map fun p => if dkey p.1 = some k then (p.1, d) else p) (kvs.map fun p => if p.1 = k then (p.1, v) else p)
  | _, _, .nil => .nil
  | _, _, .cons (k := k') e' t => by
    rw [List.map_cons, List.map_cons, dkey_keyD]
    by_cases ek : k' = k
    · rw [if_pos (by rw [ek]), if_pos ek]; exact .cons e (EnKv.repl e t)
    · rw [if_neg fun z => ek (Option.some.inj z), if_neg ek]; exact .cons e' (EnKv.repl e t)
theorem EnKv.snoc {k : Key} {d : D} {v : V} (e : En K U H d v) : ∀ {kds : List (D × D)} {kvs : List (Key × V)}, EnKv K U H kds kvs → EnKv K U H (kds ++ [(keyD k, d)]) (kvs ++ [(k, v)])
  | _, _, .nil => .cons e .nil
  | _, _, .cons e' t => .cons e' (EnKv.snoc e t)
theorem EnKv.put {k : Key} {d : D} {v : V} {kds : List (D × D)} {kvs : List (Key × V)} (t : EnKv K U H kds kvs) (e : En K U H d v) : EnKv K U H (dStore kds k d) (putK kvs k v) := by
  unfold dStore putK
  rw [t.any]
  split
  · exact t.repl e
  · exact t.snoc e
theorem EnKv.len : ∀ {kds : List (D × D)} {kvs : List (Key × V)}, EnKv K U H kds kvs → kvs.length = kds.length
  | _, _, .nil => rfl
  | _, _, .cons _ t => by simp [EnKv.len t]
theorem keyD_inj {a b : Key} (h : keyD a = keyD b) : a = b := by
  have := congrArg dkey h
  rw [dkey_keyD, dkey_keyD] at this
  exact Option.some.inj this
theorem EnKv.inv {x : D × D} {ds : List (D × D)} {vs : List (Key × V)} (h : EnKv K U H (x :: ds) vs) : ∃ k v ws, vs = (k, v) :: ws ∧ x.1 = keyD k ∧ En K U H x.2 v ∧ EnKv K U H ds ws := by
  generalize hy : x :: ds = y at h
  cases h with
  | nil => cases hy
  | cons e t =>
    obtain ⟨h1, h2⟩ := List.cons.inj hy
    subst h1 h2
    exact ⟨_, _, _, rfl, rfl, e, t⟩
theorem EnKv.merge : ∀ {more : List (Key × D)} {vs : List (Key × V)} {kds : List (D × D)} {kvs : List (Key × V)}, EnKv K U H (more.map fun p => (keyD p.1, p.2)) vs → EnKv K U H kds kvs → EnKv K U H (dMerge kds more) (mergeK kvs vs)
  | [], vs, _, _, m, t => by
    cases vs with
    | nil => exact t
    | cons _ _ => exact nomatch m
  | (k, d) :: more, vs, kds, kvs, m, t => by
    obtain ⟨k', v, ws, rfl, ek, e, m'⟩ := EnKv.inv (x := (keyD k, d)) (ds := more.map fun p => (keyD p.1, p.2)) m
    have := keyD_inj ek
    subst this
    have z := EnKv.merge (more := more) m' (t.put (k := k) e)
    exact z
end

/-! ### d[k] -/
def rDG : R2 := fun x y H Q => ∃ a v, x = .ref a ∧ DGet H a y (some v) ∧ Q v H
section
variable {X : Cx} {C : SC} {fl fm fn : List Fg}
theorem ix_hd (hu : X.A.units + 1 < cLine) : IxR X rDG := by
  intro value slice pins s σ H x y v u Q I rx ry h hs
  obtain ⟨a, z, rfl, g, q⟩ := h
  obtain rfl : v = Value.ref a := rx
  exact tail_any (dict_typeIs I g) PySem.F.slot_dict_getitem.lookup (d_getItem hu I g ry fun w' s' I' rw' => ⟨z, H, I', rw', q⟩) hs
variable {K : PySem.W.Frag} {m1 m2 : Md} {n : Nat}
theorem oj_dget : OpJ K .r1 m2 (.own 0) dGetD rDG := by
  intro U W T H d1 d2 d v1 v2 q1 q2 Q hw hu V1 V2 hf k
  unfold dGetD at hf
  split at hf
  · obtain ⟨a, xs, rfl, ha, t⟩ := e1_dic V1.1
    cases ek : dkey d2 with
    | none => rw [ek] at hf; cases hf
    | some kk =>
      rw [ek] at hf
      obtain ⟨v, hv, e⟩ := t.find.1 d hf
      have := kV_of V2.en ek
      subst this
      exact ⟨a, v, rfl, by rw [← hv]; exact DGet.k ha, k U H v [] .refl hu (val_sh e) fun _ m => by cases m⟩
  · cases hf
theorem oj_dgeta : OpJ K .an m2 .an dGetD rDG := by
  intro U W T H d1 d2 d v1 v2 q1 q2 Q hw hu V1 V2 hf k
  unfold dGetD at hf
  split at hf
  · have e1 := V1.1
    cases e1 with
    | dic ha _ t =>
      rename_i a kds kvs
      cases ek : dkey d2 with
      | none => rw [ek] at hf; cases hf
      | some kk =>
        rw [ek] at hf
        obtain ⟨v, hv, e⟩ := t.find.1 d hf
        have := kV_of V2.en ek
        subst this
        exact ⟨_, v, rfl, by rw [← hv]; exact DGet.k ha, k U H v [] .refl hu ⟨e, rfl⟩ fun _ m => by cases m⟩
  · cases hf
/-- k in d -/
def rDIn (neg : Bool) : R2 := fun y x H Q => ∃ a o, x = .ref a ∧ DGet H a y o ∧ Q (.bl (if neg then !o.isSome else o.isSome)) H
theorem op_din (hu : X.A.units + 1 < cLine) : OpR X (compareOp .In) (rDIn false) := by
  intro pins s σ H y x u v Q I ry rx h
  obtain ⟨a, o, rfl, g, q⟩ := h
  obtain rfl : v = Value.ref a := rx
  exact d_in hu I g ry fun s' I' => ⟨.bl _, H, I', rfl, q⟩
theorem op_dnin (hu : X.A.units + 1 < cLine) : OpR X (compareOp .NotIn) (rDIn true) := by
  intro pins s σ H y x u v Q I ry rx h
  obtain ⟨a, o, rfl, g, q⟩ := h
  obtain rfl : v = Value.ref a := rx
  exact d_notIn hu I g ry fun s' I' => ⟨.bl _, H, I', rfl, q⟩
theorem en_dic {U : Addr → Prop} {H : Hp} {ds : List (D × D)} {v : V} (h : En K U H (.dict ds) v) : ∃ a xs, v = .ref a ∧ H a = some (.dK xs) ∧ EnKv K U H ds xs := by
  cases h with
  | dic s n t => exact ⟨_, _, rfl, s, t⟩
theorem oj_din : OpJ K m1 m2 (.own n) dInD (rDIn false) := opj_scal fun U W T H d1 d2 d v1 v2 q1 q2 V1 V2 h => by
  unfold dInD at h
  split at h
  · obtain ⟨a, xs, rfl, ha, t⟩ := en_dic V2.en
    cases ek : dkey d1 with
    | none => rw [ek] at h; cases h
    | some kk =>
      rw [ek] at h
      cases h
      have := kV_of V1.en ek
      subst this
      exact ⟨_, fun _ => .bl _, trivial, fun Q q => ⟨a, _, rfl, DGet.k ha, by rw [t.isSome]; exact q⟩⟩
  · cases h
theorem oj_dnin : OpJ K m1 m2 (.own n) dNinD (rDIn true) := opj_scal fun U W T H d1 d2 d v1 v2 q1 q2 V1 V2 h => by
  unfold dNinD at h
  split at h
  · obtain ⟨a, xs, rfl, ha, t⟩ := en_dic V2.en
    cases ek : dkey d1 with
    | none => rw [ek] at h; cases h
    | some kk =>
      rw [ek] at h
      cases h
      have := kV_of V1.en ek
      subst this
      exact ⟨_, fun _ => .bl _, trivial, fun Q q => ⟨a, _, rfl, DGet.k ha, by rw [t.isSome]; exact q⟩⟩
  · cases h

/-! ### d[k] = v -/
theorem of_getD {r : Env} {i : Nat} {xs : List (D × D)} (h : getD r i = some xs) : getS r i = some (.dict xs) := by
  unfold getD at h
  cases e : getS r i with
  | none => rw [e] at h; cases h
  | some d =>
    rw [e] at h
    cases d with
    | dict ys => cases h; rfl
    | _ => cases h
theorem own_dic {U : Addr → Prop} {H : Hp} {n : Nat} {ds : List (D × D)} {v : V} {q : List Addr} (o : Own K U H (n + 1) (.dict ds) v q) : ∃ a xs, v = .ref a ∧ U a ∧ H a = some (.dK xs) ∧ EnKv K U H ds xs ∧ q = [a] := by
  cases o with
  | sh _ z => exact z.elim (fun z => absurd z (Nat.succ_ne_zero n)) (fun z => z.elim)
  | dic u h t => exact ⟨_, _, rfl, u, h, t, rfl⟩
theorem Rel.rootD {I : Ini} {U : Addr → Prop} {rs : Rs} {r : Env} {s : St} {H : Hp} (R : Rel K I fl U rs r s H) {i n : Nat} {ds : List (D × D)} (hf : mine (fgAt fl i) (n + 1) = true) (h : getS r i = some (.dict ds)) :
    ∃ a xs, s[i]? = some (some (.ref a)) ∧ stS s i = some (.ref a) ∧ U a ∧ H a = some (.dK xs) ∧ EnKv K U H ds xs ∧ rs i = [a] := by
  obtain ⟨v, hv, sl⟩ := slot_v (R.sl i) h
  obtain ⟨a, xs, rfl, ua, ha, o, e⟩ := own_dic (slot_mine hf sl)
  refine ⟨a, xs, hv, ?_, ua, ha, o, e⟩
  unfold stS
  rw [hv]
  rfl
theorem js_dput {o e1 e : Expr} {i n : Nat} {b a : SE} {p1 p2 : Bool} {pos tpos : Pos} (hu : X.A.units + 1 < cLine) (he : JE X fl e a (.own 0) p1) (ho : PE X o (tVar i)) (hk : JE X fl e1 b (.own n) p2) (hf : mine (fgAt fl i) 1 = true)
    (hs : swapsWithSole [.Subscript o e1 tpos] e pos.line X.env = pure false := by rfl) (hw : swappedStores [.Subscript o e1 tpos] e X.env = pure none := by rfl)
    (h1 : (assignEach [.Subscript o e1 tpos] X.env).map (·.2) = [assign (.Subscript o e1 tpos) X.env] := by rfl)
    (ha : ∀ v, assign (.Subscript o e1 tpos) X.env v = (do
      let ov ← holding [v] (eval o X.env)
      let iv ← holding [v, ov] (eval e1 X.env)
      standAt tpos
      holding [v, ov, iv] (setItem ov iv v)
      release [v, ov, iv] []) := by intro _; rfl) : JS X C fl (.Assign [.Subscript o e1 tpos] e pos) (sDPut i b a) fl := by
  refine ps_mono (ps_asg he (pg_sub ho hk (set_dict hu) ha) hs hw h1) ?_
  rintro D s H ⟨I, U, rs, r, f', r', R, hs, k⟩
  obtain ⟨x, r1, e1, hs⟩ := of_bind hs
  cases g0 : getD r1 i with
  | none => rw [g0] at hs; cases hs
  | some xs0 =>
    rw [g0] at hs
    obtain ⟨z, r2, e2, hs⟩ := of_bind hs
    cases ek : dkey z with
    | none => rw [ek] at hs; cases hs
    | some kk =>
      rw [ek] at hs
      cases g : getD r2 i with
      | none => rw [g] at hs; cases hs
      | some xs =>
        rw [g] at hs
        simp only at hs
        split at hs
        · rename_i hl
          cases hs
          refine ⟨I, U, rs, r, x, r1, R, e1, fun U1 rs1 H1 v1 q1 A1 V1 => ?_⟩
          obtain ⟨ex, he1⟩ := V1.1.to0
          subst he1
          obtain ⟨a0, ys, hv, hst, ua, ha, o, er⟩ := A1.rel.rootD hf (of_getD g0)
          refine ⟨.ref a0, hv, I, U1, rs1, r1, z, r2, A1.rel, e2, fun U2 rs2 H2 v2 q2 A2 V2 => ?_⟩
          obtain ⟨a2, xs2, hv2, hst2, ua2, ha2, t, er2⟩ := A2.rel.rootD hf (of_getD g)
          have ea : a2 = a0 := by
            rw [hv] at hv2
            exact (V.ref.inj (Option.some.inj (Option.some.inj hv2))).symm
          subst ea
          have ex2 : En X.K U2 H2 x v1 := En.grow (A2.st.growU A1.rel.sub) ex
          have := kV_of V2.en ek
          subst this
          refine ⟨a2, _, rfl, DPut.k ha2 (by rw [← line_eq, t.len]; exact hl), ?_⟩
          have S0 : Grow U2 H2 U2 (upd H2 a2 (.dK (putK xs2 kk v1))) := ⟨fun b u h n => by rw [upd_ne fun e => n (by rw [e]; exact ua2)]; exact h, fun b u h m => by rw [upd_ne fun e => m (by rw [e, ha2] at h; cases h; trivial)]; exact h, fun _ u => .inl u⟩
          obtain ⟨R3, S3⟩ := A2.rel.write (t' := []) (d' := .dict (dStore xs kk x)) (o' := .dK (putK xs2 kk v1)) hf er2 ha2 trivial hst2 (.dic ua2 upd_same (EnKv.grow S0 (t.put ex2))) (by simp) fun _ m => by cases m
          have S := (A1.st.trans R.ul A2.st).trans R.ul S3
          refine k U2 _ s _ (step_set S fun b w => ?_) R3
          rcases wr_set w with w | w
          · exact S.win b w
          · have e : b = a2 := by simpa using w
            rw [e]
            exact S.win a2 ⟨i, by rw [er2]; exact List.mem_cons_self⟩
        · cases hs

/-! ### a display -/
def tK (K : PySem.W.Frag) (fl : List Fg) (ps : List (Key × SE)) : St → Hp → (List (V × V) → Hp → Prop) → Prop := fun st H Q => ∃ I U rs r kds r', Rel K I fl U rs r st H ∧ sKvs ps r = .ok kds r' ∧
  ∀ U' rs' H' kvs, Aft K I fl U rs H r' st false U' rs' H' [] → EnKv K U' H' (kds.map fun p => (keyD p.1, p.2)) kvs → Q (kvs.map fun kv => (kV kv.1, kv.2)) H'
structure JK (X : Cx) (fl : List Fg) (pos : Pos) (ks : List (Option Expr)) (es : List Expr) (ps : List (Key × SE)) : Prop where
  ok : ∃ trs, PPs X pos ks es trs ∧ ∀ σ H Q, tK X.K fl ps σ H Q → tPairs trs σ H Q
  len : ks.length = ps.length ∧ es.length = ps.length
  all : ks.all (·.isSome) = true
theorem jk_nil {pos : Pos} : JK X fl pos [] [] [] := ⟨⟨[], pps_nil, by
  rintro σ H Q ⟨I, U, rs, r, kds, r', R, hs, k⟩
  cases hs
  exact k U rs H [] (.refl R) .nil⟩, ⟨rfl, rfl⟩, rfl⟩
theorem jk_cons {pos : Pos} {ke e : Expr} {k : Key} {s : SE} {p : Bool} {ks : List (Option Expr)} {es : List Expr} {ps : List (Key × SE)} (hk : PE X ke (tC (kV k))) (he : JE X fl e s (.own 0) p) (hr : JK X fl pos ks es ps) : JK X fl pos (some ke :: ks) (e :: es) ((k, s) :: ps) := by
  obtain ⟨⟨trs, h1, h2⟩, ⟨l1, l2⟩, al⟩ := hr
  refine ⟨⟨_, pps_cons hk he h1, ?_⟩, ⟨by simp [l1], by simp [l2]⟩, by simpa using al⟩
  rintro σ H Q ⟨I, U, rs, r, kds, r', R, hs, c⟩
  obtain ⟨x, r1, e1, hs⟩ := of_bind hs
  obtain ⟨xs, r2, e2, hs⟩ := of_bind hs
  cases hs
  refine ⟨I, U, rs, r, x, r1, R, e1, fun U1 rs1 H1 v1 q1 A1 V1 => h2 _ _ _ ⟨I, U1, rs1, r1, xs, _, A1.rel, e2, fun U2 rs2 H2 kvs A2 V2 => ?_⟩⟩
  have V1' := V1.step A1.rel.sub A1.rel.wt A2.st rfl
  exact c U2 rs2 H2 ((k, v1) :: kvs) (((A1.trans R A2).less (p2 := false) fun h => by cases h).drop fun _ m => by cases m) (.cons V1'.1.to0.1 V2)
/-- a new object, tracked by nobody's name, is written -/
theorem Rel.over {I : Ini} {U : Addr → Prop} {rs : Rs} {r : Env} {s : St} {H : Hp} (R : Rel K I fl U rs r s H) {p : Addr} {o o' : HO} (hp : H p = some o) (hm : Mut (some o)) (hU : U p) (hW : ¬ Wr rs p) (hI : I.H p = none) : Rel K I fl U rs r s (upd H p o') := by
  have g : Grow U H U (upd H p o') := ⟨fun b u h n => by rw [upd_ne fun e => n (by rw [e]; exact hU)]; exact h, fun b u h m => by rw [upd_ne fun e => m (by rw [e, hp] at h; cases h; exact hm)]; exact h, fun _ u => .inl u⟩
  have gt : Grow (TN I) H (TN I) (upd H p o') := ⟨fun b u h n => by rw [upd_ne fun e => n (by rw [e]; exact .inr hI)]; exact h, g.fix, fun _ z => .inl z⟩
  refine ⟨R.len, R.fln, R.sub, R.nd, R.dis, ?_, R.iu, R.iw, fun b u => ?_, fun i => ?_, R.pin⟩
  · have ne : ∀ b o, I.H b = some o → b ≠ p := fun b o h e => by rw [e, hI] at h; cases h
    exact ⟨fun b o h n => by rw [upd_ne (ne b o h)]; exact R.st.keep b o h n, fun b o h m => by rw [upd_ne (ne b o h)]; exact R.st.fix b o h m, fun b h => by
      by_cases e : b = p
      · rw [e, upd_same] at h; cases h
      · rw [upd_ne e] at h; exact R.st.live b h, R.st.out, R.st.kin, R.st.win⟩
  · by_cases e : b = p
    · rw [e, upd_same]; exact fun z => by cases z
    · rw [upd_ne e]; exact R.ul b u
  · have sl := R.sl i
    revert sl
    cases getS r i with
    | none => exact fun h => h
    | some d =>
      rintro ⟨v, hv, sl⟩
      refine ⟨v, hv, ?_⟩
      have nin : ∀ b ∈ rs i, b ≠ p := fun b m e => hW (e ▸ ⟨i, m⟩)
      cases hg : fgAt fl i with
      | b1 => rw [hg] at sl; exact ⟨E1.step g gt sl.1, sl.2⟩
      | lk => rw [hg] at sl; exact ⟨E1.step g gt sl.1, sl.2⟩
      | fz => rw [hg] at sl; exact ⟨sl.1.grow g, sl.2⟩
      | ow m => rw [hg] at sl; exact Own.step g sl fun b mb => ⟨Own.inU sl b mb, fun u h => by rw [upd_ne (nin b mb)]; exact h⟩
      | io m => rw [hg] at sl; exact Own.step g sl fun b mb => ⟨Own.inU sl b mb, fun u h => by rw [upd_ne (nin b mb)]; exact h⟩
theorem EnKv.nil_of {U : Addr → Prop} {H : Hp} {kvs : List (Key × V)} (h : EnKv K U H [] kvs) : kvs = [] := by cases h; rfl
theorem je_dic {pos : Pos} {ks : List (Option Expr)} {es : List Expr} {ps : List (Key × SE)} (h : JK X fl pos ks es ps) (h0 : ps ≠ [] := by decide) (h15 : ps.length ≤ 15 := by decide) : JE X fl (.Dict ks es pos) (sDic ps) (.own 1) false := by
  obtain ⟨⟨trs, h1, h2⟩, ⟨l1, l2⟩, al⟩ := h
  refine pe_mono (pe_disp h1 al (l1.trans l2.symm) (fun e => h0 (List.eq_nil_of_length_eq_zero (by rw [← l1, e]; rfl))) (by rw [l1]; exact h15)) ?_
  rintro st H Q ⟨I, U, rs, r, d, r', R, hs, c⟩
  obtain ⟨kds, r1, e1, hs⟩ := of_bind hs
  cases hs
  intro p hp
  have f := Fresh.newU (U := U) (.dK []) hp
  have R1 := R.fresh f (ul_new R.ul)
  refine h2 _ _ _ ⟨I, _, rs, r, kds, _, R1, e1, fun U2 rs2 H2 kvs A V => ?_⟩
  have nw : ¬ Wr rs p := fun w => R.ul p (R.sub p w) hp
  have hp2 : H2 p = some (.dK []) := A.st.keep p _ upd_same nw
  have hu2 : U2 p := A.st.kin p (.inr rfl) nw
  have nw2 : ¬ Wr rs2 p := A.st.notW upd_same nw
  have hI : I.H p = none := R.st.live p hp
  have hlen : kvs.length = ps.length := by
    have a := V.len
    rw [List.length_map] at a
    rw [a]
    have : ∀ {ps : List (Key × SE)} {r r' : Env} {kds : List (Key × D)}, sKvs ps r = .ok kds r' → kds.length = ps.length := by
      intro ps
      induction ps with
      | nil => intro r r' kds h; cases h; rfl
      | cons q ps ih =>
        intro r r' kds h
        obtain ⟨k, e⟩ := q
        obtain ⟨x, r1, e1, h⟩ := of_bind h
        obtain ⟨xs, r2, e2, h⟩ := of_bind h
        cases h
        simp [ih e2]
    exact this e1
  refine ⟨hp2, kvs, rfl, by rw [hlen]; exact h15, ?_⟩
  have g : Grow U2 H2 U2 (upd H2 p (.dK (mergeK [] kvs))) := ⟨fun b u h n => by rw [upd_ne fun e => n (by rw [e]; exact hu2)]; exact h, fun b u h m => by rw [upd_ne fun e => m (by rw [e, hp2] at h; cases h; trivial)]; exact h, fun _ u => .inl u⟩
  have S2 : Step U (Wr rs) H U2 (Wr rs2) H2 := f.step.trans R.ul A.st
  refine c U2 rs2 _ (.ref p) [p] ⟨A.rel.over hp2 trivial hu2 nw2 hI, ⟨fun b o h n => ?_, fun b o h m => ?_, fun b h => ?_, S2.out, S2.kin, S2.win⟩, (fun z => by cases z), fun b m => ?_⟩ ⟨.dic hu2 upd_same (EnKv.grow g (EnKv.merge V .nil)), fun b m => ?_, by simp⟩
  · rw [upd_ne (ne_of_none h hp)]; exact S2.keep b o h n
  · rw [upd_ne (ne_of_none h hp)]; exact S2.fix b o h m
  · by_cases e : b = p
    · rw [e, upd_same] at h; cases h
    · rw [upd_ne e] at h; exact S2.live b h
  · have e : b = p := by simpa using m
    rw [e]; exact .inr hp
  · have e : b = p := by simpa using m
    rw [e]; exact nw2
end
end J

set_option Elab.async false
set_option linter.all false
set_option maxRecDepth 100000
/-! JFn: the built-ins by their values. -/
namespace J
open PySem L2

section
variable {K : PySem.W.Frag} {m1 m2 : Md} {n : Nat}
theorem fnj_scal {ms : List Md} {f : List D → Option D} {rr : List V → Hp → VK → Prop}
    (h : ∀ U W T H ds d vs q, ValA K U W T H ms ds vs q → f ds = some d → ∃ v, (∀ U', En K U' H d v) ∧ atom d ∧ ∀ Q : VK, Q v H → rr vs H Q) : FnJ K ms (.own n) f rr := by
  intro U W T H ds d vs q Q hw hu V hf k
  obtain ⟨v, e, a, g⟩ := h U W T H ds d vs q V hf
  exact g Q (k U H v [] .refl hu (val_scal (e U) a) fun _ m => by cases m)
theorem valL {U W T : Addr → Prop} {H : Hp} {m : Md} {ds : List D} {v : V} {q : List Addr} (V : Val K U W T H m (.list ds) v q) : ∃ a xs, v = .ref a ∧ SqL K H a xs ∧ EnAll K (fun _ => False) H ds xs := by
  obtain ⟨a, xs, rfl, ha, _, t⟩ := en_lst V.en
  exact ⟨a, xs, rfl, SqL.of ha, t⟩
theorem valT {U W T : Addr → Prop} {H : Hp} {m : Md} {ds : List D} {v : V} {q : List Addr} (V : Val K U W T H m (.tuple ds) v q) : ∃ a xs, v = .ref a ∧ SqT K H a xs ∧ EnAll K (fun _ => False) H ds xs := en_tup V.en
theorem fj_len : FnJ K [m1] (.own n) dLen (fun xs H Q => ∃ x n, xs = [x] ∧ LenV K x H n ∧ Q (.int n) H) := fnj_scal fun U W T H ds d vs q V h => by
  obtain ⟨x, v, q1, rfl, rfl, V1⟩ := valA1 V
  unfold dLen at h
  split at h
  · rename_i xs e
    cases e
    cases h
    obtain ⟨a, ys, rfl, ha, t⟩ := valL V1
    exact ⟨.int _, fun _ => .int _, trivial, fun Q q => ⟨_, _, rfl, .inl ⟨ys, ha, rfl⟩, by rw [t.sz]; exact q⟩⟩
  · rename_i xs e
    cases e
    cases h
    obtain ⟨a, ys, rfl, ha, t⟩ := valT V1
    exact ⟨.int _, fun _ => .int _, trivial, fun Q q => ⟨_, _, rfl, .inr ⟨ys, ha, rfl⟩, by rw [t.sz]; exact q⟩⟩
  · cases h
theorem fj_abs : FnJ K [m1] (.own n) dAbs (fun xs H Q => ∃ i, xs = [.int i] ∧ Q (.int (if i < 0 then -i else i)) H) := fnj_scal fun U W T H ds d vs q V h => by
  obtain ⟨x, v, q1, rfl, rfl, V1⟩ := valA1 V
  unfold dAbs at h
  split at h
  · rename_i e
    cases e
    cases h
    exact ⟨.int _, fun _ => .int _, trivial, fun Q q => ⟨_, by rw [en_int V1.en], q⟩⟩
  · cases h
theorem fj_int : FnJ K [m1] (.own n) dInt (fun xs H Q => (∃ i, xs = [.int i] ∧ Q (.int i) H) ∨ ∃ k, xs = [.bl k] ∧ Q (.int (if k then 1 else 0)) H) := fnj_scal fun U W T H ds d vs q V h => by
  obtain ⟨x, v, q1, rfl, rfl, V1⟩ := valA1 V
  unfold dInt at h
  split at h
  · rename_i e
    cases e
    cases h
    exact ⟨.int _, fun _ => .int _, trivial, fun Q q => .inl ⟨_, by rw [en_int V1.en], q⟩⟩
  · rename_i e
    cases e
    cases h
    exact ⟨.int _, fun _ => .int _, trivial, fun Q q => .inr ⟨_, by rw [en_bool V1.en], q⟩⟩
  · cases h
theorem fj_max2 : FnJ K [m1, m2] (.own n) dMax2 (fun xs H Q => ∃ i j, xs = [.int i, .int j] ∧ Q (.int (if j > i then j else i)) H) := fnj_scal fun U W T H ds d vs q V h => by
  obtain ⟨x, v, q1, y, u, q2, rfl, rfl, V1, V2⟩ := valA2 V
  unfold dMax2 at h
  split at h
  · rename_i e
    cases e
    cases h
    exact ⟨.int _, fun _ => .int _, trivial, fun Q q => ⟨_, _, by rw [en_int V1.en, en_int V2.en], q⟩⟩
  · cases h
theorem fj_min2 : FnJ K [m1, m2] (.own n) dMin2 (fun xs H Q => ∃ i j, xs = [.int i, .int j] ∧ Q (.int (if j < i then j else i)) H) := fnj_scal fun U W T H ds d vs q V h => by
  obtain ⟨x, v, q1, y, u, q2, rfl, rfl, V1, V2⟩ := valA2 V
  unfold dMin2 at h
  split at h
  · rename_i e
    cases e
    cases h
    exact ⟨.int _, fun _ => .int _, trivial, fun Q q => ⟨_, _, by rw [en_int V1.en, en_int V2.en], q⟩⟩
  · cases h
theorem bools_en {U : Addr → Prop} {H : Hp} : ∀ {ds : List D} {vs : List V} {bs : List Bool}, EnAll K U H ds vs → bools ds = some bs → vs = bs.map V.bl
  | _, _, _, .nil, h => by cases h; rfl
  | d :: ds, _, bs, .cons e t, h => by
    cases d with
    | bool b =>
      simp only [bools] at h
      cases hb : bools ds with
      | none => rw [hb] at h; cases h
      | some cs =>
        rw [hb] at h
        cases h
        rw [en_bool e, bools_en t hb]; rfl
    | _ => cases h
theorem ints_en {U : Addr → Prop} {H : Hp} : ∀ {ds : List D} {vs : List V} {bs : List Int}, EnAll K U H ds vs → asInts ds = some bs → vs = bs.map V.int
  | _, _, _, .nil, h => by cases h; rfl
  | d :: ds, _, bs, .cons e t, h => by
    cases d with
    | int b =>
      simp only [asInts] at h
      cases hb : asInts ds with
      | none => rw [hb] at h; cases h
      | some cs =>
        rw [hb] at h
        cases h
        rw [en_int e, ints_en t hb]; rfl
    | _ => cases h
theorem en_ints {U : Addr → Prop} {H : Hp} : ∀ ns : List Int, EnAll K U H (ns.map PyData.int) (ns.map V.int)
  | [] => .nil
  | n :: ns => .cons (.int n) (en_ints ns)
theorem fj_all : FnJ K [m1] (.own n) dAll (rAll K) := fnj_scal fun U W T H ds d vs q V h => by
  obtain ⟨x, v, q1, rfl, rfl, V1⟩ := valA1 V
  unfold dAll at h
  split at h
  · rename_i xs e
    cases e
    cases hb : bools xs with
    | none => rw [hb] at h; cases h
    | some bs =>
      rw [hb] at h
      cases h
      obtain ⟨a, ys, rfl, ha, t⟩ := valL V1
      exact ⟨.bl _, fun _ => .bl _, trivial, fun Q q => ⟨a, bs, rfl, by rw [← bools_en t hb]; exact ha, q⟩⟩
  · cases h
theorem fj_any : FnJ K [m1] (.own n) dAny (rAny K) := fnj_scal fun U W T H ds d vs q V h => by
  obtain ⟨x, v, q1, rfl, rfl, V1⟩ := valA1 V
  unfold dAny at h
  split at h
  · rename_i xs e
    cases e
    cases hb : bools xs with
    | none => rw [hb] at h; cases h
    | some bs =>
      rw [hb] at h
      cases h
      obtain ⟨a, ys, rfl, ha, t⟩ := valL V1
      exact ⟨.bl _, fun _ => .bl _, trivial, fun Q q => ⟨a, bs, rfl, by rw [← bools_en t hb]; exact ha, q⟩⟩
  · cases h
theorem fj_sum : FnJ K [m1] (.own n) dSum (rSum K) := fnj_scal fun U W T H ds d vs q V h => by
  obtain ⟨x, v, q1, rfl, rfl, V1⟩ := valA1 V
  unfold dSum at h
  split at h
  · rename_i xs e
    cases e
    cases hb : asInts xs with
    | none => rw [hb] at h; cases h
    | some bs =>
      rw [hb] at h
      cases h
      obtain ⟨a, ys, rfl, ha, t⟩ := valL V1
      exact ⟨.int _, fun _ => .int _, trivial, fun Q q => ⟨a, bs, rfl, by rw [← ints_en t hb]; exact ha, q⟩⟩
  · cases h
/-- a new list of shared things -/
theorem new_lst {U W T : Addr → Prop} {H : Hp} {ds : List D} {xs : List V} {p : Addr} {Q : VK} (hw : ∀ b, W b → U b) (hu : ∀ b, U b → H b ≠ none) (t : EnAll K U H ds xs) (hp : H p = none)
    (k : ∀ U' H' v q, Fresh U H U' H' → (∀ b, U' b → H' b ≠ none) → Val K U' W T H' (.own 1) (.list ds) v q → (∀ a ∈ q, H a = none) → Q v H') : Q (.ref p) (upd H p (.lst xs)) := by
  have f := Fresh.newU (U := U) (.lst xs) hp
  refine k _ _ (.ref p) [p] f (ul_new hu) ⟨.lst (.inr rfl) upd_same (OwnAll.of0 (EnAll.grow f.grow t)), fun b m w => ?_, by simp⟩ fun b m => ?_
  · have e : b = p := by simpa using m
    exact hu b (hw b w) (e ▸ hp)
  · have e : b = p := by simpa using m
    rw [e]; exact hp
theorem new_tup {U W T : Addr → Prop} {H : Hp} {ds : List D} {xs : List V} {p : Addr} {Q : VK} {n : Nat} (hu : ∀ b, U b → H b ≠ none) {ob : Obj} (t : EnAll K U H ds xs) (hp : H p = none) (hd : ob.dict = none)
    (k : ∀ U' H' v q, Fresh U H U' H' → (∀ b, U' b → H' b ≠ none) → Val K U' W T H' (.own n) (.tuple ds) v q → (∀ a ∈ q, H a = none) → Q v H') : Q (.ref p) (upd H p (.frz ob (.tup xs))) := by
  have f := Fresh.new (U := U) (.frz ob (.tup xs)) hp
  exact k U _ (.ref p) [] f (ul_old hu) (val_scal (.tup (.inl ⟨ob, upd_same, hd⟩) (EnAll.grow f.grow t)) trivial) fun _ m => by cases m
theorem fj_tuple : FnJ K [.r1] (.own n) dTuple (rTupN K) := by
  intro U W T H ds d vs q Q hw hu V h k
  obtain ⟨x, v, q1, rfl, rfl, V1⟩ := valA1 V
  unfold dTuple at h
  split at h
  · rename_i xs e
    cases e
    cases h
    obtain ⟨a, ys, rfl, ha, t⟩ := e1_lst V1.1
    exact ⟨a, ys, rfl, .inl ⟨SqL.of ha, fun l ob hl hd => new_tup hu t hl hd k⟩⟩
  · rename_i xs e
    cases e
    cases h
    obtain ⟨a, ys, rfl, ha, t⟩ := e1_tupP V1.1
    exact ⟨a, ys, rfl, .inr ⟨ha.sq, k U H _ [] .refl hu (val_scal (.tup ha t) trivial) fun _ m => by cases m⟩⟩
  · cases h
theorem fj_list : FnJ K [.r1] (.own 1) dList (fun xs H Q => ∃ p ys, xs = [.ref p] ∧ (SqL K H p ys ∨ SqT K H p ys) ∧ ∀ l, H l = none → Q (.ref l) (upd H l (.lst ys))) := by
  intro U W T H ds d vs q Q hw hu V h k
  obtain ⟨x, v, q1, rfl, rfl, V1⟩ := valA1 V
  unfold dList at h
  split at h
  · rename_i xs e
    cases e
    cases h
    obtain ⟨a, ys, rfl, ha, t⟩ := e1_lst V1.1
    exact ⟨a, ys, rfl, .inl (SqL.of ha), fun l hl => new_lst hw hu t hl k⟩
  · rename_i xs e
    cases e
    cases h
    obtain ⟨a, ys, rfl, ha, t⟩ := e1_tup V1.1
    exact ⟨a, ys, rfl, .inr ha, fun l hl => new_lst hw hu t hl k⟩
  · cases h
end

/-! ### sorted ints -/
theorem srt_uniq {a b : List Int} (p : a.Perm b) (ha : a.Pairwise (· ≤ ·)) (hb : b.Pairwise (· ≤ ·)) : a = b := List.Perm.eq_of_pairwise (fun _ _ _ _ h1 h2 => Int.le_antisymm h1 h2) ha hb p
theorem sortI_perm (xs : List Int) : (sortI xs).Perm xs := List.mergeSort_perm xs _
theorem sortI_pair (xs : List Int) : (sortI xs).Pairwise (· ≤ ·) := by
  have h := List.pairwise_mergeSort (le := fun a b : Int => decide (a ≤ b)) (fun a b c h1 h2 => by simp only [decide_eq_true_eq] at *; omega) (fun a b => by simp only [Bool.or_eq_true, decide_eq_true_eq]; omega) xs
  exact List.Pairwise.imp (fun {a b} h => by simpa using h) h
/-- the different ones, ascending -/
def insU (k : Int) : List Int → List Int
  | [] => [k]
  | x :: xs => if k < x then k :: x :: xs else if k = x then x :: xs else x :: insU k xs
def sortU (xs : List Int) : List Int := xs.foldr insU []
theorem mem_insU {k j : Int} : ∀ {xs : List Int}, j ∈ insU k xs ↔ j = k ∨ j ∈ xs
  | [] => by simp [insU]
  | x :: xs => by
    unfold insU
    split
    · simp
    · split
      · rename_i h; subst h; simp
      · rw [List.mem_cons, mem_insU (xs := xs), List.mem_cons]
        constructor
        · rintro (h | h | h)
          · exact .inr (.inl h)
          · exact .inl h
          · exact .inr (.inr h)
        · rintro (h | h | h)
          · exact .inr (.inl h)
          · exact .inl h
          · exact .inr (.inr h)
theorem insU_pair {k : Int} : ∀ {xs : List Int}, xs.Pairwise (· < ·) → (insU k xs).Pairwise (· < ·)
  | [], _ => by simp [insU]
  | x :: xs, h => by
    unfold insU
    rw [List.pairwise_cons] at h
    split
    · rename_i hk
      refine List.pairwise_cons.mpr ⟨fun y hy => ?_, List.pairwise_cons.mpr h⟩
      rcases List.mem_cons.mp hy with e | hy
      · omega
      · have := h.1 y hy; omega
    · split
      · exact List.pairwise_cons.mpr h
      · refine List.pairwise_cons.mpr ⟨fun y hy => ?_, insU_pair h.2⟩
        rcases mem_insU.mp hy with e | hy
        · omega
        · exact h.1 y hy
theorem mem_sortU {k : Int} : ∀ {xs : List Int}, k ∈ sortU xs ↔ k ∈ xs
  | [] => by simp [sortU]
  | x :: xs => by
    show k ∈ insU x (sortU xs) ↔ _
    rw [mem_insU, mem_sortU (xs := xs), List.mem_cons]
theorem sortU_pair : ∀ xs : List Int, (sortU xs).Pairwise (· < ·)
  | [] => List.Pairwise.nil
  | x :: xs => insU_pair (sortU_pair xs)
theorem lt_nodup {xs : List Int} (h : xs.Pairwise (· < ·)) : xs.Nodup := List.Pairwise.imp (fun {a b} h e => by omega) h
theorem sortU_nodup (xs : List Int) : (sortU xs).Nodup := lt_nodup (sortU_pair xs)
theorem nodup_perm {a b : List Int} (ha : a.Nodup) (hb : b.Nodup) (h : ∀ k, k ∈ a ↔ k ∈ b) : a.Perm b := (List.perm_ext_iff_of_nodup ha hb).mpr h
theorem sortU_uniq {a xs : List Int} (ha : a.Pairwise (· < ·)) (h : ∀ k, k ∈ a ↔ k ∈ xs) : a = sortU xs :=
  srt_uniq (nodup_perm (lt_nodup ha) (sortU_nodup xs) fun k => by rw [h, mem_sortU]) (ha.imp fun {a b} h => by omega) ((sortU_pair xs).imp fun {a b} h => by omega)
theorem sortU_len {a xs : List Int} (ha : a.Nodup) (h : ∀ k, k ∈ a ↔ k ∈ xs) : a.length = (sortU xs).length := (nodup_perm ha (sortU_nodup xs) fun k => by rw [h, mem_sortU]).length_eq
def dSorI : List D → Option D
  | [.list xs] => (asInts xs).map fun ns => .list ((sortI ns).map .int)
  | _ => none
theorem fj_sorI {K : PySem.W.Frag} : FnJ K [m1] (.own 1) dSorI (rSortedI K) := by
  intro U W T H ds d vs q Q hw hu V h k
  obtain ⟨x, v, q1, rfl, rfl, V1⟩ := valA1 V
  unfold dSorI at h
  split at h
  · rename_i xs e
    cases e
    cases hb : asInts xs with
    | none => rw [hb] at h; cases h
    | some ns =>
      rw [hb] at h
      cases h
      obtain ⟨a, ys, rfl, ha, t⟩ := valL V1
      refine ⟨a, ns, rfl, by rw [← ints_en t hb]; exact ha, fun ns' p h1 h2 hp => ?_⟩
      have e : ns' = sortI ns := srt_uniq (h1.trans (sortI_perm ns).symm) h2 (sortI_pair ns)
      subst e
      exact new_lst hw hu (en_ints _) hp k
  · cases h
end J

set_option Elab.async false
set_option linter.all false
set_option maxRecDepth 100000
/-! JSet: len(set(..)), sorted(set(..)), sorted of a tuple. -/
namespace J
open PySem L2
open PyProof.Rows (IntsAre firstMet firstMet_any)

theorem firstMet_nodup' (val : Nat → Int) : ∀ i, (firstMet val i).Nodup
  | 0 => List.Pairwise.nil
  | i + 1 => by
    rw [PyProof.Rows.firstMet_succ]
    unfold PyProof.Rows.step_dedup
    have ih := firstMet_nodup' val i
    split
    · exact ih
    · rename_i h
      refine List.nodup_append.mpr ⟨ih, by simp, fun x hx y hy e => h ?_⟩
      have e2 : y = val i := by simpa using hy
      exact List.any_eq_true.mpr ⟨x, hx, by rw [e, e2]; simp⟩
theorem firstMet_mem {ns : List Int} (k : Int) : k ∈ firstMet (fun i => ns.getD i 0) ns.length ↔ k ∈ ns := by
  have h := firstMet_any (fun i => ns.getD i 0) ns.length k
  have e : (List.range ns.length).map (fun i => ns.getD i 0) = ns := by
    refine List.ext_getElem (by simp) fun i h1 h2 => ?_
    simp
    rw [List.getElem?_eq_getElem h2]; rfl
  rw [e] at h
  constructor
  · intro m
    have : ns.any (· == k) = true := by rw [← h]; exact List.any_eq_true.mpr ⟨k, m, by simp⟩
    obtain ⟨y, hy, q⟩ := List.any_eq_true.mp this
    have : y = k := by simpa using q
    exact this ▸ hy
  · intro m
    have : (firstMet (fun i => ns.getD i 0) ns.length).any (· == k) = true := by rw [h]; exact List.any_eq_true.mpr ⟨k, m, by simp⟩
    obtain ⟨y, hy, q⟩ := List.any_eq_true.mp this
    have : y = k := by simpa using q
    exact this ▸ hy
theorem setR_len {w : World} {h : Heap} {a : Addr} {ns : List Int} {c : Nat} (R : SetR w h a (fun j => decide (j ∈ ns)) c) : c = (sortU ns).length := by
  obtain ⟨o, es, ep, t, ho, hex, hd, g, nd, hm, hb, hf, hn, hr, hl⟩ := R
  have := sortU_len (xs := ns) nd fun k => by rw [← hm k]; exact decide_eq_true_iff
  rw [List.length_map, Array.length_toList] at this
  exact hn.symm.trans this
/-! ### set(xs) of a list of ints (as the kit's rule for a tuple) -/
section
variable {Pg : Program} {w : World} {A : Around} {E : Value → Shared → Prop} {s : Shared}
abbrev nS (w : World) : Obj := { cls := .type "set", dict := none, data := .set #[] 0 (.fresh 0 0 (!w.params.followText "set-order")) }
set_option maxRecDepth 100000 in
set_option maxHeartbeats 3200000 in
theorem call_set_lstI {l : Addr} {vs : Array Value} (ns : List Int) {Q : Value → Shared → Prop} (hdl0 : A.handled = none) (isL : s.heap.IsList l vs) (are : IntsAre vs.toList ns) (few : ns.length + 1 < scanBound)
    (fin : ∀ (h' : Heap) (tk c : Nat), SetR w h' s.heap.objs.size (fun j => decide (j ∈ ns)) c → c ≤ ns.length → (∀ b o, s.heap.get? b = some o → h'.get? b = some o) → Q (.ref s.heap.objs.size) { s with heap := h', toks := tk }) :
    wpAny (model Pg w) A (call (.type "set") [.ref l]) Q E s := by
  have size_vs : vs.size = ns.length := by have q := IntsAre.length are; rw [Array.length_toList] at q; exact q
  obtain ⟨c0, tl0, mro0⟩ := PySem.F.called_set.mro
  have made0 := PySem.F.called_set.made
  have sub0 := PySem.F.called_set.sub
  refine wpAny_call (codeAny_of_tree ?_)
  show wpAny _ _ (callAny (Value.type "set") _) _ _ _
  refine wpAny_pure (And.intro (Code.quiet_builtin _ (by decide +kernel)) (codeAny_builtin PySem.F.entry_type_call ?_))
  rw [(Around.under_plain (weight_type_call_type "set" [Value.ref l] []) rfl)]
  have nt0 := PySem.F.called_set.notType
  have cc0 := PySem.F.called_set.canCreate
  have tc0 := PySem.F.typeCall_set_1 (.ref l)
  repeat (any_goals (first | assumption | wp_step))
  refine codeAny_mono (code_set_led1 (.ref l) (E := E) (Q₁ := fun ob s₁ => ob = .ref s.heap.objs.size ∧ s₁ = { s with heap := s.heap.push (nS w) }) ⟨rfl, rfl⟩) fun r s₁ hr => ?_
  cases r with
  | error e => exact hr
  | ok f0 =>
    cases f0 with
    | ret ob =>
      obtain ⟨rfl, rfl⟩ := hr
      have atS : (s.heap.push (nS w)).get? s.heap.objs.size = some (nS w) := Heap.get?_push_size _ rfl
      have tyS : Shared.TypeIs { s with heap := s.heap.push (nS w) } (.ref s.heap.objs.size) "set" := ⟨_, atS, rfl⟩
      have li0 := PySem.F.called_set.init.lookup
      have bi0 := PySem.F.called_set.init.bind (.ref s.heap.objs.size)
      repeat (any_goals (first | assumption | wp_step))
      refine codeAny_mono (codeAny_call_builtin (R := wants (fun r s₂ => r = .none ∧ ∃ h' tk c, s₂ = { s with heap := h', toks := tk } ∧ SetR w h' s.heap.objs.size (fun j => decide (j ∈ ns)) c ∧ c ≤ ns.length ∧ (∀ b o, s.heap.get? b = some o → h'.get? b = some o)) E)
        PySem.F.called_set.init.plain PySem.F.entry_set_init (check_set_init_1 tyS ?_)) fun r₂ s₂ hr₂ => ?_
      · obtain ⟨lo, atL, clL, nL0, daL⟩ := isL
        obtain ⟨lcls, ldict, ldata, lslots⟩ := lo
        simp only at clL daL
        subst clL daL
        have atL' : (s.heap.push (nS w)).get? l = some { cls := .type "list", dict := ldict, data := .seq vs nL0, slots := lslots } := Heap.get?_push_of_some _ atL
        have sl0 := PySem.F.sub_list_set
        have sf0 := PySem.F.sub_list_frozenset
        have ne0 : (Value.type "list" == Value.type "dict") = false := by decide
        have isL1 : (s.heap.push (nS w)).IsList l vs := ⟨_, atL', rfl, nL0, rfl⟩
        unfold Builtin.«set.__init__» noKeywords Builtin.Frozenset.updateFrom
        generalize PIe : pyIter = PI
        wp_walk
        subst PIe
        refine wpAny_pyIter_list isL1 ?_
        refine wpAny_bind (wpAny_runValue ?_)
        have ltl : l < s.heap.objs.size := Heap.lt_size atL
        have hd3 : A.in1.in1.in1.handled = none := by simp [hdl0]
        have neI : l ≠ (s.heap.push (nS w)).objs.size := by rw [Heap.size_push]; exact Nat.ne_of_lt (Nat.lt_succ_of_lt ltl)
        have nS0 : s.heap.objs.size ∉ [(s.heap.push (nS w)).objs.size, l] := by
          rw [Heap.size_push]
          simp only [List.mem_cons, List.not_mem_nil, or_false, not_or]
          exact And.intro (Nat.ne_of_lt (Nat.lt_succ_self _)) (Nat.ne_of_gt ltl)
        have val0 : ∀ (i : Nat) (v : Value), vs[i]? = some v → ∃ k t, ns[i]? = some k ∧ v = .int k t := fun i v hv => by
          have hi : i < ns.length := by rw [← size_vs]; exact (Array.getElem?_eq_some_iff.mp hv).1
          obtain ⟨t, e⟩ := PyProof.Rows.IntsAre.int_at are i v (by rw [Array.getElem?_toList]; exact hv)
          exact ⟨ns[i], t, List.getElem?_eq_getElem hi, by rw [e, List.getD_eq_getElem?_getD, List.getElem?_eq_getElem hi] <;> rfl⟩
        refine set_update_ints ((Walks.list hd3 _ l neI vs).toS) s.heap.objs.size nS0 ns size_vs few val0 (vs.size - 0) 0 _ (by omega) (Nat.zero_le _) (And.intro ⟨_, Heap.get?_push_size _ rfl, rfl, rfl⟩ (isL1.push _)) ?h0 ?hR
        case h0 => exact ⟨0, Nat.le_refl 0, setR_new_at (Heap.get?_push_of_some _ atS)⟩
        case hR =>
          intro s' c' mv lec isS
          obtain ⟨h', g2, d', tk', os'⟩ := s'
          have e1 : g2 = s.gens := mv.gens
          have e2 : d' = s.drawn := mv.drawn
          have e3 : os' = s.os := mv.os
          subst e1 e2 e3
          refine (show wpAny _ _ _ _ _ _ from wpAny_pure ?_)
          show wpAny _ _ (ret (Value.none)) _ _ _
          rw [size_vs] at lec
          refine wpAny_pure ⟨rfl, h', tk', c', rfl, isS, lec, fun b o e => ?_⟩
          have b0 : b < s.heap.objs.size := Heap.lt_size e
          have b1 : b ≠ s.heap.objs.size := Nat.ne_of_lt b0
          have b2 : b ≠ (s.heap.push (nS w)).objs.size := by rw [Heap.size_push]; exact Nat.ne_of_lt (Nat.lt_succ_of_lt b0)
          refine mv.heap b o ?_ (Heap.get?_push_of_some _ (Heap.get?_push_of_some _ e))
          simp only [List.mem_cons, List.not_mem_nil, or_false, not_or]
          exact And.intro b1 b2
      · cases r₂ with
        | error e => exact hr₂
        | ok f2 =>
          cases f2 with
          | ret r =>
            obtain ⟨rfl, h', tk, c', rfl, isS, lec, kp⟩ := hr₂
            repeat (any_goals (first | assumption | wp_step))
            exact fin _ _ _ isS lec kp
          | _ => exact hr₂.elim
    | _ => exact hr.elim
end
def rLenSet (K : PySem.W.Frag) : V → Hp → VK → Prop := fun x H Q => ∃ l ns, x = .ref l ∧ (SqL K H l (ns.map V.int) ∨ SqT K H l (ns.map V.int)) ∧ ns.length < 4000 ∧ Q (.int (sortU ns).length) H
def rSortSet (K : PySem.W.Frag) : V → Hp → VK → Prop := fun x H Q => ∃ l ns, x = .ref l ∧ (SqL K H l (ns.map V.int) ∨ SqT K H l (ns.map V.int)) ∧ ns.length < 4000 ∧ (sortU ns).length < 64 ∧ ∀ p, H p = none → Q (.ref p) (upd H p (.lst ((sortU ns).map V.int)))
section
variable {X : Cx} {a : Expr} {ta : TE}
theorem pe_lenSetU {p p2 q pos : Pos} (hc : X.calm = true) (hg : Gl X "len") (hm : X.mg "len" = none) (hg2 : Gl X "set") (hm2 : X.mg "set" = none) (ha : PE X a ta)
    (na : starEach [a] X.env = (false, eval a X.env) :: starEach [] X.env := by rfl) : PE X (.Call (.Name "len" p) [.Call (.Name "set" p2) [a] [] q] [] pos) (tThen ta (rLenSet X.K)) := by
  refine ⟨fun pins s σ H Q I h => ?_⟩
  refine PyProof.Rows.Call_ (ld_blt I hg hm (show bootBuiltins "len" = some (.builtin "len") by decide +kernel) ?_)
  refine PyProof.Rows.callWith_builtin1 (PyProof.Rows.args_cons ?_ rfl) rfl rfl
  refine PyProof.Rows.Call_ (ld_blt I hg2 hm2 PyProof.Rows.boot_set ?_)
  refine PyProof.Rows.callWith_type1 (PyProof.Rows.args_cons (thn (ha.run pins s σ H _ I h) fun v s1 ⟨x, H1, I1, r1, q1⟩ => PyProof.Rows.args_nil ?_) na) na rfl
  obtain ⟨l, ns, rfl, hq, h1, q1⟩ := q1
  cases r1
  have hb : ns.length + 1 < scanBound := by unfold scanBound; omega
  rcases hq with hq | hq
  · obtain ⟨its, r, pl, hz⟩ := I1.list hq
    have hl : its.toArray.size = ns.length := by rw [List.size_toArray, ← r.length, List.length_map]
    refine call_set_list (I1.ok.hd hc) pl.isList (ns := ns) (by simpa using r.ints) (by rw [hl]; exact hb) fun h' tk hS hk => ?_
    rw [hl] at hS
    refine PyProof.Rows.args_nil ?_
    obtain ⟨o, es, ep, t, ho, hex, hd, _, _, _, hf, hn⟩ := hS
    have I2 : Inv X pins σ H1 { s1 with heap := h', toks := tk } := I1.kept fun b o e => hk b o (Heap.lt_size e) e
    have hlen := sortU_len (firstMet_nodup' (fun i => ns.getD i 0) ns.length) (xs := ns) firstMet_mem
    have hle := PyProof.Rows.firstMet_length_le (fun i => ns.getD i 0) ns.length
    refine call_len_set ho hex hd hf (by rw [hn] <;> omega) ⟨.int (sortU ns).length, H1, I2.tok _, ⟨_, by rw [hn, hlen]⟩, q1⟩
  · obtain ⟨its, r, pl, hz⟩ := I1.tuple hq
    refine call_set_tupI ns (I1.ok.hd hc) pl (by simpa using r.ints) hb fun h' tk c R hc' hk => ?_
    have hlen := setR_len R
    refine PyProof.Rows.args_nil ?_
    obtain ⟨o, es, ep, t, ho, hex, hd, _, _, _, _, hf, hn, _⟩ := R
    have I2 : Inv X pins σ H1 { s1 with heap := h', toks := tk } := I1.kept hk
    refine call_len_set ho hex hd hf (by rw [hn] <;> omega) ⟨.int (sortU ns).length, H1, I2.tok _, ⟨_, by rw [hn, hlen]⟩, q1⟩
theorem pe_sortSetU {p p2 q pos : Pos} (hc : X.calm = true) (hg : Gl X "sorted") (hm : X.mg "sorted" = none) (hg2 : Gl X "set") (hm2 : X.mg "set" = none) (ha : PE X a ta)
    (na : starEach [a] X.env = (false, eval a X.env) :: starEach [] X.env := by rfl) : PE X (.Call (.Name "sorted" p) [.Call (.Name "set" p2) [a] [] q] [] pos) (tThen ta (rSortSet X.K)) := by
  refine ⟨fun pins s σ H Q I h => ?_⟩
  refine PyProof.Rows.Call_ (ld_blt I hg hm PyProof.Rows.boot_sorted ?_)
  refine PyProof.Rows.callWith_builtin1 (PyProof.Rows.args_cons ?_ rfl) rfl rfl
  refine PyProof.Rows.Call_ (ld_blt I hg2 hm2 PyProof.Rows.boot_set ?_)
  refine PyProof.Rows.callWith_type1 (PyProof.Rows.args_cons (thn (ha.run pins s σ H _ I h) fun v s1 ⟨x, H1, I1, r1, q1⟩ => PyProof.Rows.args_nil ?_) na) na rfl
  obtain ⟨l, ns, rfl, hq, h1, h64, q1⟩ := q1
  cases r1
  have hb : ns.length + 1 < scanBound := by unfold scanBound; omega
  have seq : ∀ (h' : Heap) (tk c : Nat), SetR X.w h' s1.heap.objs.size (fun j => decide (j ∈ ns)) c → (∀ b o, s1.heap.get? b = some o → h'.get? b = some o) →
      wpAny (model X.prog X.w) X.A (call (.builtin "sorted") [.ref s1.heap.objs.size]) (EP X pins σ Q) X.xe { s1 with heap := h', toks := tk } := fun h' tk c R hk => by
    have hlen := setR_len R
    have I2 : Inv X pins σ H1 { s1 with heap := h', toks := tk } := I1.kept hk
    refine sorted_set R (I2.ok.hd hc) (by omega) fun s' p out c ns' k g o hp hg hi hs hm hl => ?_
    have e : ns' = sortU ns := sortU_uniq hs fun k => by rw [hm k]; simp
    subst e
    have hz' : ((sortU ns).map V.int).length ≤ sizeLine := by rw [List.length_map, sizeLine_eq]; omega
    have hn : H1 p = none := I2.hok.fresh hp
    have J : Inv X pins σ (upd H1 p (.lst ((sortU ns).map V.int))) { { s1 with heap := h', toks := tk } with heap := s'.heap, gens := s'.gens, drawn := s'.drawn, toks := s'.toks } :=
      I2.call (ch := []) (Un.laid k hp hn) (I2.hok.laid k hp ⟨hz', out.toList, c, vals_of_ints hi, hg⟩) (by rw [g]; exact I2.bare) (fun _ z => nomatch z)
    have e : s' = { s1 with heap := s'.heap, gens := s'.gens, drawn := s'.drawn, toks := s'.toks } := by
      cases s'
      cases s1
      cases o
      rfl
    rw [e]
    exact ⟨.ref p, _, J, rfl, q1 p hn⟩
  rcases hq with hq | hq
  · obtain ⟨its, r, pl, hz⟩ := I1.list hq
    exact call_set_lstI ns (I1.ok.hd hc) pl.isList (by simpa using r.ints) hb fun h' tk c R hc' hk => PyProof.Rows.args_nil (seq h' tk c R hk)
  · obtain ⟨its, r, pl, hz⟩ := I1.tuple hq
    exact call_set_tupI ns (I1.ok.hd hc) pl (by simpa using r.ints) hb fun h' tk c R hc' hk => PyProof.Rows.args_nil (seq h' tk c R hk)
end
def intsOf : D → Option (List Int)
  | .list xs => asInts xs
  | .tuple xs => asInts xs
  | _ => none
def dLenSet (d : D) : Option D := match intsOf d with
  | some ns => if ns.length < 4000 then some (.int (sortU ns).length) else none
  | none => none
def dSortSet (d : D) : Option D := match intsOf d with
  | some ns => if ns.length < 4000 ∧ (sortU ns).length < 64 then some (.list ((sortU ns).map .int)) else none
  | none => none
/-- one value more -/
theorem je_then {X : Cx} {fl : List Fg} {a e : Expr} {s : SE} {m m' : Md} {p : Bool} {f : D → Option D} {k : V → Hp → VK → Prop} (ho : ∀ {ta : TE}, PE X a ta → PE X e (tThen ta k))
    (hk : ∀ (U W T : Addr → Prop) (H : Hp) (d d' : D) (v : V) (q : List Addr) (Q : VK), (∀ b, W b → U b) → (∀ b, U b → H b ≠ none) → Val X.K U W T H m d v q → f d = some d' →
      (∀ U' H' v q, Fresh U H U' H' → (∀ b, U' b → H' b ≠ none) → Val X.K U' W T H' m' d' v q → (∀ a ∈ q, H a = none) → Q v H') → k v H Q) (ha : JE X fl a s m p) : JE X fl e (sUn f s) m' p := by
  refine pe_mono (ho ha) ?_
  rintro st H Q ⟨I, U, rs, r, d, r', R, hs, c⟩
  obtain ⟨x, r1, e1, hs⟩ := of_bind hs
  obtain ⟨hf, rfl⟩ := of_lift hs
  refine ⟨I, U, rs, r, x, _, R, e1, fun U1 rs1 H1 v1 q1 A1 V1 => ?_⟩
  exact hk U1 (Wr rs1) (TN I) H1 x d v1 q1 Q A1.rel.sub A1.rel.ul V1 hf fun U' H' v q f hu V hn => c U' rs1 H' v q (A1.fresh f hu R hn) V
section
variable {X : Cx} {fl : List Fg} {a : Expr} {s : SE} {m : Md} {p : Bool}
theorem je_lenSet {n : Nat} {p0 p2 q pos : Pos} (ha : JE X fl a s m p) (hc : X.calm = true) (hg : Gl X "len") (hm : X.mg "len" = none) (hg2 : Gl X "set") (hm2 : X.mg "set" = none)
    (na : starEach [a] X.env = (false, eval a X.env) :: starEach [] X.env := by rfl) : JE X fl (.Call (.Name "len" p0) [.Call (.Name "set" p2) [a] [] q] [] pos) (sUn dLenSet s) (.own n) p := by
  refine je_then (fun ha => pe_lenSetU hc hg hm hg2 hm2 ha na) (fun U W T H d d' v q Q hw hu V h k => ?_) ha
  unfold dLenSet at h
  cases hi : intsOf d with
  | none => rw [hi] at h; cases h
  | some ns =>
    rw [hi] at h
    simp only at h
    split at h
    · rename_i hl
      cases h
      have fin : ∀ l, v = .ref l → (SqL X.K H l (ns.map L2.V.int) ∨ SqT X.K H l (ns.map L2.V.int)) → rLenSet X.K v H Q := fun l e hq => ⟨l, ns, e, hq, hl, k U H _ [] .refl hu (val_scal (.int _) trivial) fun _ m => by cases m⟩
      cases d with
      | list xs =>
        obtain ⟨l, ys, e, hq, t⟩ := valL V
        exact fin l e (.inl (by rw [← ints_en t hi]; exact hq))
      | tuple xs =>
        obtain ⟨l, ys, e, hq, t⟩ := valT V
        exact fin l e (.inr (by rw [← ints_en t hi]; exact hq))
      | _ => cases hi
    · cases h
theorem je_sortSet {p0 p2 q pos : Pos} (ha : JE X fl a s m p) (hc : X.calm = true) (hg : Gl X "sorted") (hm : X.mg "sorted" = none) (hg2 : Gl X "set") (hm2 : X.mg "set" = none)
    (na : starEach [a] X.env = (false, eval a X.env) :: starEach [] X.env := by rfl) : JE X fl (.Call (.Name "sorted" p0) [.Call (.Name "set" p2) [a] [] q] [] pos) (sUn dSortSet s) (.own 1) p := by
  refine je_then (fun ha => pe_sortSetU hc hg hm hg2 hm2 ha na) (fun U W T H d d' v q Q hw hu V h k => ?_) ha
  unfold dSortSet at h
  cases hi : intsOf d with
  | none => rw [hi] at h; cases h
  | some ns =>
    rw [hi] at h
    simp only at h
    split at h
    · rename_i hl
      cases h
      have fin : ∀ l, v = .ref l → (SqL X.K H l (ns.map L2.V.int) ∨ SqT X.K H l (ns.map L2.V.int)) → rSortSet X.K v H Q := fun l e hq => ⟨l, ns, e, hq, hl.1, hl.2, fun p hp => new_lst hw hu (en_ints _) hp k⟩
      cases d with
      | list xs =>
        obtain ⟨l, ys, e, hq, t⟩ := valL V
        exact fin l e (.inl (by rw [← ints_en t hi]; exact hq))
      | tuple xs =>
        obtain ⟨l, ys, e, hq, t⟩ := valT V
        exact fin l e (.inr (by rw [← ints_en t hi]; exact hq))
      | _ => cases hi
    · cases h
end
end J

set_option Elab.async false
set_option linter.all false
set_option maxRecDepth 100000
/-! JCall: calls of the text's own defs; a def's promise by its body. -/
namespace J
open PySem L2
open PyProof.Rows (envOfC)

/-! ### arguments -/
inductive ArgV (K : PySem.W.Frag) (fl : List Fg) (U T : Addr → Prop) (H : Hp) (s : St) : List Fg → List Ag → List (Option D) → List V → List (List Addr) → Prop
  | nil : ArgV K fl U T H s [] [] [] [] []
  | e1 {a : SE} {d : D} {v : V} {fs : List Fg} {as : List Ag} {ods : List (Option D)} {vs : List V} {qs : List (List Addr)} : E1 K U T H d v → ArgV K fl U T H s fs as ods vs qs → ArgV K fl U T H s (.b1 :: fs) (.e a :: as) (some d :: ods) (v :: vs) ([] :: qs)
  | e0 {a : SE} {d : D} {v : V} {fs : List Fg} {as : List Ag} {ods : List (Option D)} {vs : List V} {qs : List (List Addr)} : En K U H d v → ArgV K fl U T H s fs as ods vs qs → ArgV K fl U T H s (.ow 0 :: fs) (.e a :: as) (some d :: ods) (v :: vs) ([] :: qs)
  | io {j n : Nat} {v : V} {fs : List Fg} {as : List Ag} {ods : List (Option D)} {vs : List V} {qs : List (List Addr)} : stS s j = some v → mine (fgAt fl j) (n + 1) = true → ArgV K fl U T H s fs as ods vs qs → ArgV K fl U T H s (.io (n + 1) :: fs) (.io j :: as) (none :: ods) (v :: vs) ([] :: qs)
  | fz {j : Nat} {v : V} {fs : List Fg} {as : List Ag} {ods : List (Option D)} {vs : List V} {qs : List (List Addr)} : stS s j = some v → fgAt fl j = .fz → ArgV K fl U T H s fs as ods vs qs → ArgV K fl U T H s (.fz :: fs) (.bv j :: as) (none :: ods) (v :: vs) ([] :: qs)
  | bv {j : Nat} {v : V} {fs : List Fg} {as : List Ag} {ods : List (Option D)} {vs : List V} {qs : List (List Addr)} : stS s j = some v → flat1 (fgAt fl j) = true → ArgV K fl U T H s fs as ods vs qs → ArgV K fl U T H s (.b1 :: fs) (.bv j :: as) (none :: ods) (v :: vs) ([] :: qs)
  | eo {a : SE} {d : D} {v : V} {n : Nat} {q : List Addr} {fs : List Fg} {as : List Ag} {ods : List (Option D)} {vs : List V} {qs : List (List Addr)} : Own K U H (n + 1) d v q → ArgV K fl U T H s fs as ods vs qs → ArgV K fl U T H s (.io (n + 1) :: fs) (.eo a :: as) (some d :: ods) (v :: vs) (q :: qs)
def tJC (K : PySem.W.Frag) (fl : List Fg) (as : List Ag) (pf : List Fg) (pu : Bool) : TA := fun s H Q => ∃ I U rs r ods r', Rel K I fl U rs r s H ∧ argL as r = .ok ods r' ∧
  ∀ U' rs' H' vs qs, Aft K I fl U rs H r' s pu U' rs' H' qs.flatten → ArgV K fl U' (TN I) H' s pf as ods vs qs → (∀ b ∈ qs.flatten, ¬ Wr rs' b) → qs.flatten.Nodup → Q vs H'
abbrev JC (X : Cx) (fl : List Fg) (es : List Expr) (as : List Ag) (pf : List Fg) (pu : Bool) : Prop := PA X es (tJC X.K fl as pf pu)
section
variable {X : Cx} {fl : List Fg}
theorem jc_nil : JC X fl [] [] [] true := by
  refine pa_mono pa_nil ?_
  rintro st H Q ⟨I, U, rs, r, ods, r', R, hs, k⟩
  cases hs
  exact k U rs H [] [] (.refl R) .nil (fun _ m => by cases m) List.Pairwise.nil
theorem jc_b {e : Expr} {es : List Expr} {a : SE} {as : List Ag} {pf : List Fg} {p1 p2 : Bool} (he : JE X fl e a .b1 p1) (hr : JC X fl es as pf p2) (hs : starEach (e :: es) X.env = (false, eval e X.env) :: starEach es X.env := by rfl) : JC X fl (e :: es) (.e a :: as) (.b1 :: pf) (p1 && p2) := by
  refine pa_mono (pa_cons he hr hs) ?_
  rintro st H Q ⟨I, U, rs, r, ods, r', R, hs, k⟩
  obtain ⟨x, r1, e1, hs⟩ := of_bind hs
  obtain ⟨xs, r2, e2, hs⟩ := of_bind hs
  cases hs
  refine ⟨I, U, rs, r, x, r1, R, e1, fun U1 rs1 H1 v1 q1 A1 V1 => ⟨I, U1, rs1, r1, xs, _, A1.rel, e2, fun U2 rs2 H2 vs qs A2 V2 N2 D2 => ?_⟩⟩
  have V1' := V1.step A1.rel.sub A1.rel.wt A2.st rfl
  exact k U2 rs2 H2 (v1 :: vs) ([] :: qs) ((A1.trans R A2).drop fun _ m => List.mem_append_right _ m) (.e1 V1'.1 V2) N2 D2
theorem jc_s {e : Expr} {es : List Expr} {a : SE} {as : List Ag} {pf : List Fg} {p1 p2 : Bool} (he : JE X fl e a (.own 0) p1) (hr : JC X fl es as pf p2) (hs : starEach (e :: es) X.env = (false, eval e X.env) :: starEach es X.env := by rfl) : JC X fl (e :: es) (.e a :: as) (.ow 0 :: pf) (p1 && p2) := by
  refine pa_mono (pa_cons he hr hs) ?_
  rintro st H Q ⟨I, U, rs, r, ods, r', R, hs, k⟩
  obtain ⟨x, r1, e1, hs⟩ := of_bind hs
  obtain ⟨xs, r2, e2, hs⟩ := of_bind hs
  cases hs
  refine ⟨I, U, rs, r, x, r1, R, e1, fun U1 rs1 H1 v1 q1 A1 V1 => ⟨I, U1, rs1, r1, xs, _, A1.rel, e2, fun U2 rs2 H2 vs qs A2 V2 N2 D2 => ?_⟩⟩
  have V1' := V1.step A1.rel.sub A1.rel.wt A2.st rfl
  exact k U2 rs2 H2 (v1 :: vs) ([] :: qs) ((A1.trans R A2).drop fun _ m => List.mem_append_right _ m) (.e0 V1'.1.to0.1 V2) N2 D2
theorem jc_o {e : Expr} {es : List Expr} {a : SE} {n : Nat} {as : List Ag} {pf : List Fg} {p1 p2 : Bool} (he : JE X fl e a (.own (n + 1)) p1) (hr : JC X fl es as pf p2) (hs : starEach (e :: es) X.env = (false, eval e X.env) :: starEach es X.env := by rfl) : JC X fl (e :: es) (.eo a :: as) (.io (n + 1) :: pf) (p1 && p2) := by
  refine pa_mono (pa_cons he hr hs) ?_
  rintro st H Q ⟨I, U, rs, r, ods, r', R, hs, k⟩
  obtain ⟨x, r1, e1, hs⟩ := of_bind hs
  obtain ⟨xs, r2, e2, hs⟩ := of_bind hs
  cases hs
  refine ⟨I, U, rs, r, x, r1, R, e1, fun U1 rs1 H1 v1 q1 A1 V1 => ⟨I, U1, rs1, r1, xs, _, A1.rel, e2, fun U2 rs2 H2 vs qs A2 V2 N2 D2 => ?_⟩⟩
  have V1' := V1.step A1.rel.sub A1.rel.wt A2.st rfl
  refine k U2 rs2 H2 (v1 :: vs) (q1 :: qs) (A1.trans R A2) (.eo V1'.1 V2) (fun b m => (List.mem_append.mp m).elim (V1'.2.1 b) (N2 b)) (List.nodup_append.mpr ⟨V1'.2.2, D2, fun a ha b hb e => ?_⟩)
  subst e
  rcases A2.new a hb with z | z
  · exact (V1.ownd a ha).1 z
  · exact (V1.ownd a ha).2 z
theorem name_arg {I : Ini} {U : Addr → Prop} {rs : Rs} {r : Env} {s : St} {H : Hp} (R : Rel X.K I fl U rs r s H) {j : Nat} {d : D} (h : getS r j = some d) : ∃ v, s[j]? = some (some v) ∧ stS s j = some v := by
  obtain ⟨v, hv, _⟩ := slot_v (R.sl j) h
  exact ⟨v, hv, by unfold stS; rw [hv]; rfl⟩
theorem jc_io {e : Expr} {es : List Expr} {j n : Nat} {as : List Ag} {pf : List Fg} {p2 : Bool} (he : PE X e (tVar j)) (hf : mine (fgAt fl j) (n + 1) = true) (hr : JC X fl es as pf p2) (hs : starEach (e :: es) X.env = (false, eval e X.env) :: starEach es X.env := by rfl) : JC X fl (e :: es) (.io j :: as) (.io (n + 1) :: pf) p2 := by
  refine pa_mono (pa_cons he hr hs) ?_
  rintro st H Q ⟨I, U, rs, r, ods, r', R, hs, k⟩
  unfold argL at hs
  cases g : getS r j with
  | none => rw [g] at hs; cases hs
  | some d =>
    rw [g] at hs
    obtain ⟨xs, r2, e2, hs⟩ := of_bind hs
    cases hs
    obtain ⟨v, hv, hst⟩ := name_arg R g
    exact ⟨v, hv, I, U, rs, r, xs, _, R, e2, fun U2 rs2 H2 vs qs A2 V2 N2 D2 => k U2 rs2 H2 (v :: vs) ([] :: qs) A2 (.io hst hf V2) N2 D2⟩
theorem jc_v {e : Expr} {es : List Expr} {j : Nat} {as : List Ag} {pf : List Fg} {p2 : Bool} (he : PE X e (tVar j)) (hf : flat1 (fgAt fl j) = true) (hr : JC X fl es as pf p2) (hs : starEach (e :: es) X.env = (false, eval e X.env) :: starEach es X.env := by rfl) : JC X fl (e :: es) (.bv j :: as) (.b1 :: pf) p2 := by
  refine pa_mono (pa_cons he hr hs) ?_
  rintro st H Q ⟨I, U, rs, r, ods, r', R, hs, k⟩
  unfold argL at hs
  cases g : getS r j with
  | none => rw [g] at hs; cases hs
  | some d =>
    rw [g] at hs
    obtain ⟨xs, r2, e2, hs⟩ := of_bind hs
    cases hs
    obtain ⟨v, hv, hst⟩ := name_arg R g
    exact ⟨v, hv, I, U, rs, r, xs, _, R, e2, fun U2 rs2 H2 vs qs A2 V2 N2 D2 => k U2 rs2 H2 (v :: vs) ([] :: qs) A2 (.bv hst hf V2) N2 D2⟩
theorem jc_f {e : Expr} {es : List Expr} {j : Nat} {as : List Ag} {pf : List Fg} {p2 : Bool} (he : PE X e (tVar j)) (hf : fgAt fl j = .fz) (hr : JC X fl es as pf p2) (hs : starEach (e :: es) X.env = (false, eval e X.env) :: starEach es X.env := by rfl) : JC X fl (e :: es) (.bv j :: as) (.fz :: pf) p2 := by
  refine pa_mono (pa_cons he hr hs) ?_
  rintro st H Q ⟨I, U, rs, r, ods, r', R, hs, k⟩
  unfold argL at hs
  cases g : getS r j with
  | none => rw [g] at hs; cases hs
  | some d =>
    rw [g] at hs
    obtain ⟨xs, r2, e2, hs⟩ := of_bind hs
    cases hs
    obtain ⟨v, hv, hst⟩ := name_arg R g
    exact ⟨v, hv, I, U, rs, r, xs, _, R, e2, fun U2 rs2 H2 vs qs A2 V2 N2 D2 => k U2 rs2 H2 (v :: vs) ([] :: qs) A2 (.fz hst hf V2) N2 D2⟩
end

/-! ### the promise -/
/-- which parameters are handed back, with how deep they are owned -/
def iosOf : Nat → List Fg → List (Nat × Nat)
  | _, [] => []
  | i, .io n :: fs => (i, n) :: iosOf (i + 1) fs
  | i, _ :: fs => iosOf (i + 1) fs
/-- a def's entry: the slots' flags, names, values -/
def fl0 (n : Nat) (pf : List Fg) : List Fg := pf ++ List.replicate (n - pf.length) (.ow 0)
def en0 (n : Nat) (ds : List D) : Env := ds.map some ++ List.replicate (n - ds.length) none
def st0 (n : Nat) (vs : List V) : St := vs.map some ++ List.replicate (n - vs.length) none
inductive Outs (K : PySem.W.Frag) (U : Addr → Prop) (H : Hp) (vs : List V) (rs : Rs) : List (Nat × Nat) → List D → Prop
  | nil : Outs K U H vs rs [] []
  | cons {i n : Nat} {v : V} {d : D} {ios : List (Nat × Nat)} {ds : List D} : vs[i]? = some v → Own K U H n d v (rs i) → Outs K U H vs rs ios ds → Outs K U H vs rs ((i, n) :: ios) (d :: ds)
/-- the places that are handed back, alone -/
def onIo (ios : List (Nat × Nat)) (rs : Rs) : Rs := fun i => if (ios.map (·.1)).contains i = true then rs i else []
def spJ (K : PySem.W.Frag) (n : Nat) (pf : List Fg) (rm : Nat) (F : Fn) : Sp := fun vs H Q _ => vs.length = pf.length ∧ ∃ U rs ds d outs, ds.length = pf.length ∧
  Rel K ⟨U, Wr rs, H, st0 n vs⟩ (fl0 n pf) U rs (en0 n ds) (st0 n vs) H ∧ F ds = .ok d outs ∧
  ∀ U' rs' H' v q, Step U (Wr rs) H U' (Wr rs') H' → (∀ b, U' b → H' b ≠ none) → (∀ b, Wr rs' b → U' b) → (∀ i, (rs' i).Nodup) → (∀ i j b, b ∈ rs' i → b ∈ rs' j → i = j) → Outs K U' H' vs rs' (iosOf 0 pf) outs →
    Own K U' H' rm d v q → (∀ a ∈ q, ¬ Wr rs' a) → q.Nodup → (∀ a ∈ q, Wr rs a ∨ H a = none) → Q v H'
theorem fgAt_fl0 {n : Nat} {pf : List Fg} {i : Nat} : fgAt (fl0 n pf) i = fgAt pf i := by
  unfold fgAt fl0
  rw [List.getD_eq_getElem?_getD, List.getD_eq_getElem?_getD]
  by_cases h : i < pf.length
  · rw [List.getElem?_append_left h]
  · rw [List.getElem?_append_right (by omega), List.getElem?_eq_none (l := pf) (by omega)]
    cases e : (List.replicate (n - pf.length) (Fg.ow 0))[i - pf.length]? with
    | none => rfl
    | some f =>
      have := List.mem_of_getElem? e
      rw [List.mem_replicate] at this
      rw [this.2]; rfl
theorem iosOf_at : ∀ {pf : List Fg} {k : Nat} {p : Nat × Nat}, p ∈ iosOf k pf → ∃ i, p.1 = k + i ∧ pf[i]? = some (.io p.2)
  | [], k, p, h => by cases h
  | f :: fs, k, p, h => by
    have go : p ∈ iosOf (k + 1) fs → ∃ i, p.1 = k + i ∧ (f :: fs)[i]? = some (.io p.2) := fun h => by
      obtain ⟨i, h1, h2⟩ := iosOf_at h
      exact ⟨i + 1, by omega, by simpa using h2⟩
    cases f with
    | io n =>
      rcases List.mem_cons.mp h with e | h
      · subst e; exact ⟨0, rfl, rfl⟩
      · exact go h
    | b1 => exact go h
    | lk => exact go h
    | fz => exact go h
    | ow n => exact go h
theorem io_iosOf : ∀ {pf : List Fg} {k i n : Nat}, pf[i]? = some (.io n) → (k + i, n) ∈ iosOf k pf
  | [], k, i, n, h => by simp at h
  | f :: fs, k, i, n, h => by
    cases i with
    | zero =>
      simp at h
      subst h
      exact List.mem_cons_self
    | succ i =>
      have := io_iosOf (k := k + 1) (show fs[i]? = some (.io n) by simpa using h)
      rw [show k + 1 + i = k + (i + 1) by omega] at this
      cases f with
      | io m => exact List.mem_cons_of_mem _ this
      | b1 => exact this
      | lk => exact this
      | fz => exact this
      | ow m => exact this
section
variable {P : Program} {w : World} {K : PySem.W.Frag} {mg : Str → Option Value} {base : Heap}
/-- THE RULE for a def: its body does what the semantics says -/
theorem jdef {x qual : Str} {st : Stmt} {f : Addr} {fd : FuncData} {N ps : List Str} {k n rm : Nat} {pf fn : List Fg} {body : SS} (F : Fun K x qual st f fd) (S : FnScope N ps (defScope st)) (hn : N.length = n) (hps : ps.length = pf.length) (hle : pf.length ≤ n)
    (hb : ∀ (cdv : Value) (A : Around) (outer : List PySem.Env) (s : Shared) (H : Hp) (E : XK), Room k (A.deeper (envOfC qual (defScope st) s.heap.objs.size f cdv)) →
      JSs (cxOf CX0 P w K mg base N qual (defScope st) f cdv A outer s H E).nox ⟨fl0 n pf, [], iosOf 0 pf, .own rm⟩ (fl0 n pf) (defBody st) body fn) (hio : ioOk fn (iosOf 0 pf) = true) :
    FnOk P w K mg base CX0 (k + 1) f fd ps (spJ K n pf rm (runD n ((iosOf 0 pf).map (·.1)) body)) := by
  refine F.ok S (fun vs H Q E h => by rw [hps]; exact h.1) (fun cdv A outer s H vs Q E hr h => ⟨_, hb cdv A outer s H E hr, ?_⟩)
  obtain ⟨hvl, U, rs, ds, d, outs, hds, R, hF, q⟩ := h
  have est : L2.start N vs = st0 n vs := by unfold L2.start st0; rw [hn]
  rw [est]
  -- the run of the body
  have hF' : ∃ fin r', body (en0 n ds) = .ok fin r' ∧ outsOf ((iosOf 0 pf).map (·.1)) r' = some outs ∧ ((fin = .rt d) ∨ (fin = .nx ∧ d = .none)) := by
    unfold runD at hF
    have e0 : ds.map some ++ List.replicate (n - ds.length) none = en0 n ds := rfl
    rw [e0] at hF
    cases e : body (en0 n ds) with
    | no => rw [e] at hF; cases hF
    | ex c xs r' =>
      rw [e] at hF
      simp only at hF
      split at hF <;> cases hF
    | ok fin r' =>
      rw [e] at hF
      simp only at hF
      split at hF
      · rename_i o ho
        cases fin with
        | nx => cases hF; exact ⟨_, _, rfl, ho, .inr ⟨rfl, rfl⟩⟩
        | rt d' => cases hF; exact ⟨_, _, rfl, ho, .inl rfl⟩
        | bk => cases hF
        | ct => cases hF
      · cases hF
  obtain ⟨fin, r', hbody, hout, hfin⟩ := hF'
  -- what holds of the names handed back
  have key : ∀ {flr : List Fg} {U' : Addr → Prop} {rs' : Rs} {r2 : Env} {s' : St} {H' : Hp}, ioOk flr (iosOf 0 pf) = true → (∀ p ∈ iosOf 0 pf, getS r2 p.1 = getS r' p.1) → Rel K ⟨U, Wr rs, H, st0 n vs⟩ flr U' rs' r2 s' H' → Outs K U' H' vs rs' (iosOf 0 pf) outs := fun {flr U' rs' r2 s' H'} io ag R' => by
    have gen : ∀ (ios : List (Nat × Nat)) (os : List D), (∀ p ∈ ios, p ∈ iosOf 0 pf) → outsOf (ios.map (·.1)) r' = some os → Outs K U' H' vs rs' ios os := by
      intro ios
      induction ios with
      | nil => intro os _ h; cases h; exact .nil
      | cons p ios ih =>
        intro os sub h
        unfold outsOf at h
        simp only [List.map_cons] at h
        split at h
        · rename_i d' ds' e1 e2
          cases h
          have hp := sub p List.mem_cons_self
          obtain ⟨i, hi, hpf⟩ := iosOf_at hp
          have hz := List.all_eq_true.mp io p hp
          have sl := R'.sl p.1
          rw [ag p hp, e1] at sl
          obtain ⟨v, hv, sl⟩ := sl
          have hflr : fgAt flr p.1 = .io p.2 := by
            revert hz
            cases fgAt flr p.1 with
            | io m => intro hz; rw [show m = p.2 from of_decide_eq_true hz]
            | b1 => intro hz; cases hz
            | lk => intro hz; cases hz
            | fz => intro hz; cases hz
            | ow m => intro hz; cases hz
          have hpin := R'.pin p.1 (by rw [hflr]; rfl)
          rw [hflr] at sl
          -- the value is the argument
          have hlt : p.1 < vs.length := by
            rw [hvl]
            have := (List.getElem?_eq_some_iff.mp hpf).1
            omega
          have hvv : vs[p.1]? = some v := by
            have e3 : s'[p.1]? = (st0 n vs)[p.1]? := hpin
            unfold stS at hv
            rw [e3] at hv
            unfold st0 at hv
            rw [List.getElem?_append_left (by simpa using hlt), List.getElem?_map, List.getElem?_eq_getElem hlt] at hv
            rw [List.getElem?_eq_getElem hlt]
            simpa using hv
          exact .cons hvv sl (ih ds' (fun p hp => sub p (List.mem_cons_of_mem _ hp)) e2)
        · cases h
    exact gen _ _ (fun _ h => h) hout
  have fin' : ∀ {flr : List Fg} {U' : Addr → Prop} {rs' : Rs} {r2 : Env} {s' : St} {H' : Hp} {v : V} {q' : List Addr}, ioOk flr (iosOf 0 pf) = true → (∀ p ∈ iosOf 0 pf, getS r2 p.1 = getS r' p.1) → Rel K ⟨U, Wr rs, H, st0 n vs⟩ flr U' rs' r2 s' H' → Step U (Wr rs) H U' (Wr rs') H' →
      Own K U' H' rm d v q' → (∀ a ∈ q', ¬ Wr rs' a) → q'.Nodup → (∀ a ∈ q', TN ⟨U, Wr rs, H, st0 n vs⟩ a) → Q v H' := fun {flr U' rs' r2 s' H' v q'} io ag R' S' o nw nd nq =>
    q U' rs' H' v q' S' R'.ul R'.sub R'.nd R'.dis (key io ag R') o nw nd nq
  refine ⟨⟨U, Wr rs, H, st0 n vs⟩, U, rs, en0 n ds, fin, r', R, hbody, fun U' rs' s' H' S' => ?_⟩
  rcases hfin with rfl | ⟨rfl, rfl⟩
  · exact fun fb r2 v q' ag io R' V nq => fin' io ag R' S' V.1 V.2.1 V.2.2 nq
  · intro R'
    exact fin' hio (fun _ _ => rfl) R' S' (.sh .non (.inr trivial)) (fun _ m => by cases m) List.Pairwise.nil fun _ m => by cases m
end
end J

set_option Elab.async false
set_option linter.all false
set_option maxRecDepth 100000
/-! JCall2: a call of a def by its promise. -/
namespace J
open PySem L2

def ioIx : List Ag → List Nat
  | [] => []
  | .io j :: as => j :: ioIx as
  | .e _ :: as => ioIx as
  | .eo _ :: as => ioIx as
  | .bv _ :: as => ioIx as
def bvIx : List Ag → List Nat
  | [] => []
  | .bv j :: as => j :: bvIx as
  | .e _ :: as => bvIx as
  | .eo _ :: as => bvIx as
  | .io _ :: as => bvIx as
/-- the names that may be changed are different ones, and no other argument -/
def asOk (as : List Ag) : Bool := decide (ioIx as).Nodup && (bvIx as).all fun j => !(ioIx as).contains j
def posIo : List Ag → Nat → Option Nat
  | [], _ => none
  | .io i :: as, j => if i = j then some 0 else (posIo as j).map (· + 1)
  | .e _ :: as, j => (posIo as j).map (· + 1)
  | .eo _ :: as, j => (posIo as j).map (· + 1)
  | .bv _ :: as, j => (posIo as j).map (· + 1)
theorem posIo_some : ∀ {as : List Ag} {j i : Nat}, posIo as j = some i → as[i]? = some (.io j)
  | [], _, _, h => by cases h
  | .io i' :: as, j, i, h => by
    unfold posIo at h
    split at h
    · rename_i e; cases h; subst e; rfl
    · cases e : posIo as j with
      | none => rw [e] at h; cases h
      | some k => rw [e] at h; cases h; exact (List.getElem?_cons_succ).trans (posIo_some e)
  | .e _ :: as, j, i, h => by
    unfold posIo at h
    cases e : posIo as j with
    | none => rw [e] at h; cases h
    | some k => rw [e] at h; cases h; exact (List.getElem?_cons_succ).trans (posIo_some e)
  | .eo _ :: as, j, i, h => by
    unfold posIo at h
    cases e : posIo as j with
    | none => rw [e] at h; cases h
    | some k => rw [e] at h; cases h; exact (List.getElem?_cons_succ).trans (posIo_some e)
  | .bv _ :: as, j, i, h => by
    unfold posIo at h
    cases e : posIo as j with
    | none => rw [e] at h; cases h
    | some k => rw [e] at h; cases h; exact (List.getElem?_cons_succ).trans (posIo_some e)
theorem posIo_none : ∀ {as : List Ag} {j : Nat}, j ∉ ioIx as → posIo as j = none
  | [], _, _ => rfl
  | .io i :: as, j, h => by
    unfold ioIx at h
    rw [List.mem_cons, not_or] at h
    unfold posIo
    rw [if_neg (Ne.symm h.1), posIo_none h.2]; rfl
  | .e _ :: as, j, h => by unfold posIo; rw [posIo_none (show j ∉ ioIx as from h)]; rfl
  | .eo _ :: as, j, h => by unfold posIo; rw [posIo_none (show j ∉ ioIx as from h)]; rfl
  | .bv _ :: as, j, h => by unfold posIo; rw [posIo_none (show j ∉ ioIx as from h)]; rfl
theorem mem_ioIx : ∀ {as : List Ag} {i j : Nat}, as[i]? = some (.io j) → j ∈ ioIx as
  | [], i, j, h => by simp at h
  | a :: as, 0, j, h => by simp at h; subst h; exact List.mem_cons_self
  | .io _ :: as, i + 1, j, h => List.mem_cons_of_mem _ (mem_ioIx (i := i) (by simpa using h))
  | .e _ :: as, i + 1, j, h => mem_ioIx (as := as) (i := i) (by simpa using h)
  | .eo _ :: as, i + 1, j, h => mem_ioIx (as := as) (i := i) (by simpa using h)
  | .bv _ :: as, i + 1, j, h => mem_ioIx (as := as) (i := i) (by simpa using h)
theorem mem_bvIx : ∀ {as : List Ag} {i j : Nat}, as[i]? = some (.bv j) → j ∈ bvIx as
  | [], i, j, h => by simp at h
  | a :: as, 0, j, h => by simp at h; subst h; exact List.mem_cons_self
  | .bv _ :: as, i + 1, j, h => List.mem_cons_of_mem _ (mem_bvIx (i := i) (by simpa using h))
  | .e _ :: as, i + 1, j, h => mem_bvIx (as := as) (i := i) (by simpa using h)
  | .eo _ :: as, i + 1, j, h => mem_bvIx (as := as) (i := i) (by simpa using h)
  | .io _ :: as, i + 1, j, h => mem_bvIx (as := as) (i := i) (by simpa using h)
theorem posIo_uniq : ∀ {as : List Ag} {i j : Nat}, (ioIx as).Nodup → as[i]? = some (.io j) → posIo as j = some i
  | [], i, j, _, h => by simp at h
  | .io k :: as, 0, j, _, h => by
    simp at h; subst h
    unfold posIo; rw [if_pos rfl]
  | .e _ :: as, 0, j, _, h => by simp at h
  | .eo _ :: as, 0, j, _, h => by simp at h
  | .bv _ :: as, 0, j, _, h => by simp at h
  | .io k :: as, i + 1, j, nd, h => by
    have h' : as[i]? = some (.io j) := by simpa using h
    have nd' := List.nodup_cons.mp (show (k :: ioIx as).Nodup from nd)
    unfold posIo
    rw [if_neg fun e => nd'.1 (by rw [e]; exact mem_ioIx h'), posIo_uniq nd'.2 h']; rfl
  | .e _ :: as, i + 1, j, nd, h => by
    unfold posIo
    rw [posIo_uniq (as := as) nd (by simpa using h)]; rfl
  | .eo _ :: as, i + 1, j, nd, h => by
    unfold posIo
    rw [posIo_uniq (as := as) nd (by simpa using h)]; rfl
  | .bv _ :: as, i + 1, j, nd, h => by
    unfold posIo
    rw [posIo_uniq (as := as) nd (by simpa using h)]; rfl
/-- the roots of the callee's parameters -/
def rsIn (as : List Ag) (rs : Rs) (qs : List (List Addr)) : Rs := fun i => match as[i]? with
  | some (.io j) => rs j
  | some (.eo _) => qs.getD i []
  | _ => []
theorem rsIn_mem {as : List Ag} {rs : Rs} {qs : List (List Addr)} {i : Nat} {b : Addr} (h : b ∈ rsIn as rs qs i) : (∃ j, as[i]? = some (.io j) ∧ b ∈ rs j) ∨ ∃ s, as[i]? = some (.eo s) ∧ b ∈ qs.getD i [] := by
  unfold rsIn at h
  split at h
  · rename_i j e
    exact .inl ⟨j, e, h⟩
  · rename_i s e
    exact .inr ⟨s, e, h⟩
  · cases h
theorem mem_flat {α : Type} {qs : List (List α)} {i : Nat} {b : α} (h : b ∈ qs.getD i []) : b ∈ qs.flatten := by
  rw [List.getD_eq_getElem?_getD] at h
  cases e : qs[i]? with
  | none => rw [e] at h; cases h
  | some q => rw [e] at h; exact List.mem_flatten.mpr ⟨q, List.mem_of_getElem? e, h⟩
theorem flat_uniq {α : Type} : ∀ {qs : List (List α)} {i j : Nat} {b : α}, qs.flatten.Nodup → b ∈ qs.getD i [] → b ∈ qs.getD j [] → i = j
  | [], i, j, b, _, h, _ => by simp at h
  | q :: qs, 0, 0, b, _, _, _ => rfl
  | q :: qs, 0, j + 1, b, nd, h1, h2 => by
    rw [List.flatten_cons, List.nodup_append] at nd
    exact absurd rfl (nd.2.2 b (by simpa using h1) b (mem_flat (i := j) (by simpa using h2)))
  | q :: qs, i + 1, 0, b, nd, h1, h2 => by
    rw [List.flatten_cons, List.nodup_append] at nd
    exact absurd rfl (nd.2.2 b (by simpa using h2) b (mem_flat (i := i) (by simpa using h1)))
  | q :: qs, i + 1, j + 1, b, nd, h1, h2 => by
    rw [List.flatten_cons, List.nodup_append] at nd
    exact congrArg (· + 1) (flat_uniq (qs := qs) (i := i) (j := j) nd.2.1 (by simpa using h1) (by simpa using h2))
theorem flat_nodup {α : Type} : ∀ {qs : List (List α)} {i : Nat}, qs.flatten.Nodup → (qs.getD i []).Nodup
  | [], i, _ => by simp
  | q :: qs, 0, nd => by
    rw [List.flatten_cons, List.nodup_append] at nd
    simpa using nd.1
  | q :: qs, i + 1, nd => by
    rw [List.flatten_cons, List.nodup_append] at nd
    have := flat_nodup (qs := qs) (i := i) nd.2.1
    simpa using this
/-- the roots behind the call -/
def rsOut (as : List Ag) (rs rs2 : Rs) : Rs := fun j => match posIo as j with
  | some i => rs2 i
  | none => rs j
section
variable {K : PySem.W.Frag} {fl : List Fg} {U T : Addr → Prop} {H : Hp} {s : St} {r : Env}
theorem ArgV.len : ∀ {pf : List Fg} {as : List Ag} {ods : List (Option D)} {vs : List V} {qs : List (List Addr)}, ArgV K fl U T H s pf as ods vs qs → vs.length = pf.length ∧ as.length = pf.length ∧ ods.length = pf.length
  | _, _, _, _, _, .nil => ⟨rfl, rfl, rfl⟩
  | _, _, _, _, _, .e1 _ t => by obtain ⟨a, b, c⟩ := ArgV.len t; simp [a, b, c]
  | _, _, _, _, _, .eo _ t => by obtain ⟨a, b, c⟩ := ArgV.len t; simp [a, b, c]
  | _, _, _, _, _, .e0 _ t => by obtain ⟨a, b, c⟩ := ArgV.len t; simp [a, b, c]
  | _, _, _, _, _, .io _ _ t => by obtain ⟨a, b, c⟩ := ArgV.len t; simp [a, b, c]
  | _, _, _, _, _, .bv _ _ t => by obtain ⟨a, b, c⟩ := ArgV.len t; simp [a, b, c]
  | _, _, _, _, _, .fz _ _ t => by obtain ⟨a, b, c⟩ := ArgV.len t; simp [a, b, c]
theorem argF_len : ∀ {as : List Ag} {ods : List (Option D)} {ds : List D}, argF as ods r = some ds → ds.length = as.length
  | [], [], _, h => by cases h; rfl
  | [], _ :: _, _, h => by cases h
  | .e _ :: as, [], _, h => by cases h
  | .eo _ :: as, [], _, h => by cases h
  | .io _ :: as, [], _, h => by cases h
  | .bv _ :: as, [], _, h => by cases h
  | .e _ :: as, some d :: ods, ds, h => by
    unfold argF at h
    cases e : argF as ods r with
    | none => rw [e] at h; cases h
    | some es => rw [e] at h; cases h; simp [argF_len e]
  | .eo _ :: as, some d :: ods, ds, h => by
    unfold argF at h
    cases e : argF as ods r with
    | none => rw [e] at h; cases h
    | some es => rw [e] at h; cases h; simp [argF_len e]
  | .e _ :: as, none :: ods, ds, h => by cases h
  | .eo _ :: as, none :: ods, ds, h => by cases h
  | .io i :: as, some d :: ods, ds, h => by cases h
  | .bv i :: as, some d :: ods, ds, h => by cases h
  | .io i :: as, none :: ods, ds, h => by
    unfold argF at h
    cases g : getS r i with
    | none => rw [g] at h; cases h
    | some d =>
      rw [g] at h
      simp only [Option.bind_some] at h
      cases e : argF as ods r with
      | none => rw [e] at h; cases h
      | some es => rw [e] at h; cases h; simp [argF_len e]
  | .bv i :: as, none :: ods, ds, h => by
    unfold argF at h
    cases g : getS r i with
    | none => rw [g] at h; cases h
    | some d =>
      rw [g] at h
      simp only [Option.bind_some] at h
      cases e : argF as ods r with
      | none => rw [e] at h; cases h
      | some es => rw [e] at h; cases h; simp [argF_len e]

theorem ArgV.inU : ∀ {pf : List Fg} {as : List Ag} {ods : List (Option D)} {vs : List V} {qs : List (List Addr)}, ArgV K fl U T H s pf as ods vs qs → ∀ b ∈ qs.flatten, U b
  | _, _, _, _, _, .nil, b, m => by cases m
  | _, _, _, _, _, .e1 _ t, b, m => ArgV.inU t b m
  | _, _, _, _, _, .e0 _ t, b, m => ArgV.inU t b m
  | _, _, _, _, _, .io _ _ t, b, m => ArgV.inU t b m
  | _, _, _, _, _, .bv _ _ t, b, m => ArgV.inU t b m
  | _, _, _, _, _, .fz _ _ t, b, m => ArgV.inU t b m
  | _, _, _, _, _, .eo o t, b, m => by
    rw [List.flatten_cons] at m
    rcases List.mem_append.mp m with m | m
    · exact Own.inU o b m
    · exact ArgV.inU t b m
/-- the callee's slots at its entry -/
theorem ArgV.slotAt {I : Ini} {rs : Rs} {T' : Addr → Prop} (R : Rel K I fl U rs r s H) (ht : ∀ b, T' b → TN I b ∨ H b = none) : ∀ {pf : List Fg} {as : List Ag} {ods : List (Option D)} {vs : List V} {qs : List (List Addr)} {ds : List D}, ArgV K fl U (TN I) H s pf as ods vs qs → argF as ods r = some ds →
    (∀ k ∈ bvIx as, ∀ b ∈ rs k, ¬ T' b) → ∀ i, Slot K U T' H (fgAt pf i) ds[i]? vs[i]? (rsIn as rs qs i)
  | _, _, _, _, _, _, .nil, h, _, i => by
    cases h
    exact (show rsIn [] rs [] i = [] by unfold rsIn; simp)
  | _, _, _, _, _, ds, .e1 (d := d) (v := v) (ods := ods) (as := as) e t, h, hb, i => by
    unfold argF at h
    cases e2 : argF as ods r with
    | none => rw [e2] at h; cases h
    | some es =>
      rw [e2] at h
      cases h
      cases i with
      | zero =>
        refine ⟨v, rfl, ?_, rfl⟩
        show E1 K U T' H d v
        rcases e with e | ⟨a, xs, ds, rfl, rfl, ha, n, e⟩ | ⟨a, xs, ds, rfl, rfl, ha, n, e⟩
        · exact .inl e
        · refine .inr (.inl ⟨a, xs, ds, rfl, rfl, ha, fun z => ?_, e⟩)
          rcases ht a z with z | z
          · exact n z
          · rw [ha] at z; cases z
        · refine .inr (.inr ⟨a, xs, ds, rfl, rfl, ha, fun z => ?_, e⟩)
          rcases ht a z with z | z
          · exact n z
          · rw [ha] at z; cases z
      | succ i => exact ArgV.slotAt R ht t e2 hb i
  | _, _, _, _, _, ds, .e0 (d := d) (v := v) (ods := ods) (as := as) e t, h, hb, i => by
    unfold argF at h
    cases e2 : argF as ods r with
    | none => rw [e2] at h; cases h
    | some es =>
      rw [e2] at h
      cases h
      cases i with
      | zero => exact ⟨v, rfl, .sh e (.inl rfl)⟩
      | succ i => exact ArgV.slotAt R ht t e2 hb i
  | _, _, _, _, _, ds, .eo (d := d) (v := v) (ods := ods) (as := as) o t, h, hb, i => by
    unfold argF at h
    cases e2 : argF as ods r with
    | none => rw [e2] at h; cases h
    | some es =>
      rw [e2] at h
      cases h
      cases i with
      | zero => exact ⟨v, rfl, o⟩
      | succ i => exact ArgV.slotAt R ht t e2 hb i
  | _, _, _, _, _, ds, .io (j := j) (v := v) (ods := ods) (as := as) hs hf t, h, hb, i => by
    unfold argF at h
    cases g : getS r j with
    | none => rw [g] at h; cases h
    | some d =>
      rw [g] at h
      simp only [Option.bind_some] at h
      cases e2 : argF as ods r with
      | none => rw [e2] at h; cases h
      | some es =>
        rw [e2] at h
        cases h
        cases i with
        | zero =>
          have sl := R.sl j
          rw [g, hs] at sl
          exact ⟨v, rfl, slot_mine hf sl⟩
        | succ i => exact ArgV.slotAt R ht t e2 hb i
  | _, _, _, _, _, ds, .bv (j := j) (v := v) (ods := ods) (as := as) hs hf t, h, hb, i => by
    unfold argF at h
    cases g : getS r j with
    | none => rw [g] at h; cases h
    | some d =>
      rw [g] at h
      simp only [Option.bind_some] at h
      cases e2 : argF as ods r with
      | none => rw [e2] at h; cases h
      | some es =>
        rw [e2] at h
        cases h
        cases i with
        | zero =>
          have sl := R.sl j
          rw [g, hs] at sl
          refine ⟨v, rfl, ?_, rfl⟩
          show E1 K U T' H d v
          -- whose list it is
          have nt1 : ∀ a, ¬ TN I a → H a ≠ none → ¬ T' a := fun a hw hn z => (ht a z).elim hw hn
          have nt2 : ∀ a, a ∈ rs j → ¬ T' a := fun a m => hb j List.mem_cons_self a m
          revert sl hf
          cases fgAt fl j with
          | b1 =>
            intro hf sl
            rcases slot_b1 sl with e | ⟨a, xs, ds, rfl, rfl, ha, n, e⟩ | ⟨a, xs, ds, rfl, rfl, ha, n, e⟩
            · exact .inl e
            · exact .inr (.inl ⟨a, xs, ds, rfl, rfl, ha, nt1 a n (by rw [ha]; exact fun z => by cases z), e⟩)
            · exact .inr (.inr ⟨a, xs, ds, rfl, rfl, ha, nt1 a n (by rw [ha]; exact fun z => by cases z), e⟩)
          | lk =>
            intro hf sl
            rcases slot_lk sl with e | ⟨a, xs, ds, rfl, rfl, ha, n, e⟩ | ⟨a, xs, ds, rfl, rfl, ha, n, e⟩
            · exact .inl e
            · exact .inr (.inl ⟨a, xs, ds, rfl, rfl, ha, nt1 a n (by rw [ha]; exact fun z => by cases z), e⟩)
            · exact .inr (.inr ⟨a, xs, ds, rfl, rfl, ha, nt1 a n (by rw [ha]; exact fun z => by cases z), e⟩)
          | fz => intro hf sl; cases hf
          | ow m =>
            intro hf sl
            have o := slot_own sl
            have hm : m ≤ 1 := of_decide_eq_true hf
            generalize hq : rs j = q at o nt2
            cases o with
            | sh e _ => exact .inl e
            | lst u ha t =>
              rename_i n a xs ds q'
              have e0 : n = 0 := by omega
              subst e0
              exact .inr (.inl ⟨a, _, _, rfl, rfl, ha, nt2 a List.mem_cons_self, t.to0.1⟩)
            | dic u ha t => exact .inr (.inr ⟨_, _, _, rfl, rfl, ha, nt2 _ List.mem_cons_self, t⟩)
          | io m =>
            intro hf sl
            have o := slot_io sl
            have hm : m ≤ 1 := of_decide_eq_true hf
            generalize hq : rs j = q at o nt2
            cases o with
            | sh e _ => exact .inl e
            | lst u ha t =>
              rename_i n a xs ds q'
              have e0 : n = 0 := by omega
              subst e0
              exact .inr (.inl ⟨a, _, _, rfl, rfl, ha, nt2 a List.mem_cons_self, t.to0.1⟩)
            | dic u ha t => exact .inr (.inr ⟨_, _, _, rfl, rfl, ha, nt2 _ List.mem_cons_self, t⟩)
        | succ i => exact ArgV.slotAt R ht t e2 (fun k hk => hb k (List.mem_cons_of_mem _ hk)) i
  | _, _, _, _, _, ds, .fz (j := j) (v := v) (ods := ods) (as := as) hs hf t, h, hb, i => by
    unfold argF at h
    cases g : getS r j with
    | none => rw [g] at h; cases h
    | some d =>
      rw [g] at h
      simp only [Option.bind_some] at h
      cases e2 : argF as ods r with
      | none => rw [e2] at h; cases h
      | some es =>
        rw [e2] at h
        cases h
        cases i with
        | zero =>
          have sl := R.sl j
          rw [g, hs, hf] at sl
          obtain ⟨v', e, sl⟩ := sl
          cases e
          exact ⟨v, rfl, sl.1, rfl⟩
        | succ i => exact ArgV.slotAt R ht t e2 (fun k hk => hb k (List.mem_cons_of_mem _ hk)) i
/-- the names behind the call -/
theorem ArgV.back {T : Addr → Prop} {U2 : Addr → Prop} {H2 : Hp} {rs2 : Rs} {vsA : List V} : ∀ {pf : List Fg} {as : List Ag} {ods : List (Option D)} {vs : List V} {qs : List (List Addr)} {outs : List D} {r r' : Env} {k : Nat}, ArgV K fl U T H s pf as ods vs qs → (ioIx as).Nodup → (∀ i v, vs[i]? = some v → vsA[k + i]? = some v) → fl.length = r.length →
    Outs K U2 H2 vsA rs2 (iosOf k pf) outs → argB as outs r = some r' → r'.length = r.length ∧ ∀ j, match posIo as j with
      | none => getS r' j = getS r j
      | some i => ∃ d n v, getS r' j = some d ∧ stS s j = some v ∧ mine (fgAt fl j) n = true ∧ Own K U2 H2 n d v (rs2 (k + i))
  | _, _, _, _, _, _, r, r', k, .nil, _, _, _, o, h => by
    cases o
    cases h
    exact ⟨rfl, fun j => rfl⟩
  | _, _, _, _, _, outs, r, r', k, .e1 (as := as) _ t, nd, hv, hl, o, h => by
    obtain ⟨l, q⟩ := ArgV.back t nd (k := k + 1) (fun i v hi => by have := hv (i + 1) v (by simpa using hi); rwa [show k + (i + 1) = k + 1 + i by omega] at this) hl o h
    refine ⟨l, fun j => ?_⟩
    have := q j
    unfold posIo
    cases e : posIo as j with
    | none => rw [e] at this; exact this
    | some i => rw [e] at this; simp only [Option.map_some]; rw [show k + (i + 1) = k + 1 + i by omega]; exact this
  | _, _, _, _, _, outs, r, r', k, .e0 (as := as) _ t, nd, hv, hl, o, h => by
    obtain ⟨l, q⟩ := ArgV.back t nd (k := k + 1) (fun i v hi => by have := hv (i + 1) v (by simpa using hi); rwa [show k + (i + 1) = k + 1 + i by omega] at this) hl o h
    refine ⟨l, fun j => ?_⟩
    have := q j
    unfold posIo
    cases e : posIo as j with
    | none => rw [e] at this; exact this
    | some i => rw [e] at this; simp only [Option.map_some]; rw [show k + (i + 1) = k + 1 + i by omega]; exact this
  | _, _, _, _, _, outs, r, r', k, .bv (as := as) _ _ t, nd, hv, hl, o, h => by
    obtain ⟨l, q⟩ := ArgV.back t nd (k := k + 1) (fun i v hi => by have := hv (i + 1) v (by simpa using hi); rwa [show k + (i + 1) = k + 1 + i by omega] at this) hl o h
    refine ⟨l, fun j => ?_⟩
    have := q j
    unfold posIo
    cases e : posIo as j with
    | none => rw [e] at this; exact this
    | some i => rw [e] at this; simp only [Option.map_some]; rw [show k + (i + 1) = k + 1 + i by omega]; exact this
  | _, _, _, _, _, outs, r, r', k, .fz (as := as) _ _ t, nd, hv, hl, o, h => by
    obtain ⟨l, q⟩ := ArgV.back t nd (k := k + 1) (fun i v hi => by have := hv (i + 1) v (by simpa using hi); rwa [show k + (i + 1) = k + 1 + i by omega] at this) hl o h
    refine ⟨l, fun j => ?_⟩
    have := q j
    unfold posIo
    cases e : posIo as j with
    | none => rw [e] at this; exact this
    | some i => rw [e] at this; simp only [Option.map_some]; rw [show k + (i + 1) = k + 1 + i by omega]; exact this
  | _, _, _, _, _, outs, r, r', k, .eo (as := as) _ t, nd, hv, hl, o, h => by
    cases o with
    | cons hvk ho o =>
      obtain ⟨l, q⟩ := ArgV.back t nd (k := k + 1) (fun i v hi => by have := hv (i + 1) v (by simpa using hi); rwa [show k + (i + 1) = k + 1 + i by omega] at this) hl o h
      refine ⟨l, fun j => ?_⟩
      have := q j
      unfold posIo
      cases e : posIo as j with
      | none => rw [e] at this; exact this
      | some i => rw [e] at this; simp only [Option.map_some]; rw [show k + (i + 1) = k + 1 + i by omega]; exact this
  | _, _, _, _, _, outs, r, r', k, .io (j := j0) (as := as) (n := n) (v := v) hs hf t, nd, hv, hl, o, h => by
    have nd' := List.nodup_cons.mp (show (j0 :: ioIx as).Nodup from nd)
    cases o with
    | cons hvk ho o =>
      rename_i v' d ds
      have ev : v' = v := by
        have := hv 0 v rfl
        rw [show k + 0 = k from rfl, hvk] at this
        exact (Option.some.inj this)
      subst ev
      have hlt : j0 < r.length := by rw [← hl]; exact mine_lt hf
      obtain ⟨l, q⟩ := ArgV.back t nd'.2 (k := k + 1) (r := r.set j0 (some d)) (fun i v hi => by have := hv (i + 1) v (by simpa using hi); rwa [show k + (i + 1) = k + 1 + i by omega] at this) (by rw [List.length_set]; exact hl) o h
      refine ⟨by rw [l, List.length_set], fun j => ?_⟩
      have q := q j
      unfold posIo
      by_cases e : j0 = j
      · subst e
        rw [if_pos rfl]
        rw [posIo_none nd'.1] at q
        refine ⟨d, n + 1, v', ?_, hs, hf, ho⟩
        have q : getS r' j0 = getS (r.set j0 (some d)) j0 := q
        rw [q, getS_set hlt]
      · rw [if_neg e]
        cases e2 : posIo as j with
        | none =>
          rw [e2] at q
          have q : getS r' j = getS (r.set j0 (some d)) j := q
          rw [getS_ne (Ne.symm e)] at q
          exact q
        | some i =>
          rw [e2] at q
          simp only [Option.map_some]
          rw [show k + (i + 1) = k + 1 + i by omega]
          exact q
end
theorem getS_en0 {n : Nat} {ds : List D} {i : Nat} : getS (en0 n ds) i = ds[i]? := by
  unfold getS en0
  by_cases h : i < ds.length
  · rw [List.getElem?_append_left (by simpa using h), List.getElem?_map, List.getElem?_eq_getElem h]; rfl
  · rw [List.getElem?_append_right (by simpa using Nat.le_of_not_lt h), List.getElem?_eq_none (l := ds) (by omega)]
    cases e : (List.replicate (n - ds.length) (none : Option D))[i - (ds.map some).length]? with
    | none => rfl
    | some o =>
      have := List.mem_of_getElem? e
      rw [List.mem_replicate] at this
      rw [this.2]
theorem stS_st0 {n : Nat} {vs : List V} {i : Nat} : stS (st0 n vs) i = vs[i]? := by
  unfold stS st0
  by_cases h : i < vs.length
  · rw [List.getElem?_append_left (by simpa using h), List.getElem?_map, List.getElem?_eq_getElem h]; rfl
  · rw [List.getElem?_append_right (by simpa using Nat.le_of_not_lt h), List.getElem?_eq_none (l := vs) (by omega)]
    cases e : (List.replicate (n - vs.length) (none : Option V))[i - (vs.map some).length]? with
    | none => rfl
    | some o =>
      have := List.mem_of_getElem? e
      rw [List.mem_replicate] at this
      rw [this.2]; rfl
section
variable {X : Cx} {fl : List Fg}
/-- a call, by the promise of the def -/
theorem call_ok {as : List Ag} {pf : List Fg} {n rm : Nat} {F : Fn} {p : Bool} {st : St} {H : Hp} {Q : VK} (hok : asOk as = true) (hle : pf.length ≤ n)
    (h : tJ X.K fl (sCall F as) (.own rm) (p && (ioIx as).isEmpty) st H Q) : tJC X.K fl as pf p st H fun vs H1 => spJ X.K n pf rm F vs H1 Q E0 := by
  rcases h with ⟨I, U, rs, r, d, r', R, hs, k⟩
  obtain ⟨ods, r1, e1, hs⟩ := of_bind hs
  unfold asOk at hok
  rw [Bool.and_eq_true, decide_eq_true_eq, List.all_eq_true] at hok
  obtain ⟨nd, hbv⟩ := hok
  refine ⟨I, U, rs, r, ods, r1, R, e1, fun U1 rs1 H1 vs qs A1 V1 N1 D1 => ?_⟩
  cases eF : argF as ods r1 with
  | none => rw [eF] at hs; cases hs
  | some ds =>
    rw [eF] at hs
    simp only at hs
    cases eR : F ds with
    | no => rw [eR] at hs; cases hs
    | ex c xs os =>
      rw [eR] at hs
      simp only at hs
      split at hs <;> cases hs
    | ok d' outs =>
      rw [eR] at hs
      simp only at hs
      cases eB : argB as outs r1 with
      | none => rw [eB] at hs; cases hs
      | some r2 =>
        rw [eB] at hs
        cases hs
        obtain ⟨l1, l2, l3⟩ := V1.len
        have lds := argF_len eF
        have R1 := A1.rel
        have Tq : ∀ b ∈ qs.flatten, TN I b := A1.ti R
        have Uq : ∀ b ∈ qs.flatten, U1 b := fun b m => V1.inU b m
        let rs0 := rsIn as rs1 qs
        -- what the callee may write
        have w01 : ∀ b, Wr rs0 b → Wr rs1 b ∨ b ∈ qs.flatten := fun b ⟨i, m⟩ => by
          rcases rsIn_mem m with ⟨j, _, mj⟩ | ⟨_, _, mj⟩
          · exact .inl ⟨j, mj⟩
          · exact .inr (mem_flat mj)
        have sub0 : ∀ b, Wr rs0 b → U1 b := fun b w => (w01 b w).elim (R1.sub b) (Uq b)
        have t0 : ∀ b, Wr rs0 b → TN I b := fun b w => (w01 b w).elim (R1.wt b) (Tq b)
        have hT : ∀ b, TN ⟨U1, Wr rs0, H1, st0 n vs⟩ b → TN I b ∨ H1 b = none := fun b z => z.elim (fun z => .inl (t0 b z)) .inr
        have sl := V1.slotAt (T' := TN ⟨U1, Wr rs0, H1, st0 n vs⟩) R1 hT eF fun kk hk b hb z => by
          rcases z with ⟨i, m⟩ | z
          · rcases rsIn_mem m with ⟨j, hj, mj⟩ | ⟨_, _, mj⟩
            · have e := R1.dis j kk b mj hb
              subst e
              have := hbv j hk
              simp [mem_ioIx hj] at this
            · exact N1 b (mem_flat mj) ⟨kk, hb⟩
          · exact R1.ul b (R1.sub b ⟨kk, hb⟩) z
        have R0 : Rel X.K ⟨U1, Wr rs0, H1, st0 n vs⟩ (fl0 n pf) U1 rs0 (en0 n ds) (st0 n vs) H1 := by
          refine ⟨?_, ?_, sub0, fun i => ?_, fun i i' b h1 h2 => ?_, .refl, R1.ul, sub0, R1.ul, fun i => ?_, fun i _ => rfl⟩
          · unfold en0 st0
            rw [List.length_append, List.length_append, List.length_map, List.length_map, List.length_replicate, List.length_replicate, lds, l2, l1]
          · unfold en0 fl0
            rw [List.length_append, List.length_append, List.length_map, List.length_replicate, List.length_replicate, lds, l2]
          · show (rsIn as rs1 qs i).Nodup
            unfold rsIn
            split
            · exact R1.nd _
            · exact flat_nodup D1
            · exact List.Pairwise.nil
          · rcases rsIn_mem h1 with ⟨j, hj, mj⟩ | ⟨_, hj, mj⟩
            · rcases rsIn_mem h2 with ⟨j', hj', mj'⟩ | ⟨_, hj', mj'⟩
              · have e := R1.dis j j' b mj mj'
                subst e
                have a := posIo_uniq nd hj
                have b := posIo_uniq nd hj'
                rw [a] at b
                exact Option.some.inj b
              · exact absurd ⟨j, mj⟩ (N1 b (mem_flat mj'))
            · rcases rsIn_mem h2 with ⟨j', hj', mj'⟩ | ⟨_, hj', mj'⟩
              · exact absurd ⟨j', mj'⟩ (N1 b (mem_flat mj))
              · exact flat_uniq D1 mj mj'
          · rw [fgAt_fl0, getS_en0, stS_st0]
            exact sl i
        refine ⟨l1, U1, rs0, ds, d, outs, lds.trans l2, R0, eR, fun U2 rs2 H2 v q S2 hu hw2 hnd hdis ho o nw ndq nq => ?_⟩
        -- behind the call
        obtain ⟨lb, bk⟩ := V1.back (k := 0) nd (fun i v hi => by rw [Nat.zero_add]; exact hi) R1.fln ho eB
        let rs3 := rsOut as rs1 rs2
        have out : ∀ j, (∃ i, as[i]? = some (.io j) ∧ posIo as j = some i ∧ rs3 j = rs2 i) ∨ (posIo as j = none ∧ rs3 j = rs1 j) := fun j => by
          show (∃ i, as[i]? = some (.io j) ∧ posIo as j = some i ∧ rsOut as rs1 rs2 j = rs2 i) ∨ (posIo as j = none ∧ rsOut as rs1 rs2 j = rs1 j)
          unfold rsOut
          cases e : posIo as j with
          | none => exact .inr ⟨rfl, rfl⟩
          | some i => exact .inl ⟨i, posIo_some e, rfl, rfl⟩
        -- what no changed name has
        have keepN : ∀ j, posIo as j = none → ∀ b ∈ rs1 j, ¬ Wr rs0 b := fun j hj b hb ⟨i, m⟩ => by
          rcases rsIn_mem m with ⟨j', hj', mj'⟩ | ⟨_, _, mj'⟩
          · have e := R1.dis j' j b mj' hb
            subst e
            rw [posIo_uniq nd hj'] at hj
            cases hj
          · exact N1 b (mem_flat mj') ⟨j, hb⟩
        have old : ∀ j, posIo as j = none → ∀ b ∈ rs1 j, U2 b ∧ (∀ o, H1 b = some o → H2 b = some o) ∧ ¬ Wr rs2 b ∧ H1 b ≠ none := fun j hj b hb => by
          have hn := keepN j hj b hb
          have hu1 := R1.sub b ⟨j, hb⟩
          have hn1 := R1.ul b hu1
          refine ⟨S2.kin b hu1 hn, fun o ho => S2.keep b o ho hn, ?_, hn1⟩
          cases q : H1 b with
          | none => exact absurd q hn1
          | some o => exact S2.notW q hn
        have w3 : ∀ b, Wr rs3 b → Wr rs2 b ∨ ∃ j, posIo as j = none ∧ b ∈ rs1 j := fun b ⟨j, m⟩ => by
          rcases out j with ⟨i, _, _, e⟩ | ⟨hj, e⟩
          · rw [e] at m; exact .inl ⟨i, m⟩
          · rw [e] at m; exact .inr ⟨j, hj, m⟩
        let W1 : Addr → Prop := fun b => Wr rs1 b ∨ b ∈ qs.flatten
        have S3 : Step U1 W1 H1 U2 (Wr rs3) H2 := ⟨fun b o h n => S2.keep b o h fun z => n (w01 b z), S2.fix, S2.live, S2.out, fun b u n => S2.kin b u fun z => n (w01 b z), fun b w => by
          rcases w3 b w with w | ⟨j, _, m⟩
          · exact (S2.win b w).elim (fun z => .inl (w01 b z)) .inr
          · exact .inl (.inl ⟨j, m⟩)⟩
        have SI : Step I.U I.W I.H U1 W1 H1 := step_set R1.st fun b w => w.elim (R1.st.win b) (Tq b)
        have SA : Step U (Wr rs) H U1 W1 H1 := step_set A1.st fun b w => w.elim (A1.st.win b) (A1.new b)
        have g : Grow U1 H1 U2 H2 := S2.growU sub0
        have gt : Grow (TN I) H1 (TN I) H2 := ⟨fun b u h n => S2.keep b u h fun z => n (t0 b z), S2.fix, fun _ z => .inl z⟩
        have R3 : Rel X.K I fl U2 rs3 r' st H2 := by
          refine ⟨by rw [lb]; exact R1.len, by rw [lb]; exact R1.fln, fun b w => ?_, fun j => ?_, fun j j' b h1 h2 => ?_, SI.trans R1.iu S3, R1.iu, R1.iw, hu, fun j => ?_, R1.pin⟩
          · rcases w3 b w with w | ⟨j, hj, m⟩
            · exact hw2 b w
            · exact (old j hj b m).1
          · rcases out j with ⟨i, _, _, e⟩ | ⟨_, e⟩
            · rw [e]; exact hnd i
            · rw [e]; exact R1.nd j
          · rcases out j with ⟨i, hi, _, e⟩ | ⟨hj, e⟩
            · rw [e] at h1
              rcases out j' with ⟨i', hi', _, e'⟩ | ⟨hj', e'⟩
              · rw [e'] at h2
                have := hdis i i' b h1 h2
                subst this
                rw [hi] at hi'
                cases hi'; rfl
              · rw [e'] at h2
                exact absurd ⟨i, h1⟩ (old j' hj' b h2).2.2.1
            · rw [e] at h1
              rcases out j' with ⟨i', hi', _, e'⟩ | ⟨hj', e'⟩
              · rw [e'] at h2
                exact absurd ⟨i', h2⟩ (old j hj b h1).2.2.1
              · rw [e'] at h2
                exact R1.dis j j' b h1 h2
          · have bj := bk j
            rcases out j with ⟨i, _, hp, e⟩ | ⟨hj, e⟩
            · rw [hp] at bj
              obtain ⟨dj, nj, vj, hg, hst, hm, oj⟩ := bj
              rw [hg, hst, e]
              rw [Nat.zero_add] at oj
              exact mine_slot hm oj
            · rw [hj] at bj
              have bj : getS r' j = getS r1 j := bj
              rw [bj, e]
              have sl := R1.sl j
              revert sl
              cases getS r1 j with
              | none => exact fun h => h
              | some dj =>
                rintro ⟨vj, hv, sl⟩
                refine ⟨vj, hv, ?_⟩
                cases hg : fgAt fl j with
                | b1 => rw [hg] at sl; exact ⟨E1.step g gt sl.1, sl.2⟩
                | lk => rw [hg] at sl; exact ⟨E1.step g gt sl.1, sl.2⟩
                | fz => rw [hg] at sl; exact ⟨sl.1.grow g, sl.2⟩
                | ow m => rw [hg] at sl; exact Own.step g sl fun b mb => ⟨(old j hj b mb).1, (old j hj b mb).2.1⟩
                | io m => rw [hg] at sl; exact Own.step g sl fun b mb => ⟨(old j hj b mb).1, (old j hj b mb).2.1⟩
        have qOld : ∀ b ∈ qs.flatten, H1 b ≠ none := fun b m => R1.ul b (Uq b m)
        refine k U2 rs3 H2 v q ⟨R3, SA.trans R.ul S3, fun hp => ?_, fun a m => ?_⟩ ⟨o, fun a m w => ?_, ndq⟩
        · rw [Bool.and_eq_true, List.isEmpty_iff] at hp
          obtain ⟨f1, g1⟩ := A1.pur hp.1
          have no : ∀ (i j : Nat), as[i]? ≠ some (Ag.io j) := fun i j h => by
            have := mem_ioIx h
            rw [hp.2] at this; cases this
          have w0 : ∀ b, Wr rs0 b → b ∈ qs.flatten := fun b ⟨i, m⟩ => by
            rcases rsIn_mem m with ⟨j, hj, _⟩ | ⟨_, _, mj⟩
            · exact absurd hj (no i j)
            · exact mem_flat mj
          -- what was ahead is none of these
          have nq0 : ∀ b, H b ≠ none → b ∉ qs.flatten := fun b hb m => by
            rcases A1.new b m with z | z
            · rw [g1] at N1
              exact N1 b m z
            · exact hb z
          refine ⟨⟨fun b o h => S2.keep b o (f1.all b o h) fun z => nq0 b (by rw [h]; exact fun z => by cases z) (w0 b z), fun b u => S2.kin b (f1.inc b u) fun z => nq0 b (R.ul b u) (w0 b z), fun b u => ?_⟩, ?_⟩
          · rcases S2.out b u with u | u
            · exact f1.out b u
            · exact .inr (f1.live b u)
          rw [← g1]
          funext j
          rcases out j with ⟨i, hi, _, _⟩ | ⟨_, e⟩
          · exact absurd hi (no i j)
          · exact e
        · rcases nq a m with z | z
          · rcases w01 a z with z | z
            · exact A1.st.win a z
            · exact A1.new a z
          · exact .inr (A1.st.live a z)
        · rcases w3 a w with w | ⟨j, hj, mj⟩
          · exact nw a m w
          · rcases nq a m with z | z
            · exact keepN j hj a mj z
            · exact (old j hj a mj).2.2.2 z
theorem je_call {k n rm : Nat} {f : Addr} {fd : FuncData} {ps : List Str} {pf : List Fg} {F : Fn} {x : Str} {e : Expr} {es : List Expr} {as : List Ag} {p : Bool} {p0 pos : Pos} (G : FnOk X.prog X.w X.K X.mg X.base CX0 k f fd ps (spJ X.K n pf rm F)) (hr : Room k X.A) (hg : Gl X x) (hm : X.mg x = some (.ref f)) (hk : PySem.W.keepIn X.K (.ref f) = true) (hb : Binds X.K fd ps [])
    (ha : JC X fl (e :: es) as pf p) (hok : asOk as = true) (hle : pf.length ≤ n) (hdb : (x == ("__debug__" : Str)) = false := by decide) (he : starEach (e :: es) X.env = (false, eval e X.env) :: starEach es X.env := by rfl) (hpl : (backTo pos (starEach es X.env)).any (·.1) = false := by rfl) :
    JE X fl (.Call (.Name x p0) (e :: es) [] pos) (sCall F as) (.own rm) (p && (ioIx as).isEmpty) := by
  refine pe_mono (pe_call G hr hg hm hk hb .nil pass0 ha hdb he hpl) fun st H Q h => ?_
  have := call_ok (n := n) (pf := pf) (p := p) hok hle h
  rcases this with ⟨I, U, rs, r, ods, r1, R, e1, c⟩
  exact ⟨I, U, rs, r, ods, r1, R, e1, fun U' rs' H' vs qs A V N D => by
    have z := c U' rs' H' vs qs A V N D
    show spJ X.K n pf rm F (vs ++ []) H' Q E0
    rw [List.append_nil]
    exact z⟩
end
end J

set_option Elab.async false
set_option linter.all false
set_option maxRecDepth 100000
/-! JKn: powers, chains, names stored from comprehensions and in parallel; what is known of a def; the law's end. -/
namespace J
open PySem L2

def dPow : D → D → Option D
  | .int a, .int b => if 0 ≤ b ∧ b ≤ 1000000 ∧ a.natAbs < 2 ^ 64 then some (.int (a ^ b.toNat)) else none
  | _, _ => none
theorem oj_pow {K : PySem.W.Frag} {m1 m2 : Md} {n : Nat} : OpJ K m1 m2 (.own n) dPow (rI CPow fun i j => .int (i ^ j.toNat)) := opj_int (g := fun i j => i ^ j.toNat) fun a b d h => by
  unfold dPow at h
  split at h
  · split at h
    · rename_i c
      cases h; exact ⟨_, _, rfl, rfl, c, rfl⟩
    · cases h
  · cases h
/-- a left part that stands still -/
theorem ob1 {K : PySem.W.Frag} {m2 m : Md} {f : D → D → Option D} {rr : R2} (h : OpJ K .r1 m2 m f rr) : OpJ K .b1 m2 m f rr := fun U W T H d1 d2 d v1 v2 q1 q2 Q hw hu V1 V2 => h U W T H d1 d2 d v1 v2 q1 q2 Q hw hu ⟨V1.1.less fun _ z => z.elim, V1.2⟩ V2
/-- a < b < c -/
def sChain (f g : D → D → Option D) (a b c : SE) : SE := fun r => (a r).bind fun x r1 => (b r1).bind fun y r2 => (lift (f x y) r2).bind fun t r3 => match t with
  | .bool true => (c r3).bind fun z r4 => lift (g y z) r4
  | .bool false => .ok (.bool false) r3
  | _ => .no
section
variable {X : Cx} {C : SC} {fl fm fn : List Fg}
theorem chain_ok {f g : D → D → Option D} {sa sb sc : SE} {m1 m2 m3 : Md} {p1 p2 p3 : Bool} {r r' : R2} (hj : OpJ X.K m1 m2 (.own 0) f r) (hj' : OpJ X.K m2 m3 (.own 0) g r')
    (hst : stab m1 = true ∨ p2 = true) (hst2 : stab m2 = true ∨ p3 = true) {st : St} {H : Hp} {Q : VK} (h : tJ X.K fl (sChain f g sa sb sc) (.own 0) (p1 && (p2 && p3)) st H Q) :
    tChain r r' (tJ X.K fl sa m1 p1) (tJ X.K fl sb m2 p2) (tJ X.K fl sc m3 p3) st H Q := by
  rcases h with ⟨I, U, rs, e, d, e', R, hs, k⟩
  obtain ⟨x, r1, e1, hs1⟩ := of_bind hs
  obtain ⟨y, r2, e2, hs2⟩ := of_bind hs1
  obtain ⟨t, r3, e3, hs3⟩ := of_bind hs2
  clear hs hs1 hs2
  obtain ⟨hf, rfl⟩ := of_lift e3
  refine ⟨I, U, rs, e, x, r1, R, e1, fun U1 rs1 H1 v1 q1 A1 V1 => ⟨I, U1, rs1, r1, y, r3, A1.rel, e2, fun U2 rs2 H2 v2 q2 A2 V2 => ?_⟩⟩
  have V1' : Val X.K U2 (Wr rs2) (TN I) H2 m1 x v1 q1 := by
    rcases hst with h | h
    · exact V1.step A1.rel.sub A1.rel.wt A2.st h
    · obtain ⟨f, e⟩ := A2.pur h
      rw [e]
      exact V1.fresh f
  have A := A1.trans R A2
  refine hj U2 (Wr rs2) (TN I) H2 x y t v1 v2 q1 q2 _ A.rel.sub A.rel.ul V1' V2 hf fun U' H' v q f hu V hn => ?_
  have A' := A.fresh f hu R hn
  have V2' := V2.fresh f
  split at hs3
  · obtain ⟨rfl, _⟩ := bool_own V.1
    refine ⟨true, rfl, ?_⟩
    rw [if_pos rfl]
    obtain ⟨z, r4, e4, hs4⟩ := of_bind hs3
    obtain ⟨hg, rfl⟩ := of_lift hs4
    refine ⟨I, U', rs2, r3, z, _, A'.rel, e4, fun U4 rs4 H4 v3 q3 A4 V3 => ?_⟩
    have V2'' : Val X.K U4 (Wr rs4) (TN I) H4 m2 y v2 q2 := by
      rcases hst2 with h | h
      · exact V2'.step A'.rel.sub A'.rel.wt A4.st h
      · obtain ⟨f, e⟩ := A4.pur h
        rw [e]
        exact V2'.fresh f
    have A5 := A'.trans R A4
    exact hj' U4 (Wr rs4) (TN I) H4 y z d v2 v3 q2 q3 Q A5.rel.sub A5.rel.ul V2'' V3 hg fun U5 H5 v5 q5 f5 hu5 V5 hn5 => k U5 rs4 H5 v5 q5 ((A5.fresh f5 hu5 R hn5).less fun h => by revert h; cases p1 <;> cases p2 <;> cases p3 <;> decide) V5
  · obtain ⟨rfl, rfl⟩ := bool_own V.1
    cases hs3
    refine ⟨false, rfl, ?_⟩
    rw [if_neg (by decide)]
    exact k U' rs2 H' _ [] (A'.less fun h => by revert h; cases p1 <;> cases p2 <;> cases p3 <;> decide) V
  · cases hs3
theorem je_chain {a b c : Expr} {op op' : CmpOp} {f g : D → D → Option D} {sa sb sc : SE} {m1 m2 m3 : Md} {p1 p2 p3 : Bool} {r r' : R2} {pos : Pos} (ho : OpR X (compareOp op) r) (hj : OpJ X.K m1 m2 (.own 0) f r) (ho' : OpR X (compareOp op') r') (hj' : OpJ X.K m2 m3 (.own 0) g r')
    (ha : JE X fl a sa m1 p1) (hb : JE X fl b sb m2 p2) (hc : JE X fl c sc m3 p3) (hst : stab m1 = true ∨ p2 = true := by first | exact .inl rfl | exact .inr rfl) (hst2 : stab m2 = true ∨ p3 = true := by first | exact .inl rfl | exact .inr rfl)
    (hm : lastMarks [op, op'] [b, c] = false := by with_unfolding_all rfl) : JE X fl (.Compare a [op, op'] [b, c] pos) (sChain f g sa sb sc) (.own 0) (p1 && (p2 && p3)) :=
  pe_mono (pe_chain ho ho' ha hb hc hm) fun _ _ _ h => chain_ok hj hj' hst hst2 h
theorem jt_chain {a b c : Expr} {op op' : CmpOp} {f g : D → D → Option D} {sa sb sc : SE} {m1 m2 m3 : Md} {p1 p2 p3 : Bool} {r r' : R2} {pos : Pos} (ho : OpR X (compareOp op) r) (hj : OpJ X.K m1 m2 (.own 0) f r) (ho' : OpR X (compareOp op') r') (hj' : OpJ X.K m2 m3 (.own 0) g r')
    (ha : JE X fl a sa m1 p1) (hb : JE X fl b sb m2 p2) (hc : JE X fl c sc m3 p3) (hst : stab m1 = true ∨ p2 = true := by first | exact .inl rfl | exact .inr rfl) (hst2 : stab m2 = true ∨ p3 = true := by first | exact .inl rfl | exact .inr rfl)
    (hm : lastMarks [op, op'] [b, c] = false := by with_unfolding_all rfl) : JT X fl (.Compare a [op, op'] [b, c] pos) (sT (sChain f g sa sb sc)) (p1 && (p2 && p3)) :=
  jt_of (pt_chain ho ho' ha hb hc hm) fun _ _ _ h => chain_ok hj hj' hst hst2 h

/-! ### names stored -/
theorem set_top {K : PySem.W.Frag} {i : Nat} {a : SE} {m : Md} {f : Fg} {p : Bool} (hm : held m = some f) (hfx : fixed (fgAt fl i) = false) (hl : i < fl.length) (hfn : fl.set i f = fn) {t : TE} (ht : ∀ st H Q, tJ K fl a m p st H Q → t st H Q) {D : Ends} {s : St} {H : Hp}
    (h : tJS K C fl (sSet i a) fn D s H) : tAsg t (gName i) D s H := by
  rcases h with ⟨I, U, rs, r, f', r', R, hs, k⟩
  obtain ⟨d, r1, e1, hs⟩ := of_bind hs
  cases hs
  refine ht _ _ _ ⟨I, U, rs, r, d, r1, R, e1, fun U' rs' H' v q A V => ?_⟩
  subst hfn
  have R' := A.rel.set hl hfx hm V (A.ti R)
  exact k U' (setR rs' i q) _ H' (step_set A.st (wr_setI (U := U) A.new A.st.win)) R'
/-- how the new list is held -/
def held2 (n : Nat) : Fg → Prop
  | .ow m => m = n ∨ m = 0
  | _ => False
theorem tj_sh {K : PySem.W.Frag} {s : SE} {n : Nat} {p : Bool} {st : St} {H : Hp} {Q : VK} (h : tJ K fl s (.own 0) p st H Q) : tJ K fl s (.own n) p st H Q := by
  rcases h with ⟨I, U, rs, r, d, r', R, hs, k⟩
  refine ⟨I, U, rs, r, d, r', R, hs, fun U' rs' H' v q A V => ?_⟩
  obtain ⟨o, nw, nd⟩ := V
  exact k (fun b => U' b ∧ b ∉ q) rs' H' v [] ((A.letgo R q (fun _ m => m) nw).drop fun _ m => by cases m) ⟨.sh (o.en (fun b u => u.1) fun a m z => z.2 m) (.inl rfl), (fun _ m => by cases m), List.Pairwise.nil⟩
/-- a = [..], the new list shared (k = 0) or one's own (k = n + 1) -/
theorem tj_held {K : PySem.W.Frag} {s : SE} {n k : Nat} {p : Bool} (hk : k = n ∨ k = 0) {st : St} {H : Hp} {Q : VK} (h : tJ K fl s (.own k) p st H Q) : tJ K fl s (.own n) p st H Q := by
  rcases hk with e | e
  · rw [← e]; exact h
  · rw [e] at h; exact tj_sh h
theorem js_setLc {i k : Nat} {y : Str} {py : Pos} {elt tg it : Expr} {ifs : List Expr} {scope : Scope} {own : List (Str × Nat)} {pos spos : Pos} {t : Tg} {a : SI} {c : SB} {s : SE} {n : Nat} {pi pc pe : Bool} (hc : X.calm = true) (hN : X.N.Nodup) (hy : X.N[i]? = some y) (hyl : X.env.scope.names.lookup y = some .local)
    (hi : JI X fl tg it a pi (pc && pe)) (ok : BlkOk X.N X.env.scope scope own)
    (hx : (own.map (·.2)).all (fun i => !fixed (fgAt fl i)) = true) (ht : t.sl.all (fun i => (own.map (·.2)).contains i) = true)
    (hg : ∀ (s : Shared) (H : Hp) (C : Addr) (cl : List (Str × Addr)) (fp : List Addr), PG (X.blk s H scope (compEnvC scope cl C X.env) fp) tg (tJG X.K (blkF (own.map (·.2)) fl) t (blkF (own.map (·.2)) fl)))
    (hcs : ∀ (s : Shared) (H : Hp) (C : Addr) (cl : List (Str × Addr)) (fp : List Addr), PTs (X.blk s H scope (compEnvC scope cl C X.env) fp) ifs (tJT X.K (blkF (own.map (·.2)) fl) c pc))
    (he : ∀ (st : Shared) (H : Hp) (C : Addr) (cl : List (Str × Addr)) (fp : List Addr), PE (X.blk st H scope (compEnvC scope cl C X.env) fp) elt (tJ X.K (blkF (own.map (·.2)) fl) s (.own n) pe))
    (hk : k = n + 1 ∨ k = 0) (hfx : fixed (fgAt fl i) = false) (hl : i < fl.length) (hfn : fl.set i (.ow k) = fn) (hs : ∀ x, foldedSetIterable it X.env x = pure x := by intro _; rfl)
    (hkf : X.env.scope.kind = .function := by rfl) (hpl : (py.line == pos.line) = true := by rfl) (hny : (scope.names.any fun (n, k) => n == y && (k == .local || k == .cell)) = false := by rfl) :
    JS X C fl (.Assign [.Name y py] (.ListComp elt [⟨tg, it, ifs, 0⟩] scope pos) spos) (sSet i (sLc t a c (lcE s) (own.map (·.2)))) fn :=
  ps_mono (ps_setLc hc hN hy hyl (sw_true hkf hyl hpl hny) hi ok hg hcs he hs) fun D st H h => set_top (p := pi && (pc && pe)) (m := .own k) rfl hfx hl hfn (fun _ _ _ h => lc_top hx ht (fun _ m => by cases m) (fun _ => body_one) (tj_held hk h)) h
theorem js_setLc2 {i k : Nat} {y : Str} {py : Pos} {elt tg it tg1 it1 : Expr} {ifs ifs1 : List Expr} {scope : Scope} {own : List (Str × Nat)} {vs1 : List Nat} {pos spos : Pos} {t t1 : Tg} {a a1 : SI} {c c1 : SB} {s : SE} {n : Nat} {pi pc pi1 pc1 pe : Bool} (hc : X.calm = true) (hN : X.N.Nodup) (hy : X.N[i]? = some y) (hyl : X.env.scope.names.lookup y = some .local)
    (hi : JI X fl tg it a pi (pc && (pi1 && (pc1 && pe)))) (ok : BlkOk X.N X.env.scope scope own)
    (hv : ∀ i ∈ vs1, i ∈ own.map (·.2)) (hx : (own.map (·.2)).all (fun i => !fixed (fgAt fl i)) = true) (ht : t.sl.all (fun i => (own.map (·.2)).contains i) = true) (ht1 : ∀ i ∈ t1.sl, i ∈ vs1)
    (hg : ∀ (s : Shared) (H : Hp) (C : Addr) (cl : List (Str × Addr)) (fp : List Addr), PG (X.blk s H scope (compEnvC scope cl C X.env) fp) tg (tJG X.K (blkF (own.map (·.2)) fl) t (blkF (own.map (·.2)) fl)))
    (hcs : ∀ (s : Shared) (H : Hp) (C : Addr) (cl : List (Str × Addr)) (fp : List Addr), PTs (X.blk s H scope (compEnvC scope cl C X.env) fp) ifs (tJT X.K (blkF (own.map (·.2)) fl) c pc))
    (hi1 : ∀ (s : Shared) (H : Hp) (C : Addr) (cl : List (Str × Addr)) (fp : List Addr), PI (X.blk s H scope (compEnvC scope cl C X.env) fp) tg1 it1 (tJI X.K (blkF (own.map (·.2)) fl) a1 pi1 (pc1 && pe)))
    (hg1 : ∀ (s : Shared) (H : Hp) (C : Addr) (cl : List (Str × Addr)) (fp : List Addr), PG (X.blk s H scope (compEnvC scope cl C X.env) fp) tg1 (tJG X.K (blkF (own.map (·.2)) fl) t1 (blkF (own.map (·.2)) fl)))
    (hcs1 : ∀ (s : Shared) (H : Hp) (C : Addr) (cl : List (Str × Addr)) (fp : List Addr), PTs (X.blk s H scope (compEnvC scope cl C X.env) fp) ifs1 (tJT X.K (blkF (own.map (·.2)) fl) c1 pc1))
    (he : ∀ (st : Shared) (H : Hp) (C : Addr) (cl : List (Str × Addr)) (fp : List Addr), PE (X.blk st H scope (compEnvC scope cl C X.env) fp) elt (tJ X.K (blkF (own.map (·.2)) fl) s (.own n) pe))
    (hk : k = n + 1 ∨ k = 0) (hfx : fixed (fgAt fl i) = false) (hl : i < fl.length) (hfn : fl.set i (.ow k) = fn) (hs : ∀ x, foldedSetIterable it X.env x = pure x := by intro _; rfl) (hs1 : ∀ env x, foldedSetIterable it1 env x = pure x := by intro _ _; rfl)
    (hkf : X.env.scope.kind = .function := by rfl) (hpl : (py.line == pos.line) = true := by rfl) (hny : (scope.names.any fun (n, k) => n == y && (k == .local || k == .cell)) = false := by rfl) :
    JS X C fl (.Assign [.Name y py] (.ListComp elt [⟨tg, it, ifs, 0⟩, ⟨tg1, it1, ifs1, 0⟩] scope pos) spos) (sSet i (sLc t a c (lcI t1 a1 c1 (lcE s) vs1) (own.map (·.2)))) fn :=
  ps_mono (ps_setLc2 hc hN hy hyl (sw_true hkf hyl hpl hny) hi ok hv hg hcs hi1 hg1 hcs1 he hs hs1) fun D st H h => set_top (p := pi && (pc && (pi1 && (pc1 && pe)))) (m := .own k) rfl hfx hl hfn (fun _ _ _ h => lc_top hx ht hv (fun _ => body_in (fun i m => blkF_in (hv i m)) ht1 (fun _ m => by cases m) body_one) (tj_held hk h)) h
/-- two plain local names at once -/
theorem valA_set2 {K : PySem.W.Frag} {I : Ini} {U : Addr → Prop} {rs : Rs} {r : Env} {s : St} {H : Hp} {i j : Nat} {m1 m2 : Md} {f1 f2 : Fg} {ds : List D} {vs : List V} {q : List Addr} (R : Rel K I fl U rs r s H) (V : ValA K U (Wr rs) (TN I) H [m1, m2] ds vs q) (hq : ∀ a ∈ q, TN I a)
    (h1 : held m1 = some f1) (h2 : held m2 = some f2) (x1 : fixed (fgAt fl i) = false) (x2 : fixed (fgAt (fl.set i f1) j) = false) (l1 : i < fl.length) (l2 : j < fl.length) :
    ∃ d e v w rs', ds = [d, e] ∧ vs = [v, w] ∧ Rel K I ((fl.set i f1).set j f2) U rs' ((r.set i (some d)).set j (some e)) ((s.set i (some v)).set j (some w)) H ∧ ∀ b, Wr rs' b → Wr rs b ∨ b ∈ q := by
  cases V with
  | cons a t dj =>
    rename_i d v q1 q2 ds vs
    cases t with
    | cons b t2 dj2 =>
      rename_i e w q3 q4 ds vs
      cases t2
      have R1 := R.set l1 x1 h1 a fun z m => hq z (List.mem_append_left _ m)
      have b' : Val K U (Wr (setR rs i q1)) (TN I) H m2 e w q3 := b.lessW fun z m w => by
        rcases wr_set w with w | w
        · exact w
        · exact absurd (List.mem_append_left _ m) (dj z w)
      have R2 := R1.set (by rw [List.length_set]; exact l2) x2 h2 b' fun z m => hq z (List.mem_append_right _ (List.mem_append_left _ m))
      refine ⟨d, e, v, w, _, rfl, rfl, R2, fun z w => ?_⟩
      rcases wr_set w with w | w
      · rcases wr_set w with w | w
        · exact .inl w
        · exact .inr (List.mem_append_left _ w)
      · exact .inr (List.mem_append_right _ (List.mem_append_left _ w))
theorem js_par2 {i j : Nat} {x y : Str} {a b : Expr} {sa : SA} {m1 m2 : Md} {f1 f2 : Fg} {p : Bool} {px py pt pos : Pos} {kt k2 pt2} (hc : X.calm = true) (hN : X.N.Nodup) (hi : X.N[i]? = some x) (hj : X.N[j]? = some y) (hij : i ≠ j)
    (hx : X.env.scope.names.lookup x = some .local) (hy : X.env.scope.names.lookup y = some .local) (ha : JA X fl [a, b] sa [m1, m2] p) (h1 : held m1 = some f1) (h2 : held m2 = some f2) (x1 : fixed (fgAt fl i) = false) (x2 : fixed (fgAt (fl.set i f1) j) = false) (l1 : i < fl.length) (l2 : j < fl.length) (hfn : (fl.set i f1).set j f2 = fn)
    (hw : swappedStores [.Tuple [.Name x px, .Name y py] kt pt] (.Tuple [a, b] k2 pt2) X.env = pure (some [x, y]) := by rfl)
    (hs : swapsWithSole [.Tuple [.Name x px, .Name y py] kt pt] (.Tuple [a, b] k2 pt2) pos.line X.env = pure false := by rfl) :
    JS X C fl (.Assign [.Tuple [.Name x px, .Name y py] kt pt] (.Tuple [a, b] k2 pt2) pos) (sParN [i, j] sa) fn := by
  refine ps_mono (ps_par hc hN hi hj hij hx hy ha hw hs) ?_
  rintro D s H ⟨I, U, rs, r, f', r', R, hs, k⟩
  obtain ⟨ds, r1, e1, hs⟩ := of_bind hs
  refine ⟨I, U, rs, r, ds, r1, R, e1, fun U' rs' H' vs q A V => ?_⟩
  obtain ⟨d, e, v, w, rs2, rfl, rfl, R2, wr2⟩ := valA_set2 A.rel V (A.ti R) h1 h2 x1 x2 l1 l2
  refine ⟨v, w, rfl, ?_⟩
  simp only [setAll] at hs
  cases hs
  subst hfn
  exact k U' rs2 _ H' (step_set A.st fun b wb => (wr2 b wb).elim (A.st.win b) (A.new b)) R2
end

/-! ### what is known of a def -/
structure Kn (P : Program) (w : World) (K : PySem.W.Frag) (mg : Str → Option Value) (base : Heap) (k : Nat) (x : Str) (ps : List Str) (n : Nat) (pf : List Fg) (rm : Nat) (F : Fn) : Prop where
  ex : ∃ f fd, FnOk P w K mg base CX0 k f fd ps (spJ K n pf rm F) ∧ mg x = some (.ref f) ∧ PySem.W.keepIn K (.ref f) = true ∧ Binds K fd ps []
section
variable {P : Program} {w : World} {K : PySem.W.Frag} {mg : Str → Option Value} {base : Heap} {k j : Nat} {x : Str} {ps : List Str} {n : Nat} {pf : List Fg} {rm : Nat} {F : Fn}
theorem Kn.up (h : Kn P w K mg base j x ps n pf rm F) (l : j ≤ k := by decide) : Kn P w K mg base k x ps n pf rm F := by
  obtain ⟨f, fd, h1, h2⟩ := h.ex
  exact ⟨f, fd, h1.mono l, h2⟩
/-- a def's text at the top -/
structure Df (K : PySem.W.Frag) (mg : Str → Option Value) (x : Str) (st : Stmt) (ps : List Str) (f : Addr) (fd : FuncData) : Prop where
  fn : Fun K x x st f fd
  at_ : mg x = some (.ref f)
  bind : Binds K fd ps []
theorem Df.kn {st : Stmt} {f : Addr} {fd : FuncData} (d : Df K mg x st ps f fd) (h : FnOk P w K mg base CX0 k f fd ps (spJ K n pf rm F)) : Kn P w K mg base k x ps n pf rm F := ⟨f, fd, h, d.at_, d.fn.kp, d.bind⟩
/-- no call is left -/
def noFn : Fn := fun _ => .no
theorem Df.kn0 {st : Stmt} {f : Addr} {fd : FuncData} (d : Df K mg x st ps f fd) : Kn P w K mg base k x ps n pf rm noFn := by
  have no : ∀ vs H Q E, ¬ spJ K n pf rm noFn vs H Q E := fun vs H Q E h => by
    obtain ⟨_, U, rs, ds, d, outs, _, _, h, _⟩ := h
    cases h
  exact ⟨f, fd, ⟨fun vs H Q E h => absurd h (no vs H Q E), fun A outer s H args us vs Q E _ _ _ _ h => absurd h (no vs H Q E)⟩, d.at_, d.fn.kp, d.bind⟩
end
theorem je_callK {X : Cx} {fl : List Fg} {k n rm : Nat} {ps : List Str} {pf : List Fg} {F : Fn} {x : Str} {e : Expr} {es : List Expr} {as : List Ag} {p : Bool} {p0 pos : Pos} (G : Kn X.prog X.w X.K X.mg X.base k x ps n pf rm F) (hr : Room k X.A) (hg : Gl X x)
    (ha : JC X fl (e :: es) as pf p) (hok : asOk as = true) (hle : pf.length ≤ n) (hdb : (x == ("__debug__" : Str)) = false := by decide) (he : starEach (e :: es) X.env = (false, eval e X.env) :: starEach es X.env := by rfl) (hpl : (backTo pos (starEach es X.env)).any (·.1) = false := by rfl) :
    JE X fl (.Call (.Name x p0) (e :: es) [] pos) (sCall F as) (.own rm) (p && (ioIx as).isEmpty) := by
  obtain ⟨f, fd, h1, h2, h3, h4⟩ := G.ex
  exact je_call h1 hr hg h2 h3 h4 ha hok hle hdb he hpl

/-! ### the law's end -/
theorem law_sp {K : PySem.W.Frag} {n : Nat} {F : Fn} {H : Hp} {a : Addr} {ns : List Int} {E : XK} (h0 : Only H) (hS : SqL K H a (ns.map V.int)) (h : F [.list (ns.map .int)] = .ok (.bool true) []) :
    spJ K n [.fz] 0 F [.ref a] H (fun v _ => v = .bl true) E := by
  have fz : FzL K H a (ns.map V.int) := by
    rcases hS with (h | h) | h
    · rcases h0 a with z | ⟨o, xs, z⟩
      · rw [h] at z; cases z
      · rw [h] at z; cases z
    · exact .inl h
    · exact .inr h
  have ul : ∀ b, False → H b ≠ none := fun _ z => z.elim
  refine ⟨rfl, fun _ => False, fun _ => [], [.list (ns.map .int)], .bool true, [], rfl, ?_, h, fun U' rs' H' v q _ _ _ _ _ _ o _ _ _ => (bool_own o).1⟩
  refine ⟨by unfold en0 st0; simp, by unfold en0 fl0; simp, (fun b ⟨i, m⟩ => by cases m), fun i => List.Pairwise.nil, (fun i j b m _ => by cases m), .refl, ul, (fun b ⟨i, m⟩ => by cases m), ul, fun i => ?_, fun i _ => rfl⟩
  rw [fgAt_fl0, getS_en0, stS_st0]
  cases i with
  | zero => exact ⟨.ref a, rfl, .inl ⟨a, _, _, rfl, rfl, fz, en_ints ns⟩, rfl⟩
  | succ i => exact (show ([] : List Addr) = [] from rfl)
end J

set_option Elab.async false
set_option linter.all false
set_option maxRecDepth 100000
/-! JMore: isinstance, index, list(range), [::-1]. -/
namespace J
open PySem L2

/-! ### isinstance -/
def tyD : D → String
  | .none => "NoneType"
  | .bool _ => "bool"
  | .int _ => "int"
  | .str _ => "str"
  | .list _ => "list"
  | .tuple _ => "tuple"
  | .dict _ => "dict"

def isaB (c : String) (d : D) : Bool := decide (tyD d = c) || (decide (tyD d = "bool") && decide (c = "int"))
def okTy (c : String) : Bool := decide (c ∈ ["bool", "int", "str", "list", "tuple", "dict"])
def dIsa (c : String) (d : D) : Option D := if okTy c = true then some (.bool (isaB c d)) else none
theorem kitB_tab : ∀ a ∈ ["NoneType", "bool", "int", "str", "list", "tuple", "dict"], ∀ c ∈ ["bool", "int", "str", "list", "tuple", "dict"], kitB a c = some (decide (a = c) || (decide (a = "bool") && decide (c = "int"))) := by decide +kernel
theorem en_ty {K : PySem.W.Frag} {U : Addr → Prop} {H : Hp} {d : D} {v : V} (e : En K U H d v) : TyX K H v (.type (tyD d)) ∧ tyD d ∈ ["NoneType", "bool", "int", "str", "list", "tuple", "dict"] := by
  cases e with
  | non => exact ⟨.base .non, by simp [tyD]⟩
  | bl b => exact ⟨.base (.bl b), by simp [tyD]⟩
  | int i => exact ⟨.base (.int i), by simp [tyD]⟩
  | str x => exact ⟨.base (.str x), by simp [tyD]⟩
  | tup h t =>
    refine ⟨?_, by simp [tyD]⟩
    rcases h with ⟨o, h, _⟩ | ⟨o, its, n, h, c, _⟩
    · exact .fTuple h
    · exact .kTuple h c
  | lst h _ t => exact ⟨.base (.lst h), by simp [tyD]⟩
  | dic h _ t => exact ⟨.base (.dK h), by simp [tyD]⟩
theorem pe_tyN {X : Cx} {x : Str} {n : String} {p : Pos} (hg : Gl X x) (hm : X.mg x = none) (hv : bootBuiltins x = some (.type n)) (hn : x ≠ "__name__" := by decide) (hdb : (x == ("__debug__" : Str)) = false := by decide) : PE X (.Name x p) (tC (.ty n)) :=
  ⟨fun pins s σ H Q I h => ld_blt I hg hm hv ⟨.ty n, H, I, rfl, h⟩ hn hdb⟩
section
variable {X : Cx} {fl : List Fg} {a : Expr} {s : SE} {m : Md} {p : Bool}
theorem je_isa {T : String} {n : Nat} {p0 p1 pos : Pos} (ha : JE X fl a s m p) (hok : okTy T = true) (hg : Gl X "isinstance") (hm : X.mg "isinstance" = none) (hg2 : Gl X (Str.ofString T)) (hm2 : X.mg (Str.ofString T) = none) (hv : bootBuiltins (Str.ofString T) = some (.type T))
    (hn : Str.ofString T ≠ "__name__" := by decide) (hdb : (Str.ofString T == ("__debug__" : Str)) = false := by decide) (na : starEach [a, .Name (Str.ofString T) p1] X.env = (false, eval a X.env) :: starEach [.Name (Str.ofString T) p1] X.env := by rfl)
    (nb : starEach [.Name (Str.ofString T) p1] X.env = (false, eval (.Name (Str.ofString T) p1) X.env) :: starEach [] X.env := by rfl) (hp : (backTo pos (starEach [.Name (Str.ofString T) p1] X.env)).any (·.1) = false := by rfl) : JE X fl (.Call (.Name "isinstance" p0) [a, .Name (Str.ofString T) p1] [] pos) (sUn (dIsa T) s) (.own n) p := by
  refine je_then (f := dIsa T) (k := fun v H Q => rIsi X.K [v, .ty T] H Q) (fun {ta} ha => pe_mono (pe_callB call_isi hg hm (by decide +kernel) (pa_cons ha (pa_cons (pe_tyN hg2 hm2 hv hn hdb) pa_nil nb) na) (he := na)) ?_) (fun U W T' H d d' v q Q hw hu V h k => ?_) ha
  · exact fun st H Q h => h
  · unfold dIsa at h
    rw [if_pos hok] at h
    cases h
    obtain ⟨h1, h2⟩ := en_ty V.en
    have h3 := kitB_tab _ h2 T (of_decide_eq_true hok)
    exact ⟨_, _, _, _, _, rfl, .ty T, h1, kit_ty h3, k U H _ [] .refl hu (val_scal (.bl _) trivial) fun _ m => by cases m⟩
end
/-! ### xs.index(y) -/
def idxB (ds : List D) (d : D) : List Bool := ds.map fun z => PyData.eqv z d
def rIdx (K : PySem.W.Frag) (tup : Bool) (x y : V) (H : Hp) (Q : VK) : Prop := ∃ (p : Addr) (xs : List V) (ds : List D) (d : D), x = .ref p ∧ (if tup = true then SqT K H p xs else SqL K H p xs) ∧
  DpAll K H xs ds ∧ Dp K H y d ∧ PyData.canLayAll0 ds = true ∧ d.canLay0 = true ∧ d.depth ≤ 64 ∧ true ∈ idxB ds d ∧ Q (.int ((idxB ds d).idxOf true : Nat)) H
theorem idx_items {A : Around} {s : Shared} {its : List Value} {ds : List D} {d : D} {u : Value} {as bs : List Addr} (r1 : ReadsAll s.heap its ds as) (r2 : Reads s.heap u d bs) (h1 : PyData.canLayAll0 ds = true) (h2 : d.canLay0 = true) (hd : d.depth ≤ 64) (hu : A.units + 65 < cLine) :
    SeqAt.ItemsEq A.in1 s its (idxB ds d) u true := by
  have hn : its.length = ds.length := SeqAt.ReadsAll.length ds its as r1
  refine ⟨by simp [idxB, hn], fun j j1 j2 => ?_⟩
  have q := SeqAt.items_eqAt (A := A) (s := s) (vs := its.toArray) (by simpa using r1) r2 h1 h2 (by have := Nat.min_le_right (PyData.depthAll ds) d.depth; omega) its[j] (by simp)
  have m := SeqAt.readsAll_map ds its as h1 r1
  have e : SeqAt.readOf s.heap its[j] = ds[j]'(by omega) := by
    have : (its.map (SeqAt.readOf s.heap))[j]'(by simpa using j1) = ds[j]'(by omega) := by simp only [m]
    simpa using this
  rw [e] at q
  simpa [idxB] using q
section
variable {X : Cx} {o e : Expr} {to te : TE} {apos cpos : Pos}
def tIdx (K : PySem.W.Frag) (to te : TE) : TE := fun σ H Q => to σ H fun x H1 => (∃ p xs, x = .ref p ∧ SqL K H1 p xs ∧ te σ H1 fun y H2 => ∃ z, [y] = [z] ∧ rIdx K false x z H2 Q) ∨ (∃ p xs, x = .ref p ∧ PlT K H1 p xs ∧ te σ H1 fun y H2 => ∃ z, [y] = [z] ∧ rIdx K true x z H2 Q)
theorem mt_idx (tup : Bool) (hu : X.A.units + 65 < cLine) : MtR X (if tup = true then "tuple.index" else "list.index") (fun x xs H Q => ∃ y, xs = [y] ∧ rIdx X.K tup x y H Q) := by
  rintro pins s σ H x xs v us Q I rx rxs ⟨y, rfl, p, ys, ds, d, rfl, hq, ha, hy, c1, c2, hd, hm, q⟩
  cases rx
  obtain ⟨u, rfl, ry⟩ := vals1 rxs
  obtain ⟨bs, r2⟩ := Dp.reads I d y u hy ry
  cases tup with
  | true =>
    obtain ⟨its, rv, pl, hz⟩ := I.tuple hq
    obtain ⟨as, r1⟩ := Dp.readsAll I ds ys its ha rv
    exact SeqAt.call_tuple_index pl (idx_items r1 r2 c1 c2 hd hu) hm ⟨.int _, H, I.tok _, ⟨_, rfl⟩, q⟩
  | false =>
    obtain ⟨its, rv, pl, hz⟩ := I.list hq
    obtain ⟨as, r1⟩ := Dp.readsAll I ds ys its ha rv
    have e := SeqAt.ReadsAll.length ds its as r1
    have e2 := rv.length
    exact SeqAt.call_list_index pl.isList (idx_items r1 r2 c1 c2 hd hu) (by simp [idxB]; omega) hm ⟨.int _, H, I.tok _, ⟨_, rfl⟩, q⟩
theorem pe_idx (hu : X.A.units + 65 < cLine) (ho : PE X o to) (he : PE X e te) (hbase : attributeBase o "index" X.env (eval o X.env) = eval o X.env := by rfl)
    (hfew : ((backTo cpos (starEach [e] X.env)).all (fun x => !x.1) && (backToKw cpos (keywordEach [] X.env)).all (fun x => x.1.isSome)
      && decide ([e].length + ([] : List Keyword).length + (if ([] : List Keyword).isEmpty then 0 else 1) < 30)) = true := by rfl)
    (hline : (apos.endLine == cpos.line) = true := by rfl) (hs : starEach [e] X.env = (false, eval e X.env) :: starEach [] X.env := by rfl) :
    PE X (.Call (.Attribute o "index" apos) [e] [] cpos) (tIdx X.K to te) := by
  refine ⟨fun pins s σ H Q I h => wpAny_Call_method_late hbase hfew hline rfl (thn (ho.run pins s σ H _ I h) fun v s1 ⟨x, H1, I1, r1, q1⟩ => ?_)⟩
  rcases q1 with ⟨p, xs, rfl, hq, q1⟩ | ⟨p, xs, rfl, hq, q1⟩
  · cases r1
    obtain ⟨its, _, pl, _⟩ := I1.list hq
    refine ⟨"list", "list.index", PySem.F.plainAttrs_list, PySem.F.slot_list_index, PySem.F.type_list_index, pl.isList.typeIs, fun a z => ?_, ?_⟩
    · cases z
      obtain ⟨ob, n, g, _, hd, _⟩ := pl
      exact ⟨ob, g, hd⟩
    · have hA := (pa_cons he pa_nil hs).run cpos pins s1 σ H1 (fun vs H2 => ∃ y, vs = [y] ∧ rIdx X.K false (.ref p) y H2 Q) I1 q1
      rw [hs] at hA ⊢
      exact Calls.callWith_builtin rfl (Calls.evalArgs_plain (thn hA fun us s2 ⟨vs, H2, I2, r2, q2⟩ => mt_idx (X := X) false hu pins s2 σ H2 _ _ _ _ Q I2 (show RelV (.ref p) (.ref p) from rfl) r2 q2))
  · cases r1
    obtain ⟨its, _, pl, _⟩ := I1.tuple hq.sq
    refine ⟨"tuple", "tuple.index", PySem.F.plainAttrs_tuple, PySem.F.slot_tuple_index, PySem.F.type_tuple_index, pl.typeIs, fun a z => ?_, ?_⟩
    · cases z
      rcases hq with ⟨ob, g, hd⟩ | ⟨ob, its, n, g, _, hd, _⟩
      · exact ⟨ob, (I1.hok _ _ g).1, hd⟩
      · exact ⟨ob, I1.kIn _ _ g, hd⟩
    · have hA := (pa_cons he pa_nil hs).run cpos pins s1 σ H1 (fun vs H2 => ∃ y, vs = [y] ∧ rIdx X.K true (.ref p) y H2 Q) I1 q1
      rw [hs] at hA ⊢
      exact Calls.callWith_builtin rfl (Calls.evalArgs_plain (thn hA fun us s2 ⟨vs, H2, I2, r2, q2⟩ => mt_idx (X := X) true hu pins s2 σ H2 _ _ _ _ Q I2 (show RelV (.ref p) (.ref p) from rfl) r2 q2))
end
/-- the first place of an equal one -/
def dIndex (a b : D) : Option D := match items a with
  | some xs => if shp b = true ∧ shp (.list xs) = true ∧ true ∈ idxB xs b then some (.int ((idxB xs b).idxOf true : Nat)) else none
  | none => none
theorem je_index {X : Cx} {fl : List Fg} {a b : Expr} {sa sb : SE} {m1 m2 : Md} {p1 p2 : Bool} {n : Nat} {apos cpos : Pos} (hu : X.A.units + 65 < cLine) (ha : JE X fl a sa m1 p1) (hb : JE X fl b sb m2 p2) (hst : p2 = true := by rfl)
    (hbase : attributeBase a "index" X.env (eval a X.env) = eval a X.env := by rfl)
    (hfew : ((backTo cpos (starEach [b] X.env)).all (fun x => !x.1) && (backToKw cpos (keywordEach [] X.env)).all (fun x => x.1.isSome) && decide ([b].length + ([] : List Keyword).length + (if ([] : List Keyword).isEmpty then 0 else 1) < 30)) = true := by rfl)
    (hline : (apos.endLine == cpos.line) = true := by rfl) (hs : starEach [b] X.env = (false, eval b X.env) :: starEach [] X.env := by rfl) : JE X fl (.Call (.Attribute a "index" apos) [b] [] cpos) (sBin dIndex sa sb) (.own n) p1 := by
  refine pe_mono (pe_idx hu ha hb hbase hfew hline hs) ?_
  rintro st H Q ⟨I, U, rs, r, d, r', R, hs, k⟩
  obtain ⟨x, r1, e1, hs⟩ := of_bind hs
  obtain ⟨y, r2, e2, hs⟩ := of_bind hs
  obtain ⟨hf, rfl⟩ := of_lift hs
  refine ⟨I, U, rs, r, x, r1, R, e1, fun U1 rs1 H1 v1 q1 A1 V1 => ?_⟩
  unfold dIndex at hf
  cases hi : items x with
  | none => rw [hi] at hf; cases hf
  | some xs =>
    rw [hi] at hf
    simp only at hf
    split at hf
    · rename_i c
      cases hf
      have fin : ∀ (tup : Bool) (p : Addr) (vs : List V), v1 = .ref p → (∀ H2, (∀ b o, H1 b = some o → H2 b = some o) → if tup = true then SqT X.K H2 p vs else SqL X.K H2 p vs) → EnAll X.K (fun _ => False) H1 xs vs →
          tJ X.K fl sb m2 p2 st H1 fun y H2 => ∃ z, [y] = [z] ∧ rIdx X.K tup v1 z H2 Q := fun tup p vs e hq t =>
        ⟨I, U1, rs1, r1, y, r', A1.rel, e2, fun U2 rs2 H2 v2 q2 A2 V2 => by
          obtain ⟨f, _⟩ := A2.pur hst
          refine ⟨v2, rfl, p, vs, xs, y, e, hq H2 f.all, EnAll.dp (EnAll.grow f.growT t) (shp_lay c.2.1), V2.en.dp (shp_lay c.1), shp_lay c.2.1, shp_lay c.1, ?_, c.2.2, ?_⟩
          · exact of_decide_eq_true (Bool.and_eq_true_iff.mp c.1).2
          · exact k U2 rs2 H2 _ [] (((A1.trans R A2).less fun h => by rw [h, hst]; rfl).drop fun _ m => by cases m) (val_scal (.int _) trivial)⟩
      cases x with
      | list ds =>
        cases hi
        obtain ⟨p, vs, rfl, hp, _, t⟩ := en_lst V1.en
        exact .inl ⟨p, vs, rfl, SqL.of hp, fin false p vs rfl (fun H2 l => SqL.of (l _ _ hp)) t⟩
      | tuple ds =>
        cases hi
        obtain ⟨p, vs, rfl, hp, t⟩ := en_tupP V1.en
        exact .inr ⟨p, vs, rfl, hp, fin true p vs rfl (fun H2 l => PlT.sq (show PlT X.K H2 p vs from hp.imp (fun ⟨o, h, d⟩ => ⟨o, l _ _ h, d⟩) fun h => h)) t⟩
      | _ => cases hi
    · cases hf
/-! ### list(range(..)), tuple(range(..)) -/
theorem en_rg {K : PySem.W.Frag} {U : Addr → Prop} {H : Hp} (f : Nat → Int) : ∀ ks : List Nat, EnAll K U H (ks.map fun k => PyData.int (f k)) (ks.map fun k => V.int (f k))
  | [] => .nil
  | k :: ks => .cons (.int _) (en_rg f ks)
theorem en_upTo {K : PySem.W.Frag} {U : Addr → Prop} {H : Hp} (a b : Int) : EnAll K U H (upTo a (b - a).toNat) (rgV a b) := en_rg (fun k => a + (k : Nat)) _
def dRg1 (mk : List D → D) : D → Option D
  | .int j => if fits j ∧ j.toNat ≤ line then some (mk (upTo 0 j.toNat)) else none
  | _ => none
def dRg2 (mk : List D → D) : D → D → Option D
  | .int i, .int j => if fits i ∧ fits j ∧ (j - i).toNat ≤ line then some (mk (upTo i (j - i).toNat)) else none
  | _, _ => none
def dListRg1 := dRg1 .list
def dListRg2 := dRg2 .list
def dTupleRg1 := dRg1 .tuple
def dTupleRg2 := dRg2 .tuple
theorem rgOk_of {i j : Int} (h : fits i ∧ fits j ∧ (j - i).toNat ≤ line) : RgOk i j := ⟨h.1.1, h.1.2, h.2.1.1, h.2.1.2, h.2.2⟩
theorem rgOk1 {j : Int} (h : fits j ∧ j.toNat ≤ line) : RgOk 0 j := ⟨by decide, by decide, h.1.1, h.1.2, by rw [Int.sub_zero]; exact h.2⟩
section
variable {X : Cx} {e : Expr} {te : St → Hp → (Int → Int → Hp → Prop) → Prop}
def tTupRgN (te : St → Hp → (Int → Int → Hp → Prop) → Prop) : TE := fun σ H Q => te σ H fun a b H1 => RgOk a b ∧ NewT H1 (rgV a b) Q
theorem pe_tupRgN {p pos : Pos} (hc : X.calm = true) (hg : Gl X "tuple") (hm : X.mg "tuple" = none) (he : PRg X e te) (na : starEach [e] X.env = (false, eval e X.env) :: starEach [] X.env := by rfl) :
    PE X (.Call (.Name "tuple" p) [e] [] pos) (tTupRgN te) := by
  refine ⟨fun pins s σ H Q I h => PyProof.Rows.Call_ (ld_blt I hg hm PyProof.Rows.boot_tuple (PyProof.Rows.callWith_type1 (PyProof.Rows.args_cons (thn (he pins s σ H _ I h) fun x s1 ⟨r, a, b, t, u, v, H1, ex, hr, I1, ok, q⟩ => PyProof.Rows.args_nil ?_) na) na))⟩
  subst ex
  refine L2.call_tuple_range (n := (b - a).toNat) (I1.ok.hd hc) hr (PySem.small_one ok.1 ok.2.1 ok.2.2.1 ok.2.2.2.1) (PyProof.Rows.rangeSize_nat a b) ok.2.2.2.2 fun h' tk acc hk hi => ?_
  have J : Inv X pins σ H1 { s1 with heap := h', toks := tk } := I1.kept hk
  have l := lay_tup J (vals_rg hi) (by rw [rgV_length, sizeLine_eq]; exact ok.2.2.2.2) q
  simpa using l
end
section
variable {X : Cx} {fl : List Fg} {a b : Expr} {s sb : SE} {m m2 : Md} {p p' : Bool}
theorem je_listRg1 {p0 p2 pos q : Pos} (hc : X.calm = true) (hg : Gl X "list") (hm : X.mg "list" = none) (hg2 : Gl X "range") (hm2 : X.mg "range" = none) (ha : JE X fl a s m p)
    (na : starEach [a] X.env = (false, eval a X.env) :: starEach [] X.env := by rfl) (nb : starEach [.Call (.Name "range" p2) [a] [] q] X.env = (false, eval (.Call (.Name "range" p2) [a] [] q) X.env) :: starEach [] X.env := by rfl) :
    JE X fl (.Call (.Name "list" p0) [.Call (.Name "range" p2) [a] [] q] [] pos) (sUn dListRg1 s) (.own 1) p := by
  refine je_then (k := fun x H Q => ∃ n, x = .int n ∧ RgOk 0 n ∧ ∀ q, H q = none → Q (.ref q) (upd H q (.lst (rgV 0 n)))) (fun ha => pe_listRg hc hg hm (prg_1 hg2 hm2 ha na) nb) (fun U W T H d d' v q Q hw hu V h k => ?_) ha
  unfold dListRg1 dRg1 at h
  split at h
  · rename_i j
    split at h
    · rename_i c
      cases h
      refine ⟨_, en_int V.en, rgOk1 c, fun p hp => ?_⟩
      have t := en_upTo (K := X.K) (U := U) (H := H) 0 j
      rw [Int.sub_zero] at t
      exact new_lst hw hu t hp k
    · cases h
  · cases h
theorem je_tupleRg1 {p0 p2 pos q : Pos} (hc : X.calm = true) (hg : Gl X "tuple") (hm : X.mg "tuple" = none) (hg2 : Gl X "range") (hm2 : X.mg "range" = none) (ha : JE X fl a s m p)
    (na : starEach [a] X.env = (false, eval a X.env) :: starEach [] X.env := by rfl) (nb : starEach [.Call (.Name "range" p2) [a] [] q] X.env = (false, eval (.Call (.Name "range" p2) [a] [] q) X.env) :: starEach [] X.env := by rfl) :
    JE X fl (.Call (.Name "tuple" p0) [.Call (.Name "range" p2) [a] [] q] [] pos) (sUn dTupleRg1 s) (.own 1) p := by
  refine je_then (k := fun x H Q => ∃ n, x = .int n ∧ RgOk 0 n ∧ NewT H (rgV 0 n) Q) (fun ha => pe_tupRgN hc hg hm (prg_1 hg2 hm2 ha na) nb) (fun U W T H d d' v q Q hw hu V h k => ?_) ha
  unfold dTupleRg1 dRg1 at h
  split at h
  · rename_i j
    split at h
    · rename_i c
      cases h
      refine ⟨_, en_int V.en, rgOk1 c, fun p ob hp hd => ?_⟩
      have t := en_upTo (K := X.K) (U := U) (H := H) 0 j
      rw [Int.sub_zero] at t
      exact new_tup hu t hp hd k
    · cases h
  · cases h
theorem je_listRg2 {p0 p2 pos q : Pos} (hc : X.calm = true) (hg : Gl X "list") (hm : X.mg "list" = none) (hg2 : Gl X "range") (hm2 : X.mg "range" = none) (ha : JE X fl a s m p) (hb : JE X fl b sb m2 p') (hst : stab m = true ∨ p' = true := by first | exact .inl rfl | exact .inr rfl)
    (na : starEach [a, b] X.env = (false, eval a X.env) :: starEach [b] X.env := by rfl) (nb : starEach [b] X.env = (false, eval b X.env) :: starEach [] X.env := by rfl) (hp : (backTo q (starEach [b] X.env)).any (·.1) = false := by rfl)
    (nc : starEach [.Call (.Name "range" p2) [a, b] [] q] X.env = (false, eval (.Call (.Name "range" p2) [a, b] [] q) X.env) :: starEach [] X.env := by rfl) :
    JE X fl (.Call (.Name "list" p0) [.Call (.Name "range" p2) [a, b] [] q] [] pos) (sBin dListRg2 s sb) (.own 1) (p && p') := by
  refine je_two (rr := fun x y H Q => ∃ i j, x = .int i ∧ y = .int j ∧ RgOk i j ∧ ∀ q, H q = none → Q (.ref q) (upd H q (.lst (rgV i j)))) (fun ha hb => pe_listRg hc hg hm (prg_2 hg2 hm2 ha hb na nb hp) nc) ?_ ha hb hst
  intro U W T H d1 d2 d v1 v2 q1 q2 Q hw hu V1 V2 h k
  unfold dListRg2 dRg2 at h
  split at h
  · split at h
    · rename_i c
      cases h
      exact ⟨_, _, en_int V1.en, en_int V2.en, rgOk_of c, fun p hp => new_lst hw hu (en_upTo _ _) hp k⟩
    · cases h
  · cases h
theorem je_tupleRg2 {p0 p2 pos q : Pos} (hc : X.calm = true) (hg : Gl X "tuple") (hm : X.mg "tuple" = none) (hg2 : Gl X "range") (hm2 : X.mg "range" = none) (ha : JE X fl a s m p) (hb : JE X fl b sb m2 p') (hst : stab m = true ∨ p' = true := by first | exact .inl rfl | exact .inr rfl)
    (na : starEach [a, b] X.env = (false, eval a X.env) :: starEach [b] X.env := by rfl) (nb : starEach [b] X.env = (false, eval b X.env) :: starEach [] X.env := by rfl) (hp : (backTo q (starEach [b] X.env)).any (·.1) = false := by rfl)
    (nc : starEach [.Call (.Name "range" p2) [a, b] [] q] X.env = (false, eval (.Call (.Name "range" p2) [a, b] [] q) X.env) :: starEach [] X.env := by rfl) :
    JE X fl (.Call (.Name "tuple" p0) [.Call (.Name "range" p2) [a, b] [] q] [] pos) (sBin dTupleRg2 s sb) (.own 1) (p && p') := by
  refine je_two (rr := fun x y H Q => ∃ i j, x = .int i ∧ y = .int j ∧ RgOk i j ∧ NewT H (rgV i j) Q) (fun ha hb => pe_tupRgN hc hg hm (prg_2 hg2 hm2 ha hb na nb hp) nc) ?_ ha hb hst
  intro U W T H d1 d2 d v1 v2 q1 q2 Q hw hu V1 V2 h k
  unfold dTupleRg2 dRg2 at h
  split at h
  · split at h
    · rename_i c
      cases h
      exact ⟨_, _, en_int V1.en, en_int V2.en, rgOk_of c, fun p ob hp hd => new_tup hu (en_upTo _ _) hp hd k⟩
    · cases h
  · cases h
end
end J

set_option Elab.async false
set_option linter.all false
set_option maxRecDepth 100000
/-! JRev: x[::-1] of a list, of a tuple. -/
namespace J
open PySem L2

theorem adjust_rev (n : Nat) : Builtin.Slice.sliceAdjust none none (-1) (n : Int) = ((n : Int) - 1, -1) := by
  unfold Builtin.Slice.sliceAdjust
  simp
theorem places_rev (n : Nat) : Builtin.Slice.slicePlaces ((n : Int) - 1) (-1) (-1) = n := by
  unfold Builtin.Slice.slicePlaces
  rw [if_neg (by decide)]
  split
  · rw [show (- -1 : Int) = 1 by decide, Int.ediv_one]; omega
  · omega
theorem pick_rev (xs : Array Value) : ((List.range xs.size).filterMap fun (m : Nat) => xs[((xs.size : Int) - 1 + (m : Int) * -1).toNat]?).toArray = xs.toList.reverse.toArray := by
  have e : (fun (m : Nat) => xs[((xs.size : Int) - 1 + (m : Int) * -1).toNat]?) = (fun m => xs[m]?) ∘ fun k => xs.size - 1 - k := by
    funext m
    have : ((xs.size : Int) - 1 + (m : Int) * -1).toNat = xs.size - 1 - m := by omega
    simp only [this, Function.comp]
  rw [e, ← List.filterMap_map, PySem.W.krv_range, List.filterMap_reverse, PySem.W.krv_all]
section
variable {prog : Program} {w : World} {A : Around} {E : Value → Shared → Prop} {s : Shared}
theorem applied_rev {sl : Addr} {vl vu vs : Value} {n : Nat} {Q : Int × Int × Nat → Shared → Prop} (hs : s.heap.IsSliceOf sl vl vu vs) (pl : IsPart vl none) (pu : IsPart vu none) (ps : IsPart vs (some (-1)))
    (h : Q ((n : Int) - 1, -1, n) s) : wpAny (model prog w) A (Builtin.Slice.sliceApplied (.ref sl) (pure (n : Int))) Q E s := by
  obtain ⟨ob, g, hc, hd⟩ := id hs
  unfold Builtin.Slice.sliceApplied Builtin.Slice.sliceFields
  refine wpAny_bind (wpAny_bind (wpAny_field g hd (x := vl) rfl (wpAny_bind (wpAny_field g hd (x := vu) rfl (wpAny_bind (wpAny_field g hd (x := vs) rfl (wpAny_pure ?_)))))))
  refine wpAny_bind (HT.slicePart_ ps ?_)
  show wpAny _ _ (if ((-1 : Int) == 0) = true then _ else _) _ _ s
  rw [if_neg (by decide)]
  refine wpAny_bind (HT.slicePart_ pl (wpAny_bind (HT.slicePart_ pu (wpAny_bind (wpAny_pure ?_)))))
  show wpAny _ _ (match Builtin.Slice.sliceAdjust none none (-1) (n : Int) with | (lo, hi) => pure (lo, (-1 : Int), Builtin.Slice.slicePlaces lo hi (-1))) _ _ s
  rw [adjust_rev n]
  show wpAny _ _ (pure ((n : Int) - 1, (-1 : Int), Builtin.Slice.slicePlaces ((n : Int) - 1) (-1) (-1))) _ _ s
  rw [places_rev]
  exact wpAny_pure h
theorem getItem_tuple_rev {t sl : Addr} {items : Array Value} {vl vu vs : Value} {Q : Value → Shared → Prop} (ht : PyProof.Rows.IsTup s.heap t items) (hs : s.heap.IsSliceOf sl vl vu vs) (pl : IsPart vl none) (pu : IsPart vu none) (ps : IsPart vs (some (-1)))
    (h : Q (.ref s.heap.objs.size) { s with heap := s.heap.push { cls := .type "tuple", data := .seq items.toList.reverse.toArray } }) (hsz : items.size ≤ sizeLine) : wpAny (model prog w) A (getItem (.ref t) (.ref sl)) Q E s := by
  have hk : sizeOk (.seq items.toList.reverse.toArray) := by show _ ≤ sizeLine; simpa using hsz
  obtain ⟨ob, g, hc, _⟩ := id hs
  have hT : s.TypeIs (.ref sl) "slice" := ⟨ob, g, hc⟩
  unfold getItem
  try with_reducible refine wpAny_holding ?_
  first | refine wpAny_bind (wpAny_pure ?_) | skip
  refine wpAny_bind (wpAny_sequenceKey ht.typeIs (by decide) ?_)
  refine wpAny_bind (wpAny_callSpecial?_slot (name := Str.ofString "__getitem__") ht.typeIs PyProof.Rows.slot_tuple_getitem (wpAny_call_entry PyProof.Rows.slot_tuple_getitem ht.typeIs PyProof.Rows.entry_tuple_getitem ?_ (PyProof.Rows.args_tuple_getitem _ _)))
  show wpAny _ _ (Builtin.Tuple.tupleItemsOf (.ref t) >>= _) _ _ s
  refine wpAny_bind (PyProof.Rows.tupleItemsOf_ ht ?_)
  refine wpAny_bind (wpAny_typeOf hT ?_)
  rw [if_pos (by decide)]
  refine wpAny_bind (applied_rev hs pl pu ps ?_)
  have hno : ¬ ((((items.size : Int) - 1) == 0 && (-1 : Int) == 1 && items.size == items.size) = true) := by simp
  show wpAny _ _ (if (((items.size : Int) - 1) == 0 && (-1 : Int) == 1 && items.size == items.size) = true then _ else _) _ _ s
  rw [if_neg hno, pick_rev]
  first
    | exact wpAny_bind (m := Builtin.Tuple.tupleExact _) (wpAny_newObj_type (wpAny_pure ⟨_, rfl, wpAny_pure h⟩) hk)
    | exact wpAny_bind (m := Builtin.Tuple.tupleExact _) (wpAny_newObj_type (wpAny_bind (wpAny_pure (wpAny_pure ⟨_, rfl, wpAny_pure h⟩))) hk)
    | exact wpAny_bind (wpAny_bind (m := Builtin.Tuple.tupleExact _) (wpAny_newObj_type (wpAny_pure (wpAny_pure ⟨_, rfl, wpAny_pure h⟩)) hk))
    | exact wpAny_bind (wpAny_bind (m := Builtin.Tuple.tupleExact _) (wpAny_newObj_type (wpAny_pure ⟨_, rfl, wpAny_pure h⟩) hk))
end
section
variable {X : Cx} {e : Expr} {te : TE} {k : Nat} {p1 p2 p3 pos : Pos}
abbrev revE (e : Expr) (k : Nat) (p1 p2 p3 pos : Pos) : Expr := .Subscript e (.Slice none none (some (.UnaryOp .USub (.Constant (.int 1) k p1) p2)) p3) pos
def tRev (K : PySem.W.Frag) (te : TE) : TE := fun σ H Q => te σ H fun x H1 => ∃ a xs, x = .ref a ∧ ((SqL K H1 a xs ∧ ∀ p, H1 p = none → Q (.ref p) (upd H1 p (.lst xs.reverse))) ∨ (SqT K H1 a xs ∧ NewT H1 xs.reverse Q))
theorem pe_revN (he : PE X e te) : PE X (revE e k p1 p2 p3 pos) (tRev X.K te) := by
  refine ⟨fun pins s σ H Q I h => PyProof.Rows.Subscript_ (thn (he.run pins s σ H _ I h) fun v s1 ⟨x, H1, I1, r1, a, xs, ex, q⟩ => ?_)⟩
  subst ex
  cases r1
  have neg : PO X (some (.UnaryOp .USub (.Constant (.int 1) k p1) p2)) (tPart (tUn (rU fun i => .int (-i)) (tC (.int 1)))) := po_some (pe_un un_neg pe_int)
  refine wpAny_Slice (thn (po_none.run pins s1 σ H1 (fun o G => o = none ∧ G = H1) I1 ⟨rfl, rfl⟩) fun lo t1 ⟨_, _, J1, k1, z1, z2⟩ => ?_)
  subst z1 z2
  refine thn (po_none.run pins t1 σ _ (fun o G => o = none ∧ G = _) J1 ⟨rfl, rfl⟩) fun hi t2 ⟨_, _, J2, k2, z1, z2⟩ => ?_
  subst z1 z2
  refine thn (neg.run pins t2 σ _ (fun o G => o = some (-1) ∧ G = _) J2 ⟨1, rfl, -1, rfl, rfl, rfl⟩) fun st t3 ⟨_, _, J3, k3, z1, z2⟩ => ?_
  subst z1 z2
  have J := J3.kept (t' := t3.toks) (h' := t3.heap.push { cls := .type "slice", data := .fields #[lo, hi, st] }) fun _ _ g => Heap.get?_push_of_some _ g
  show wpAny (model X.prog X.w) X.A (PyProof.Rows.subscriptTail e (.Slice none none (some (.UnaryOp .USub (.Constant (.int 1) k p1) p2)) p3) (.ref a) (.ref t3.heap.objs.size)) (EP X pins σ Q) X.xe { t3 with heap := t3.heap.push { cls := .type "slice", data := .fields #[lo, hi, st] } }
  rcases q with ⟨hx, q⟩ | ⟨hx, q⟩
  · obtain ⟨its, r, pl, hz⟩ := J.list hx
    refine PyProof.Rows.tail_any (ops := [.ref a, .ref t3.heap.objs.size]) pl.isList.typeIs (PySem.slot_list_getitem.lookup) ?_ (by with_unfolding_all rfl)
    refine wpAny_getItem_list_slice pl.isList (Heap.IsSliceOf.new _ lo hi st) k1 k2 k3 (by decide) ?_ (by have := r.length; rw [List.size_toArray]; omega)
    rw [PySem.W.krv_pick]
    refine ⟨.ref _, _, J.laid (t' := t3.toks) (o := .lst xs.reverse) (fun _ _ g => Heap.get?_push_of_some _ g) (Nat.le_refl _) ?_, rfl, q _ (J.hok.fresh (Nat.le_refl _))⟩
    exact ⟨(List.length_reverse (as := xs)).symm ▸ hz, _, 0, r.reverse, Heap.get?_push_size _ rfl⟩
  · obtain ⟨its, r, pl, hz⟩ := J.tuple hx
    refine PyProof.Rows.tail_any (ops := [.ref a, .ref t3.heap.objs.size]) pl.typeIs (PyProof.Rows.slot_tuple_getitem.lookup) ?_ (by with_unfolding_all rfl)
    refine getItem_tuple_rev pl (Heap.IsSliceOf.new _ lo hi st) k1 k2 k3 ?_ (by have := r.length; rw [List.size_toArray]; omega)
    exact lay_tup J r.reverse (by rw [List.length_reverse]; exact hz) q
/-- backward -/
def dRev : D → Option D
  | .list xs => some (.list xs.reverse)
  | .tuple xs => some (.tuple xs.reverse)
  | _ => none
theorem je_rev {fl : List Fg} {s : SE} {p : Bool} (ha : JE X fl e s .r1 p) : JE X fl (revE e k p1 p2 p3 pos) (sUn dRev s) (.own 1) p := by
  refine je_then (k := fun x H Q => ∃ a xs, x = .ref a ∧ ((SqL X.K H a xs ∧ ∀ p, H p = none → Q (.ref p) (upd H p (.lst xs.reverse))) ∨ (SqT X.K H a xs ∧ NewT H xs.reverse Q))) (fun ha => pe_revN ha) (fun U W T H d d' v q Q hw hu V h k => ?_) ha
  unfold dRev at h
  split at h
  · cases h
    obtain ⟨a, xs, rfl, hx, t⟩ := e1_lst V.1
    exact ⟨a, xs, rfl, .inl ⟨SqL.of hx, fun p hp => new_lst hw hu t.reverse hp k⟩⟩
  · cases h
    obtain ⟨a, xs, rfl, hx, t⟩ := e1_tup V.1
    exact ⟨a, xs, rfl, .inr ⟨hx, fun p ob hp hd => new_tup hu t.reverse hp hd k⟩⟩
  · cases h
end
end J

set_option Elab.async false
set_option linter.all false
set_option maxRecDepth 100000
/-! JBack: x[:0:-1] of a tuple. -/
namespace J
open PySem L2
theorem adjust_bk {n : Nat} (h : 0 < n) : Builtin.Slice.sliceAdjust none (some 0) (-1) (n : Int) = ((n : Int) - 1, 0) := by
  unfold Builtin.Slice.sliceAdjust
  simp
  omega
theorem places_bk {n : Nat} (h : 0 < n) : Builtin.Slice.slicePlaces ((n : Int) - 1) 0 (-1) = n - 1 := by
  unfold Builtin.Slice.slicePlaces
  rw [if_neg (by decide)]
  split
  · rw [show (- -1 : Int) = 1 by decide, Int.ediv_one]; omega
  · omega
theorem pick_bk {x : Value} {xs : Array Value} (h : 0 < xs.size) (e0 : xs[0]? = some x) : ((List.range (xs.size - 1)).filterMap fun (m : Nat) => xs[((xs.size : Int) - 1 + (m : Int) * -1).toNat]?).toArray = (xs.toList.drop 1).reverse.toArray := by
  have h1 := pick_rev xs
  obtain ⟨n, hn⟩ : ∃ n, xs.size = n + 1 := ⟨xs.size - 1, by omega⟩
  obtain ⟨y, t, ht⟩ : ∃ y t, xs.toList = y :: t := by
    cases hl : xs.toList with
    | nil =>
      have : xs.size = 0 := by rw [← Array.length_toList, hl]; rfl
      omega
    | cons y t => exact ⟨y, t, rfl⟩
  have h2 := congrArg Array.toList h1
  simp only [] at h2
  rw [hn, List.range_succ, List.filterMap_append, ht, List.reverse_cons] at h2
  have e1 : xs[(((n + 1 : Nat) : Int) - 1 + (n : Int) * -1).toNat]? = some y := by
    have : (((n + 1 : Nat) : Int) - 1 + (n : Int) * -1).toNat = 0 := by omega
    rw [this, ← Array.getElem?_toList, ht]
    rfl
  have e2 : ([n].filterMap fun (m : Nat) => xs[(((n + 1 : Nat) : Int) - 1 + (m : Int) * -1).toNat]?) = [y] := by
    rw [List.filterMap_cons, e1]
    rfl
  rw [e2] at h2
  have h3 := List.append_inj_left' h2 rfl
  rw [hn, ht, Nat.add_sub_cancel]
  show _ = t.reverse.toArray
  rw [← h3]
section
variable {prog : Program} {w : World} {A : Around} {E : Value → Shared → Prop} {s : Shared}
theorem applied_bk {sl : Addr} {vl vu vs : Value} {n : Nat} {Q : Int × Int × Nat → Shared → Prop} (hn : 0 < n) (hs : s.heap.IsSliceOf sl vl vu vs) (pl : IsPart vl none) (pu : IsPart vu (some 0)) (ps : IsPart vs (some (-1)))
    (h : Q ((n : Int) - 1, -1, n - 1) s) : wpAny (model prog w) A (Builtin.Slice.sliceApplied (.ref sl) (pure (n : Int))) Q E s := by
  obtain ⟨ob, g, hc, hd⟩ := id hs
  unfold Builtin.Slice.sliceApplied Builtin.Slice.sliceFields
  refine wpAny_bind (wpAny_bind (wpAny_field g hd (x := vl) rfl (wpAny_bind (wpAny_field g hd (x := vu) rfl (wpAny_bind (wpAny_field g hd (x := vs) rfl (wpAny_pure ?_)))))))
  refine wpAny_bind (HT.slicePart_ ps ?_)
  show wpAny _ _ (if ((-1 : Int) == 0) = true then _ else _) _ _ s
  rw [if_neg (by decide)]
  refine wpAny_bind (HT.slicePart_ pl (wpAny_bind (HT.slicePart_ pu (wpAny_bind (wpAny_pure ?_)))))
  show wpAny _ _ (match Builtin.Slice.sliceAdjust none (some 0) (-1) (n : Int) with | (lo, hi) => pure (lo, (-1 : Int), Builtin.Slice.slicePlaces lo hi (-1))) _ _ s
  rw [adjust_bk hn]
  show wpAny _ _ (pure ((n : Int) - 1, (-1 : Int), Builtin.Slice.slicePlaces ((n : Int) - 1) 0 (-1))) _ _ s
  rw [places_bk hn]
  exact wpAny_pure h
theorem getItem_tuple_bk {t sl : Addr} {items : Array Value} {vl vu vs x0 : Value} {Q : Value → Shared → Prop} (hn : 0 < items.size) (e0 : items[0]? = some x0) (ht : PyProof.Rows.IsTup s.heap t items) (hs : s.heap.IsSliceOf sl vl vu vs) (pl : IsPart vl none) (pu : IsPart vu (some 0)) (ps : IsPart vs (some (-1)))
    (h : Q (.ref s.heap.objs.size) { s with heap := s.heap.push { cls := .type "tuple", data := .seq (items.toList.drop 1).reverse.toArray } }) (hsz : items.size ≤ sizeLine) : wpAny (model prog w) A (getItem (.ref t) (.ref sl)) Q E s := by
  have hk : sizeOk (.seq (items.toList.drop 1).reverse.toArray) := by
    show _ ≤ sizeLine
    simp
    omega
  obtain ⟨ob, g, hc, _⟩ := id hs
  have hT : s.TypeIs (.ref sl) "slice" := ⟨ob, g, hc⟩
  unfold getItem
  try with_reducible refine wpAny_holding ?_
  first | refine wpAny_bind (wpAny_pure ?_) | skip
  refine wpAny_bind (wpAny_sequenceKey ht.typeIs (by decide) ?_)
  refine wpAny_bind (wpAny_callSpecial?_slot (name := Str.ofString "__getitem__") ht.typeIs PyProof.Rows.slot_tuple_getitem (wpAny_call_entry PyProof.Rows.slot_tuple_getitem ht.typeIs PyProof.Rows.entry_tuple_getitem ?_ (PyProof.Rows.args_tuple_getitem _ _)))
  show wpAny _ _ (Builtin.Tuple.tupleItemsOf (.ref t) >>= _) _ _ s
  refine wpAny_bind (PyProof.Rows.tupleItemsOf_ ht ?_)
  refine wpAny_bind (wpAny_typeOf hT ?_)
  rw [if_pos (by decide)]
  refine wpAny_bind (applied_bk hn hs pl pu ps ?_)
  have hno : ¬ ((((items.size : Int) - 1) == 0 && (-1 : Int) == 1 && (items.size - 1) == items.size) = true) := by simp
  show wpAny _ _ (if (((items.size : Int) - 1) == 0 && (-1 : Int) == 1 && (items.size - 1) == items.size) = true then _ else _) _ _ s
  rw [if_neg hno, pick_bk hn e0]
  first
    | exact wpAny_bind (m := Builtin.Tuple.tupleExact _) (wpAny_newObj_type (wpAny_pure ⟨_, rfl, wpAny_pure h⟩) hk)
    | exact wpAny_bind (m := Builtin.Tuple.tupleExact _) (wpAny_newObj_type (wpAny_bind (wpAny_pure (wpAny_pure ⟨_, rfl, wpAny_pure h⟩))) hk)
    | exact wpAny_bind (wpAny_bind (m := Builtin.Tuple.tupleExact _) (wpAny_newObj_type (wpAny_pure (wpAny_pure ⟨_, rfl, wpAny_pure h⟩)) hk))
    | exact wpAny_bind (wpAny_bind (m := Builtin.Tuple.tupleExact _) (wpAny_newObj_type (wpAny_pure ⟨_, rfl, wpAny_pure h⟩) hk))
end
section
variable {X : Cx} {e : Expr} {te : TE} {k k0 : Nat} {p0 p1 p2 p3 pos : Pos}
abbrev bkE (e : Expr) (k0 k : Nat) (p0 p1 p2 p3 pos : Pos) : Expr := .Subscript e (.Slice none (some (.Constant (.int 0) k0 p0)) (some (.UnaryOp .USub (.Constant (.int 1) k p1) p2)) p3) pos
def tBk (K : PySem.W.Frag) (te : TE) : TE := fun σ H Q => te σ H fun x H1 => ∃ a y ys, x = .ref a ∧ SqT K H1 a (y :: ys) ∧ NewT H1 ys.reverse Q
theorem pe_bk (he : PE X e te) : PE X (bkE e k0 k p0 p1 p2 p3 pos) (tBk X.K te) := by
  refine ⟨fun pins s σ H Q I h => PyProof.Rows.Subscript_ (thn (he.run pins s σ H _ I h) fun v s1 ⟨x, H1, I1, r1, a, y, ys, ex, hx, q⟩ => ?_)⟩
  subst ex
  cases r1
  have zer : PO X (some (.Constant (.int 0) k0 p0)) (tPart (tC (.int 0))) := po_some pe_int
  have neg : PO X (some (.UnaryOp .USub (.Constant (.int 1) k p1) p2)) (tPart (tUn (rU fun i => .int (-i)) (tC (.int 1)))) := po_some (pe_un un_neg pe_int)
  refine wpAny_Slice (thn (po_none.run pins s1 σ H1 (fun o G => o = none ∧ G = H1) I1 ⟨rfl, rfl⟩) fun lo t1 ⟨_, _, J1, k1, z1, z2⟩ => ?_)
  subst z1 z2
  refine thn (zer.run pins t1 σ _ (fun o G => o = some 0 ∧ G = _) J1 ⟨0, rfl, rfl, rfl⟩) fun hi t2 ⟨_, _, J2, k2, z1, z2⟩ => ?_
  subst z1 z2
  refine thn (neg.run pins t2 σ _ (fun o G => o = some (-1) ∧ G = _) J2 ⟨1, rfl, -1, rfl, rfl, rfl⟩) fun st t3 ⟨_, _, J3, k3, z1, z2⟩ => ?_
  subst z1 z2
  have J := J3.kept (t' := t3.toks) (h' := t3.heap.push { cls := .type "slice", data := .fields #[lo, hi, st] }) fun _ _ g => Heap.get?_push_of_some _ g
  show wpAny (model X.prog X.w) X.A (PyProof.Rows.subscriptTail e (.Slice none (some (.Constant (.int 0) k0 p0)) (some (.UnaryOp .USub (.Constant (.int 1) k p1) p2)) p3) (.ref a) (.ref t3.heap.objs.size)) (EP X pins σ Q) X.xe { t3 with heap := t3.heap.push { cls := .type "slice", data := .fields #[lo, hi, st] } }
  obtain ⟨its, r, pl, hz⟩ := J.tuple hx
  have hlen := r.length
  have hne : 0 < its.length := by rw [← hlen]; simp
  obtain ⟨u, us, rfl⟩ : ∃ u us, its = u :: us := by
    cases its with
    | nil => simp at hne
    | cons u us => exact ⟨u, us, rfl⟩
  refine PyProof.Rows.tail_any (ops := [.ref a, .ref t3.heap.objs.size]) pl.typeIs (PyProof.Rows.slot_tuple_getitem.lookup) ?_ (by with_unfolding_all rfl)
  refine getItem_tuple_bk (x0 := u) (by simp) rfl pl (Heap.IsSliceOf.new _ lo hi st) k1 k2 k3 ?_ (by rw [List.size_toArray]; omega)
  exact lay_tup J (r.drop 1).reverse (by
    simp only [List.drop_succ_cons, List.drop_zero, List.length_reverse]
    simp only [List.length_cons] at hz
    omega) q
/-- all but the first, backward -/
def dBk : D → Option D
  | .tuple (_ :: xs) => some (.tuple xs.reverse)
  | _ => none
theorem je_bk {fl : List Fg} {s : SE} {p : Bool} (ha : JE X fl e s .r1 p) : JE X fl (bkE e k0 k p0 p1 p2 p3 pos) (sUn dBk s) (.own 1) p := by
  refine je_then (k := fun x H Q => ∃ a y ys, x = .ref a ∧ SqT X.K H a (y :: ys) ∧ NewT H ys.reverse Q) (fun ha => pe_bk ha) (fun U W T H d d' v q Q hw hu V h k => ?_) ha
  unfold dBk at h
  split at h
  · cases h
    obtain ⟨a, xs, rfl, hx, t⟩ := e1_tup V.1
    cases xs with
    | nil => cases t
    | cons y ys => exact ⟨a, y, ys, rfl, hx, fun p ob hp hd => new_tup hu (t.drop 1).reverse hp hd k⟩
  · cases h
end
end J

set_option Elab.async false
set_option linter.all false
set_option maxRecDepth 100000
/-! JMore2: insert. -/
namespace J
open PySem L2
def rIns : V → List V → Hp → VK → Prop := fun x vs H Q => ∃ (l : Addr) (xs : List V) (i : Int) (y : V), x = .ref l ∧ vs = [.int i, y] ∧ H l = some (.lst xs) ∧ xs.length < sizeLine ∧ 0 ≤ i ∧ i < 2 ^ 63 ∧
  Q .non (upd H l (.lst (xs.take i.toNat ++ [y] ++ xs.drop i.toNat)))
theorem mt_ins {X : Cx} : MtR X "list.insert" rIns := mt_insert
theorem mj_ins {K : PySem.W.Frag} {n : Nat} : MutJ K [.own n, .own 0] mIns rIns := by
  intro U W T H a xs vs ds args ds' q d Q ua ha t V hf k
  obtain ⟨x, v, q1, y, u, q2, rfl, rfl, V1, V2⟩ := valA2 V
  unfold mIns at hf
  split at hf
  · rename_i e
    cases e
    split at hf
    · rename_i c
      cases hf
      refine ⟨a, xs, _, u, rfl, by rw [en_int V1.en], ha, by rw [← line_eq, t.sz]; exact c.1, c.2.1, c.2.2, ?_⟩
      rw [List.append_assoc]
      exact k _ _ ((t.take _).append (.cons V2.1.to0.1 (t.drop _))) .non
    · cases hf
  · cases hf
section
variable {X : Cx} {C : SC} {fl fn : List Fg}
theorem valA_set3 {K : PySem.W.Frag} {I : Ini} {U : Addr → Prop} {rs : Rs} {r : Env} {s : St} {H : Hp} {i j l : Nat} {m1 m2 m3 : Md} {f1 f2 f3 : Fg} {ds : List D} {vs : List V} {q : List Addr} (R : Rel K I fl U rs r s H) (V : ValA K U (Wr rs) (TN I) H [m1, m2, m3] ds vs q) (hq : ∀ a ∈ q, TN I a)
    (h1 : held m1 = some f1) (h2 : held m2 = some f2) (h3 : held m3 = some f3) (x1 : fixed (fgAt fl i) = false) (x2 : fixed (fgAt (fl.set i f1) j) = false) (x3 : fixed (fgAt ((fl.set i f1).set j f2) l) = false) (l1 : i < fl.length) (l2 : j < fl.length) (l3 : l < fl.length) :
    ∃ d e g v w z rs', ds = [d, e, g] ∧ vs = [v, w, z] ∧ Rel K I (((fl.set i f1).set j f2).set l f3) U rs' (((r.set i (some d)).set j (some e)).set l (some g)) (((s.set i (some v)).set j (some w)).set l (some z)) H ∧ ∀ b, Wr rs' b → Wr rs b ∨ b ∈ q := by
  cases V with
  | cons a t dj =>
    rename_i d v q1 q2 ds vs
    have R1 := R.set l1 x1 h1 a fun z m => hq z (List.mem_append_left _ m)
    have t1 : ValA K U (Wr (setR rs i q1)) (TN I) H [m2, m3] ds vs q2 := t.lessW fun z m w => by
      rcases wr_set w with w | w
      · exact w
      · exact absurd m (dj z w)
    obtain ⟨e, g, w, z, rs', rfl, rfl, R3, hw⟩ := valA_set2 R1 t1 (fun z m => hq z (List.mem_append_right _ m)) h2 h3 x2 x3 (by rw [List.length_set]; exact l2) (by rw [List.length_set]; exact l3)
    refine ⟨d, e, g, v, w, z, rs', rfl, rfl, R3, fun b wb => ?_⟩
    rcases hw b wb with h | h
    · rcases wr_set h with h | h
      · exact .inl h
      · exact .inr (List.mem_append_left _ h)
    · exact .inr (List.mem_append_right _ h)
theorem js_par3 {i j l : Nat} {x y z : Str} {a b c : Expr} {sa : SA} {m1 m2 m3 : Md} {f1 f2 f3 : Fg} {p : Bool} {px py pz pt pos : Pos} {kt k2 pt2} (hc : X.calm = true) (hN : X.N.Nodup) (hi : X.N[i]? = some x) (hj : X.N[j]? = some y) (hl : X.N[l]? = some z) (hij : i ≠ j) (hil : i ≠ l) (hjl : j ≠ l)
    (hx : X.env.scope.names.lookup x = some .local) (hy : X.env.scope.names.lookup y = some .local) (hz : X.env.scope.names.lookup z = some .local) (ha : JA X fl [a, b, c] sa [m1, m2, m3] p) (h1 : held m1 = some f1) (h2 : held m2 = some f2) (h3 : held m3 = some f3)
    (x1 : fixed (fgAt fl i) = false) (x2 : fixed (fgAt (fl.set i f1) j) = false) (x3 : fixed (fgAt ((fl.set i f1).set j f2) l) = false) (l1 : i < fl.length) (l2 : j < fl.length) (l3 : l < fl.length) (hfn : ((fl.set i f1).set j f2).set l f3 = fn)
    (hw : swappedStores [.Tuple [.Name x px, .Name y py, .Name z pz] kt pt] (.Tuple [a, b, c] k2 pt2) X.env = pure (some [x, y, z]) := by rfl)
    (hs : swapsWithSole [.Tuple [.Name x px, .Name y py, .Name z pz] kt pt] (.Tuple [a, b, c] k2 pt2) pos.line X.env = pure false := by rfl) :
    JS X C fl (.Assign [.Tuple [.Name x px, .Name y py, .Name z pz] kt pt] (.Tuple [a, b, c] k2 pt2) pos) (sParN [i, j, l] sa) fn := by
  refine ps_mono (ps_par3 hc hN hi hj hl hij hil hjl hx hy hz ha hw hs) ?_
  rintro D s H ⟨I, U, rs, r, f', r', R, hs, k⟩
  obtain ⟨ds, r1, e1, hs⟩ := of_bind hs
  refine ⟨I, U, rs, r, ds, r1, R, e1, fun U' rs' H' vs q A V => ?_⟩
  obtain ⟨d, e, g, v, w, z, rs2, rfl, rfl, R2, wr2⟩ := valA_set3 A.rel V (A.ti R) h1 h2 h3 x1 x2 x3 l1 l2 l3
  refine ⟨v, w, z, rfl, ?_⟩
  simp only [setAll] at hs
  cases hs
  subst hfn
  exact k U' rs2 _ H' (step_set A.st fun b wb => (wr2 b wb).elim (A.st.win b) (A.new b)) R2
end
end J

set_option Elab.async false
set_option linter.all false
set_option maxRecDepth 100000
/-! JSort: sorted(x) of a list or a tuple of data. -/
namespace J
open PySem L2
open PySem.W (AllAlike Sortable dataLe sortingHeap sortVals dataKind SortsAt EachIs)
open PyProof.Rows (seqObj sortedHeap)

section
variable {prog : Program} {w : World} {A : Around} {E : Value → Shared → Prop} {s : Shared} {β : Type}
theorem sorted_seq {l : Addr} {T : String} {o : Obj} {its : List Value} {n : Nat} {bs : List β} {enc : β → PyData} {R : Value → β → Prop} {Q : Value → Shared → Prop} (hT : T = "list" ∨ T = "tuple") (ho : s.heap.get? l = some o) (hc : o.cls = .type T) (hd : o.data = .seq its.toArray n)
    (e : EachIs R its bs) (er : EachIs (fun v b => ∃ as, Reads s.heap v (enc b) as) its bs) (hal : AllAlike (bs.map enc)) (hk : Sortable (bs.map enc)) (hL : bs.length ≤ sizeLine) (hu : ∀ b, b ∈ bs → A.units + 2 + (enc b).depth < cLine)
    (h : ∀ (h1 h' : Heap) (p : Addr) (out : List Value) (m : Nat), (∀ b o, s.heap.get? b = some o → h1.get? b = some o) → (∀ b o, h1.get? b = some o → h'.get? b = some o) → h1.objs.size ≤ p → EachIs R out (bs.mergeSort (dataLe false enc)) → h'.get? p = some (seqObj "list" out.toArray m) → Q (.ref p) { s with heap := h' }) :
    wpAny (model prog w) A (call (.builtin "sorted") [.ref l]) Q E s := by
  have hL' : its.length ≤ sizeLine := by rw [e.length]; exact hL
  refine Calls.call_function_entry PyProof.Rows.kind_sorted PyProof.Rows.plain_sorted PyProof.Rows.entry_sorted (PyProof.Rows.args_sorted1 _) ?_
  unfold Builtin.«sorted»
  refine wpAny_bind (m := checkCount "sorted" 1 1 _) (wpAny_pure ?_)
  refine wpAny_bind (wpAny_collect_seq l hT ho hc hd (fun h1 hk1 => ?_) (by simpa using hL'))
  refine wpAny_bind (wpAny_newList ?_ (by simpa using hL'))
  have eq1 : its.toArray.toList = its := by simp
  rw [eq1]
  have hoL : (h1.push (seqObj "list" its.toArray 0)).get? h1.objs.size = some (seqObj "list" its.toArray 0) := Heap.get?_push_size _ rfl
  have old : ∀ b o, s.heap.get? b = some o → (sortingHeap (h1.push (seqObj "list" its.toArray 0)) h1.objs.size its).get? b = some o := fun b o g => by
    have g1 := hk1 b o g
    exact PySem.W.sortingHeap_old (Nat.ne_of_lt (Heap.lt_size g1)) (Heap.get?_push_of_some _ g1)
  have er' : EachIs (fun v b => ∃ as, Reads (sortingHeap (h1.push (seqObj "list" its.toArray 0)) h1.objs.size its) v (enc b) as) its bs := er.mono fun _ _ ⟨as, r⟩ => ⟨as, PyProof.Rows.Reads.keeps old r⟩
  have S := SortsAt.data (prog := prog) (w := w) (A := A.in1.in1) (s := { s with heap := sortingHeap (h1.push (seqObj "list" its.toArray 0)) h1.objs.size its }) (PySem.W.each_map (R := fun v d => ∃ as, Reads (sortingHeap (h1.push (seqObj "list" its.toArray 0)) h1.objs.size its) v d as) enc er') hal hk (PySem.W.bound_map hu)
  refine wpAny_bind (wpAny_holding (wpAny_call_entry PyProof.Rows.slot_list_sort ⟨_, hoL, rfl⟩ PyProof.Rows.entry_list_sort (PySem.W.list_sort_vals (s := { s with heap := h1.push (seqObj "list" its.toArray 0) }) hoL S hL' ⟨_, rfl, ?_⟩) (PyProof.Rows.args_list_sort _)))
  obtain ⟨m, hm⟩ := PyProof.Rows.sortedHeap_at (vs := its) (out := (sortVals (dataKind (sortingHeap (h1.push (seqObj "list" its.toArray 0)) h1.objs.size its) (bs.map enc)) false its its).toArray) hoL
  refine wpAny_pure ⟨_, rfl, h h1 _ _ _ m hk1 (fun b o g1 => ?_) (Nat.le_refl _) (PySem.W.sortVals_data false e er' hal) hm⟩
  rw [PyProof.Rows.sortedHeap_old (Nat.ne_of_lt (Heap.lt_size g1)) (by rw [PyProof.Rows.size_push']; exact Nat.lt_succ_of_lt (Heap.lt_size g1))]
  exact Heap.get?_push_of_some _ g1
end
end J

set_option Elab.async false
set_option linter.all false
set_option maxRecDepth 100000
/-! JSort2: sorted(x), the rule. -/
namespace J
open PySem L2
open PySem.W (AllAlike Sortable dataLe EachIs alike)

def tupC : D → Bool
  | .tuple (_ :: _) => true
  | _ => false
def plnC : D → Bool
  | .none => false
  | .tuple _ => false
  | _ => true
def srtOk (ds : List D) : Bool := (ds.all fun d => ds.all fun e => alike d e) && (ds.all tupC || ds.all plnC) && (ds.all fun d => d.canLay0 && decide (d.depth ≤ 62)) && decide (ds.length ≤ line)
/-- ascending -/
noncomputable def srtD (ds : List D) : List D := ds.mergeSort (dataLe false id)
theorem srtOk_of {ds : List D} (h : srtOk ds = true) : AllAlike ds ∧ Sortable ds ∧ (∀ d ∈ ds, d.canLay0 = true ∧ d.depth ≤ 62) ∧ ds.length ≤ line := by
  unfold srtOk at h
  simp only [Bool.and_eq_true, List.all_eq_true, decide_eq_true_eq, Bool.or_eq_true] at h
  obtain ⟨⟨⟨h1, h2⟩, h3⟩, h4⟩ := h
  refine ⟨fun d hd e he => h1 d hd e he, ?_, h3, h4⟩
  rcases h2 with h2 | h2
  · refine .inl fun d hd => ?_
    have := h2 d hd
    cases d <;> simp [tupC] at this
    rename_i xs
    cases xs with
    | nil => simp [tupC] at this
    | cons x r => exact ⟨x, r, rfl⟩
  · refine .inr fun d hd => ?_
    have := h2 d hd
    cases d <;> simp [plnC] at this <;> simp
theorem vals_each {K : PySem.W.Frag} {H : Hp} : ∀ {ds : List D} {xs : List V} {us : List Value}, ds.length = xs.length → Vals xs us → EachIs (fun (v : Value) (b : D × V) => RelV b.2 v) us (ds.zip xs)
  | [], _, _, h, .nil => .nil
  | d :: ds, _, _, h, .cons r t => .cons r (vals_each (K := K) (H := H) (by simpa using h) t)
  | [], _, _, h, .cons _ _ => by simp at h
  | _ :: _, _, _, h, .nil => by simp at h
theorem each_vals : ∀ {zs : List (D × V)} {us : List Value}, EachIs (fun (v : Value) (b : D × V) => RelV b.2 v) us zs → Vals (zs.map (·.2)) us
  | _, _, .nil => .nil
  | _, _, .cons r t => .cons r (each_vals t)
theorem zip_fst : ∀ {ds : List D} {xs : List V}, ds.length = xs.length → (ds.zip xs).map (·.1) = ds := fun h => List.map_fst_zip (by omega)
theorem en_zip {K : PySem.W.Frag} {U : Addr → Prop} {H : Hp} : ∀ {zs : List (D × V)}, (∀ z ∈ zs, En K U H z.1 z.2) → EnAll K U H (zs.map (·.1)) (zs.map (·.2))
  | [], _ => .nil
  | z :: zs, h => .cons (h z List.mem_cons_self) (en_zip fun y m => h y (List.mem_cons_of_mem _ m))
theorem zip_en {K : PySem.W.Frag} {U : Addr → Prop} {H : Hp} : ∀ {ds : List D} {xs : List V}, EnAll K U H ds xs → ∀ z ∈ ds.zip xs, En K U H z.1 z.2
  | _, _, .nil, z, m => by simp at m
  | _, _, .cons e t, z, m => by
    rw [List.zip_cons_cons] at m
    rcases List.mem_cons.mp m with rfl | m
    · exact e
    · exact zip_en t z m
theorem each_reads {X : Cx} {pins : List (Addr × Obj)} {σ : St} {H : Hp} {s : Shared} (I : Inv X pins σ H s) : ∀ {ds : List D} {xs : List V} {us : List Value}, DpAll X.K H xs ds → Vals xs us → EachIs (fun (v : Value) (b : D × V) => ∃ as, Reads s.heap v b.1 as) us (ds.zip xs)
  | _, _, _, .nil, .nil => .nil
  | _, _, _, .cons h t, .cons r q => .cons (Dp.reads I _ _ _ h r) (each_reads I t q)
/-- sorted of a list, of a tuple -/
def rSrtD (K : PySem.W.Frag) : List V → Hp → VK → Prop := fun vs H Q => ∃ (a : Addr) (xs : List V) (ds : List D), vs = [.ref a] ∧ (SqL K H a xs ∨ SqT K H a xs) ∧ DpAll K H xs ds ∧ ds.length = xs.length ∧ srtOk ds = true ∧
  ∀ p, H p = none → Q (.ref p) (upd H p (.lst (((ds.zip xs).mergeSort (dataLe false Prod.fst)).map (·.2))))
theorem cr_srtD {X : Cx} (hu : X.A.units + 65 < cLine) : CallR X (.builtin "sorted") (rSrtD X.K) := by
  rintro pins s σ H vs us Q I r ⟨a, xs, ds, rfl, hs, hD, hn, hk, q⟩
  obtain ⟨u, rfl, ru⟩ := vals1 r
  cases ru
  obtain ⟨k1, k2, k3, k4⟩ := srtOk_of hk
  have hz : (ds.zip xs).length ≤ sizeLine := by rw [List.length_zip, ← line_eq]; omega
  have fst : (ds.zip xs).map Prod.fst = ds := zip_fst hn
  have main : ∀ (T : String) (o : Obj) (its : List Value) (n : Nat), (T = "list" ∨ T = "tuple") → s.heap.get? a = some o → o.cls = .type T → o.data = .seq its.toArray n → Vals xs its → wpAny (model X.prog X.w) X.A (call (.builtin "sorted") [.ref a]) (EP X pins σ Q) X.xe s := fun T o its n hT ho hc hd rv => by
    refine sorted_seq (bs := ds.zip xs) (enc := Prod.fst) (R := fun (v : Value) (b : D × V) => RelV b.2 v) hT ho hc hd (vals_each (K := X.K) (H := H) hn rv) (each_reads I hD rv) (by rw [fst]; exact k1) (by rw [fst]; exact k2) hz (fun b hb => ?_) fun h1 h' p out m g1 g2 hp he ho => ?_
    · have hb' : b.1 ∈ ds := by rw [← fst]; exact List.mem_map.mpr ⟨b, hb, rfl⟩
      have := (k3 _ hb').2
      omega
    · have J : Inv X pins σ H { s with heap := h1 } := I.kept (t' := s.toks) g1
      refine ⟨.ref p, _, J.laid (t' := s.toks) (o := .lst (((ds.zip xs).mergeSort (dataLe false Prod.fst)).map (·.2))) g2 hp ⟨?_, out, m, each_vals he, ho⟩, rfl, q p (J.hok.fresh hp)⟩
      rw [List.length_map, List.length_mergeSort]; exact hz
  rcases hs with hs | hs
  · obtain ⟨its, rv, ⟨o, n, ho, hc, _, hd⟩, _⟩ := I.list hs
    exact main "list" o its n (.inl rfl) ho hc hd rv
  · obtain ⟨its, rv, ⟨o, ho, hc, n, hd⟩, _⟩ := I.tuple hs
    exact main "tuple" o its n (.inr rfl) ho hc hd rv
noncomputable def dSorD : List D → Option D
  | [d] => (items d).bind fun ds => if srtOk ds = true then some (.list (srtD ds)) else none
  | _ => none
theorem canAll {ds : List D} (h : ∀ d ∈ ds, d.canLay0 = true) : PyData.canLayAll0 ds = true := by
  induction ds with
  | nil => simp [PyData.canLayAll0]
  | cons d ds ih => simp only [PyData.canLayAll0, Bool.and_eq_true]; exact ⟨h d List.mem_cons_self, ih fun e m => h e (List.mem_cons_of_mem _ m)⟩
theorem srt_map (zs : List (D × V)) : (zs.mergeSort (dataLe false Prod.fst)).map (·.1) = srtD (zs.map (·.1)) := by
  unfold srtD
  exact List.map_mergeSort fun a _ b _ => rfl
theorem fj_sorD {K : PySem.W.Frag} : FnJ K [.r1] (.own 1) dSorD (rSrtD K) := by
  intro U W T H ds d vs q Q hw hu V h k
  obtain ⟨x, v, q1, rfl, rfl, V1⟩ := valA1 V
  simp only [dSorD] at h
  cases hi : items x with
  | none => rw [hi] at h; cases h
  | some xs =>
    rw [hi] at h
    simp only [Option.bind_some] at h
    split at h
    · rename_i c
      cases h
      obtain ⟨k1, k2, k3, k4⟩ := srtOk_of c
      have fin : ∀ a ys, v = .ref a → (SqL K H a ys ∨ SqT K H a ys) → EnAll K U H xs ys → rSrtD K [v] H Q := fun a ys e hq t => by
        refine ⟨a, ys, xs, by rw [e], hq, EnAll.dp t (canAll fun d m => (k3 d m).1), t.length, c, fun p hp => ?_⟩
        have en : EnAll K U H (srtD xs) (((xs.zip ys).mergeSort (dataLe false Prod.fst)).map (·.2)) := by
          have := en_zip (K := K) (U := U) (H := H) (zs := (xs.zip ys).mergeSort (dataLe false Prod.fst)) fun z m => zip_en t z (List.mem_mergeSort.mp m)
          rw [srt_map, zip_fst t.length] at this
          exact this
        exact new_lst hw hu en hp k
      cases x with
      | list es =>
        cases hi
        obtain ⟨a, ys, e, ha, t⟩ := e1_lst V1.1
        exact fin a ys e (.inl (SqL.of ha)) t
      | tuple es =>
        cases hi
        obtain ⟨a, ys, e, ha, t⟩ := e1_tup V1.1
        exact fin a ys e (.inr ha) t
      | _ => cases hi
    · cases h
end J

set_option Elab.async false
set_option linter.all false
set_option maxRecDepth 100000
/-! JState: the script's cells: a slice of the script. -/
namespace J
open PySem L2
theorem slot_fz {K : PySem.W.Frag} {U T : Addr → Prop} {H : Hp} {v : V} {rs : List Addr} {d : D} (h : Slot K U T H .fz (some d) (some v) rs) : FzD K U H d v := by
  obtain ⟨_, e, h⟩ := h
  cases e
  exact h.1
section
variable {X : Cx} {fl : List Fg}
theorem je_slZ {e : Expr} {i : Nat} {lo hi : Option Expr} {sl sh : Env → R (Option Int)} {p2 p3 : Bool} {pos p2' : Pos} (he : PE X e (tVar i)) (hf : fgAt fl i = .fz) (hl : JO X fl lo sl p2) (hh : JO X fl hi sh p3) (hp : (p2 && p3) = true) :
    JE X fl (.Subscript e (.Slice lo hi none p2') pos) (sSl (sV i) sl sh) (.own 1) true := by
  have hp2 : p2 = true := by revert hp; cases p2 <;> simp
  have hp3 : p3 = true := by revert hp; cases p3 <;> simp
  refine pe_mono (pe_slice sl_list he hl hh) ?_
  rintro st H Q ⟨I, U, rs, r, d, r', R, hs, k⟩
  obtain ⟨x, r1, e1, hs⟩ := of_bind hs
  obtain ⟨l, r2, e2, hs⟩ := of_bind hs
  obtain ⟨h, r3, e3, hs⟩ := of_bind hs
  obtain ⟨hq, rfl⟩ := of_lift hs
  obtain ⟨hg, rfl⟩ := of_lift e1
  obtain ⟨v, hv, slt⟩ := slot_v (R.sl i) hg
  rw [hf] at slt
  rcases slot_fz slt with ⟨a, xs, ds, rfl, rfl, hz, t⟩ | ⟨a, n, rfl, rfl, _⟩
  case inr => cases hq
  cases hq
  refine ⟨_, hv, ⟨I, U, rs, _, l, r2, R, e2, fun U2 rs2 H2 A2 => ⟨I, U2, rs2, r2, h, r', A2.rel, e3, fun U3 rs3 H3 A3 => ?_⟩⟩⟩
  obtain ⟨f2, g2⟩ := A2.pur hp2
  obtain ⟨f3, g3⟩ := A3.pur hp3
  have A := (A2.trans R A3).less (p2 := true) fun _ => by rw [hp2, hp3]; rfl
  have t3 := EnAll.grow (f2.trans f3).grow t
  refine ⟨a, xs, rfl, (hz.grow (f2.trans f3).grow).sq, fun p hp => ?_⟩
  have f := Fresh.newU (U := U3) (.lst (cutV xs l h)) hp
  have hu := A.rel.ul
  have hw := A.rel.sub
  refine k _ rs3 _ (.ref p) [p] (A.fresh f (ul_new hu) R fun b m => ?_) ⟨.lst (.inr rfl) upd_same (OwnAll.of0 (EnAll.grow f.grow (en_cut t3 l h))), fun b m w => ?_, by simp⟩
  · have e : b = p := by simpa using m
    rw [e]; exact hp
  · have e : b = p := by simpa using m
    exact hu b (hw b w) (e ▸ hp)
end
end J

set_option Elab.async false
set_option linter.all false
set_option maxRecDepth 100000
/-! JTake: numbers drawn from the laws' cells (state = [at, cells]); the def's text is walked by hand, for it changes a list within a list by a second name. -/
namespace J
open PySem L2
open PyProof.Rows (envOfC)

/-! ### a name's list is moved out -/
def sMv (i : Nat) : SE := fun r => match getS r i with
  | some d => .ok d (r.set i none)
  | none => .no
theorem je_mv {X : Cx} {fl : List Fg} {e : Expr} {i n : Nat} (h : PE X e (tVar i)) (hf : fgAt fl i = .ow n) : JE X fl e (sMv i) (.own n) false := by
  refine pe_mono h ?_
  rintro s H Q ⟨I, U, rs, r, d, r', R, hs, k⟩
  unfold sMv at hs
  split at hs
  · rename_i d' hg
    cases hs
    obtain ⟨v, hv, sl⟩ := slot_v (R.sl i) hg
    rw [hf] at sl
    have o := slot_own sl
    refine ⟨v, hv, ?_⟩
    have hlt : i < s.length := (List.getElem?_eq_some_iff.mp hv).1
    have S : Step U (Wr rs) H U (Wr (setR rs i [])) H := ⟨fun _ _ h _ => h, fun _ _ h _ => h, fun _ h => h, fun b u => .inl u, fun b u _ => u, fun b w => by
      rcases wr_set w with w | w
      · exact .inl w
      · cases w⟩
    have R2 : Rel X.K I fl U (setR rs i []) (r.set i none) s H := by
      refine ⟨by rw [List.length_set]; exact R.len, by rw [List.length_set]; exact R.fln, fun b w => ?_, fun j => ?_, fun j k b h1 h2 => ?_, R.st.trans R.iu S, R.iu, R.iw, R.ul, fun j => ?_, R.pin⟩
      · rcases wr_set w with w | w
        · exact R.sub b w
        · cases w
      · by_cases e : j = i
        · rw [e, setR_same]; exact List.Pairwise.nil
        · rw [setR_ne e]; exact R.nd j
      · by_cases e : j = i
        · rw [e, setR_same] at h1; cases h1
        · by_cases e2 : k = i
          · rw [e2, setR_same] at h2; cases h2
          · rw [setR_ne e] at h1
            rw [setR_ne e2] at h2
            exact R.dis j k b h1 h2
      · by_cases e : j = i
        · rw [e, setR_same, getS_set (by rw [R.len]; exact hlt)]
          exact rfl
        · rw [setR_ne e, getS_ne e]; exact R.sl j
    refine k U (setR rs i []) H v (rs i) ⟨R2, S, (fun z => by cases z), fun a m => .inl ⟨i, m⟩⟩ ⟨o, fun a ma w => ?_, R.nd i⟩
    obtain ⟨j, mj⟩ := w
    by_cases e : j = i
    · rw [e, setR_same] at mj; cases mj
    · rw [setR_ne e] at mj
      exact e (R.dis j i a mj ma)
  · cases hs

/-- what is drawn; the place and the cells behind it -/
def takeI (a : Int) (cs : List Int) (m : Int) : Option (Int × Int × List Int) :=
  if m < 2 then some (0, a, cs) else
  match cs[(a % cs.length).toNat]? with
  | none => none
  | some c => if 1000000000000000000 ≤ c then (if m < 1073741824 then some (c % m, a, cs.set (a % cs.length).toNat (c / m)) else none)
    else some ((((c * 48271 + (a + 1) * 69621) % 2147483647 * 16807 + (a + 1) * 7919) % 1000000007 / 7) % m, a + 1, cs)
def fTake : Fn
  | [.list [.int a, .list xs], .int m] => match asInts xs with
    | some cs => (match takeI a cs m with
      | some (v, a', cs') => .ok (.int v) [.list [.int a', .list (cs'.map .int)]]
      | none => .no)
    | none => .no
  | _ => .no
abbrev tIt (K : PySem.W.Frag) (i : Nat) (t : TE) : TE := tOp (rIx K) (tVar i) t
abbrev tInt1 (t : TE) : TE := tCB (fun xs H Q => (∃ i, xs = [.int i] ∧ Q (.int i) H) ∨ ∃ k, xs = [.bl k] ∧ Q (.int (if k then 1 else 0)) H) (tCons t tNil)
abbrev tLen1 (K : PySem.W.Frag) (t : TE) : TE := tCB (fun xs H Q => ∃ x n, xs = [x] ∧ LenV K x H n ∧ Q (.int n) H) (tCons t tNil)
abbrev tModI (a b : TE) : TE := tOp (rI (fun _ j => 0 < j) fun i j => .int (i % j)) a b
abbrev tDivI (a b : TE) : TE := tOp (rI CDiv fun i j => .int (i / j)) a b
abbrev tMulI (a b : TE) : TE := tOp (rI CMul fun i j => .int (i * j)) a b
abbrev tAddI (a b : TE) : TE := tOp (rI0 fun i j => .int (i + j)) a b
abbrev tTake (K : PySem.W.Frag) : TS :=
  tSeq (tIfS (tTest (tOp (rI0 fun i j => .bl (decide (i < j))) (tVar 1) (tC (.int 2)))) (tRet (tC (.int 0))) tNext) <|
  tSeq (tAsg (tIt K 0 (tC (.int 1))) (gName 2)) <|
  tSeq (tAsg (tModI (tInt1 (tIt K 0 (tC (.int 0)))) (tLen1 K (tVar 2))) (gName 3)) <|
  tSeq (tAsg (tIt K 2 (tVar 3)) (gName 4)) <|
  tSeq (tIfS (tTest (tOp (rI0 fun i j => .bl (decide (j ≤ i))) (tVar 4) (tC (.int 1000000000000000000))))
    (tSeq (tAsg (tDivI (tVar 4) (tVar 1)) (gSub (tVar 2) (tVar 3) rSetL)) (tRet (tModI (tInt1 (tVar 4)) (tVar 1)))) tNext) <|
  tSeq (tAsg (tAddI (tIt K 0 (tC (.int 0))) (tC (.int 1))) (gSub (tVar 0) (tC (.int 0)) rSetL)) <|
  tSeq (tAsg (tModI (tInt1 (tAddI (tMulI (tVar 4) (tC (.int 48271))) (tMulI (tIt K 0 (tC (.int 0))) (tC (.int 69621))))) (tC (.int 2147483647))) (gName 5)) <|
  tSeq (tAsg (tModI (tInt1 (tAddI (tMulI (tVar 5) (tC (.int 16807))) (tMulI (tIt K 0 (tC (.int 0))) (tC (.int 7919))))) (tC (.int 1000000007))) (gName 5)) <|
  tRet (tModI (tInt1 (tDivI (tVar 5) (tC (.int 7)))) (tVar 1))

theorem ite_t {c : Bool} {a b : Prop} (h : c = true) (x : a) : if c = true then a else b := by rw [if_pos h]; exact x
theorem ite_f {c : Bool} {a b : Prop} (h : c = false) (x : b) : if c = true then a else b := by rw [if_neg (by rw [h]; decide)]; exact x
theorem rIx_at {K : PySem.W.Frag} {H : Hp} {p : Addr} {xs : List V} {i : Int} {v : V} {Q : VK} (hp : H p = some (.lst xs)) (h : atI xs i = some v) (q : Q v H) : rIx K (.ref p) (.int i) H Q := .inl ⟨p, xs, i, v, rfl, rfl, SqL.of hp, h, q⟩
theorem take_run {K : PySem.W.Frag} {D : Ends} {H : Hp} {p q : Addr} {a m : Int} {cs : List Int} {v a' : Int} {cs' : List Int} (hp : H p = some (.lst [.int a, .ref q])) (hq : H q = some (.lst (cs.map V.int))) (hpq : p ≠ q) (h : takeI a cs m = some (v, a', cs'))
    (k : ∀ H', (∀ b, b ≠ p → b ≠ q → H' b = H b) → H' p = some (.lst [.int a', .ref q]) → H' q = some (.lst (cs'.map V.int)) → D.rt (.int v) H') :
    tTake K D [some (.ref p), some (.int m), none, none, none, none] H := by
  unfold takeI at h
  refine ⟨.int m, rfl, m, 2, rfl, rfl, decide (m < 2), rfl, ?_⟩
  by_cases hm : m < 2
  · rw [if_pos hm] at h
    cases h
    exact ite_t (decide_eq_true hm) <| k H (fun _ _ _ => rfl) hp hq
  refine ite_f (decide_eq_false hm) ?_
  rw [if_neg hm] at h
  cases e : cs[(a % cs.length).toNat]? with
  | none => rw [e] at h; cases h
  | some c =>
    rw [e] at h
    have hl : (a % cs.length).toNat < cs.length := (List.getElem?_eq_some_iff.mp e).1
    have hl0 : (0 : Int) < cs.length := by omega
    have hge : 0 ≤ a % cs.length := Int.emod_nonneg _ (by omega)
    have hlt : a % cs.length < cs.length := Int.emod_lt_of_pos _ hl0
    have at0 : ∀ x : V, ∀ y : V, atI [x, y] 0 = some x := fun _ _ => rfl
    have at1 : ∀ x : V, ∀ y : V, atI [x, y] 1 = some y := fun _ _ => rfl
    have ix : ixN cs.length (a % cs.length) = some (a % cs.length).toNat := by unfold ixN; rw [if_pos hge, if_pos hlt]
    have atc : atI (cs.map V.int) (a % cs.length) = some (.int c) := by unfold atI; rw [List.length_map, ix]; simp [e]
    -- cells = state[1]
    refine ⟨.ref p, rfl, rIx_at hp (at1 _ _) ?_⟩
    -- at = int(state[0]) % len(cells)
    refine ⟨.ref p, rfl, rIx_at hp (at0 _ _) (.inl ⟨a, rfl, .ref q, rfl, _, _, rfl, .inl ⟨_, SqL.of hq, rfl⟩, a, _, rfl, rfl, by rw [List.length_map]; exact hl0, ?_⟩)⟩
    -- cell = cells[at]
    have lm : (cs.map V.int).length = cs.length := List.length_map _
    refine ⟨.ref q, rfl, .int (a % ((cs.map V.int).length : Int)), rfl, rIx_at hq (by rw [lm]; exact atc) ?_⟩
    refine ⟨.int c, rfl, c, _, rfl, rfl, decide (1000000000000000000 ≤ c), rfl, ?_⟩
    by_cases hc : 1000000000000000000 ≤ c
    · refine ite_t (decide_eq_true hc) ?_
      simp only [hc, if_true] at h
      split at h
      · rename_i hm2
        cases h
        refine ⟨.int c, rfl, .int m, rfl, c, m, rfl, rfl, ⟨by omega, hm2⟩, ?_⟩
        refine ⟨.ref q, rfl, .int (a % ((cs.map V.int).length : Int)), rfl, q, _, _, _, rfl, rfl, hq, by rw [lm]; exact ix, ?_⟩
        refine ⟨.int c, rfl, .inl ⟨c, rfl, .int m, rfl, c, m, rfl, rfl, show (0 : Int) < m by omega, ?_⟩⟩
        refine k _ (fun b _ h2 => upd_ne h2) (by rw [upd_ne hpq]; exact hp) ?_
        rw [upd_same, List.map_set]
      · cases h
    · refine ite_f (decide_eq_false hc) ?_
      simp only [hc, if_false] at h
      cases h
      -- state[0] = state[0] + 1
      refine ⟨.ref p, rfl, rIx_at hp (at0 _ _) ⟨a, 1, rfl, rfl, .ref p, rfl, p, _, _, _, rfl, rfl, hp, rfl, ?_⟩⟩
      have hp2 : upd H p (.lst ([V.int a, V.ref q].set 0 (.int (a + 1)))) p = some (.lst [.int (a + 1), .ref q]) := upd_same
      have sm : ∀ i j : Int, -(2 ^ 64) < j → j < 2 ^ 64 → CMul i j := fun i j h1 h2 => .inr ⟨h1, h2⟩
      refine ⟨.int c, rfl, c, 48271, rfl, rfl, sm _ _ (by decide) (by decide), .ref p, rfl, rIx_at hp2 (at0 _ _) ⟨a + 1, 69621, rfl, rfl, sm _ _ (by decide) (by decide), _, _, rfl, rfl, .inl ⟨_, rfl, _, _, rfl, rfl, (show (0 : Int) < _ by decide), ?_⟩⟩⟩
      refine ⟨.int _, rfl, _, 16807, rfl, rfl, sm _ _ (by decide) (by decide), .ref p, rfl, rIx_at hp2 (at0 _ _) ⟨a + 1, 7919, rfl, rfl, sm _ _ (by decide) (by decide), _, _, rfl, rfl, .inl ⟨_, rfl, _, _, rfl, rfl, (show (0 : Int) < _ by decide), ?_⟩⟩⟩
      refine ⟨.int _, rfl, _, 7, rfl, rfl, ⟨by decide, by decide⟩, .inl ⟨_, rfl, .int m, rfl, _, m, rfl, rfl, show (0 : Int) < m by omega, ?_⟩⟩
      exact k _ (fun b h1 _ => upd_ne h1) hp2 (by rw [upd_ne (Ne.symm hpq)]; exact hq)
/-- the entry: the cells in the heap -/
theorem own_state {K : PySem.W.Frag} {U : Addr → Prop} {H : Hp} {a : Int} {xs : List D} {cs : List Int} {v : V} {r : List Addr} (o : Own K U H 2 (.list [.int a, .list xs]) v r) (hx : asInts xs = some cs) :
    ∃ p q, v = .ref p ∧ r = [p, q] ∧ U p ∧ U q ∧ H p = some (.lst [.int a, .ref q]) ∧ H q = some (.lst (cs.map V.int)) := by
  cases o with
  | sh _ h => rcases h with h | h <;> cases h
  | lst u hp t =>
    rename_i p vs rs
    cases t with
    | cons o1 t1 =>
      rename_i v1 vs1 r1 r2
      cases t1 with
      | cons o2 t2 =>
        rename_i v2 vs2 r3 r4
        cases t2
        cases o1 with
        | sh e _ =>
          rw [en_int e] at hp
          cases o2 with
          | sh _ h => rcases h with h | h <;> cases h
          | lst u2 hq t3 =>
            rename_i q ys r5
            obtain ⟨t4, rfl⟩ := t3.to0
            rw [ints_en t4 hx] at hq
            exact ⟨p, q, rfl, rfl, u, u2, hp, hq⟩
theorem state_own {K : PySem.W.Frag} {U : Addr → Prop} {H : Hp} {a : Int} {cs : List Int} {p q : Addr} (up : U p) (uq : U q) (hp : H p = some (.lst [.int a, .ref q])) (hq : H q = some (.lst (cs.map V.int))) : Own K U H 2 (.list [.int a, .list (cs.map .int)]) (.ref p) [p, q] :=
  .lst up hp (.cons (r1 := []) (r2 := [q]) (.sh (.int a) (.inr trivial)) (.cons (r1 := [q]) (r2 := []) (.lst uq hq (OwnAll.of0 (en_ints cs))) .nil))
section
variable {P : Program} {w : World} {K : PySem.W.Frag} {mg : Str → Option Value} {base : Heap}
theorem take_ok {x qual : Str} {st : Stmt} {f : Addr} {fd : FuncData} {N ps : List Str} {k : Nat} (F : Fun K x qual st f fd) (S : FnScope N ps (defScope st)) (hn : N.length = 6) (hps : ps.length = 2)
    (hb : ∀ (cdv : Value) (A : Around) (outer : List PySem.Env) (s : Shared) (H : Hp) (E : XK), Room k (A.deeper (envOfC qual (defScope st) s.heap.objs.size f cdv)) →
      PSs (cxOf CX0 P w K mg base N qual (defScope st) f cdv A outer s H E).nox (defBody st) (tTake K)) :
    FnOk P w K mg base CX0 (k + 1) f fd ps (spJ K 6 [.io 2, .ow 0] 0 fTake) := by
  refine F.ok S (fun vs H Q E h => by rw [hps]; exact h.1) (fun cdv A outer s H vs Q E hr h => ⟨_, hb cdv A outer s H E hr, ?_⟩)
  obtain ⟨hvl, U, rs, ds, d, outs, hds, R, hF, q⟩ := h
  have est : L2.start N vs = st0 6 vs := by unfold L2.start st0; rw [hn]
  rw [est]
  unfold fTake at hF
  split at hF
  · rename_i a xs m
    split at hF
    · rename_i cs hx
      split at hF
      · rename_i v a' cs' ht
        cases hF
        match vs, hvl with
        | [v0, v1], _ =>
        have s0 := R.sl 0
        have s1 := R.sl 1
        rw [fgAt_fl0, getS_en0, stS_st0] at s0 s1
        obtain ⟨_, e0, s0⟩ := s0
        obtain ⟨_, e1, s1⟩ := s1
        cases e0
        cases e1
        have s0 : Own K U H 2 (.list [.int a, .list xs]) v0 (rs 0) := s0
        have s1 : Own K U H 0 (.int m) v1 (rs 1) := s1
        obtain ⟨p, c, rfl, hr0, up, uc, hp, hc⟩ := own_state s0 hx
        have e1 := en_int s1.to0.1
        subst e1
        have wp : Wr rs p := ⟨0, by rw [hr0]; simp⟩
        have wc : Wr rs c := ⟨0, by rw [hr0]; simp⟩
        have nd := R.nd 0
        rw [hr0] at nd
        have hpc : p ≠ c := by simpa using nd
        refine take_run hp hc hpc ht fun H' hk hp' hc' => ?_
        have nw : ∀ b, ¬ Wr rs b → b ≠ p ∧ b ≠ c := fun b n => ⟨fun e => n (e ▸ wp), fun e => n (e ▸ wc)⟩
        have fix : ∀ b o, H b = some o → ¬ Mut (some o) → H' b = some o := fun b o h m => by
          rw [hk b (fun e => ?_) (fun e => ?_)]
          · exact h
          · subst e; rw [hp] at h; cases h; exact m trivial
          · subst e; rw [hc] at h; cases h; exact m trivial
        have live : ∀ b, H' b = none → H b = none := fun b h => by
          by_cases e1 : b = p
          · subst e1; rw [hp'] at h; cases h
          · by_cases e2 : b = c
            · subst e2; rw [hc'] at h; cases h
            · rw [← hk b e1 e2]; exact h
        refine q U rs H' (.int v) [] ⟨fun b o h n => by rw [hk b (nw b n).1 (nw b n).2]; exact h, fix, live, fun b u => .inl u, fun b u _ => u, fun b u => .inl u⟩ (fun b u z => R.ul b u (live b z)) R.sub R.nd R.dis ?_ (.sh (.int v) (.inl rfl)) (fun _ m => by cases m) List.Pairwise.nil fun _ m => by cases m
        refine .cons (i := 0) (n := 2) (v := .ref p) rfl ?_ .nil
        rw [hr0]
        exact state_own up uc hp' hc'
      · cases hF
    · cases hF
  · cases hF
end
end J

set_option Elab.async false
set_option linter.all false
set_option maxRecDepth 100000
/-! JMax: max, min of a list or a tuple of whole numbers; shifts; what is never reached. -/
namespace J
open PySem L2
def rBest (K : PySem.W.Frag) (f : Int → Int → Int) : List V → Hp → VK → Prop := fun vs H Q => ∃ (a : Addr) (n : Int) (ns : List Int), vs = [V.ref a] ∧ (SqL K H a ((n :: ns).map V.int) ∨ SqT K H a ((n :: ns).map V.int)) ∧ Q (.int (ns.foldl f n)) H
theorem alike_ints (ns : List Int) : PySem.W.AlikeAll (ns.map PyData.int) := by
  refine ⟨fun x hx y hy => ?_, fun x hx => ?_⟩
  · obtain ⟨i, _, rfl⟩ := List.mem_map.mp hx
    obtain ⟨j, _, rfl⟩ := List.mem_map.mp hy
    simp [PySem.W.alike]
  · obtain ⟨i, _, rfl⟩ := List.mem_map.mp hx
    simp
theorem dpAll_ints {K : PySem.W.Frag} {H : Hp} : ∀ ns : List Int, DpAll K H (ns.map V.int) (ns.map PyData.int)
  | [] => .nil
  | n :: ns => .cons (.int n) (dpAll_ints ns)
theorem depth_ints : ∀ ns : List Int, PyData.depthAll (ns.map PyData.int) = 0
  | [] => by simp [PyData.depthAll]
  | n :: ns => by simp [PyData.depthAll, PyData.depth, depth_ints ns]
theorem reads_int {h : Heap} {v : Value} {m : Int} {bs : List Addr} (r : Reads h v (.int m) bs) : ∃ t, v = .int m t := by
  cases r
  exact ⟨_, rfl⟩
section
variable {X : Cx}
theorem cr_maxI (hc : X.calm = true) (hu : X.A.units + 65 < cLine) : CallR X (.builtin "max") (rBest X.K max) := by
  rintro pins s σ H vs us Q I r ⟨a, n, ns, rfl, hs, q⟩
  obtain ⟨u, rfl, ru⟩ := vals1 r
  cases ru
  rcases hs with hs | hs
  · obtain ⟨its, rv, hl, _⟩ := I.list hs
    obtain ⟨as, ra⟩ := Dp.readsAll I ((n :: ns).map PyData.int) _ its (dpAll_ints (n :: ns)) rv
    refine PySem.W.max_list_data (I.ok.hd hc) hl.isList (x := .int n) (xs := ns.map .int) (as := as) ra (alike_ints (n :: ns)) (by rw [show PyData.int n :: ns.map .int = (n :: ns).map .int from rfl, depth_ints]; omega) fun i v h' tk bs _ rd hk => ?_
    rw [PySem.W.maxD_ints] at rd
    obtain ⟨t, rfl⟩ := reads_int rd
    exact ⟨.int _, H, I.kept hk, ⟨_, rfl⟩, q⟩
  · obtain ⟨its, rv, hl, _⟩ := I.tuple hs
    obtain ⟨as, ra⟩ := Dp.readsAll I ((n :: ns).map PyData.int) _ its (dpAll_ints (n :: ns)) rv
    refine PySem.W.max_tuple_data (I.ok.hd hc) hl (x := .int n) (xs := ns.map .int) (as := as) ra (alike_ints (n :: ns)) (by rw [show PyData.int n :: ns.map .int = (n :: ns).map .int from rfl, depth_ints]; omega) fun i v h' tk bs _ rd hk => ?_
    rw [PySem.W.maxD_ints] at rd
    obtain ⟨t, rfl⟩ := reads_int rd
    exact ⟨.int _, H, I.kept hk, ⟨_, rfl⟩, q⟩
theorem cr_minI (hc : X.calm = true) (hu : X.A.units + 65 < cLine) : CallR X (.builtin "min") (rBest X.K min) := by
  rintro pins s σ H vs us Q I r ⟨a, n, ns, rfl, hs, q⟩
  obtain ⟨u, rfl, ru⟩ := vals1 r
  cases ru
  rcases hs with hs | hs
  · obtain ⟨its, rv, hl, _⟩ := I.list hs
    obtain ⟨as, ra⟩ := Dp.readsAll I ((n :: ns).map PyData.int) _ its (dpAll_ints (n :: ns)) rv
    refine PySem.W.min_list_data (I.ok.hd hc) hl.isList (x := .int n) (xs := ns.map .int) (as := as) ra (alike_ints (n :: ns)) (by rw [show PyData.int n :: ns.map .int = (n :: ns).map .int from rfl, depth_ints]; omega) fun i v h' tk bs _ rd hk => ?_
    rw [PySem.W.minD_ints] at rd
    obtain ⟨t, rfl⟩ := reads_int rd
    exact ⟨.int _, H, I.kept hk, ⟨_, rfl⟩, q⟩
  · obtain ⟨its, rv, hl, _⟩ := I.tuple hs
    obtain ⟨as, ra⟩ := Dp.readsAll I ((n :: ns).map PyData.int) _ its (dpAll_ints (n :: ns)) rv
    refine PySem.W.min_tuple_data (I.ok.hd hc) hl (x := .int n) (xs := ns.map .int) (as := as) ra (alike_ints (n :: ns)) (by rw [show PyData.int n :: ns.map .int = (n :: ns).map .int from rfl, depth_ints]; omega) fun i v h' tk bs _ rd hk => ?_
    rw [PySem.W.minD_ints] at rd
    obtain ⟨t, rfl⟩ := reads_int rd
    exact ⟨.int _, H, I.kept hk, ⟨_, rfl⟩, q⟩
end
def dBest (f : Int → Int → Int) : List D → Option D
  | [d] => (items d).bind fun xs => (asInts xs).bind fun ns => match ns with
    | [] => none
    | n :: ns => some (.int (ns.foldl f n))
  | _ => none
def dMaxI := dBest max
def dMinI := dBest min
section
variable {K : PySem.W.Frag} {m1 : Md} {n : Nat}
theorem fj_best {f : Int → Int → Int} : FnJ K [m1] (.own n) (dBest f) (rBest K f) := fnj_scal fun U W T H ds d vs q V h => by
  obtain ⟨x, v, q1, rfl, rfl, V1⟩ := valA1 V
  simp only [dBest] at h
  cases x with
  | list xs =>
    simp only [items, Option.bind_some] at h
    cases hx : asInts xs with
    | none => rw [hx] at h; cases h
    | some ns =>
      rw [hx] at h
      cases ns with
      | nil => cases h
      | cons n ns =>
        cases h
        obtain ⟨a, ys, rfl, ha, t⟩ := valL V1
        rw [ints_en t hx] at ha
        exact ⟨.int _, fun _ => .int _, trivial, fun Q q => ⟨a, n, ns, rfl, .inl ha, q⟩⟩
  | tuple xs =>
    simp only [items, Option.bind_some] at h
    cases hx : asInts xs with
    | none => rw [hx] at h; cases h
    | some ns =>
      rw [hx] at h
      cases ns with
      | nil => cases h
      | cons n ns =>
        cases h
        obtain ⟨a, ys, rfl, ha, t⟩ := valT V1
        rw [ints_en t hx] at ha
        exact ⟨.int _, fun _ => .int _, trivial, fun Q q => ⟨a, n, ns, rfl, .inr ha, q⟩⟩
  | _ => cases h
theorem fj_maxI : FnJ K [m1] (.own n) dMaxI (rBest K max) := fj_best
theorem fj_minI : FnJ K [m1] (.own n) dMinI (rBest K min) := fj_best
def dShl : D → D → Option D
  | .int a, .int b => if 0 ≤ b ∧ b ≤ 1000000 ∧ a.natAbs < 2 ^ 64 then some (.int (a * 2 ^ b.toNat)) else none
  | _, _ => none
theorem oj_shl {m2 : Md} : OpJ K m1 m2 (.own n) dShl (rI CPow fun i j => .int (i * 2 ^ j.toNat)) := opj_int (g := fun i j => i * 2 ^ j.toNat) fun a b d h => by
  unfold dShl at h
  split at h
  · split at h
    · rename_i c
      cases h; exact ⟨_, _, rfl, rfl, c, rfl⟩
    · cases h
  · cases h
end
/-! ### range(i, j, -1) -/
def downTo (hi : Int) (n : Nat) : List D := (List.range n).map fun k => .int (hi + (k : Nat) * (-1))
def itRgD (a b : SE) : SI := fun r => (a r).bind fun x r1 => (b r1).bind fun y r2 => match intOf x, intOf y with
  | some i, some j => if fits i ∧ fits j ∧ (i - j).toNat ≤ line then .ok (downTo i (i - j).toNat) r2 else .no
  | _, _ => .no
theorem walks_down {K : PySem.W.Frag} {U W : Addr → Prop} {H : Hp} {hi : Int} {n : Nat} : Walks K U W H (Itc hi (-1) n) (downTo hi n) := fun U2 W2 H2 S => by
  refine ⟨fun i d hd => ?_, by show n ≤ (downTo hi n).length; unfold downTo; simp⟩
  unfold downTo at hd
  rw [List.getElem?_map] at hd
  have hi : i < n := by
    cases e : (List.range n)[i]? with
    | none => rw [e] at hd; cases hd
    | some k =>
      have := (List.getElem?_eq_some_iff.mp e).1
      simpa using this
  rw [List.getElem?_range hi] at hd
  cases hd
  exact ⟨hi, fun x H3 y => ⟨y.1, by rw [y.2]; exact .int _⟩⟩
theorem ji_rgD {X : Cx} {fl : List Fg} {tg a b : Expr} {s t : SE} {n m : Nat} {p1 p2 pe : Bool} {p0 pos pa pb : Pos} {k : Nat} (hg : Gl X "range") (hm : X.mg "range" = none) (ha : JE X fl a s (.own n) p1) (hb : JE X fl b t (.own m) p2)
    (hs : starEach [a, b, .UnaryOp .USub (.Constant (.int 1) k pa) pb] X.env = (false, eval a X.env) :: starEach [b, .UnaryOp .USub (.Constant (.int 1) k pa) pb] X.env := by rfl)
    (hs2 : starEach [b, .UnaryOp .USub (.Constant (.int 1) k pa) pb] X.env = (false, eval b X.env) :: starEach [.UnaryOp .USub (.Constant (.int 1) k pa) pb] X.env := by rfl)
    (hs3 : starEach [.UnaryOp .USub (.Constant (.int 1) k pa) pb] X.env = (false, eval (.UnaryOp .USub (.Constant (.int 1) k pa) pb) X.env) :: starEach [] X.env := by rfl)
    (hpl : (backTo pos (starEach [b, .UnaryOp .USub (.Constant (.int 1) k pa) pb] X.env)).any (·.1) = false := by rfl) :
    JI X fl tg (.Call (.Name "range" p0) [a, b, .UnaryOp .USub (.Constant (.int 1) k pa) pb] [] pos) (itRgD s t) (p1 && p2) pe := by
  refine pi_mono (pi_range3 hg hm (pa_cons ha (pa_cons hb (pa_cons (je_neg (X := X) (fl := fl) (n := 0) (je_int (n := 0))) pa_nil hs3) hs2) hs) hs hpl) ?_
  rintro st H Q ⟨I, U, rs, r, ds, r', R, h, k⟩
  obtain ⟨x, r1, e1, h⟩ := of_bind h
  obtain ⟨y, r2, e2, h⟩ := of_bind h
  refine ⟨I, U, rs, r, x, r1, R, e1, fun U1 rs1 H1 v q A V => ⟨I, U1, rs1, r1, y, r2, A.rel, e2, fun U2 rs2 H2 v2 q2 A2 V2 => ⟨I, U2, rs2, r2, .int (-1), r2, A2.rel, rfl, fun U3 rs3 H3 v3 q3 A3 V3 => ?_⟩⟩⟩
  obtain ⟨F3, rfl⟩ := A3.pur rfl
  cases x with
  | int i =>
    cases y with
    | int j =>
      simp only [intOf] at h
      split at h
      · rename_i c
        cases h
        have A12 := (A.trans R A2).trans R A3
        exact ⟨i, j, -1, (i - j).toNat, by rw [en_int V.en, en_int V2.en, en_int V3.en], RgC.neg c.1.1 c.1.2 c.2.1.1 c.2.1.2, k U3 rs3 H3 _ ((A12.less (p2 := p1 && p2) fun z => by rw [z]; rfl).drop fun _ m => by cases m) (by unfold downTo; simpa using c.2.2) fun _ _ => walks_down⟩
      · cases h
    | _ => cases h
  | _ => cases h
/-! ### x += e, whole numbers -/
def dAddI : D → D → Option D
  | .int a, .int b => some (.int (a + b))
  | _, _ => none
theorem dAddI_of (a b d : D) (h : dAddI a b = some d) : ∃ i j, a = .int i ∧ b = .int j ∧ True ∧ d = .int (i + j) := by
  unfold dAddI at h
  split at h
  · cases h; exact ⟨_, _, rfl, rfl, trivial, rfl⟩
  · cases h
theorem dSub_of (a b d : D) (h : dSub a b = some d) : ∃ i j, a = .int i ∧ b = .int j ∧ True ∧ d = .int (i - j) := by
  unfold dSub at h
  split at h
  · cases h; exact ⟨_, _, rfl, rfl, trivial, rfl⟩
  · cases h
theorem js_aug {X : Cx} {C : SC} {fl : List Fg} {i n : Nat} {x : Str} {e : Expr} {op : Operator} {f : D → D → Option D} {cc : Int → Int → Prop} {g : Int → Int → Int} {a : SE} {p : Bool} {pos pos' : Pos} (hN : X.N.Nodup) (hi : X.N[i]? = some x) (hx : Loc X.env.scope x) (he : JE X fl e a (.own n) p)
    (ho : ∀ i j : Int, cc i j → ∀ (H : Hp) (Q : VK), Q (.int (g i j)) H → (ipI g) (.int i) (.int j) H Q) (hp : PIp X op (ipI g)) (hf : ∀ a b d, f a b = some d → ∃ i j, a = .int i ∧ b = .int j ∧ cc i j ∧ d = .int (g i j)) (hfl : fgAt fl i = .ow 0) (hl : i < fl.length)
    (hfn : X.fn x = true ∨ X.env.scope.names.lookup x = some .local := by first | exact .inl rfl | exact .inr rfl) : JS X C fl (.AugAssign (.Name x pos') op e pos) (sSet i (sBin f (sV i) a)) fl := by
  refine ps_mono (ps_aug hN hi hx he hp hfn) ?_
  rintro D s H ⟨I, U, rs, r, f', r', R, hs, k⟩
  obtain ⟨d, r1, e1, hs⟩ := of_bind hs
  cases hs
  obtain ⟨z, r2, e2, e4⟩ := of_bind e1
  obtain ⟨y, r3, e3, e5⟩ := of_bind e4
  obtain ⟨hg, rfl⟩ := of_lift e2
  obtain ⟨hff, rfl⟩ := of_lift e5
  obtain ⟨u, v, rfl, rfl, c, rfl⟩ := hf _ _ _ hff
  obtain ⟨w, hw, sl⟩ := slot_v (R.sl i) hg
  rw [hfl] at sl
  have ew := en_int (slot_own sl).to0.1
  subst ew
  refine ⟨_, hw, I, U, rs, r2, .int v, r1, R, e3, fun U' rs' H' v1 q A V => ?_⟩
  have ev := en_int V.en
  subst ev
  refine ho u v c _ _ ?_
  have V2 : Val X.K U' (Wr rs') (TN I) H' (.own 0) (.int (g u v)) (.int (g u v)) [] := ⟨.sh (.int _) (.inl rfl), (fun _ m => by cases m), List.Pairwise.nil⟩
  have R' := A.rel.set hl (by rw [hfl]; rfl) (f := .ow 0) rfl V2 (fun _ m => by cases m)
  have efl : fl.set i (.ow 0) = fl := by
    refine List.ext_getElem? fun j => ?_
    by_cases e : i = j
    · subst e
      rw [List.getElem?_set_self hl]
      unfold fgAt at hfl
      rw [List.getD_eq_getElem?_getD, List.getElem?_eq_getElem hl] at hfl
      rw [List.getElem?_eq_getElem hl]
      exact congrArg some hfl.symm
    · rw [List.getElem?_set_ne e]
  rw [efl] at R'
  exact k U' (setR rs' i []) _ H' (step_set A.st (wr_setI (U := U) (fun _ m => by cases m) A.st.win)) R'
theorem js_augAdd {X : Cx} {C : SC} {fl : List Fg} {i n : Nat} {x : Str} {e : Expr} {a : SE} {p : Bool} {pos pos' : Pos} (hN : X.N.Nodup) (hi : X.N[i]? = some x) (hx : Loc X.env.scope x) (he : JE X fl e a (.own n) p) (hfl : fgAt fl i = .ow 0) (hl : i < fl.length)
    (hfn : X.fn x = true ∨ X.env.scope.names.lookup x = some .local := by first | exact .inl rfl | exact .inr rfl) : JS X C fl (.AugAssign (.Name x pos') .Add e pos) (sSet i (sBin dAddI (sV i) a)) fl :=
  js_aug (cc := fun _ _ => True) hN hi hx he (fun i j _ H Q q => ⟨i, j, rfl, rfl, q⟩) ip_add dAddI_of hfl hl hfn
theorem js_augSub {X : Cx} {C : SC} {fl : List Fg} {i n : Nat} {x : Str} {e : Expr} {a : SE} {p : Bool} {pos pos' : Pos} (hN : X.N.Nodup) (hi : X.N[i]? = some x) (hx : Loc X.env.scope x) (he : JE X fl e a (.own n) p) (hfl : fgAt fl i = .ow 0) (hl : i < fl.length)
    (hfn : X.fn x = true ∨ X.env.scope.names.lookup x = some .local := by first | exact .inl rfl | exact .inr rfl) : JS X C fl (.AugAssign (.Name x pos') .Sub e pos) (sSet i (sBin dSub (sV i) a)) fl :=
  js_aug (cc := fun _ _ => True) hN hi hx he (fun i j _ H Q q => ⟨i, j, rfl, rfl, q⟩) ip_sub dSub_of hfl hl hfn
/-- a statement of which nothing is said: it is never reached -/
def sNo : SS := fun _ => .no
theorem js_no {X : Cx} {C : SC} {fl fn : List Fg} {st : Stmt} : JS X C fl st sNo fn := ⟨fun pins s st H D I ⟨I', U, rs, r, f, r', R, hs, k⟩ => by cases hs⟩
end J

set_option Elab.async false
set_option linter.all false
set_option maxRecDepth 100000
/-! JRng: a name that holds a range. -/
namespace J
open PySem L2
section
variable {X : Cx} {C : SC} {fl fn : List Fg} {tg : Expr}
theorem cr_range1 : CallR X (.type "range") (fun vs H Q => ∃ j, vs = [V.int j] ∧ ∀ p, H p = none → Q (.ref p) (upd H p (.rng 0 j))) := by
  intro pins s σ H vs us Q I r h
  obtain ⟨j, rfl, q⟩ := h
  obtain ⟨u1, rfl, rj⟩ := vals1 r
  obtain ⟨u, rfl⟩ := rj
  exact PySem.call_range_1 ⟨.ref s.heap.objs.size, upd H s.heap.objs.size (.rng 0 j), I.laid (t' := s.toks + 2) (fun b o e => Heap.get?_push_of_some _ e) (Nat.le_refl _) ⟨_, _, _, Heap.get?_push_size _ rfl⟩, rfl, q _ (I.hok.fresh (Nat.le_refl _))⟩
theorem Rel.setF {K : PySem.W.Frag} {I : Ini} {fl : List Fg} {U : Addr → Prop} {rs : Rs} {r : Env} {s : St} {H : Hp} {i : Nat} {d : D} {v : V} (R : Rel K I fl U rs r s H) (hf : i < fl.length) (hx : fixed (fgAt fl i) = false) (z : FzD K U H d v) :
    Rel K I (fl.set i .fz) U (setR rs i []) (r.set i (some d)) (s.set i (some v)) H where
  len := by rw [List.length_set, List.length_set]; exact R.len
  fln := by rw [List.length_set, List.length_set]; exact R.fln
  sub b w := by
    rcases wr_set w with w | w
    · exact R.sub b w
    · cases w
  nd j := by
    by_cases e : j = i
    · rw [e, setR_same]; exact List.Pairwise.nil
    · rw [setR_ne e]; exact R.nd j
  dis j k b h1 h2 := by
    by_cases e : j = i
    · rw [e, setR_same] at h1; cases h1
    · by_cases e2 : k = i
      · rw [e2, setR_same] at h2; cases h2
      · rw [setR_ne e] at h1
        rw [setR_ne e2] at h2
        exact R.dis j k b h1 h2
  st := ⟨R.st.keep, R.st.fix, R.st.live, R.st.out, R.st.kin, fun b w => by
    rcases wr_set w with w | w
    · exact R.st.win b w
    · cases w⟩
  iu := R.iu
  iw := R.iw
  ul := R.ul
  sl j := by
    by_cases e : j = i
    · rw [e, fgAt_set hf, getS_set (by rw [← R.fln]; exact hf), stS_set (by rw [← R.len, ← R.fln]; exact hf), setR_same]
      exact ⟨v, rfl, z, rfl⟩
    · rw [fgAt_ne e, getS_ne e, stS_ne e, setR_ne e]
      exact R.sl j
  pin j h := by
    by_cases e : j = i
    · rw [e, fgAt_set hf] at h; cases h
    · rw [fgAt_ne e] at h
      rw [List.getElem?_set_ne (Ne.symm e)]
      exact R.pin j h
def dRng : D → Option D
  | .int n => if fits n ∧ n.toNat ≤ line then some (rngD n) else none
  | _ => none
/-- things = range(e) -/
theorem js_setRg {i n : Nat} {x : Str} {e : Expr} {a : SE} {p : Bool} {p0 pos pos' cpos : Pos} (hN : X.N.Nodup) (hi : X.N[i]? = some x) (hx : Loc X.env.scope x) (he : JE X fl e a (.own n) p) (hg : Gl X "range") (hm : X.mg "range" = none) (hv : bootBuiltins "range" = some (.type "range")) (hfx : fixed (fgAt fl i) = false) (hl : i < fl.length) (hfn : fl.set i .fz = fn)
    (hse : starEach [e] X.env = (false, eval e X.env) :: starEach [] X.env := by rfl) (hpl : (backTo cpos (starEach [] X.env)).any (·.1) = false := by rfl)
    (hs : swapsWith (.Call (.Name "range" p0) [e] [] cpos) (some (.Name x pos')) pos.line X.env = pure false := by rfl) (hf : X.fn x = true ∨ X.env.scope.names.lookup x = some .local := by first | exact .inl rfl | exact .inr rfl) : JS X C fl (.Assign [.Name x pos'] (.Call (.Name "range" p0) [e] [] cpos) pos) (sSet i (sUn dRng a)) fn := by
  refine ps_mono (ps_set hN hi hx (pe_callTy cr_range1 hg hm hv (pa_cons he pa_nil hse) (he := hse) (hpl := hpl)) hs hf) ?_
  rintro D s H ⟨I, U, rs, r, f', r', R, hs, k⟩
  obtain ⟨d, r1, e1, hs⟩ := of_bind hs
  cases hs
  obtain ⟨x, r2, e2, e3⟩ := of_bind e1
  obtain ⟨hd, rfl⟩ := of_lift e3
  refine ⟨I, U, rs, r, x, r1, R, e2, fun U' rs' H' v q A V => ?_⟩
  cases x with
  | int j =>
    unfold dRng at hd
    simp only at hd
    split at hd
    · cases hd
      refine ⟨j, by rw [en_int V.en], fun p hp => ?_⟩
      have F := Fresh.new (U := U') (.rng 0 j) hp
      have R2 := A.rel.fresh F (ul_old A.rel.ul)
      subst hfn
      have R3 := R2.setF (i := i) hl hfx (d := rngD j) (v := .ref p) (.inr ⟨p, j, rfl, rfl, upd_same⟩)
      refine k U' (setR rs' i []) _ _ ?_ R3
      exact step_set (A.st.trans R.ul F.step) fun b w => by
        rcases wr_set w with w | w
        · exact A.st.win b w
        · cases w
    · cases hd
  | _ => cases hd
def itRng (i : Nat) : SI := fun r => match getS r i with
  | some (.dict [(.int n, .none)]) => if fits n ∧ n.toNat ≤ line then .ok (upTo 0 n.toNat) r else .no
  | _ => .no
def iRngV (tl : TE) : TI := fun σ H R => tl σ H fun x H1 => ∃ a n, x = .ref a ∧ H1 a = some (.rng 0 n) ∧ (-(2 ^ 62) ≤ n ∧ n < 2 ^ 62) ∧ R (Itr 0 n.toNat) H1
theorem pi_rngV {l : Expr} {tl : TE} (hl : PE X l tl) : PI X tg l (iRngV tl) := by
  refine ⟨fun pins s σ H R I h => ?_⟩
  refine thn (hl.run pins s σ H _ I h) fun v s1 ⟨x, H1, I1, r1, q1⟩ => ?_
  obtain ⟨a, n, e, ha, ⟨h1, h2⟩, q⟩ := q1
  subst e
  cases r1
  obtain ⟨t, u, w, ho⟩ := I1.hok a _ ha
  refine PySem.wpAny_pyIter_range (t := t) (u := u) (v := w) ho (PySem.small_one (by decide) (by decide) h1 h2) ?_
  refine ⟨s1.heap.objs.size, [s1.heap.objs.size], _, _, H1, rfl, I1.kept (t' := s1.toks) fun b o e => Heap.get?_push_of_some _ e, turn_range _ 0 n.toNat, ?_, fun b hb => ?_, q⟩
  · have e1 : (0 : Int) + ((0 : Nat) : Int) * 1 = 0 := by simp
    have e2 : ((n.toNat : Nat) : Int) - ((0 : Nat) : Int) = Builtin.Range.rangeSize 0 n 1 := by rw [PySem.rangeSize_one]; split <;> omega
    show PySem.IsRangeIter _ _ ((0 : Int) + ((0 : Nat) : Int) * 1) (((n.toNat : Nat) : Int) - ((0 : Nat) : Int)) 1
    rw [e1, e2]
    exact Heap.get?_push_size _ rfl
  · have e : b = s1.heap.objs.size := by simpa using hb
    subst e
    exact I1.fpOk (Nat.le_refl _) (I1.hok.fresh (Nat.le_refl _))
theorem ji_rng {l : Expr} {i : Nat} {pe : Bool} (h : PE X l (tVar i)) (hf : fgAt fl i = .fz) : JI X fl tg l (itRng i) true pe := by
  refine pi_mono (pi_rngV h) ?_
  rintro s H Q ⟨I, U, rs, r, ds, r', R, hs, k⟩
  unfold itRng at hs
  split at hs
  · rename_i n hg
    split at hs
    · rename_i c
      cases hs
      obtain ⟨v, hv, sl⟩ := slot_v (R.sl i) hg
      rw [hf] at sl
      rcases slot_fz sl with ⟨_, _, _, e, _⟩ | ⟨a, m, e, rfl, ha⟩
      · cases e
      · cases e
        exact ⟨_, hv, a, n, rfl, ha, ⟨c.1.1, c.1.2⟩, k U rs H _ (.refl R) (by rw [upTo_len]; exact c.2) fun _ _ => walks_range⟩
    · cases hs
  · cases hs
end
end J

set_option Elab.async false
set_option linter.all false
set_option maxRecDepth 100000
/-! JP: a tool box for what the texts compute: plain data, no model. -/
namespace J
open PySem

/-- it ends with a value of which Q holds -/
def Ok {a : Type} (x : R a) (Q : a → Env → Prop) : Prop := ∃ y r, x = .ok y r ∧ Q y r
section
variable {a b : Type} {Q : a → Env → Prop} {r : Env}
@[simp] theorem ok_ok {y : a} : Ok (.ok y r) Q ↔ Q y r := ⟨(fun ⟨_, _, h, q⟩ => by cases h; exact q), fun q => ⟨_, _, rfl, q⟩⟩
@[simp] theorem ok_no : Ok (.no : R a) Q ↔ False := ⟨(fun ⟨_, _, h, _⟩ => by cases h), False.elim⟩
@[simp] theorem ok_bind {x : R b} {f : b → Env → R a} : Ok (x.bind f) Q ↔ Ok x fun y r => Ok (f y r) Q := by
  constructor
  · rintro ⟨y, r, h, q⟩
    obtain ⟨z, r1, e, h⟩ := of_bind h
    exact ⟨z, r1, e, y, r, h, q⟩
  · rintro ⟨z, r1, e, y, r, h, q⟩
    exact ⟨y, r, by rw [e]; exact h, q⟩
@[simp] theorem ok_lift {o : Option D} {Q : D → Env → Prop} : Ok (lift o r) Q ↔ ∃ d, o = some d ∧ Q d r := by
  cases o with
  | none => simp [lift]
  | some d => simp [lift]
theorem Ok.imp {x : R a} {Q' : a → Env → Prop} (h : Ok x Q) (k : ∀ y r, Q y r → Q' y r) : Ok x Q' := by
  obtain ⟨y, r, e, q⟩ := h
  exact ⟨y, r, e, k y r q⟩
theorem ok_ite {c : Prop} [Decidable c] {x y : R a} : Ok (if c then x else y) Q ↔ if c then Ok x Q else Ok y Q := by split <;> rfl
theorem ok_of {x : R a} {y : a} (h : x = .ok y r) (q : Q y r) : Ok x Q := ⟨y, r, h, q⟩
end
@[simp] theorem getS_nil {i : Nat} : getS [] i = none := by simp [getS]
@[simp] theorem getS_zero {o : Option D} {r : Env} : getS (o :: r) 0 = o := by cases o <;> simp [getS]
@[simp] theorem getS_succ {o : Option D} {r : Env} {i : Nat} : getS (o :: r) (i + 1) = getS r i := by simp [getS]
@[simp] theorem kill_nil {r : Env} : kill [] r = r := rfl
@[simp] theorem kill_cons {i : Nat} {is : List Nat} {r : Env} : kill (i :: is) r = (kill is r).set i none := rfl
@[simp] theorem back_nil {r0 r : Env} : back [] r0 r = r := rfl
@[simp] theorem setAll_nil {r : Env} : setAll [] [] r = some r := rfl
@[simp] theorem setAll_cons {i : Nat} {is : List Nat} {d : D} {ds : List D} {r : Env} : setAll (i :: is) (d :: ds) r = setAll is ds (r.set i (some d)) := rfl
@[simp] theorem put_nm {i : Nat} {d : D} {r : Env} : (Tg.nm i).put d r = some (r.set i (some d)) := rfl
@[simp] theorem put_tp {is : List Nat} {ds : List D} {r : Env} : (Tg.tp is).put (.tuple ds) r = setAll is ds r := rfl

section
variable {r : Env} {Q : D → Env → Prop} {QB : Bool → Env → Prop} {QA : List D → Env → Prop} {QS : Fl → Env → Prop}
@[simp] theorem ok_C {d : D} : Ok (sC d r) Q ↔ Q d r := by simp [sC]
@[simp] theorem ok_V {i : Nat} : Ok (sV i r) Q ↔ ∃ d, getS r i = some d ∧ Q d r := by simp [sV]
@[simp] theorem ok_Nil : Ok (sNil r) QA ↔ QA [] r := by simp [sNil]
@[simp] theorem ok_Cons {a : SE} {b : SA} : Ok (sCons a b r) QA ↔ Ok (a r) fun x r1 => Ok (b r1) fun xs r2 => QA (x :: xs) r2 := by simp [sCons]
@[simp] theorem ok_Tup {a : SA} : Ok (sTup a r) Q ↔ Ok (a r) fun xs r1 => Q (.tuple xs) r1 := by simp [sTup]
@[simp] theorem ok_Lst {a : SA} : Ok (sLst a r) Q ↔ Ok (a r) fun xs r1 => Q (.list xs) r1 := by simp [sLst]
@[simp] theorem ok_Bin {f : D → D → Option D} {a b : SE} : Ok (sBin f a b r) Q ↔ Ok (a r) fun x r1 => Ok (b r1) fun y r2 => ∃ d, f x y = some d ∧ Q d r2 := by simp [sBin]
@[simp] theorem ok_Un {f : D → Option D} {a : SE} : Ok (sUn f a r) Q ↔ Ok (a r) fun x r1 => ∃ d, f x = some d ∧ Q d r1 := by simp [sUn]
@[simp] theorem ok_Fn {f : List D → Option D} {a : SA} : Ok (sFn f a r) Q ↔ Ok (a r) fun xs r1 => ∃ d, f xs = some d ∧ Q d r1 := by simp [sFn]
@[simp] theorem ok_toB {x : D} : Ok (toB x r) QB ↔ ∃ b, x = .bool b ∧ QB b r := by cases x <;> simp [toB]
@[simp] theorem ok_T {a : SE} : Ok (sT a r) QB ↔ Ok (a r) fun x r1 => ∃ b, x = .bool b ∧ QB b r1 := by simp [sT]
@[simp] theorem ok_OfB {a : SB} : Ok (sOfB a r) Q ↔ Ok (a r) fun b r1 => Q (.bool b) r1 := by simp [sOfB]
@[simp] theorem ok_And {a b : SB} : Ok (sAnd a b r) QB ↔ Ok (a r) fun x r1 => if x = true then Ok (b r1) QB else QB false r1 := by simp [sAnd, ok_ite]
@[simp] theorem ok_Or {a b : SB} : Ok (sOr a b r) QB ↔ Ok (a r) fun x r1 => if x = true then QB true r1 else Ok (b r1) QB := by simp [sOr, ok_ite]
@[simp] theorem ok_Not {a : SB} : Ok (sNot a r) QB ↔ Ok (a r) fun x r1 => QB (!x) r1 := by simp [sNot]
@[simp] theorem ok_IfE {c : SB} {a b : SE} : Ok (sIfE c a b r) Q ↔ Ok (c r) fun x r1 => if x = true then Ok (a r1) Q else Ok (b r1) Q := by simp [sIfE, ok_ite]
@[simp] theorem ok_Part {a : SE} {QO : Option Int → Env → Prop} : Ok (sPart a r) QO ↔ Ok (a r) fun x r1 => ∃ i, intOf x = some i ∧ QO (some i) r1 := by
  unfold sPart
  rw [ok_bind]
  refine iff_of_eq (congrArg _ (funext fun x => funext fun r1 => propext ?_))
  cases intOf x <;> simp
@[simp] theorem ok_NoPart {QO : Option Int → Env → Prop} : Ok (sNoPart r) QO ↔ QO none r := by simp [sNoPart]
@[simp] theorem ok_Sl {a : SE} {lo hi : Env → R (Option Int)} : Ok (sSl a lo hi r) Q ↔ Ok (a r) fun x r1 => Ok (lo r1) fun l r2 => Ok (hi r2) fun h r3 => ∃ d, dSl l h x = some d ∧ Q d r3 := by simp [sSl]
@[simp] theorem ok_itSeq {a : SE} : Ok (itSeq a r) QA ↔ Ok (a r) fun x r1 => ∃ xs, items x = some xs ∧ QA xs r1 := by
  unfold itSeq
  rw [ok_bind]
  refine iff_of_eq (congrArg _ (funext fun x => funext fun r1 => propext ?_))
  cases items x <;> simp
theorem ok_itRg1 {a : SE} : Ok (itRg1 a r) QA ↔ Ok (a r) fun x r1 => ∃ j, intOf x = some j ∧ (-(2 ^ 62) ≤ j ∧ j < 2 ^ 62 ∧ j.toNat ≤ line) ∧ QA (upTo 0 j.toNat) r1 := by
  unfold itRg1
  rw [ok_bind]
  refine iff_of_eq (congrArg _ (funext fun x => funext fun r1 => propext ?_))
  cases intOf x with
  | none => simp
  | some j =>
    simp only [Option.some.injEq]
    rw [ok_ite]
    constructor
    · intro h
      split at h
      · rename_i c; exact ⟨j, rfl, c, by simpa using h⟩
      · simp at h
    · rintro ⟨_, rfl, c, h⟩
      rw [if_pos c]; simpa using h
theorem ok_itRg2 {a b : SE} : Ok (itRg2 a b r) QA ↔ Ok (a r) fun x r1 => Ok (b r1) fun y r2 => ∃ i j, intOf x = some i ∧ intOf y = some j ∧ (fits i ∧ fits j ∧ (j - i).toNat ≤ line) ∧ QA (upTo i (j - i).toNat) r2 := by
  unfold itRg2
  rw [ok_bind]
  refine iff_of_eq (congrArg _ (funext fun x => funext fun r1 => propext ?_))
  rw [ok_bind]
  refine iff_of_eq (congrArg _ (funext fun y => funext fun r2 => propext ?_))
  cases intOf x with
  | none => simp
  | some i =>
    cases intOf y with
    | none => simp
    | some j =>
      simp only [Option.some.injEq]
      rw [ok_ite]
      constructor
      · intro h
        split at h
        · rename_i c; exact ⟨i, j, rfl, rfl, c, by simpa using h⟩
        · simp at h
      · rintro ⟨_, _, rfl, rfl, c, h⟩
        rw [if_pos c]; simpa using h
@[simp] theorem ok_Dic {ps : List (L2.Key × SE)} : Ok (sDic ps r) Q ↔ Ok (sKvs ps r) fun kds r1 => Q (.dict (dMerge [] kds)) r1 := by simp [sDic]
@[simp] theorem ok_Kvs_nil {QK : List (L2.Key × D) → Env → Prop} : Ok (sKvs [] r) QK ↔ QK [] r := by simp [sKvs]
@[simp] theorem ok_Kvs_cons {k : L2.Key} {e : SE} {ps : List (L2.Key × SE)} {QK : List (L2.Key × D) → Env → Prop} : Ok (sKvs ((k, e) :: ps) r) QK ↔ Ok (e r) fun d r1 => Ok (sKvs ps r1) fun ds r2 => QK ((k, d) :: ds) r2 := by simp [sKvs]
/-! calls -/
theorem ok_Call {F : Fn} {as : List Ag} : Ok (sCall F as r) Q ↔ Ok (argL as r) fun ods r1 => ∃ ds, argF as ods r1 = some ds ∧ ∃ d outs, F ds = .ok d outs ∧ ∃ r2, argB as outs r1 = some r2 ∧ Q d r2 := by
  unfold sCall
  rw [ok_bind]
  refine iff_of_eq (congrArg _ (funext fun ods => funext fun r1 => propext ?_))
  cases argF as ods r1 with
  | none => simp
  | some ds =>
    simp only [Option.some.injEq, exists_eq_left']
    cases F ds with
    | no => simp
    | ex c xs outs =>
      simp only [reduceCtorEq, false_and, exists_false, iff_false]
      cases argB as outs r1 with
      | none => simp
      | some r2 => rintro ⟨_, _, h, _⟩; cases h
    | ok d outs =>
      simp only [RF.ok.injEq]
      cases e : argB as outs r1 with
      | none =>
        simp only [ok_no, false_iff]
        rintro ⟨_, _, ⟨rfl, rfl⟩, _, h, _⟩
        rw [e] at h; cases h
      | some r2 =>
        simp only [ok_ok]
        constructor
        · intro h; exact ⟨_, _, ⟨rfl, rfl⟩, _, e, h⟩
        · rintro ⟨_, _, ⟨rfl, rfl⟩, _, h, q⟩
          rw [e] at h; cases h; exact q
@[simp] theorem ok_argL_nil {QO : List (Option D) → Env → Prop} : Ok (argL [] r) QO ↔ QO [] r := by simp [argL]
@[simp] theorem ok_argL_e {s : SE} {as : List Ag} {QO : List (Option D) → Env → Prop} : Ok (argL (.e s :: as) r) QO ↔ Ok (s r) fun d r1 => Ok (argL as r1) fun ds r2 => QO (some d :: ds) r2 := by simp [argL]
@[simp] theorem ok_argL_eo {s : SE} {as : List Ag} {QO : List (Option D) → Env → Prop} : Ok (argL (.eo s :: as) r) QO ↔ Ok (s r) fun d r1 => Ok (argL as r1) fun ds r2 => QO (some d :: ds) r2 := by simp [argL]
@[simp] theorem ok_argL_io {i : Nat} {as : List Ag} {QO : List (Option D) → Env → Prop} : Ok (argL (.io i :: as) r) QO ↔ ∃ d, getS r i = some d ∧ Ok (argL as r) fun ds r2 => QO (none :: ds) r2 := by
  cases e : getS r i <;> simp [argL, e]
@[simp] theorem ok_argL_bv {i : Nat} {as : List Ag} {QO : List (Option D) → Env → Prop} : Ok (argL (.bv i :: as) r) QO ↔ ∃ d, getS r i = some d ∧ Ok (argL as r) fun ds r2 => QO (none :: ds) r2 := by
  cases e : getS r i <;> simp [argL, e]
@[simp] theorem argF_nil : argF [] [] r = some [] := rfl
@[simp] theorem argF_e {s : SE} {as : List Ag} {d : D} {ds : List (Option D)} : argF (.e s :: as) (some d :: ds) r = (argF as ds r).map (d :: ·) := rfl
@[simp] theorem argF_eo {s : SE} {as : List Ag} {d : D} {ds : List (Option D)} : argF (.eo s :: as) (some d :: ds) r = (argF as ds r).map (d :: ·) := rfl
@[simp] theorem argF_io {i : Nat} {as : List Ag} {ds : List (Option D)} : argF (.io i :: as) (none :: ds) r = (getS r i).bind fun d => (argF as ds r).map (d :: ·) := rfl
@[simp] theorem argF_bv {i : Nat} {as : List Ag} {ds : List (Option D)} : argF (.bv i :: as) (none :: ds) r = (getS r i).bind fun d => (argF as ds r).map (d :: ·) := rfl
@[simp] theorem argB_nil : argB [] [] r = some r := rfl
@[simp] theorem argB_e {s : SE} {as : List Ag} {outs : List D} : argB (.e s :: as) outs r = argB as outs r := by cases outs <;> rfl
@[simp] theorem argB_bv {i : Nat} {as : List Ag} {outs : List D} : argB (.bv i :: as) outs r = argB as outs r := by cases outs <;> rfl
@[simp] theorem argB_eo {s : SE} {as : List Ag} {d : D} {outs : List D} : argB (.eo s :: as) (d :: outs) r = argB as outs r := rfl
@[simp] theorem argB_io {i : Nat} {as : List Ag} {d : D} {outs : List D} : argB (.io i :: as) (d :: outs) r = argB as outs (r.set i (some d)) := rfl
/-! statements -/
theorem ok_Seq {a b : SS} : Ok (sSeq a b r) QS ↔ Ok (a r) fun f r1 => match f with | .nx => Ok (b r1) QS | f => QS f r1 := by
  unfold sSeq
  rw [ok_bind]
  refine iff_of_eq (congrArg _ (funext fun f => funext fun r1 => propext ?_))
  cases f <;> simp
/-- the first statement goes on -/
theorem seq_nx {a b : SS} (h : Ok (a r) fun f r1 => f = .nx ∧ Ok (b r1) QS) : Ok (sSeq a b r) QS := by
  rw [ok_Seq]
  refine h.imp fun f r1 ⟨e, q⟩ => ?_
  subst e
  exact q
@[simp] theorem ok_Pass : Ok (sPass r) QS ↔ QS .nx r := by simp [sPass]
@[simp] theorem ok_Bk : Ok (sBk r) QS ↔ QS .bk r := by simp [sBk]
@[simp] theorem ok_Ct : Ok (sCt r) QS ↔ QS .ct r := by simp [sCt]
@[simp] theorem ok_Ret {a : SE} : Ok (sRet a r) QS ↔ Ok (a r) fun x r1 => QS (.rt x) r1 := by simp [sRet]
@[simp] theorem ok_X {a : SE} : Ok (sX a r) QS ↔ Ok (a r) fun _ r1 => QS .nx r1 := by simp [sX]
@[simp] theorem ok_Set {i : Nat} {a : SE} : Ok (sSet i a r) QS ↔ Ok (a r) fun x r1 => QS .nx (r1.set i (some x)) := by simp [sSet]
@[simp] theorem ok_If {c : SB} {a b : SS} : Ok (sIf c a b r) QS ↔ Ok (c r) fun x r1 => if x = true then Ok (a r1) QS else Ok (b r1) QS := by simp [sIf, ok_ite]
@[simp] theorem ok_Asg {tg : Tg} {a : SE} : Ok (sAsg tg a r) QS ↔ Ok (a r) fun x r1 => ∃ r2, tg.put x r1 = some r2 ∧ QS .nx r2 := by
  unfold sAsg
  rw [ok_bind]
  refine iff_of_eq (congrArg _ (funext fun x => funext fun r1 => propext ?_))
  cases tg.put x r1 <;> simp
@[simp] theorem ok_ParN {is : List Nat} {a : SA} : Ok (sParN is a r) QS ↔ Ok (a r) fun xs r1 => ∃ r2, setAll is xs r1 = some r2 ∧ QS .nx r2 := by
  unfold sParN
  rw [ok_bind]
  refine iff_of_eq (congrArg _ (funext fun x => funext fun r1 => propext ?_))
  cases setAll is x r1 <;> simp
@[simp] theorem getL_eq {i : Nat} {xs : List D} (h : getS r i = some (.list xs)) : getL r i = some xs := by simp [getL, h, listOf]
theorem ok_Sub {i : Nat} {k v : SE} (h : Ok (v r) fun x r1 => (∃ ys, getS r1 i = some (.list ys)) ∧ Ok (k r1) fun z r2 => ∃ n xs j, z = .int n ∧ getS r2 i = some (.list xs) ∧ ixD xs.length n = some j ∧ QS .nx (r2.set i (some (.list (xs.set j x))))) : Ok (sSub i k v r) QS := by
  unfold sSub
  rw [ok_bind]
  refine h.imp fun x r1 ⟨⟨ys, hy⟩, q⟩ => ?_
  rw [getL_eq hy]
  simp only [ok_bind]
  refine q.imp fun z r2 ⟨n, xs, j, hz, hx, hj, q⟩ => ?_
  subst hz
  rw [getL_eq hx]
  simp only [intOf, hj]
  simpa [setL] using q
theorem getD_eq {i : Nat} {xs : List (D × D)} (h : getS r i = some (.dict xs)) : getD r i = some xs := by simp [getD, h, dictOf]
theorem ok_DPut {i : Nat} {k v : SE} (h : Ok (v r) fun x r1 => (∃ ys, getS r1 i = some (.dict ys)) ∧ Ok (k r1) fun z r2 => ∃ n xs, dkey z = some n ∧ getS r2 i = some (.dict xs) ∧ xs.length < line ∧ QS .nx (r2.set i (some (.dict (dStore xs n x))))) : Ok (sDPut i k v r) QS := by
  unfold sDPut
  rw [ok_bind]
  refine h.imp fun x r1 ⟨⟨ys, hy⟩, q⟩ => ?_
  rw [getD_eq hy]
  simp only [ok_bind]
  refine q.imp fun z r2 ⟨n, xs, hz, hx, hl, q⟩ => ?_
  rw [getD_eq hx, hz]
  simp only [hl, if_true]
  simpa using q
theorem ok_Met {f : List D → List D → Option (D × List D)} {i : Nat} {a : SA} (h : (∃ ys, getS r i = some (.list ys)) ∧ Ok (a r) fun args r1 => ∃ xs d ys, getS r1 i = some (.list xs) ∧ f xs args = some (d, ys) ∧ Q d (r1.set i (some (.list ys)))) : Ok (sMet f i a r) Q := by
  obtain ⟨⟨ys, hy⟩, q⟩ := h
  unfold sMet
  rw [getL_eq hy]
  simp only [ok_bind]
  refine q.imp fun args r1 ⟨xs, d, zs, hx, hf, q⟩ => ?_
  rw [getL_eq hx]
  simp only [hf]
  simpa [setL] using q
/-! loops -/
theorem ok_For {tg : Tg} {it : SI} {b : SS} {ks : List Nat} : Ok (sFor tg it b ks r) QS ↔ Ok (it r) fun xs r1 => Ok (forL tg b ks xs (kill ks r1)) QS := by simp [sFor]
theorem forL_nil {tg : Tg} {b : SS} {ks : List Nat} : Ok (forL tg b ks [] r) QS ↔ QS .nx (kill ks r) := by simp [forL]
theorem forL_cons {tg : Tg} {b : SS} {ks : List Nat} {x : D} {xs : List D} : Ok (forL tg b ks (x :: xs) r) QS ↔ ∃ r1, tg.put x r = some r1 ∧ Ok (b r1) fun f r2 => match f with
    | .nx => Ok (forL tg b ks xs (kill ks r2)) QS
    | .ct => Ok (forL tg b ks xs (kill ks r2)) QS
    | .bk => QS .nx (kill ks r2)
    | .rt d => QS (.rt d) r2 := by
  rw [forL.eq_def]
  simp only
  cases tg.put x r with
  | none => simp
  | some r1 =>
    simp only [Option.some.injEq, exists_eq_left', ok_bind]
    refine iff_of_eq (congrArg _ (funext fun f => funext fun r2 => propext ?_))
    cases f <;> simp
/-- a def's end -/
theorem run_ok {n : Nat} {ios : List Nat} {body : SS} {ds : List D} {d : D} {outs : List D} (h : Ok (body (ds.map some ++ List.replicate (n - ds.length) none)) fun f r => outsOf ios r = some outs ∧ (f = .rt d ∨ (f = .nx ∧ d = .none))) : runD n ios body ds = .ok d outs := by
  obtain ⟨f, r, e, ho, hf⟩ := h
  unfold runD
  rw [e]
  simp only [ho]
  rcases hf with rfl | ⟨rfl, rfl⟩ <;> rfl
end
@[simp] theorem outsOf_nil {r : Env} : outsOf [] r = some [] := rfl
theorem outsOf_cons {i : Nat} {is : List Nat} {r : Env} {d : D} {ds : List D} (h : getS r i = some d) (h2 : outsOf is r = some ds) : outsOf (i :: is) r = some (d :: ds) := by simp [outsOf, h, h2]

/-! ### comprehensions -/
theorem set_set {α : Type} {r : List α} {i : Nat} {a b : α} : (r.set i a).set i b = r.set i b := List.set_set ..
/-- one clause, one name, nothing changes -/
theorem lc_go {c : SB} {s : SE} {i : Nat} {p : D → Bool} {g : D → D} {r0 : Env} : ∀ {xs acc : List D} {r : Env}, (∀ o, r.set i o = r0.set i o) → (∀ x ∈ xs, c (r0.set i (some x)) = .ok (p x) (r0.set i (some x))) → (∀ x ∈ xs, p x = true → s (r0.set i (some x)) = .ok (g x) (r0.set i (some x))) →
    ∃ r', lcG (.nm i) c (lcE s) [i] xs acc r = .ok (acc ++ (xs.filter p).map g) r' ∧ ∀ o, r'.set i o = r0.set i o
  | [], acc, r, h, _, _ => ⟨r, by simp [lcG], h⟩
  | x :: xs, acc, r, h, hc, hs => by
    have e : (kill [i] r).set i (some x) = r0.set i (some x) := by rw [kill_cons, kill_nil, set_set, h]
    have h2 : ∀ o, (r0.set i (some x)).set i o = r0.set i o := fun o => set_set
    unfold lcG
    simp only [put_nm, e]
    rw [hc x List.mem_cons_self, bind_ok]
    cases hp : p x with
    | false =>
      obtain ⟨r', e1, e2⟩ := lc_go (xs := xs) (acc := acc) h2 (fun y m => hc y (List.mem_cons_of_mem _ m)) (fun y m => hs y (List.mem_cons_of_mem _ m))
      refine ⟨r', ?_, e2⟩
      simp only [Bool.false_eq_true, if_false]
      rw [e1, List.filter_cons_of_neg (by rw [hp]; decide)]
    | true =>
      obtain ⟨r', e1, e2⟩ := lc_go (xs := xs) (acc := acc ++ [g x]) h2 (fun y m => hc y (List.mem_cons_of_mem _ m)) (fun y m => hs y (List.mem_cons_of_mem _ m))
      refine ⟨r', ?_, e2⟩
      simp only [if_true]
      rw [lcE, hs x List.mem_cons_self hp, bind_ok, bind_ok, e1, List.filter_cons_of_pos hp]
      simp
theorem back1 {i : Nat} {r r' : Env} (h : ∀ o, r'.set i o = r.set i o) : back [i] r r' = r := by
  unfold back
  cases e : r[i]? with
  | none =>
    simp only [back_nil]
    have a := h none
    have hl : r.length ≤ i := List.getElem?_eq_none_iff.mp e
    have hl2 : r'.length = r.length := by
      have := congrArg List.length a
      simpa using this
    rw [List.set_eq_of_length_le (by omega), List.set_eq_of_length_le hl] at a
    exact a
  | some o =>
    simp only [back_nil]
    rw [h o]
    obtain ⟨hl, rfl⟩ := List.getElem?_eq_some_iff.mp e
    exact List.set_getElem_self hl
theorem lc_pure {it : SI} {c : SB} {s : SE} {i : Nat} {p : D → Bool} {g : D → D} {r : Env} {xs : List D} (hi : it r = .ok xs r) (hc : ∀ x ∈ xs, c (r.set i (some x)) = .ok (p x) (r.set i (some x))) (hs : ∀ x ∈ xs, p x = true → s (r.set i (some x)) = .ok (g x) (r.set i (some x))) :
    sLc (.nm i) it c (lcE s) [i] r = .ok (.list ((xs.filter p).map g)) r := by
  obtain ⟨r', e1, e2⟩ := lc_go (c := c) (s := s) (p := p) (g := g) (r0 := r) (xs := xs) (acc := []) (fun _ => rfl) hc hs
  unfold sLc
  rw [hi, bind_ok, e1, bind_ok, back1 e2]
  simp

/-! ### data -/
def Sm (n : Nat) (d : D) : Prop := d.canLay0 = true ∧ d.depth ≤ n
theorem Sm.shp {n : Nat} {d : D} (h : Sm n d) (hn : n ≤ 64 := by decide) : J.shp d = true := by
  unfold J.shp
  rw [h.1, Bool.true_and, decide_eq_true_eq]
  exact Nat.le_trans h.2 hn
theorem Sm.mono {n m : Nat} {d : D} (h : Sm n d) (l : n ≤ m) : Sm m d := ⟨h.1, Nat.le_trans h.2 l⟩
theorem sm_int {n : Nat} {i : Int} : Sm n (.int i) := ⟨rfl, by simp [PyData.depth]⟩
theorem sm_bool {n : Nat} {i : Bool} : Sm n (.bool i) := ⟨rfl, by simp [PyData.depth]⟩
theorem sm_none {n : Nat} : Sm n .none := ⟨rfl, by simp [PyData.depth]⟩
theorem sm_all {n : Nat} : ∀ {xs : List D}, (∀ x ∈ xs, Sm n x) → PyData.canLayAll0 xs = true ∧ PyData.depthAll xs ≤ n
  | [], _ => ⟨by simp [PyData.canLayAll0], by simp [PyData.depthAll]⟩
  | x :: xs, h => by
    obtain ⟨a, b⟩ := sm_all (xs := xs) fun y m => h y (List.mem_cons_of_mem _ m)
    obtain ⟨c, d⟩ := h x List.mem_cons_self
    exact ⟨by simp [PyData.canLayAll0, a, c], by simp only [PyData.depthAll]; exact Nat.max_le.mpr ⟨d, b⟩⟩
theorem sm_lst {n : Nat} {xs : List D} (h : ∀ x ∈ xs, Sm n x) : Sm (n + 1) (.list xs) := by
  obtain ⟨a, b⟩ := sm_all h
  exact ⟨by simpa [PyData.canLay0] using a, by simp only [PyData.depth]; exact Nat.succ_le_succ b⟩
theorem sm_tup {n : Nat} {xs : List D} (h : ∀ x ∈ xs, Sm n x) : Sm (n + 1) (.tuple xs) := by
  obtain ⟨a, b⟩ := sm_all h
  exact ⟨by simpa [PyData.canLay0] using a, by simp only [PyData.depth]; exact Nat.succ_le_succ b⟩
theorem sm_map {α : Type} {n : Nat} {f : α → D} {xs : List α} (h : ∀ x, Sm n (f x)) : ∀ d ∈ xs.map f, Sm n d := fun d m => by
  obtain ⟨x, _, rfl⟩ := List.mem_map.mp m
  exact h x
@[simp] theorem eqv_int {a b : Int} : PyData.eqv (.int a) (.int b) = decide (a = b) := by
  rw [PyData.eqv]
  exact Bool.eq_iff_iff.mpr (by simp)
@[simp] theorem eqv_bool {a b : Bool} : PyData.eqv (.bool a) (.bool b) = decide (a = b) := by
  rw [PyData.eqv]
  exact Bool.eq_iff_iff.mpr (by simp)
@[simp] theorem eqv_nn : PyData.eqv .none .none = true := by rw [PyData.eqv]
@[simp] theorem eqv_ni {a : Int} : PyData.eqv .none (.int a) = false := by rw [PyData.eqv]
@[simp] theorem eqv_in {a : Int} : PyData.eqv (.int a) .none = false := by rw [PyData.eqv]
@[simp] theorem eqv_ll {a b : List D} : PyData.eqv (.list a) (.list b) = PyData.eqvAll a b := by rw [PyData.eqv]
@[simp] theorem eqv_tt {a b : List D} : PyData.eqv (.tuple a) (.tuple b) = PyData.eqvAll a b := by rw [PyData.eqv]
/-- lists of encoded things are told apart as the things are -/
theorem eqvAll_map {α : Type} [DecidableEq α] {f : α → D} (h : ∀ a b, PyData.eqv (f a) (f b) = decide (a = b)) : ∀ a b : List α, PyData.eqvAll (a.map f) (b.map f) = decide (a = b)
  | [], [] => by simp [PyData.eqvAll]
  | [], _ :: _ => by simp [PyData.eqvAll]
  | _ :: _, [] => by simp [PyData.eqvAll]
  | a :: as, b :: bs => by
    rw [List.map_cons, List.map_cons, PyData.eqvAll, h, eqvAll_map h as bs]
    by_cases e : a = b <;> by_cases e2 : as = bs <;> simp [e, e2]
theorem any_map {α : Type} [DecidableEq α] {f : α → D} (h : ∀ a b, PyData.eqv (f a) (f b) = decide (a = b)) (xs : List α) (a : α) : ((xs.map f).any fun z => PyData.eqv z (f a)) = decide (a ∈ xs) := by
  induction xs with
  | nil => simp
  | cons x xs ih =>
    rw [List.map_cons, List.any_cons, ih, h]
    by_cases e : x = a
    · subst e; simp
    · by_cases e2 : a ∈ xs <;> simp [e, e2, Ne.symm e]
def nD (n : Nat) : D := .int n
def oD : Option Nat → D
  | none => .none
  | some n => nD n
theorem eqv_nD (a b : Nat) : PyData.eqv (nD a) (nD b) = decide (a = b) := by
  unfold nD
  rw [eqv_int]
  by_cases h : a = b
  · simp [h]
  · rw [decide_eq_false h, decide_eq_false (by omega)]
theorem eqv_oD (a b : Option Nat) : PyData.eqv (oD a) (oD b) = decide (a = b) := by
  cases a <;> cases b <;> simp [oD, nD]
  omega
theorem sm_nD {n a : Nat} : Sm n (nD a) := sm_int
theorem sm_oD {n : Nat} {a : Option Nat} : Sm n (oD a) := by cases a <;> first | exact sm_none | exact sm_int
theorem ints_nD (xs : List Nat) : J.asInts (xs.map nD) = some (xs.map Int.ofNat) := by
  induction xs with
  | nil => rfl
  | cons x xs ih => simp [J.asInts, nD, ih]
theorem ixD_nat {n k : Nat} (h : k < n) : ixD n (k : Int) = some k := by
  unfold ixD
  rw [if_pos (by omega), if_pos (by omega)]
  simp
theorem dIx_lst {xs : List D} {i : Int} (h0 : 0 ≤ i) (h : i.toNat < xs.length) : dIx (.list xs) (.int i) = some xs[i.toNat] := by
  have e : ixD xs.length i = some i.toNat := by
    unfold ixD
    rw [if_pos h0, if_pos (by omega)]
  simp [dIx, e, h]
theorem dIx_tup {xs : List D} {i : Int} (h0 : 0 ≤ i) (h : i.toNat < xs.length) : dIx (.tuple xs) (.int i) = some xs[i.toNat] := by
  have e : ixD xs.length i = some i.toNat := by
    unfold ixD
    rw [if_pos h0, if_pos (by omega)]
  simp [dIx, e, h]
theorem dIx_nat {xs : List D} {g : Nat} {d : D} (h : xs[g]? = some d) : dIx (.list xs) (nD g) = some d := by
  obtain ⟨hl, e⟩ := List.getElem?_eq_some_iff.mp h
  unfold nD
  rw [dIx_lst (by omega) (by simpa using hl)]
  simp [e]
theorem dIx_natT {xs : List D} {g : Nat} {d : D} (h : xs[g]? = some d) : dIx (.tuple xs) (nD g) = some d := by
  obtain ⟨hl, e⟩ := List.getElem?_eq_some_iff.mp h
  unfold nD
  rw [dIx_tup (by omega) (by simpa using hl)]
  simp [e]
section
variable {α : Type} [DecidableEq α] {f : α → D} {n : Nat}
theorem dIn_map (h : ∀ a b, PyData.eqv (f a) (f b) = decide (a = b)) (s : ∀ a, Sm n (f a)) (a : α) (xs : List α) (hn : n ≤ 60 := by decide) : dIn (f a) (.list (xs.map f)) = some (.bool (decide (a ∈ xs))) := by
  unfold dIn
  simp only [items]
  rw [if_pos ⟨(s a).shp (by omega), (sm_lst (sm_map s)).shp (by omega)⟩, any_map h]
theorem dNin_map (h : ∀ a b, PyData.eqv (f a) (f b) = decide (a = b)) (s : ∀ a, Sm n (f a)) (a : α) (xs : List α) (hn : n ≤ 60 := by decide) : dNin (f a) (.list (xs.map f)) = some (.bool (!decide (a ∈ xs))) := by
  unfold dNin
  simp only [items]
  rw [if_pos ⟨(s a).shp (by omega), (sm_lst (sm_map s)).shp (by omega)⟩, any_map h]
theorem dIn_mapT (h : ∀ a b, PyData.eqv (f a) (f b) = decide (a = b)) (s : ∀ a, Sm n (f a)) (a : α) (xs : List α) (hn : n ≤ 60 := by decide) : dIn (f a) (.tuple (xs.map f)) = some (.bool (decide (a ∈ xs))) := by
  unfold dIn
  simp only [items]
  rw [if_pos ⟨(s a).shp (by omega), (sm_lst (sm_map s)).shp (by omega)⟩, any_map h]
theorem dNin_mapT (h : ∀ a b, PyData.eqv (f a) (f b) = decide (a = b)) (s : ∀ a, Sm n (f a)) (a : α) (xs : List α) (hn : n ≤ 60 := by decide) : dNin (f a) (.tuple (xs.map f)) = some (.bool (!decide (a ∈ xs))) := by
  unfold dNin
  simp only [items]
  rw [if_pos ⟨(s a).shp (by omega), (sm_lst (sm_map s)).shp (by omega)⟩, any_map h]
theorem dEq_map (h : ∀ a b, PyData.eqv (f a) (f b) = decide (a = b)) (s : ∀ a, Sm n (f a)) (xs ys : List α) (hn : n ≤ 60 := by decide) : dEq (.list (xs.map f)) (.list (ys.map f)) = some (.bool (decide (xs = ys))) := by
  unfold dEq
  rw [if_pos ⟨(sm_lst (sm_map s)).shp (by omega), (sm_lst (sm_map s)).shp (by omega)⟩, eqv_ll, eqvAll_map h]
theorem dNe_map (h : ∀ a b, PyData.eqv (f a) (f b) = decide (a = b)) (s : ∀ a, Sm n (f a)) (xs ys : List α) (hn : n ≤ 60 := by decide) : dNe (.list (xs.map f)) (.list (ys.map f)) = some (.bool (!decide (xs = ys))) := by
  unfold dNe
  rw [if_pos ⟨(sm_lst (sm_map s)).shp (by omega), (sm_lst (sm_map s)).shp (by omega)⟩, eqv_ll, eqvAll_map h]
theorem dEq_mapT (h : ∀ a b, PyData.eqv (f a) (f b) = decide (a = b)) (s : ∀ a, Sm n (f a)) (xs ys : List α) (hn : n ≤ 60 := by decide) : dEq (.tuple (xs.map f)) (.tuple (ys.map f)) = some (.bool (decide (xs = ys))) := by
  unfold dEq
  rw [if_pos ⟨(sm_tup (sm_map s)).shp (by omega), (sm_tup (sm_map s)).shp (by omega)⟩, eqv_tt, eqvAll_map h]
theorem dNe_mapT (h : ∀ a b, PyData.eqv (f a) (f b) = decide (a = b)) (s : ∀ a, Sm n (f a)) (xs ys : List α) (hn : n ≤ 60 := by decide) : dNe (.tuple (xs.map f)) (.tuple (ys.map f)) = some (.bool (!decide (xs = ys))) := by
  unfold dNe
  rw [if_pos ⟨(sm_tup (sm_map s)).shp (by omega), (sm_tup (sm_map s)).shp (by omega)⟩, eqv_tt, eqvAll_map h]
end
def nL (xs : List Nat) : D := .list (xs.map nD)
def nT (xs : List Nat) : D := .tuple (xs.map nD)
theorem dIn_nL (a : Nat) (xs : List Nat) : dIn (nD a) (nL xs) = some (.bool (decide (a ∈ xs))) := dIn_map (n := 0) eqv_nD (fun _ => sm_nD) a xs
theorem dNin_nL (a : Nat) (xs : List Nat) : dNin (nD a) (nL xs) = some (.bool (!decide (a ∈ xs))) := dNin_map (n := 0) eqv_nD (fun _ => sm_nD) a xs
theorem dIn_nT (a : Nat) (xs : List Nat) : dIn (nD a) (nT xs) = some (.bool (decide (a ∈ xs))) := dIn_mapT (n := 0) eqv_nD (fun _ => sm_nD) a xs
theorem dNin_nT (a : Nat) (xs : List Nat) : dNin (nD a) (nT xs) = some (.bool (!decide (a ∈ xs))) := dNin_mapT (n := 0) eqv_nD (fun _ => sm_nD) a xs
theorem dEq_nD (a b : Nat) : dEq (nD a) (nD b) = some (.bool (decide (a = b))) := by
  unfold dEq
  rw [if_pos ⟨(sm_nD (n := 0)).shp, (sm_nD (n := 0)).shp⟩, eqv_nD]
theorem dNe_nD (a b : Nat) : dNe (nD a) (nD b) = some (.bool (!decide (a = b))) := by
  unfold dNe
  rw [if_pos ⟨(sm_nD (n := 0)).shp, (sm_nD (n := 0)).shp⟩, eqv_nD]
theorem dLt_nD (a b : Nat) : dLt (nD a) (nD b) = some (.bool (decide (a < b))) := by
  simp only [dLt, dCmp, nD]
  congr 2
  exact decide_eq_decide.mpr (by omega)
theorem dLe_nD (a b : Nat) : dLe (nD a) (nD b) = some (.bool (decide (a ≤ b))) := by
  simp only [dLe, dCmp, nD]
  congr 2
  exact decide_eq_decide.mpr (by omega)
theorem dGt_nD (a b : Nat) : dGt (nD a) (nD b) = some (.bool (decide (b < a))) := by
  simp only [dGt, dCmp, nD]
  congr 2
  exact decide_eq_decide.mpr (by omega)
theorem dGe_nD (a b : Nat) : dGe (nD a) (nD b) = some (.bool (decide (b ≤ a))) := by
  simp only [dGe, dCmp, nD]
  congr 2
  exact decide_eq_decide.mpr (by omega)
theorem dLen_L (xs : List D) : dLen [.list xs] = some (nD xs.length) := rfl
theorem dLen_T (xs : List D) : dLen [.tuple xs] = some (nD xs.length) := rfl
theorem dLen_nL (xs : List Nat) : dLen [nL xs] = some (nD xs.length) := by simp [nL, dLen, nD]
theorem dLen_nT (xs : List Nat) : dLen [nT xs] = some (nD xs.length) := by simp [nT, dLen, nD]
theorem dAdd_nD (a b : Nat) : dAdd (nD a) (nD b) = some (nD (a + b)) := by simp [dAdd, nD]
theorem nD_lit (n : Nat) : PyData.int (n : Int) = nD n := rfl
theorem mApp_nL (xs : List Nat) (x : Nat) (h : xs.length < line) : mApp (xs.map nD) [nD x] = some (.none, (xs ++ [x]).map nD) := by simp [mApp, h]
theorem dIs_non (d : D) : dIs d .none = some (.bool (isNon d)) := rfl
theorem dIsnt_non (d : D) : dIsnt d .none = some (.bool (!isNon d)) := rfl
theorem isNon_oD (o : Option Nat) : isNon (oD o) = o.isNone := by cases o <;> rfl
theorem upTo_nat (n : Nat) : upTo 0 n = (List.range n).map nD := by
  unfold upTo nD
  simp
theorem rg1_ok {a : SE} {r : Env} {QA : List D → Env → Prop} (h : Ok (a r) fun x r1 => ∃ n : Nat, x = nD n ∧ n ≤ 1000 ∧ QA ((List.range n).map nD) r1) : Ok (itRg1 a r) QA := by
  rw [ok_itRg1]
  refine h.imp fun x r1 ⟨n, e, hn, q⟩ => ?_
  subst e
  refine ⟨n, rfl, ⟨by omega, by omega, ?_⟩, ?_⟩
  · have : line = 16777216 := rfl
    omega
  · rw [Int.toNat_natCast, upTo_nat]; exact q
/-! ### lists -/
theorem nodup_sub {α : Type} [DecidableEq α] : ∀ {s t : List α}, s.Nodup → (∀ x ∈ s, x ∈ t) → s.length ≤ t.length
  | [], _, _, _ => Nat.zero_le _
  | x :: s, t, nd, h => by
    rw [List.nodup_cons] at nd
    have hx := h x List.mem_cons_self
    have := nodup_sub (s := s) (t := t.erase x) nd.2 fun y hy => (List.mem_erase_of_ne fun e => nd.1 (by rw [← e]; exact hy)).mpr (h y (List.mem_cons_of_mem _ hy))
    rw [List.length_erase_of_mem hx] at this
    have := List.length_pos_of_mem hx
    rw [List.length_cons]
    omega
theorem nodup_le {m : Nat} {s : List Nat} (nd : s.Nodup) (lt : ∀ g ∈ s, g < m) : s.length ≤ m := by
  have := nodup_sub (t := List.range m) nd fun g hg => List.mem_range.mpr (lt g hg)
  simpa using this
/-! ### loops, by what stays -/
theorem eq_of_ok {a : Type} {x : R a} {v : a} {r0 : Env} (h : Ok x fun y r => y = v ∧ r = r0) : x = .ok v r0 := by
  obtain ⟨y, r, e, rfl, rfl⟩ := h
  exact e
/-- how a turn may end -/
def Turn (Go : Env → Prop) (ks : List Nat) (QS : Fl → Env → Prop) (f : Fl) (r : Env) : Prop := ((f = .nx ∨ f = .ct) ∧ Go (kill ks r)) ∨ (f = .bk ∧ QS .nx (kill ks r)) ∨ ∃ d, f = .rt d ∧ QS f r
theorem forL_go {tg : Tg} {b : SS} {ks : List Nat} {QS : Fl → Env → Prop} {xs : List D} {Inv : Nat → Env → Prop} (step : ∀ k x, xs[k]? = some x → ∀ r, Inv k r → ∃ r1, tg.put x r = some r1 ∧ Ok (b r1) (Turn (Inv (k + 1)) ks QS)) (fin : ∀ r, Inv xs.length r → QS .nx (kill ks r)) :
    ∀ (ys : List D) (k : Nat) (r : Env), xs.drop k = ys → k ≤ xs.length → Inv k r → Ok (forL tg b ks ys r) QS
  | [], k, r, h, hk, hi => by
    rw [forL_nil]
    have : k = xs.length := by
      have := congrArg List.length h
      simp at this
      omega
    subst this
    exact fin r hi
  | y :: ys, k, r, h, hk, hi => by
    have hx : xs[k]? = some y := by
      have e := congrArg (fun l : List D => l[0]?) h
      simpa using e
    have hlt := (List.getElem?_eq_some_iff.mp hx).1
    have hd : xs.drop (k + 1) = ys := by
      rw [← List.drop_drop, h]
      rfl
    obtain ⟨r1, e1, o⟩ := step k y hx r hi
    rw [forL_cons]
    refine ⟨r1, e1, o.imp fun f r2 q => ?_⟩
    rcases q with ⟨rfl | rfl, q⟩ | ⟨rfl, q⟩ | ⟨d, rfl, q⟩
    · exact forL_go step fin ys (k + 1) _ hd hlt q
    · exact forL_go step fin ys (k + 1) _ hd hlt q
    · exact q
    · exact q
theorem forL_inv {tg : Tg} {b : SS} {ks : List Nat} {QS : Fl → Env → Prop} {xs : List D} {r : Env} (Inv : Nat → Env → Prop) (h0 : Inv 0 r) (step : ∀ k x, xs[k]? = some x → ∀ r, Inv k r → ∃ r1, tg.put x r = some r1 ∧ Ok (b r1) (Turn (Inv (k + 1)) ks QS)) (fin : ∀ r, Inv xs.length r → QS .nx (kill ks r)) :
    Ok (forL tg b ks xs r) QS := forL_go step fin xs 0 r rfl (Nat.zero_le _) h0
/-- over a range, one name -/
theorem forL_rg {i : Nat} {b : SS} {ks : List Nat} {QS : Fl → Env → Prop} {n : Nat} {r : Env} (Inv : Nat → Env → Prop) (h0 : Inv 0 r) (step : ∀ k, k < n → ∀ r, Inv k r → Ok (b (r.set i (some (nD k)))) (Turn (Inv (k + 1)) ks QS)) (fin : ∀ r, Inv n r → QS .nx (kill ks r)) :
    Ok (forL (.nm i) b ks ((List.range n).map nD) r) QS := by
  refine forL_inv Inv h0 (fun k x hx r hi => ?_) (by simpa using fin)
  rw [List.getElem?_map] at hx
  obtain ⟨j, hj, rfl⟩ := Option.map_eq_some_iff.mp hx
  obtain ⟨hl, e⟩ := List.getElem?_eq_some_iff.mp hj
  simp at hl e
  subst e
  exact ⟨_, rfl, step _ hl r hi⟩
/-- over encoded things, one name -/
theorem forL_map {α : Type} {f : α → D} {i : Nat} {b : SS} {ks : List Nat} {QS : Fl → Env → Prop} {xs : List α} {r : Env} (Inv : Nat → Env → Prop) (h0 : Inv 0 r) (step : ∀ k x, xs[k]? = some x → ∀ r, Inv k r → Ok (b (r.set i (some (f x)))) (Turn (Inv (k + 1)) ks QS)) (fin : ∀ r, Inv xs.length r → QS .nx (kill ks r)) :
    Ok (forL (.nm i) b ks (xs.map f) r) QS := by
  refine forL_inv Inv h0 (fun k x hx r hi => ?_) (by simpa using fin)
  rw [List.getElem?_map] at hx
  obtain ⟨j, hj, rfl⟩ := Option.map_eq_some_iff.mp hx
  exact ⟨_, rfl, step k j hj r hi⟩
theorem while_inv {c : SB} {b : SS} {ks : List Nat} {QS : Fl → Env → Prop} {r : Env} (Inv : Nat → Env → Prop) {m0 : Nat} (h0 : Inv m0 (kill ks r)) (step : ∀ m r, Inv m r → Ok (c r) fun t r1 => if t = true then Ok (b r1) (Turn (fun r2 => ∃ m', m' < m ∧ Inv m' r2) ks QS) else QS .nx (kill ks r1)) :
    Ok (sWhile c b ks r) QS := by
  have go : ∀ m, ∀ r, Inv m r → ∃ N, Ok (whN c b ks N r) QS := by
    intro m
    induction m using Nat.strongRecOn with
    | ind m ih =>
      intro r hi
      obtain ⟨t, r1, e1, q⟩ := step m r hi
      cases t with
      | false =>
        refine ⟨1, .nx, kill ks r1, ?_, by simpa using q⟩
        unfold whN
        rw [e1]
        rfl
      | true =>
        simp only [if_true] at q
        obtain ⟨f, r2, e2, q⟩ := q
        rcases q with ⟨hf, m', hm, hi'⟩ | ⟨rfl, q⟩ | ⟨d, rfl, q⟩
        · obtain ⟨N, f', r', e3, q⟩ := ih m' hm _ hi'
          refine ⟨N + 1, f', r', ?_, q⟩
          unfold whN
          rw [e1, bind_ok, if_pos rfl, e2, bind_ok]
          rcases hf with rfl | rfl <;> exact e3
        · refine ⟨1, .nx, kill ks r2, ?_, q⟩
          unfold whN
          rw [e1, bind_ok, if_pos rfl, e2]
          rfl
        · refine ⟨1, .rt d, r2, ?_, q⟩
          unfold whN
          rw [e1, bind_ok, if_pos rfl, e2]
          rfl
  obtain ⟨N, f, r', e, q⟩ := go m0 _ h0
  exact ⟨f, r', while_of e, q⟩
/-- a comprehension over encoded things; nothing changes -/
theorem lc_goM {α : Type} {f : α → D} {c : SB} {s : SE} {i : Nat} {p : α → Bool} {g : α → D} {r0 : Env} : ∀ {xs : List α} {acc : List D} {r : Env}, (∀ o, r.set i o = r0.set i o) → (∀ x ∈ xs, c (r0.set i (some (f x))) = .ok (p x) (r0.set i (some (f x)))) → (∀ x ∈ xs, p x = true → s (r0.set i (some (f x))) = .ok (g x) (r0.set i (some (f x)))) →
    ∃ r', lcG (.nm i) c (lcE s) [i] (xs.map f) acc r = .ok (acc ++ (xs.filter p).map g) r' ∧ ∀ o, r'.set i o = r0.set i o
  | [], acc, r, h, _, _ => ⟨r, by simp [lcG], h⟩
  | x :: xs, acc, r, h, hc, hs => by
    have e : (kill [i] r).set i (some (f x)) = r0.set i (some (f x)) := by rw [kill_cons, kill_nil, set_set, h]
    have h2 : ∀ o, (r0.set i (some (f x))).set i o = r0.set i o := fun o => set_set
    rw [List.map_cons]
    unfold lcG
    simp only [put_nm, e]
    rw [hc x List.mem_cons_self, bind_ok]
    cases hp : p x with
    | false =>
      obtain ⟨r', e1, e2⟩ := lc_goM (xs := xs) (acc := acc) h2 (fun y m => hc y (List.mem_cons_of_mem _ m)) (fun y m => hs y (List.mem_cons_of_mem _ m))
      refine ⟨r', ?_, e2⟩
      simp only [Bool.false_eq_true, if_false]
      rw [e1, List.filter_cons_of_neg (by rw [hp]; decide)]
    | true =>
      obtain ⟨r', e1, e2⟩ := lc_goM (xs := xs) (acc := acc ++ [g x]) h2 (fun y m => hc y (List.mem_cons_of_mem _ m)) (fun y m => hs y (List.mem_cons_of_mem _ m))
      refine ⟨r', ?_, e2⟩
      simp only [if_true]
      rw [lcE, hs x List.mem_cons_self hp, bind_ok, bind_ok, e1, List.filter_cons_of_pos hp]
      simp
theorem lc_map {α : Type} {f : α → D} {it : SI} {c : SB} {s : SE} {i : Nat} {p : α → Bool} {g : α → D} {r r1 : Env} {xs : List α} (hi : it r = .ok (xs.map f) r1) (hc : ∀ x ∈ xs, c (r1.set i (some (f x))) = .ok (p x) (r1.set i (some (f x)))) (hs : ∀ x ∈ xs, p x = true → s (r1.set i (some (f x))) = .ok (g x) (r1.set i (some (f x)))) :
    sLc (.nm i) it c (lcE s) [i] r = .ok (.list ((xs.filter p).map g)) r1 := by
  obtain ⟨r', e1, e2⟩ := lc_goM (f := f) (c := c) (s := s) (p := p) (g := g) (r0 := r1) (xs := xs) (acc := []) (fun _ => rfl) hc hs
  unfold sLc
  rw [hi, bind_ok, e1, bind_ok, back1 e2]
  simp
theorem rg1_eq {a : SE} {r : Env} {n : Nat} (h : a r = .ok (nD n) r) (hn : n ≤ 1000) : itRg1 a r = .ok ((List.range n).map nD) r := by
  refine eq_of_ok (rg1_ok ⟨_, _, h, n, rfl, hn, rfl, rfl⟩)
/-! ### natural numbers, ascending -/
def sortN (xs : List Nat) : List Nat := xs.mergeSort fun a b => decide (a ≤ b)
theorem sortN_perm (xs : List Nat) : (sortN xs).Perm xs := List.mergeSort_perm xs _
theorem sortN_pair (xs : List Nat) : (sortN xs).Pairwise (· ≤ ·) := by
  have h := List.pairwise_mergeSort (le := fun a b : Nat => decide (a ≤ b)) (fun a b c h1 h2 => by simp only [decide_eq_true_eq] at *; omega) (fun a b => by simp only [Bool.or_eq_true, decide_eq_true_eq]; omega) xs
  exact List.Pairwise.imp (fun {a b} h => by simpa using h) h
theorem sortI_nat (xs : List Nat) : sortI (xs.map Int.ofNat) = (sortN xs).map Int.ofNat := by
  refine srt_uniq ((sortI_perm _).trans ((sortN_perm xs).map _).symm) (sortI_pair _) ?_
  rw [List.pairwise_map]
  exact (sortN_pair xs).imp fun {a b} h => by simpa using h
theorem dSorI_nL (xs : List Nat) : dSorI [nL xs] = some (nL (sortN xs)) := by
  unfold nL dSorI
  simp only [ints_nD, Option.map_some, sortI_nat, List.map_map]
  rfl
theorem strict {xs : List Nat} (h : xs.Pairwise (· ≤ ·)) (nd : xs.Nodup) : xs.Pairwise (· < ·) := by
  refine (h.and nd).imp fun {a b} h => ?_
  omega
theorem strict_range (n : Nat) : (List.range n).Pairwise (· < ·) := List.pairwise_lt_range
/-- a strictly ascending list is what its set, sorted, is -/
theorem sortU_strict {xs : List Nat} (h : xs.Pairwise (· < ·)) : sortU (xs.map Int.ofNat) = xs.map Int.ofNat := by
  refine (sortU_uniq ?_ fun k => Iff.rfl).symm
  rw [List.pairwise_map]
  exact h.imp fun {a b} h => by simpa using h
theorem dSortSet_of {d : D} {xs : List Nat} (hd : intsOf d = some (xs.map Int.ofNat)) (h : xs.Pairwise (· < ·)) (hl : xs.length < 64) : dSortSet d = some (nL xs) := by
  unfold dSortSet
  rw [hd]
  simp only [sortU_strict h, List.length_map]
  rw [if_pos ⟨by omega, hl⟩]
  unfold nL
  simp only [List.map_map]
  rfl
theorem dSortSet_nT {xs : List Nat} (h : xs.Pairwise (· < ·)) (hl : xs.length < 64) : dSortSet (nT xs) = some (nL xs) := dSortSet_of (ints_nD xs) h hl
/-- sorted(set(..)), doubles or not -/
theorem dSortSet_gen {d : D} {xs ys : List Nat} (hd : intsOf d = some (xs.map Int.ofNat)) (hx : xs.length < 4000) (h : ys.Pairwise (· < ·)) (hm : ∀ k, k ∈ ys ↔ k ∈ xs) (hl : ys.length < 64) : dSortSet d = some (nL ys) := by
  have e : sortU (xs.map Int.ofNat) = ys.map Int.ofNat := by
    refine (sortU_uniq ?_ fun k => ?_).symm
    · rw [List.pairwise_map]
      exact h.imp fun {a b} h => by simpa using h
    · rw [List.mem_map, List.mem_map]
      exact ⟨fun ⟨a, m, e⟩ => ⟨a, (hm a).mp m, e⟩, fun ⟨a, m, e⟩ => ⟨a, (hm a).mpr m, e⟩⟩
  unfold dSortSet
  rw [hd]
  simp only [e, List.length_map]
  rw [if_pos ⟨hx, hl⟩]
  unfold nL
  simp only [List.map_map]
  rfl
theorem dTuple_nL (xs : List Nat) : dTuple [nL xs] = some (nT xs) := rfl
theorem dList_nL (xs : List Nat) : dList [nL xs] = some (nL xs) := rfl
theorem dList_nT (xs : List Nat) : dList [nT xs] = some (nL xs) := rfl
theorem filt_len {α : Type} (p : α → Bool) : ∀ xs : List α, (xs.filter p).length + (xs.filter fun x => !p x).length = xs.length
  | [] => rfl
  | x :: xs => by
    have := filt_len p xs
    cases h : p x <;> simp [List.filter_cons, h] <;> omega
/-! ### comprehensions with two clauses -/
theorem kill_at : ∀ {ks : List Nat} {r : Env} {m : Nat}, (kill ks r)[m]? = if m ∈ ks then (if m < r.length then some none else none) else r[m]?
  | [], r, m => by simp
  | k :: ks, r, m => by
    rw [kill_cons, List.getElem?_set]
    by_cases e : k = m
    · subst e
      have hl : (kill ks r).length = r.length := kill_len ks r
      simp [hl]
    · rw [if_neg e, kill_at (ks := ks)]
      have : (m ∈ k :: ks) = (m ∈ ks) := by
        rw [List.mem_cons]
        exact propext ⟨fun h => h.resolve_left (Ne.symm e), .inr⟩
      simp only [this]
theorem back_at : ∀ {ks : List Nat} {r0 r : Env} {m : Nat}, r.length = r0.length → (back ks r0 r)[m]? = if m ∈ ks then r0[m]? else r[m]?
  | [], r0, r, m, _ => by simp
  | k :: ks, r0, r, m, hl => by
    unfold back
    have hb : (back ks r0 r).length = r.length := back_len
    cases e : r0[k]? with
    | none =>
      simp only
      rw [back_at (ks := ks) hl]
      by_cases h : m ∈ ks
      · rw [if_pos h, if_pos (List.mem_cons_of_mem _ h)]
      · by_cases e2 : m = k
        · subst e2
          rw [if_neg h, if_pos List.mem_cons_self, e]
          have := List.getElem?_eq_none_iff.mp e
          exact List.getElem?_eq_none_iff.mpr (by omega)
        · rw [if_neg h, if_neg (by rw [List.mem_cons]; exact fun z => z.elim e2 h)]
    | some o =>
      simp only
      rw [List.getElem?_set]
      by_cases e2 : k = m
      · subst e2
        have := (List.getElem?_eq_some_iff.mp e).1
        rw [if_pos rfl, if_pos (by omega), if_pos List.mem_cons_self, e]
      · rw [if_neg e2, back_at (ks := ks) hl]
        have : (m ∈ k :: ks) = (m ∈ ks) := by
          rw [List.mem_cons]
          exact propext ⟨fun h => h.resolve_left (Ne.symm e2), .inr⟩
        simp only [this]
theorem back_kill {ks : List Nat} {r0 r : Env} (h : kill ks r = kill ks r0) : back ks r0 r = r0 := by
  have hl : r.length = r0.length := by
    have := congrArg List.length h
    rwa [kill_len, kill_len] at this
  refine List.ext_getElem? fun m => ?_
  rw [back_at hl]
  by_cases e : m ∈ ks
  · rw [if_pos e]
  · rw [if_neg e]
    have := congrArg (fun l : Env => l[m]?) h
    simp only [kill_at, if_neg e] at this
    exact this
theorem set_comm {r : Env} {i j : Nat} {a b : Option D} (h : i ≠ j) : (r.set i a).set j b = (r.set j b).set i a := List.set_comm _ _ h
section
variable {α β : Type} {f : α → D} {f1 : β → D} {i j : Nat} {r : Env}
/-- the names' places within the clauses -/
def e1 (r : Env) (i j : Nat) (x : D) : Env := (r.set j none).set i (some x)
def e2 (r : Env) (i j : Nat) (x y : D) : Env := (r.set j (some y)).set i (some x)
theorem lc2_go {it1 : SI} {c c1 : SB} {s : SE} {p : α → Bool} {p1 : α → β → Bool} {g : α → β → D} {ys : α → List β} (hij : i ≠ j) : ∀ {xs : List α} {acc : List D} {r' : Env}, kill [i, j] r' = kill [i, j] r →
    (∀ x ∈ xs, c (e1 r i j (f x)) = .ok (p x) (e1 r i j (f x))) → (∀ x ∈ xs, p x = true → it1 (e1 r i j (f x)) = .ok ((ys x).map f1) (e1 r i j (f x))) →
    (∀ x ∈ xs, p x = true → ∀ y ∈ ys x, c1 (e2 r i j (f x) (f1 y)) = .ok (p1 x y) (e2 r i j (f x) (f1 y))) → (∀ x ∈ xs, p x = true → ∀ y ∈ ys x, p1 x y = true → s (e2 r i j (f x) (f1 y)) = .ok (g x y) (e2 r i j (f x) (f1 y))) →
    (acc.length + ((xs.filter p).map fun x => (ys x).length).sum ≤ line) →
    ∃ r2, lcG (.nm i) c (lcI (.nm j) it1 c1 (lcE s) [j]) [i, j] (xs.map f) acc r' = .ok (acc ++ (xs.filter p).flatMap fun x => ((ys x).filter (p1 x)).map (g x)) r2 ∧ kill [i, j] r2 = kill [i, j] r
  | [], acc, r', h, _, _, _, _, _ => ⟨r', by simp [lcG], h⟩
  | x :: xs, acc, r', h, hc, hi, hc1, hs, hl => by
    have e : (kill [i, j] r').set i (some (f x)) = e1 r i j (f x) := by
      rw [h]
      simp only [kill_cons, kill_nil, set_set]
      rfl
    rw [List.map_cons]
    unfold lcG
    simp only [put_nm, e]
    rw [hc x List.mem_cons_self, bind_ok]
    have next : ∀ (acc' : List D) (r'' : Env), kill [i, j] r'' = kill [i, j] r → acc'.length + ((xs.filter p).map fun x => (ys x).length).sum ≤ line → ∃ r2, lcG (.nm i) c (lcI (.nm j) it1 c1 (lcE s) [j]) [i, j] (xs.map f) acc' r'' = .ok (acc' ++ (xs.filter p).flatMap fun x => ((ys x).filter (p1 x)).map (g x)) r2 ∧ kill [i, j] r2 = kill [i, j] r := fun acc' r'' hk hl' =>
      lc2_go hij hk (fun y m => hc y (List.mem_cons_of_mem _ m)) (fun y m => hi y (List.mem_cons_of_mem _ m)) (fun y m => hc1 y (List.mem_cons_of_mem _ m)) (fun y m => hs y (List.mem_cons_of_mem _ m)) hl'
    have k1 : ∀ o : Option D, kill [i, j] ((e1 r i j (f x)).set j o) = kill [i, j] r := fun o => by
      unfold e1
      simp only [kill_cons, kill_nil, set_set]
      rw [set_comm hij, set_set, set_set]
    have k0 : kill [i, j] (e1 r i j (f x)) = kill [i, j] r := by
      unfold e1
      simp only [kill_cons, kill_nil]
      rw [set_comm hij, set_set, set_set]
    cases hp : p x with
    | false =>
      simp only [Bool.false_eq_true, if_false]
      rw [List.filter_cons_of_neg (by rw [hp]; decide)] at hl ⊢
      exact next acc _ k0 hl
    | true =>
      simp only [if_true]
      rw [List.filter_cons_of_pos hp] at hl ⊢
      rw [List.map_cons, List.sum_cons] at hl
      have es : ∀ y, (e1 r i j (f x)).set j (some y) = e2 r i j (f x) y := fun y => by
        unfold e1 e2
        rw [set_comm hij, set_set]
      obtain ⟨r3, e3, h3⟩ := lc_goM (f := f1) (c := c1) (s := s) (i := j) (p := p1 x) (g := g x) (r0 := e1 r i j (f x)) (xs := ys x) (acc := acc) (r := e1 r i j (f x)) (fun _ => rfl) (fun y m => by rw [es]; exact hc1 x List.mem_cons_self hp y m) (fun y m q => by rw [es]; exact hs x List.mem_cons_self hp y m q)
      have hin : lcI (.nm j) it1 c1 (lcE s) [j] acc (e1 r i j (f x)) = .ok (acc ++ ((ys x).filter (p1 x)).map (g x)) (kill [j] r3) := by
        unfold lcI
        rw [hi x List.mem_cons_self hp, bind_ok, List.length_map, if_pos (by omega), e3, bind_ok]
      rw [hin, bind_ok]
      have hk3 : kill [i, j] (kill [j] r3) = kill [i, j] r := by
        have : kill [j] r3 = (e1 r i j (f x)).set j none := by
          rw [kill_cons, kill_nil]; exact h3 none
        rw [this]; exact k1 none
      have hle : (((ys x).filter (p1 x)).map (g x)).length ≤ (ys x).length := by rw [List.length_map]; exact List.length_filter_le ..
      obtain ⟨r4, e4, h4⟩ := next (acc ++ ((ys x).filter (p1 x)).map (g x)) _ hk3 (by rw [List.length_append]; omega)
      refine ⟨r4, ?_, h4⟩
      rw [e4, List.flatMap_cons, List.append_assoc]
theorem lc2_map {it it1 : SI} {c c1 : SB} {s : SE} {p : α → Bool} {p1 : α → β → Bool} {g : α → β → D} {ys : α → List β} {xs : List α} {r0 : Env} (hij : i ≠ j) (h0 : it r0 = .ok (xs.map f) r) (hc : ∀ x ∈ xs, c (e1 r i j (f x)) = .ok (p x) (e1 r i j (f x))) (hi : ∀ x ∈ xs, p x = true → it1 (e1 r i j (f x)) = .ok ((ys x).map f1) (e1 r i j (f x)))
    (hc1 : ∀ x ∈ xs, p x = true → ∀ y ∈ ys x, c1 (e2 r i j (f x) (f1 y)) = .ok (p1 x y) (e2 r i j (f x) (f1 y))) (hs : ∀ x ∈ xs, p x = true → ∀ y ∈ ys x, p1 x y = true → s (e2 r i j (f x) (f1 y)) = .ok (g x y) (e2 r i j (f x) (f1 y)))
    (hl : ((xs.filter p).map fun x => (ys x).length).sum ≤ line) : sLc (.nm i) it c (lcI (.nm j) it1 c1 (lcE s) [j]) [i, j] r0 = .ok (.list ((xs.filter p).flatMap fun x => ((ys x).filter (p1 x)).map (g x))) r := by
  obtain ⟨r2, a, b⟩ := lc2_go (f := f) (f1 := f1) (r := r) (acc := []) hij rfl hc hi hc1 hs (by simpa using hl)
  unfold sLc
  rw [h0, bind_ok, a, bind_ok, back_kill b]
  simp
end
theorem bools_map (bs : List Bool) : bools (bs.map .bool) = some bs := by
  induction bs with
  | nil => rfl
  | cons b bs ih => simp [bools, ih]
theorem dAll_map {α : Type} (xs : List α) (p : α → Bool) : dAll [.list (xs.map fun x => .bool (p x))] = some (.bool (xs.all p)) := by
  have e : xs.map (fun x => PyData.bool (p x)) = (xs.map p).map .bool := by rw [List.map_map]; rfl
  unfold dAll
  rw [e]
  simp only [bools_map, Option.map_some]
  simp [List.all_map]
theorem dMax2_nD (a b : Nat) : dMax2 [nD a, nD b] = some (nD (max a b)) := by
  unfold dMax2 nD
  simp only
  congr 2
  split <;> omega
theorem dSl_tail (x : D) (xs : List D) : dSl (some 1) none (.list (x :: xs)) = some (.list xs) := by
  simp [dSl, cutD, slD]
theorem dAdd_nL (xs ys : List Nat) (h : xs.length + ys.length ≤ line) : dAdd (nL xs) (nL ys) = some (nL (xs ++ ys)) := by
  simp [dAdd, nL, h]
theorem eqv_nL (a b : List Nat) : PyData.eqv (nL a) (nL b) = decide (a = b) := by
  unfold nL
  rw [eqv_ll, eqvAll_map eqv_nD]
theorem eqv_nT (a b : List Nat) : PyData.eqv (nT a) (nT b) = decide (a = b) := by
  unfold nT
  rw [eqv_tt, eqvAll_map eqv_nD]
theorem sm_nL {n : Nat} {a : List Nat} : Sm (n + 1) (nL a) := sm_lst (sm_map fun _ => sm_nD)
theorem sm_nT {n : Nat} {a : List Nat} : Sm (n + 1) (nT a) := sm_tup (sm_map fun _ => sm_nD)
theorem dNe_nT (a b : List Nat) : dNe (nT a) (nT b) = some (.bool (!decide (a = b))) := dNe_mapT (n := 0) eqv_nD (fun _ => sm_nD) a b
theorem dEq_nT (a b : List Nat) : dEq (nT a) (nT b) = some (.bool (decide (a = b))) := dEq_mapT (n := 0) eqv_nD (fun _ => sm_nD) a b
theorem dEq_nL (a b : List Nat) : dEq (nL a) (nL b) = some (.bool (decide (a = b))) := dEq_map (n := 0) eqv_nD (fun _ => sm_nD) a b
theorem dNe_nL (a b : List Nat) : dNe (nL a) (nL b) = some (.bool (!decide (a = b))) := dNe_map (n := 0) eqv_nD (fun _ => sm_nD) a b
theorem eqv_bb (a b : Bool) : PyData.eqv (.bool a) (.bool b) = (a == b) := by rw [PyData.eqv]
theorem dEq_bool (a b : Bool) : dEq (.bool a) (.bool b) = some (.bool (a == b)) := by
  unfold dEq
  rw [if_pos ⟨(sm_bool (n := 0)).shp, (sm_bool (n := 0)).shp⟩, eqv_bb]
theorem dNe_bool (a b : Bool) : dNe (.bool a) (.bool b) = some (.bool (a != b)) := by
  unfold dNe
  rw [if_pos ⟨(sm_bool (n := 0)).shp, (sm_bool (n := 0)).shp⟩, eqv_bb]
  rfl
theorem filt_true {α : Type} : ∀ l : List α, (l.filter fun _ => true) = l
  | [] => rfl
  | x :: l => by rw [List.filter_cons_of_pos rfl, filt_true l]
/-! ### comprehensions during which things change -/
theorem lcG_go {tg : Tg} {c : SB} {body : List D → Env → R (List D)} {own : List Nat} {xs : List D} {Inv : Nat → List D → Env → Prop} (step : ∀ k x, xs[k]? = some x → ∀ acc r, Inv k acc r → ∃ r1, tg.put x (kill own r) = some r1 ∧ Ok (c r1) fun b r2 => if b = true then Ok (body acc r2) fun acc' r3 => Inv (k + 1) acc' r3 else Inv (k + 1) acc r2) :
    ∀ (ys : List D) (k : Nat) (acc : List D) (r : Env), xs.drop k = ys → k ≤ xs.length → Inv k acc r → Ok (lcG tg c body own ys acc r) fun zs r' => Inv xs.length zs r'
  | [], k, acc, r, h, hk, hi => by
    have : k = xs.length := by
      have := congrArg List.length h
      simp at this
      omega
    subst this
    exact ⟨acc, r, rfl, hi⟩
  | y :: ys, k, acc, r, h, hk, hi => by
    have hx : xs[k]? = some y := by
      have e := congrArg (fun l : List D => l[0]?) h
      simpa using e
    have hlt := (List.getElem?_eq_some_iff.mp hx).1
    have hd : xs.drop (k + 1) = ys := by
      rw [← List.drop_drop, h]
      rfl
    obtain ⟨r1, e1, o⟩ := step k y hx acc r hi
    unfold lcG
    rw [e1]
    simp only [ok_bind]
    refine o.imp fun b r2 q => ?_
    cases b with
    | false =>
      simp only [Bool.false_eq_true, if_false] at q ⊢
      exact lcG_go step ys (k + 1) _ _ hd hlt q
    | true =>
      simp only [if_true, ok_bind] at q ⊢
      exact q.imp fun acc' r3 q => lcG_go step ys (k + 1) _ _ hd hlt q
theorem ok_Lc {tg : Tg} {it : SI} {c : SB} {body : List D → Env → R (List D)} {own : List Nat} {r : Env} {Q : D → Env → Prop} (Inv : Env → Nat → List D → Env → Prop) (h : Ok (it r) fun xs r1 => Inv r1 0 [] r1 ∧
    (∀ k x, xs[k]? = some x → ∀ acc r, Inv r1 k acc r → ∃ r2, tg.put x (kill own r) = some r2 ∧ Ok (c r2) fun b r3 => if b = true then Ok (body acc r3) fun acc' r4 => Inv r1 (k + 1) acc' r4 else Inv r1 (k + 1) acc r3) ∧ ∀ ys r2, Inv r1 xs.length ys r2 → Q (.list ys) (back own r1 r2)) : Ok (sLc tg it c body own r) Q := by
  unfold sLc
  rw [ok_bind]
  refine h.imp fun xs r1 ⟨h0, step, fin⟩ => ?_
  rw [ok_bind]
  refine (lcG_go step xs 0 [] r1 rfl (Nat.zero_le _) h0).imp fun ys r2 q => ?_
  rw [ok_ok]
  exact fin ys r2 q
theorem ok_lcE {s : SE} {acc : List D} {r : Env} {Q : List D → Env → Prop} : Ok (lcE s acc r) Q ↔ Ok (s r) fun y r1 => Q (acc ++ [y]) r1 := by simp [lcE]
theorem lc_map0 {α : Type} {f : α → D} {it : SI} {c : SB} {s : SE} {i : Nat} {p : α → Bool} {g : α → D} {r : Env} {xs : List α} (hi : it r = .ok (xs.map f) r) (hc : ∀ x ∈ xs, c (r.set i (some (f x))) = .ok (p x) (r.set i (some (f x)))) (hs : ∀ x ∈ xs, p x = true → s (r.set i (some (f x))) = .ok (g x) (r.set i (some (f x)))) :
    sLc (.nm i) it c (lcE s) [i] r = .ok (.list ((xs.filter p).map g)) r := lc_map hi hc hs
end J

set_option Elab.async false
set_option linter.all false
set_option maxRecDepth 100000
/-! JP2: the tool box, more of it: steps of a text at once, sorted, slices. -/
namespace J
open PySem
open PySem.W (dataLe alike alikeAll keyToks keyToksAll)

def okL := And.intro @ok_Seq (And.intro @ok_Set (And.intro @ok_Asg (And.intro @ok_ParN (And.intro @ok_If (And.intro @ok_Ret (And.intro @ok_X (And.intro @ok_Pass (And.intro @ok_Bk (And.intro @ok_Ct (And.intro @ok_C (And.intro @ok_V (And.intro @ok_Nil (And.intro @ok_Cons (And.intro @ok_Tup (And.intro @ok_Lst (And.intro @ok_Bin (And.intro @ok_Un (And.intro @ok_Fn (And.intro @ok_T (And.intro @ok_OfB (And.intro @ok_And (And.intro @ok_Or (And.intro @ok_Not (And.intro @ok_IfE (And.intro @ok_Part (And.intro @ok_NoPart (And.intro @ok_Sl (And.intro @ok_itSeq (And.intro @getS_zero (And.intro @getS_succ (And.intro @getS_nil (And.intro @kill_nil (And.intro @kill_cons (And.intro @put_nm (And.intro @put_tp (And.intro @setAll_nil (And.intro @setAll_cons (@outsOf_nil))))))))))))))))))))))))))))))))))))))
theorem int_lit (n : Nat) : PyData.int (OfNat.ofNat n) = nD (OfNat.ofNat n) := rfl
/-! ### how a def ends, how a turn ends -/
def Ends (ios : List Nat) (P : D → List D → Prop) (f : Fl) (r : Env) : Prop := ∃ d outs, outsOf ios r = some outs ∧ (f = .rt d ∨ (f = .nx ∧ d = .none)) ∧ P d outs
theorem ends_rt {ios : List Nat} {P : D → List D → Prop} {r : Env} {d : D} {outs : List D} (h : outsOf ios r = some outs) (p : P d outs) : Ends ios P (.rt d) r := ⟨d, outs, h, .inl rfl, p⟩
theorem ends_rt0 {P : D → List D → Prop} {r : Env} {d : D} (p : P d []) : Ends [] P (.rt d) r := ⟨d, [], rfl, .inl rfl, p⟩
theorem ends_nx {ios : List Nat} {P : D → List D → Prop} {r : Env} {outs : List D} (h : outsOf ios r = some outs) (p : P .none outs) : Ends ios P .nx r := ⟨.none, outs, h, .inr ⟨rfl, rfl⟩, p⟩
theorem run_e {n : Nat} {ios : List Nat} {body : SS} {ds : List D} {P : D → List D → Prop} (h : Ok (body (ds.map some ++ List.replicate (n - ds.length) none)) (Ends ios P)) : ∃ d outs, runD n ios body ds = .ok d outs ∧ P d outs := by
  obtain ⟨f, r, e, d, outs, ho, hf, p⟩ := h
  exact ⟨d, outs, run_ok ⟨f, r, e, ho, hf⟩, p⟩
/-- a def that only tells a value -/
theorem run_v {n : Nat} {body : SS} {ds : List D} {d : D} (h : Ok (body (ds.map some ++ List.replicate (n - ds.length) none)) (Ends [] fun x _ => x = d)) : runD n [] body ds = .ok d [] := by
  obtain ⟨f, r, e, d, outs, ho, hf, rfl⟩ := h
  exact run_ok ⟨f, r, e, rfl, hf⟩
section
variable {Go : Env → Prop} {ks : List Nat} {QS : Fl → Env → Prop} {r : Env}
theorem turn_nx (h : Go (kill ks r)) : Turn Go ks QS .nx r := .inl ⟨.inl rfl, h⟩
theorem turn_ct (h : Go (kill ks r)) : Turn Go ks QS .ct r := .inl ⟨.inr rfl, h⟩
theorem turn_bk (h : QS .nx (kill ks r)) : Turn Go ks QS .bk r := .inr (.inl ⟨rfl, h⟩)
theorem turn_rt {d : D} (h : QS (.rt d) r) : Turn Go ks QS (.rt d) r := .inr (.inr ⟨d, rfl, h⟩)
/-- behind a statement -/
def Then (b : SS) (QS : Fl → Env → Prop) (f : Fl) (r : Env) : Prop := match f with
  | .nx => Ok (b r) QS
  | f => QS f r
theorem seq_th {a b : SS} (h : Ok (a r) (Then b QS)) : Ok (sSeq a b r) QS := by
  rw [ok_Seq]
  refine h.imp fun f r1 q => ?_
  cases f <;> exact q
theorem then_nx {b : SS} (h : Ok (b r) QS) : Then b QS .nx r := h
theorem then_rt {b : SS} {d : D} (h : QS (.rt d) r) : Then b QS (.rt d) r := h
end

/-! ### sorted -/
theorem le_int (a b : Int) : dataLe false id (PyData.int a) (PyData.int b) = decide (a ≤ b) := by
  show (!PyProof.Rows.lexLt PyProof.Rows.itemOrd (keyToks (.int b)) (keyToks (.int a))) = _
  simp only [keyToks, PyProof.Rows.lexLt]
  show (!(decide (b < a) || (!decide (a < b) && false))) = _
  rw [Bool.and_false, Bool.or_false]
  by_cases h : b < a
  · rw [decide_eq_true h, decide_eq_false (by omega)]; rfl
  · rw [decide_eq_false h, decide_eq_true (by omega)]; rfl
theorem srtD_ints (ns : List Int) : srtD (ns.map .int) = (sortI ns).map .int := by
  unfold srtD sortI
  exact (List.map_mergeSort fun a _ b _ => (le_int a b).symm).symm
/-- data of one kind can be sorted -/
theorem srtOk_map {α : Type} {f : α → D} {n : Nat} (xs : List α) (ha : ∀ x ∈ xs, ∀ y ∈ xs, alike (f x) (f y) = true) (hk : (∀ x ∈ xs, tupC (f x) = true) ∨ ∀ x ∈ xs, plnC (f x) = true) (hs : ∀ x ∈ xs, Sm n (f x)) (hl : xs.length ≤ line) (hn : n ≤ 62 := by decide) : srtOk (xs.map f) = true := by
  have m : ∀ {p : D → Bool}, (∀ x ∈ xs, p (f x) = true) → (xs.map f).all p = true := fun {p} h => by
    rw [List.all_eq_true]
    intro d hd
    obtain ⟨x, hx, rfl⟩ := List.mem_map.mp hd
    exact h x hx
  unfold srtOk
  rw [Bool.and_eq_true, Bool.and_eq_true, Bool.and_eq_true]
  refine ⟨⟨⟨m fun x hx => m fun y hy => ha x hx y hy, ?_⟩, m fun x hx => ?_⟩, by rw [List.length_map]; exact decide_eq_true hl⟩
  · rw [Bool.or_eq_true]
    exact hk.imp (fun h => m h) fun h => m h
  · rw [(hs x hx).1, Bool.true_and]
    exact decide_eq_true (Nat.le_trans (hs x hx).2 hn)
theorem srtOk_ints (ns : List Int) (h : ns.length ≤ line) : srtOk (ns.map .int) = true :=
  srtOk_map (n := 0) ns (fun _ _ _ _ => by simp [alike]) (.inr fun _ _ => rfl) (fun _ _ => sm_int) h
theorem dSorD_intsL (ns : List Int) (h : ns.length ≤ line) : dSorD [.list (ns.map .int)] = some (.list ((sortI ns).map .int)) := by
  simp only [dSorD, items, Option.bind_some, srtOk_ints ns h, if_true, srtD_ints]
theorem dSorD_intsT (ns : List Int) (h : ns.length ≤ line) : dSorD [.tuple (ns.map .int)] = some (.list ((sortI ns).map .int)) := by
  simp only [dSorD, items, Option.bind_some, srtOk_ints ns h, if_true, srtD_ints]
theorem map_nD (xs : List Nat) : xs.map nD = (xs.map Int.ofNat).map .int := by rw [List.map_map]; rfl
theorem dSorD_nL (xs : List Nat) (h : xs.length ≤ line) : dSorD [nL xs] = some (nL (sortN xs)) := by
  unfold nL
  rw [map_nD, dSorD_intsL _ (by simpa using h), sortI_nat, map_nD]
theorem dSorD_nT (xs : List Nat) (h : xs.length ≤ line) : dSorD [nT xs] = some (nL (sortN xs)) := by
  unfold nT nL
  rw [map_nD, dSorD_intsT _ (by simpa using h), sortI_nat, map_nD]
theorem sortN_uniq {a xs : List Nat} (p : a.Perm xs) (h : a.Pairwise (· ≤ ·)) : a = sortN xs :=
  List.Perm.eq_of_pairwise (fun _ _ _ _ h1 h2 => Nat.le_antisymm h1 h2) h (sortN_pair xs) (p.trans (sortN_perm xs).symm)
/-! ### slices, indices -/
theorem slD_none (n d : Nat) : slD n d none = d := rfl
theorem slD_nat (n d i : Nat) : slD n d (some (i : Int)) = min i n := by
  unfold slD
  simp only
  rw [if_neg (by omega)]
  simp
theorem slD_neg1 (n d : Nat) : slD n d (some (-1)) = n - 1 := by
  unfold slD
  simp only
  rw [if_pos (by decide)]
  omega
theorem cut_map {α : Type} {f : α → D} (xs : List α) (lo hi : Option Int) : cutD (xs.map f) lo hi = ((xs.drop (slD xs.length 0 lo)).take (slD xs.length xs.length hi - slD xs.length 0 lo)).map f := by
  unfold cutD
  rw [List.length_map, ← List.map_drop, ← List.map_take]
theorem cut_lo {α : Type} {f : α → D} (xs : List α) (j : Nat) : cutD (xs.map f) none (some (j : Int)) = (xs.take j).map f := by
  rw [cut_map, slD_none, slD_nat]
  simp only [List.drop_zero, Nat.sub_zero]
  congr 1
  by_cases h : j ≤ xs.length
  · rw [Nat.min_eq_left h]
  · rw [Nat.min_eq_right (by omega), List.take_of_length_le (Nat.le_refl _), List.take_of_length_le (by omega)]
theorem cut_hi {α : Type} {f : α → D} (xs : List α) (j : Nat) : cutD (xs.map f) (some (j : Int)) none = (xs.drop j).map f := by
  rw [cut_map, slD_none, slD_nat]
  congr 1
  by_cases h : j ≤ xs.length
  · rw [Nat.min_eq_left h, List.take_of_length_le (by rw [List.length_drop]; omega)]
  · rw [Nat.min_eq_right (by omega), List.drop_of_length_le (Nat.le_refl _), List.drop_of_length_le (i := j) (by omega)]
    simp
theorem cut_mid {α : Type} {f : α → D} (xs : List α) (i j : Nat) : cutD (xs.map f) (some (i : Int)) (some (j : Int)) = ((xs.drop i).take (j - i)).map f := by
  rw [cut_map, slD_nat, slD_nat]
  congr 1
  by_cases h : i ≤ xs.length
  · rw [Nat.min_eq_left h]
    by_cases h2 : j ≤ xs.length
    · rw [Nat.min_eq_left h2]
    · rw [Nat.min_eq_right (by omega), List.take_of_length_le (i := xs.length - i) (by rw [List.length_drop]; omega), List.take_of_length_le (by rw [List.length_drop]; omega)]
  · rw [List.drop_of_length_le (i := min i xs.length) (by omega), List.drop_of_length_le (i := i) (by omega)]
    simp
theorem cut_m1 {α : Type} {f : α → D} (xs : List α) : cutD (xs.map f) none (some (-1)) = (xs.take (xs.length - 1)).map f := by
  rw [cut_map, slD_none, slD_neg1]
  simp
theorem cut_last {α : Type} {f : α → D} (xs : List α) : cutD (xs.map f) (some (-1)) none = (xs.drop (xs.length - 1)).map f := by
  rw [cut_map, slD_none, slD_neg1]
  congr 1
  rw [List.take_of_length_le (by rw [List.length_drop]; omega)]
theorem intOf_nD (n : Nat) : intOf (nD n) = some (n : Int) := rfl
theorem getD_at {α : Type} {xs : List α} {j : Nat} {d : α} (h : j < xs.length) : xs[j]? = some (xs.getD j d) := by
  rw [List.getD_eq_getElem?_getD, List.getElem?_eq_getElem h]; rfl
theorem dIx_mapL {α : Type} {f : α → D} {xs : List α} {j : Nat} (d : α) (h : j < xs.length) : dIx (.list (xs.map f)) (nD j) = some (f (xs.getD j d)) := dIx_nat (by rw [List.getElem?_map, getD_at (d := d) h]; rfl)
theorem dIx_mapT {α : Type} {f : α → D} {xs : List α} {j : Nat} (d : α) (h : j < xs.length) : dIx (.tuple (xs.map f)) (nD j) = some (f (xs.getD j d)) := dIx_natT (by rw [List.getElem?_map, getD_at (d := d) h]; rfl)
theorem dIx_nL {xs : List Nat} {j : Nat} (h : j < xs.length) : dIx (nL xs) (nD j) = some (nD (xs.getD j 0)) := dIx_mapL 0 h
theorem dIx_nT {xs : List Nat} {j : Nat} (h : j < xs.length) : dIx (nT xs) (nD j) = some (nD (xs.getD j 0)) := dIx_mapT 0 h
section
variable {α : Type} {f : α → D} (xs : List α) (i j : Nat)
theorem dSl_T : dSl none none (.tuple (xs.map f)) = some (.tuple (xs.map f)) := by simp only [dSl, cutD, slD, List.drop_zero, Nat.sub_zero, List.take_length]
theorem dSlT_lo : dSl none (some (j : Int)) (.tuple (xs.map f)) = some (.tuple ((xs.take j).map f)) := by simp only [dSl, cut_lo]
theorem dSlT_hi : dSl (some (j : Int)) none (.tuple (xs.map f)) = some (.tuple ((xs.drop j).map f)) := by simp only [dSl, cut_hi]
theorem dSlT_mid : dSl (some (i : Int)) (some (j : Int)) (.tuple (xs.map f)) = some (.tuple (((xs.drop i).take (j - i)).map f)) := by simp only [dSl, cut_mid]
theorem dSlT_m1 : dSl none (some (-1)) (.tuple (xs.map f)) = some (.tuple ((xs.take (xs.length - 1)).map f)) := by simp only [dSl, cut_m1]
theorem dSlT_last : dSl (some (-1)) none (.tuple (xs.map f)) = some (.tuple ((xs.drop (xs.length - 1)).map f)) := by simp only [dSl, cut_last]
theorem dSlL_lo : dSl none (some (j : Int)) (.list (xs.map f)) = some (.list ((xs.take j).map f)) := by simp only [dSl, cut_lo]
theorem dSlL_hi : dSl (some (j : Int)) none (.list (xs.map f)) = some (.list ((xs.drop j).map f)) := by simp only [dSl, cut_hi]
theorem dSlL_mid : dSl (some (i : Int)) (some (j : Int)) (.list (xs.map f)) = some (.list (((xs.drop i).take (j - i)).map f)) := by simp only [dSl, cut_mid]
theorem dSlL_m1 : dSl none (some (-1)) (.list (xs.map f)) = some (.list ((xs.take (xs.length - 1)).map f)) := by simp only [dSl, cut_m1]
theorem dAdd_mapT {ys : List α} (h : xs.length + ys.length ≤ line) : dAdd (.tuple (xs.map f)) (.tuple (ys.map f)) = some (.tuple ((xs ++ ys).map f)) := by simp [dAdd, h]
theorem dAdd_mapL {ys : List α} (h : xs.length + ys.length ≤ line) : dAdd (.list (xs.map f)) (.list (ys.map f)) = some (.list ((xs ++ ys).map f)) := by simp [dAdd, h]
end
theorem len_nT {i : Nat} {r : Env} {xs : List Nat} (h : getS r i = some (nT xs)) : (sFn dLen (sCons (sV i) sNil)) r = .ok (nD xs.length) r := eq_of_ok (by simp only [okL, h, Option.some.injEq, exists_eq_left', dLen_nT]; exact ⟨trivial, trivial⟩)
theorem len_L {i : Nat} {r : Env} {xs : List D} (h : getS r i = some (.list xs)) : (sFn dLen (sCons (sV i) sNil)) r = .ok (nD xs.length) r := eq_of_ok (by simp only [okL, h, Option.some.injEq, exists_eq_left', dLen_L]; exact ⟨trivial, trivial⟩)
theorem len_T {i : Nat} {r : Env} {xs : List D} (h : getS r i = some (.tuple xs)) : (sFn dLen (sCons (sV i) sNil)) r = .ok (nD xs.length) r := eq_of_ok (by simp only [okL, h, Option.some.injEq, exists_eq_left', dLen_T]; exact ⟨trivial, trivial⟩)
theorem nm_eq {i : Nat} {r : Env} {d : D} (h : getS r i = some d) : sV i r = .ok d r := by simp [sV, h, lift]
theorem add1_eq {e : SE} {r : Env} {k : Nat} (h : e r = .ok (nD k) r) : sBin dAdd e (sC (.int 1)) r = .ok (nD (k + 1)) r := by
  simp only [sBin, h, bind_ok, sC, show PyData.int 1 = nD 1 from rfl, dAdd_nD, lift]
theorem rg2_eq {a b : SE} {r : Env} {i j : Nat} (h : a r = .ok (nD i) r) (h2 : b r = .ok (nD j) r) (hi : i ≤ 1000) (hj : j ≤ 1000) : itRg2 a b r = .ok ((List.range' i (j - i)).map nD) r := by
  have hl : line = 16777216 := rfl
  refine eq_of_ok (ok_itRg2.mpr ⟨_, _, h, _, _, h2, i, j, rfl, rfl, ⟨⟨by omega, by omega⟩, ⟨by omega, by omega⟩, by omega⟩, ?_, rfl⟩)
  unfold upTo nD
  rw [List.range'_eq_map_range, List.map_map, show ((j : Int) - (i : Int)).toNat = j - i by omega]
  refine List.map_congr_left fun k _ => ?_
  show PyData.int _ = PyData.int _
  congr 1
/-- over a range from i -/
theorem forL_rg2 {v : Nat} {b : SS} {ks : List Nat} {QS : Fl → Env → Prop} {i n : Nat} {r : Env} (Inv : Nat → Env → Prop) (h0 : Inv i r) (step : ∀ k, i ≤ k → k < i + n → ∀ r, Inv k r → Ok (b (r.set v (some (nD k)))) (Turn (Inv (k + 1)) ks QS)) (fin : ∀ r, Inv (i + n) r → QS .nx (kill ks r)) :
    Ok (forL (.nm v) b ks ((List.range' i n).map nD) r) QS := by
  refine forL_inv (fun k r => Inv (i + k) r) h0 (fun k x hx r hi => ?_) (by simpa using fin)
  rw [List.getElem?_map] at hx
  obtain ⟨j, hj, rfl⟩ := Option.map_eq_some_iff.mp hx
  obtain ⟨hl, e⟩ := List.getElem?_eq_some_iff.mp hj
  simp at hl e
  subst e
  exact ⟨_, rfl, step _ (by omega) (by omega) r hi⟩
/-! ### kinds, sets, chains of tests -/
theorem isa_int (i : Int) : dIsa "int" (.int i) = some (.bool true) := rfl
theorem isa_int_b (b : Bool) : dIsa "int" (.bool b) = some (.bool true) := rfl
theorem isa_bool (i : Int) : dIsa "bool" (.int i) = some (.bool false) := rfl
theorem isa_bool_b (b : Bool) : dIsa "bool" (.bool b) = some (.bool true) := rfl
theorem isa_tup (xs : List D) : dIsa "tuple" (.tuple xs) = some (.bool true) := rfl
theorem isa_tup_l (xs : List D) : dIsa "tuple" (.list xs) = some (.bool false) := rfl
theorem isa_tup_i (i : Int) : dIsa "tuple" (.int i) = some (.bool false) := rfl
theorem isa_tup_n : dIsa "tuple" .none = some (.bool false) := rfl
theorem isa_lst (xs : List D) : dIsa "list" (.list xs) = some (.bool true) := rfl
theorem isa_lst_t (xs : List D) : dIsa "list" (.tuple xs) = some (.bool false) := rfl
theorem sortU_cons (x : Int) (xs : List Int) : (sortU (x :: xs)).length = if x ∈ xs then (sortU xs).length else (sortU xs).length + 1 := by
  split
  · rename_i h
    refine (sortU_len (sortU_nodup xs) fun k => ?_).symm
    rw [mem_sortU, List.mem_cons]
    exact ⟨.inr, fun z => z.elim (fun e => e ▸ h) id⟩
  · rename_i h
    refine (sortU_len (a := x :: sortU xs) (List.nodup_cons.mpr ⟨fun z => h (mem_sortU.mp z), sortU_nodup xs⟩) fun k => ?_).symm
    rw [List.mem_cons, List.mem_cons, mem_sortU]
theorem sortU_le : ∀ xs : List Int, (sortU xs).length ≤ xs.length
  | [] => Nat.le_refl _
  | x :: xs => by
    have := sortU_le xs
    rw [sortU_cons, List.length_cons]
    split <;> omega
/-- as many as there are: no doubles -/
theorem sortU_nodup_iff : ∀ xs : List Int, (sortU xs).length = xs.length ↔ xs.Nodup
  | [] => by simp [sortU]
  | x :: xs => by
    have h1 := sortU_le xs
    have h2 := sortU_nodup_iff xs
    rw [sortU_cons, List.length_cons, List.nodup_cons]
    split
    · rename_i h
      exact ⟨fun e => by omega, fun e => absurd h e.1⟩
    · rename_i h
      rw [← h2]
      exact ⟨fun e => ⟨h, by omega⟩, fun e => by omega⟩
theorem nodup_ofNat {xs : List Nat} : (xs.map Int.ofNat).Nodup ↔ xs.Nodup := by
  unfold List.Nodup
  rw [List.pairwise_map]
  exact ⟨fun h => h.imp fun {a b} q e => q (by rw [e]), fun h => h.imp fun {a b} q e => q (Int.ofNat.inj e)⟩
theorem dLenSet_nT (xs : List Nat) (h : xs.length < 4000) : dLenSet (nT xs) = some (nD (sortU (xs.map Int.ofNat)).length) := by
  simp [dLenSet, intsOf, nT, nL, ints_nD, h, nD]
theorem dListRg1_nD (n : Nat) (h : n ≤ 1000) : dListRg1 (nD n) = some (nL (List.range n)) := by
  have hl : line = 16777216 := rfl
  unfold dListRg1 dRg1 nD
  simp only
  rw [if_pos ⟨⟨by omega, by omega⟩, by omega⟩, Int.toNat_natCast, upTo_nat]; rfl
theorem dTupleRg1_nD (n : Nat) (h : n ≤ 1000) : dTupleRg1 (nD n) = some (nT (List.range n)) := by
  have hl : line = 16777216 := rfl
  unfold dTupleRg1 dRg1 nD
  simp only
  rw [if_pos ⟨⟨by omega, by omega⟩, by omega⟩, Int.toNat_natCast, upTo_nat]; rfl
theorem dSub_nD {a b : Nat} (h : b ≤ a) : dSub (nD a) (nD b) = some (nD (a - b)) := by
  simp only [dSub, nD]
  congr 2
  omega
theorem dIx_last {α : Type} {f : α → D} {xs : List α} (d : α) (h : 0 < xs.length) : dIx (.tuple (xs.map f)) (.int (-1)) = some (f (xs.getD (xs.length - 1) d)) ∧ dIx (.list (xs.map f)) (.int (-1)) = some (f (xs.getD (xs.length - 1) d)) := by
  have e : ixD (xs.map f).length (-1) = some (xs.length - 1) := by
    unfold ixD
    rw [List.length_map, if_neg (by decide), if_pos (by omega)]
    congr 1
    omega
  have g : (xs.map f)[xs.length - 1]? = some (f (xs.getD (xs.length - 1) d)) := by
    rw [List.getElem?_map, getD_at (d := d) (by omega)]; rfl
  exact ⟨by simp only [dIx, e, Option.bind_some, g], by simp only [dIx, e, Option.bind_some, g]⟩
theorem dNeg_nD1 : dNeg (.int 1) = some (.int (-1)) := rfl
theorem idxB_nD (xs : List Nat) (x : Nat) : idxB (xs.map nD) (nD x) = xs.map fun z => decide (z = x) := by
  unfold idxB
  rw [List.map_map]
  exact List.map_congr_left fun z _ => eqv_nD z x
theorem idxOf_true (x : Nat) : ∀ xs : List Nat, (xs.map fun z => decide (z = x)).idxOf true = xs.idxOf x
  | [] => rfl
  | y :: ys => by
    rw [List.map_cons, List.idxOf_cons, List.idxOf_cons, idxOf_true x ys]
    by_cases h : y = x
    · simp [h]
    · have h2 : (y == x) = false := by simpa using h
      simp [h, h2]
theorem dIndex_go {xs : List Nat} {x : Nat} (h : x ∈ xs) : dIndex (nT xs) (nD x) = some (nD (xs.idxOf x)) ∧ dIndex (nL xs) (nD x) = some (nD (xs.idxOf x)) := by
  have m : true ∈ idxB (xs.map nD) (nD x) := by
    rw [idxB_nD]
    exact List.mem_map.mpr ⟨x, h, by simp⟩
  have c : shp (nD x) = true ∧ shp (.list (xs.map nD)) = true ∧ true ∈ idxB (xs.map nD) (nD x) := ⟨(sm_nD (n := 0)).shp, (sm_lst (sm_map fun _ => sm_nD (n := 0))).shp, m⟩
  constructor
  · simp only [dIndex, nT, items]
    rw [if_pos c, idxB_nD, idxOf_true]; rfl
  · simp only [dIndex, nL, items]
    rw [if_pos c, idxB_nD, idxOf_true]; rfl
theorem ok_Chain {f g : D → D → Option D} {a b c : SE} {r : Env} {Q : D → Env → Prop} (h : Ok (a r) fun x r1 => Ok (b r1) fun y r2 => ∃ t, f x y = some (.bool t) ∧ if t = true then Ok (c r2) fun z r3 => ∃ d, g y z = some d ∧ Q d r3 else Q (.bool false) r2) : Ok (sChain f g a b c r) Q := by
  unfold sChain
  rw [ok_bind]
  refine h.imp fun x r1 h => ?_
  rw [ok_bind]
  refine h.imp fun y r2 ⟨t, e, h⟩ => ?_
  rw [e]
  cases t with
  | true =>
    simp only [if_true] at h
    simp only [lift, bind_ok, ok_bind]
    refine h.imp fun z r3 ⟨d, e, q⟩ => ?_
    rw [e]
    simpa [lift] using q
  | false =>
    simp only [Bool.false_eq_true, if_false] at h
    simpa [lift, bind_ok] using h
end J

set_option Elab.async false
set_option linter.all false
set_option maxRecDepth 100000
/-! JTape: the drawing of numbers from a tape (the texts _law_tape, _law_next are the same in many laws). -/
namespace J
open PySem

def tapeD (a b c d : D) : D := .dict [(.str "cells", a), (.str "at", b), (.str "big", c), (.str "seed", d)]
section
variable (a b c d x : D)
theorem tp_cells : dGetD (tapeD a b c d) (.str "cells") = some a := rfl
theorem tp_at : dGetD (tapeD a b c d) (.str "at") = some b := rfl
theorem tp_big : dGetD (tapeD a b c d) (.str "big") = some c := rfl
theorem tp_seed : dGetD (tapeD a b c d) (.str "seed") = some d := rfl
def tpl : List (D × D) := [(.str "cells", a), (.str "at", b), (.str "big", c), (.str "seed", d)]
theorem st_at : dStore (tpl a b c d) (.inr "at") x = tpl a x c d := rfl
theorem st_big : dStore (tpl a b c d) (.inr "big") x = tpl a b x d := rfl
theorem st_seed : dStore (tpl a b c d) (.inr "seed") x = tpl a b c x := rfl
end

noncomputable def tapeNext : SS := (sSeq (sIf (sAnd (sT (sBin dEq ((sBin dGetD (sV 0) (sC (.str "big")))) (sC (.int 0)))) (sT (sBin dLt ((sBin dGetD (sV 0) (sC (.str "at")))) ((sFn dLen (sCons ((sBin dGetD (sV 0) (sC (.str "cells")))) sNil)))))) (sSeq (sSet 2 ((sBin dIx ((sBin dGetD (sV 0) (sC (.str "cells")))) ((sBin dGetD (sV 0) (sC (.str "at"))))))) (sSeq (sDPut 0 (sC (.str "at")) ((sBin dAdd ((sBin dGetD (sV 0) (sC (.str "at")))) (sC (.int 1))))) (sSeq (sIf (sT (sBin dGe (sV 2) ((sBin dPow (sC (.int 10)) (sC (.int 18)))))) (sDPut 0 (sC (.str "big")) (sV 2)) sPass) (sDPut 0 (sC (.str "seed")) ((sBin dMod ((sFn dInt (sCons ((sBin dAdd ((sBin dAdd ((sBin dMul ((sBin dGetD (sV 0) (sC (.str "seed")))) (sC (.int 48271)))) ((sBin dMul (sV 2) (sC (.int 16807)))))) (sC (.int 11)))) sNil))) (sC (.int 2147483647)))))))) sPass) (sSeq (sIf (sT (sBin dGt ((sBin dGetD (sV 0) (sC (.str "big")))) (sC (.int 0)))) (sSeq (sSet 3 ((sBin dMod ((sFn dInt (sCons ((sBin dGetD (sV 0) (sC (.str "big")))) sNil))) (sV 1)))) (sSeq (sDPut 0 (sC (.str "big")) ((sBin dDiv ((sBin dGetD (sV 0) (sC (.str "big")))) (sV 1)))) (sRet (sV 3)))) sPass) (sSeq (sDPut 0 (sC (.str "seed")) ((sBin dMod ((sFn dInt (sCons ((sBin dAdd ((sBin dMul ((sBin dGetD (sV 0) (sC (.str "seed")))) (sC (.int 48271)))) (sC (.int 11)))) sNil))) (sC (.int 2147483647))))) (sRet ((sBin dMod ((sFn dInt (sCons ((sBin dDiv ((sBin dGetD (sV 0) (sC (.str "seed")))) (sC (.int 7)))) sNil))) (sV 1)))))))
noncomputable def tapeNew : SS := (sRet ((sDic [(.inr "cells", (sLc (.nm 1) (itSeq (sV 0)) sYes (lcE ((sFn dAbs (sCons ((sFn dInt (sCons (sV 1) sNil))) sNil)))) [1])), (.inr "at", sC (.int 0)), (.inr "big", sC (.int 0)), (.inr "seed", sC (.int 61))])))
noncomputable def fNext : Fn := runD 4 [0] tapeNext
noncomputable def fNew : Fn := runD 2 [] tapeNew
theorem run_ex {n : Nat} {ios : List Nat} {body : SS} {ds : List D} {P : D → List D → Prop} (h : Ok (body (ds.map some ++ List.replicate (n - ds.length) none)) fun f r => ∃ d outs, outsOf ios r = some outs ∧ (f = .rt d ∨ (f = .nx ∧ d = .none)) ∧ P d outs) :
    ∃ d outs, runD n ios body ds = .ok d outs ∧ P d outs := by
  obtain ⟨f, r, e, d, outs, ho, hf, p⟩ := h
  exact ⟨d, outs, run_ok ⟨f, r, e, ho, hf⟩, p⟩
/-- a tape -/
def TapeOk (t : D) : Prop := ∃ (cells : List Int) (at_ big seed : Int), t = tapeD (.list (cells.map .int)) (.int at_) (.int big) (.int seed) ∧ 0 ≤ at_ ∧ 0 ≤ big ∧ 0 ≤ seed ∧ ∀ c ∈ cells, 0 ≤ c
theorem shp_int (i : Int) : shp (.int i) = true := (sm_int (n := 0)).shp
theorem dEq_int (a b : Int) : dEq (.int a) (.int b) = some (.bool (decide (a = b))) := by
  unfold dEq
  rw [shp_int, shp_int]
  simp
theorem mul_int {a b : Int} (h : small a ∨ small b) : dMul (.int a) (.int b) = some (.int (a * b)) := by simp [dMul, h]
theorem mod_int {a b : Int} (h : 0 < b) : dMod (.int a) (.int b) = some (.int (a % b)) := by simp [dMod, h]
theorem div_int {a b : Int} (h : 0 < b) (h2 : b < 1073741824) : dDiv (.int a) (.int b) = some (.int (a / b)) := by simp [dDiv, h, h2]
theorem ok_dput {i : Nat} {k v : SE} {r : Env} {QS : Fl → Env → Prop} {a b c d : D} {kk : L2.Key} {z : D} (hr : ∀ x r1, v r = .ok x r1 → r1 = r) (hk : k r = .ok z r) (hz : dkey z = some kk) (hi : getS r i = some (tapeD a b c d)) (h : Ok (v r) fun x _ => QS .nx (r.set i (some (.dict (dStore (tpl a b c d) kk x))))) : Ok (sDPut i k v r) QS := by
  refine ok_DPut ?_
  obtain ⟨x, r1, e, q⟩ := h
  have := hr x r1 e
  subst this
  exact ⟨x, r1, e, ⟨_, hi⟩, z, r1, hk, kk, _, hz, hi, (show 4 < line by decide), q⟩
theorem tape_next {t : D} (h : TapeOk t) {m : Int} (hm : 0 < m) (hm2 : m < 1073741824) : ∃ v t', fNext [t, .int m] = .ok (.int v) [t'] ∧ TapeOk t' ∧ 0 ≤ v ∧ v < m := by
  have fin : ∀ (t : D) (c : Option D), TapeOk t → Ok ((sSeq (sIf (sT (sBin dGt ((sBin dGetD (sV 0) (sC (.str "big")))) (sC (.int 0)))) (sSeq (sSet 3 ((sBin dMod ((sFn dInt (sCons ((sBin dGetD (sV 0) (sC (.str "big")))) sNil))) (sV 1)))) (sSeq (sDPut 0 (sC (.str "big")) ((sBin dDiv ((sBin dGetD (sV 0) (sC (.str "big")))) (sV 1)))) (sRet (sV 3)))) sPass) (sSeq (sDPut 0 (sC (.str "seed")) ((sBin dMod ((sFn dInt (sCons ((sBin dAdd ((sBin dMul ((sBin dGetD (sV 0) (sC (.str "seed")))) (sC (.int 48271)))) (sC (.int 11)))) sNil))) (sC (.int 2147483647))))) (sRet ((sBin dMod ((sFn dInt (sCons ((sBin dDiv ((sBin dGetD (sV 0) (sC (.str "seed")))) (sC (.int 7)))) sNil))) (sV 1)))))) [some t, some (.int m), c, none])
      fun f r => ∃ v t', outsOf [0] r = some [t'] ∧ f = .rt (.int v) ∧ TapeOk t' ∧ 0 ≤ v ∧ v < m := by
    rintro t c ⟨cells, at_, big, seed, rfl, h1, h2, h3, h4⟩
    by_cases hb : 0 < big
    · refine ok_Seq.mpr ?_
      rw [ok_If]
      simp only [ok_T, ok_Bin, ok_V, ok_C, getS_zero, Option.some.injEq, exists_eq_left', tp_big, dGt, dCmp, PyData.bool.injEq, decide_eq_true hb, if_true]
      refine ok_Seq.mpr ?_
      simp only [ok_Set, ok_Bin, ok_Fn, ok_Cons, ok_Nil, ok_V, ok_C, getS_zero, getS_succ, Option.some.injEq, exists_eq_left', tp_big, dInt, mod_int hm]
      refine ok_Seq.mpr ?_
      refine ok_dput (a := .list (cells.map .int)) (b := .int at_) (c := .int big) (d := .int seed) (z := .str "big") (kk := .inr "big") ?_ rfl rfl rfl ?_
      · intro x r1 e
        simp only [sBin, sV, sC, lift, getS_zero, getS_succ, bind_ok, List.set_cons_succ, List.set_cons_zero, tp_big, div_int hm hm2] at e
        cases e; rfl
      · simp only [ok_Bin, ok_V, ok_C, getS_zero, getS_succ, Option.some.injEq, exists_eq_left', tp_big, List.set_cons_succ, List.set_cons_zero, div_int hm hm2, st_big, ok_Ret]
        refine ⟨big % m, tapeD (.list (cells.map .int)) (.int at_) (.int (big / m)) (.int seed), by simp [outsOf]; rfl, rfl, ⟨cells, at_, big / m, seed, rfl, h1, Int.ediv_nonneg h2 (by omega), h3, h4⟩, Int.emod_nonneg _ (by omega), Int.emod_lt_of_pos _ hm⟩
    · refine ok_Seq.mpr ?_
      rw [ok_If]
      simp only [ok_T, ok_Bin, ok_V, ok_C, getS_zero, Option.some.injEq, exists_eq_left', tp_big, dGt, dCmp, PyData.bool.injEq, decide_eq_false hb, Bool.false_eq_true, if_false, ok_Pass]
      refine ok_Seq.mpr ?_
      refine ok_dput (a := .list (cells.map .int)) (b := .int at_) (c := .int big) (d := .int seed) (z := .str "seed") (kk := .inr "seed") ?_ rfl rfl rfl ?_
      · intro x r1 e
        simp only [sBin, sV, sC, sFn, sCons, sNil, lift, getS_zero, bind_ok, tp_seed, dInt, dAdd, mul_int (a := seed) (b := 48271) (.inr (by decide)), mod_int (a := seed * 48271 + 11) (b := 2147483647) (by decide)] at e
        cases e; rfl
      · simp only [ok_Bin, ok_Fn, ok_Cons, ok_Nil, ok_V, ok_C, getS_zero, getS_succ, Option.some.injEq, exists_eq_left', tp_seed, List.set_cons_succ, List.set_cons_zero, dInt, dAdd, mul_int (a := seed) (b := 48271) (.inr (by decide)), mod_int (a := seed * 48271 + 11) (b := 2147483647) (by decide), st_seed, ok_Ret]
        have e : ∀ x : D, PyData.dict (tpl (.list (cells.map .int)) (.int at_) (.int big) x) = tapeD (.list (cells.map .int)) (.int at_) (.int big) x := fun _ => rfl
        simp only [e, tp_seed, Option.some.injEq, exists_eq_left', div_int (a := (seed * 48271 + 11) % 2147483647) (b := 7) (by decide) (by decide), mod_int hm]
        refine ⟨_, tapeD (.list (cells.map .int)) (.int at_) (.int big) (.int ((seed * 48271 + 11) % 2147483647)), by simp [outsOf], rfl, ⟨cells, at_, big, _, rfl, h1, h2, Int.emod_nonneg _ (by decide), h4⟩, Int.emod_nonneg _ (by omega), Int.emod_lt_of_pos _ hm⟩
  have key : ∃ d outs, fNext [t, .int m] = .ok d outs ∧ ∃ v t', d = .int v ∧ outs = [t'] ∧ TapeOk t' ∧ 0 ≤ v ∧ v < m := by
    refine run_ex ?_
    have fin' : ∀ (t : D) (c : Option D), TapeOk t → Ok ((sSeq (sIf (sT (sBin dGt ((sBin dGetD (sV 0) (sC (.str "big")))) (sC (.int 0)))) (sSeq (sSet 3 ((sBin dMod ((sFn dInt (sCons ((sBin dGetD (sV 0) (sC (.str "big")))) sNil))) (sV 1)))) (sSeq (sDPut 0 (sC (.str "big")) ((sBin dDiv ((sBin dGetD (sV 0) (sC (.str "big")))) (sV 1)))) (sRet (sV 3)))) sPass) (sSeq (sDPut 0 (sC (.str "seed")) ((sBin dMod ((sFn dInt (sCons ((sBin dAdd ((sBin dMul ((sBin dGetD (sV 0) (sC (.str "seed")))) (sC (.int 48271)))) (sC (.int 11)))) sNil))) (sC (.int 2147483647))))) (sRet ((sBin dMod ((sFn dInt (sCons ((sBin dDiv ((sBin dGetD (sV 0) (sC (.str "seed")))) (sC (.int 7)))) sNil))) (sV 1)))))) [some t, some (.int m), c, none])
      fun f r => ∃ d outs, outsOf [0] r = some outs ∧ (f = .rt d ∨ (f = .nx ∧ d = .none)) ∧ ∃ v t', d = .int v ∧ outs = [t'] ∧ TapeOk t' ∧ 0 ≤ v ∧ v < m := fun t c h => (fin t c h).imp fun f r ⟨v, t', e1, e2, q⟩ => ⟨_, _, e1, .inl e2, v, t', rfl, rfl, q⟩
    obtain ⟨cells, at_, big, seed, rfl, h1, h2, h3, h4⟩ := h
    show Ok (tapeNext [some _, some (.int m), none, none]) _
    unfold tapeNext
    refine seq_nx ?_
    rw [ok_If]
    simp only [ok_And, ok_T, ok_Bin, ok_Fn, ok_Cons, ok_Nil, ok_V, ok_C, getS_zero, Option.some.injEq, exists_eq_left', tp_big, tp_at, tp_cells, dEq_int, PyData.bool.injEq, dLen, dLt, dCmp]
    by_cases hb : big = 0
    · simp only [decide_eq_true hb, if_true]
      by_cases hl : at_ < ((cells.map PyData.int).length : Int)
      · simp only [decide_eq_true hl, if_true]
        have hlt : at_.toNat < cells.length := by rw [List.length_map] at hl; omega
        have hix : dIx (.list (cells.map .int)) (.int at_) = some (.int cells[at_.toNat]) := by
          rw [dIx_lst h1 (by rw [List.length_map]; exact hlt)]
          simp
        have hc := h4 _ (List.getElem_mem hlt)
        refine ok_Seq.mpr ?_
        simp only [ok_Set, ok_Bin, ok_V, ok_C, getS_zero, Option.some.injEq, exists_eq_left', tp_cells, tp_at, hix, List.set_cons_succ, List.set_cons_zero]
        refine ok_Seq.mpr ?_
        refine ok_dput (a := .list (cells.map .int)) (b := .int at_) (c := .int big) (d := .int seed) (z := .str "at") (kk := .inr "at") ?_ rfl rfl rfl ?_
        · intro x r1 e
          simp only [sBin, sV, sC, lift, getS_zero, bind_ok, tp_at, dAdd] at e
          cases e; rfl
        simp only [ok_Bin, ok_V, ok_C, getS_zero, Option.some.injEq, exists_eq_left', tp_at, dAdd, st_at, List.set_cons_zero]
        have e : ∀ x y z : D, PyData.dict (tpl (.list (cells.map .int)) x y z) = tapeD (.list (cells.map .int)) x y z := fun _ _ _ => rfl
        rw [e]
        -- big may be set
        have tail : ∀ b2 : Int, 0 ≤ b2 → Ok (sDPut 0 (sC (.str "seed")) ((sBin dMod ((sFn dInt (sCons ((sBin dAdd ((sBin dAdd ((sBin dMul ((sBin dGetD (sV 0) (sC (.str "seed")))) (sC (.int 48271)))) ((sBin dMul (sV 2) (sC (.int 16807)))))) (sC (.int 11)))) sNil))) (sC (.int 2147483647)))) [some (tapeD (.list (cells.map .int)) (.int (at_ + 1)) (.int b2) (.int seed)), some (.int m), some (.int cells[at_.toNat]), none])
            fun f r1 => f = .nx ∧ ∃ t c, TapeOk t ∧ r1 = [some t, some (.int m), c, none] := fun b2 hb2 => by
          refine ok_dput (a := .list (cells.map .int)) (b := .int (at_ + 1)) (c := .int b2) (d := .int seed) (z := .str "seed") (kk := .inr "seed") ?_ rfl rfl rfl ?_
          · intro x r1 e
            simp only [sBin, sV, sC, sFn, sCons, sNil, lift, getS_zero, getS_succ, bind_ok, tp_seed, dInt, dAdd, mul_int (a := seed) (b := 48271) (.inr (by decide)), mul_int (a := cells[at_.toNat]) (b := 16807) (.inr (by decide)), mod_int (a := seed * 48271 + cells[at_.toNat] * 16807 + 11) (b := 2147483647) (by decide)] at e
            cases e; rfl
          · simp only [ok_Bin, ok_Fn, ok_Cons, ok_Nil, ok_V, ok_C, getS_zero, getS_succ, Option.some.injEq, exists_eq_left', tp_seed, dInt, dAdd, mul_int (a := seed) (b := 48271) (.inr (by decide)), mul_int (a := cells[at_.toNat]) (b := 16807) (.inr (by decide)), mod_int (a := seed * 48271 + cells[at_.toNat] * 16807 + 11) (b := 2147483647) (by decide), st_seed, List.set_cons_zero]
            exact ⟨trivial, _, _, ⟨cells, at_ + 1, b2, _, rfl, by omega, hb2, Int.emod_nonneg _ (by decide), h4⟩, rfl⟩
        have go : ∀ b2 : Int, 0 ≤ b2 → Ok (sDPut 0 (sC (.str "seed")) ((sBin dMod ((sFn dInt (sCons ((sBin dAdd ((sBin dAdd ((sBin dMul ((sBin dGetD (sV 0) (sC (.str "seed")))) (sC (.int 48271)))) ((sBin dMul (sV 2) (sC (.int 16807)))))) (sC (.int 11)))) sNil))) (sC (.int 2147483647)))) [some (tapeD (.list (cells.map .int)) (.int (at_ + 1)) (.int b2) (.int seed)), some (.int m), some (.int cells[at_.toNat]), none])
            fun f r1 => f = .nx ∧ Ok (sSeq _ _ r1) _ := fun b2 hb2 => (tail b2 hb2).imp fun f r1 ⟨e, t, c, ht, er⟩ => ⟨e, by rw [er]; exact fin' t c ht⟩
        refine seq_nx ?_
        rw [ok_If]
        have hpow : dPow (.int 10) (.int 18) = some (.int 1000000000000000000) := rfl
        simp only [ok_T, ok_Bin, ok_V, ok_C, getS_zero, getS_succ, Option.some.injEq, exists_eq_left', hpow, dGe, dCmp, PyData.bool.injEq]
        by_cases hg : (1000000000000000000 : Int) ≤ cells[at_.toNat]
        · simp only [decide_eq_true hg, if_true]
          refine ok_dput (a := .list (cells.map .int)) (b := .int (at_ + 1)) (c := .int big) (d := .int seed) (z := .str "big") (kk := .inr "big") ?_ rfl rfl rfl ?_
          · intro x r1 e
            simp only [sV, lift, getS_zero, getS_succ] at e
            cases e; rfl
          simp only [ok_V, getS_zero, getS_succ, Option.some.injEq, exists_eq_left', st_big, List.set_cons_zero]
          exact ⟨trivial, go _ hc⟩
        · simp only [decide_eq_false hg, Bool.false_eq_true, if_false, ok_Pass]
          exact ⟨trivial, go _ h2⟩
      · simp only [decide_eq_false hl, Bool.false_eq_true, if_false, ok_Pass]
        exact ⟨trivial, fin' _ _ ⟨cells, at_, big, seed, rfl, h1, h2, h3, h4⟩⟩
    · simp only [decide_eq_false hb, Bool.false_eq_true, if_false, ok_Pass]
      exact ⟨trivial, fin' _ _ ⟨cells, at_, big, seed, rfl, h1, h2, h3, h4⟩⟩
  obtain ⟨d, outs, e, v, t', rfl, rfl, q⟩ := key
  exact ⟨v, t', e, q⟩
def absD : D → D
  | .int i => .int (if i < 0 then -i else i)
  | d => d
theorem tape_new (ns : List Int) : ∃ t, fNew [.list (ns.map .int)] = .ok t [] ∧ TapeOk t := by
  refine ⟨tapeD (.list ((ns.map fun i => if i < 0 then -i else i).map .int)) (.int 0) (.int 0) (.int 61), run_ok ?_, ⟨_, 0, 0, 61, rfl, by decide, by decide, by decide, fun c m => ?_⟩⟩
  · show Ok (tapeNew [some _, none]) _
    unfold tapeNew
    have e := lc_pure (it := itSeq (sV 0)) (c := sYes) (s := sFn dAbs (sCons (sFn dInt (sCons (sV 1) sNil)) sNil)) (i := 1) (p := fun _ => true) (g := absD) (r := [some (.list (ns.map .int)), none]) (xs := ns.map .int) rfl (fun x _ => rfl) (fun x m _ => by
      obtain ⟨i, _, rfl⟩ := List.mem_map.mp m
      rfl)
    have e2 : ((ns.map PyData.int).filter fun _ => true).map absD = (ns.map fun i => if i < 0 then -i else i).map .int := by
      rw [List.filter_eq_self.mpr fun _ _ => rfl, List.map_map, List.map_map]
      rfl
    rw [e2] at e
    simp only [ok_Ret, ok_Dic, ok_Kvs_cons, ok_Kvs_nil, ok_C]
    exact ok_of e ⟨rfl, .inl rfl⟩
  · obtain ⟨i, _, rfl⟩ := List.mem_map.mp m
    split <;> omega
/-- a number is drawn -/
theorem ok_next {i : Nat} {m : Nat} {r : Env} {Q : D → Env → Prop} {t : D} {e : SE} (hi : getS r i = some t) (ht : TapeOk t) (hm : 0 < m) (hm2 : m < 1073741824) (he : e r = .ok (nD m) r) (h : ∀ v t', v < m → TapeOk t' → Q (nD v) (r.set i (some t'))) : Ok (sCall fNext [.io i, .e e] r) Q := by
  obtain ⟨v, t', e1, ht', h0, h1⟩ := tape_next ht (m := m) (by omega) (by omega)
  rw [ok_Call]
  simp only [ok_argL_io, hi, Option.some.injEq, exists_eq_left', ok_argL_e, ok_argL_nil]
  refine ok_of he ?_
  have e2 : fNext [t, nD m] = .ok (.int v) [t'] := e1
  simp only [argF_io, argF_e, argF_nil, hi, Option.bind_some, Option.map_some, Option.some.injEq, exists_eq_left', e2, RF.ok.injEq, and_assoc, exists_and_left, argB_io, argB_e, argB_nil]
  have e3 : PyData.int v = nD v.toNat := by
    show _ = PyData.int _
    congr 1
    omega
  rw [e3]
  exact h v.toNat t' (by omega) ht'
end J

set_option Elab.async false
set_option linter.all false
set_option maxRecDepth 100000
/-! JDraw: what is drawn from the state (the texts _law_state, _law_take, _law_pick are the same in 23 laws). -/
namespace J
open PySem
def stD (a : Int) (cs : List Int) : D := .list [.int a, .list (cs.map .int)]
def StOk (t : D) : Prop := ∃ a cs, t = stD a cs ∧ cs ≠ []
theorem asInts_int (cs : List Int) : asInts (cs.map .int) = some cs := by
  induction cs with
  | nil => rfl
  | cons c cs ih => simp [asInts, ih]
theorem take_st {t : D} (h : StOk t) (m : Nat) (hm2 : m < 1073741824) : ∃ v t', fTake [t, nD m] = .ok (nD v) [t'] ∧ StOk t' ∧ v < max 1 m := by
  obtain ⟨a, cs, rfl, hne⟩ := h
  unfold stD fTake nD
  simp only [asInts_int]
  unfold takeI
  by_cases hm : m < 2
  · rw [if_pos (by omega)]
    exact ⟨0, _, rfl, ⟨a, cs, rfl, hne⟩, by omega⟩
  rw [if_neg (by omega)]
  have hl0 : 0 < cs.length := List.length_pos_iff.mpr hne
  have hge : 0 ≤ a % cs.length := Int.emod_nonneg _ (by omega)
  have hlt : a % cs.length < cs.length := Int.emod_lt_of_pos _ (by omega)
  have hi : (a % cs.length).toNat < cs.length := by omega
  rw [List.getElem?_eq_getElem hi]
  have fin : ∀ (x : Int) (a' : Int) (cs' : List Int), cs' ≠ [] → ∃ v t', RF.ok (.int (x % (m : Int))) [.list [.int a', .list (cs'.map .int)]] = RF.ok (.int (v : Nat)) [t'] ∧ StOk t' ∧ v < max 1 m := fun x a' cs' hc => by
    have h1 : 0 ≤ x % (m : Int) := Int.emod_nonneg _ (by omega)
    have h2 : x % (m : Int) < m := Int.emod_lt_of_pos _ (by omega)
    exact ⟨(x % (m : Int)).toNat, stD a' cs', by rw [Int.toNat_of_nonneg h1]; rfl, ⟨a', cs', rfl, hc⟩, by omega⟩
  simp only
  by_cases hc : (1000000000000000000 : Int) ≤ cs[(a % cs.length).toNat]
  · rw [if_pos hc, if_pos (by omega)]
    exact fin _ _ _ fun e => hne (List.length_eq_zero_iff.mp (by rw [← List.length_set (as := cs), e]; rfl))
  · rw [if_neg hc]
    exact fin _ _ _ hne
/-- a number is drawn -/
theorem ok_take {i : Nat} {m : Nat} {r : Env} {Q : D → Env → Prop} {t : D} {e : SE} (hi : getS r i = some t) (ht : StOk t) (hm2 : m < 1073741824) (he : e r = .ok (nD m) r) (h : ∀ v t', v < max 1 m → StOk t' → Q (nD v) (r.set i (some t'))) : Ok (sCall fTake [.io i, .e e] r) Q := by
  obtain ⟨v, t', e1, ht', h1⟩ := take_st ht m hm2
  rw [ok_Call]
  simp only [ok_argL_io, hi, Option.some.injEq, exists_eq_left', ok_argL_e, ok_argL_nil]
  refine ok_of he ?_
  simp only [argF_io, argF_e, argF_nil, hi, Option.bind_some, Option.map_some, Option.some.injEq, exists_eq_left', e1, RF.ok.injEq, and_assoc, exists_and_left, argB_io, argB_e, argB_nil]
  exact h v t' h1 ht'
noncomputable def bState : SS := (sSeq (sSet 1 (sLc (.nm 2) (itSeq ((sSl (sV 0) sNoPart (sPart (sC (.int 63)))))) sYes (lcE ((sFn dAbs (sCons (sV 2) sNil)))) [2])) (sSeq (sIf (sT (sBin dEq ((sFn dLen (sCons (sV 1) sNil))) (sC (.int 0)))) (sSet 1 ((sLst (sCons (sC (.int 0)) sNil)))) sPass) (sRet ((sLst (sCons (sC (.int 0)) (sCons (sMv 1) sNil)))))))
noncomputable def fState : Fn := runD 3 [] bState
noncomputable def bPick : SS := (sRet ((sBin dIx (sV 1) ((sCall fTake [.io 0, .e ((sFn dLen (sCons (sV 1) sNil)))])))))
noncomputable def fPick : Fn := runD 2 [0] bPick
theorem ok_Mv {i : Nat} {r : Env} {Q : D → Env → Prop} : Ok (sMv i r) Q ↔ ∃ d, getS r i = some d ∧ Q d (r.set i none) := by
  unfold sMv
  cases getS r i <;> simp
theorem state_new (ns : List Int) (hl : ns.length ≤ 63) : ∃ t, fState [.list (ns.map .int)] = .ok t [] ∧ StOk t := by
  have cut : cutD (ns.map PyData.int) none (some 63) = ns.map .int := by
    rw [show (63 : Int) = ((63 : Nat) : Int) from rfl, cut_lo (f := PyData.int) ns 63, List.take_of_length_le hl]
  have lc := lc_map (r := [some (.list (ns.map .int)), none, none]) (r1 := [some (.list (ns.map .int)), none, none]) (i := 2) (it := itSeq ((sSl (sV 0) sNoPart (sPart (sC (.int 63)))))) (c := sYes) (s := sFn dAbs (sCons (sV 2) sNil)) (f := PyData.int) (xs := ns) (p := fun _ => true) (g := fun i : Int => .int (if i < 0 then -i else i))
    (eq_of_ok (by
      simp only [okL, Option.some.injEq, exists_eq_left', dSl, intOf, cut, items]
      exact ⟨trivial, trivial⟩)) (fun _ _ => rfl) fun x _ _ => rfl
  rw [filt_true] at lc
  have key : ∃ d outs, fState [.list (ns.map .int)] = .ok d outs ∧ outs = [] ∧ StOk d := by
    refine run_e ?_
    show Ok (bState [some (.list (ns.map .int)), none, none]) _
    unfold bState
    rw [ok_Seq, ok_Set]
    refine ok_of lc ?_
    have e : ns.map (fun i : Int => PyData.int (if i < 0 then -i else i)) = (ns.map fun i : Int => if i < 0 then -i else i).map .int := by rw [List.map_map]; rfl
    rw [e]
    simp only [okL, List.set_cons_zero, List.set_cons_succ, Option.some.injEq, exists_eq_left', PyData.bool.injEq, ok_Mv, dLen_L, dEq_nD, show PyData.int 0 = nD 0 from rfl]
    by_cases h : (ns.map fun i : Int => if i < 0 then -i else i) = []
    · rw [if_pos (by rw [h]; rfl)]
      exact ends_rt0 ⟨rfl, 0, [0], rfl, by simp⟩
    · rw [if_neg (by simpa using h)]
      exact ends_rt0 ⟨rfl, 0, _, rfl, h⟩
  obtain ⟨d, outs, e, rfl, h⟩ := key
  exact ⟨d, e, h⟩
/-- an item is drawn -/
theorem ok_pickF {t : D} (ht : StOk t) {α : Type} {f : α → D} (xs : List α) (hne : xs ≠ []) (hl : xs.length < 1073741824) : (∃ x t', x ∈ xs ∧ fPick [t, .list (xs.map f)] = .ok (f x) [t'] ∧ StOk t') ∧ ∃ x t', x ∈ xs ∧ fPick [t, .tuple (xs.map f)] = .ok (f x) [t'] ∧ StOk t' := by
  have h0 : 0 < xs.length := List.length_pos_iff.mpr hne
  have go : ∀ o : D, (o = .list (xs.map f) ∨ o = .tuple (xs.map f)) → ∃ x t', x ∈ xs ∧ fPick [t, o] = .ok (f x) [t'] ∧ StOk t' := fun o ho => by
    have key : ∃ d outs, fPick [t, o] = .ok d outs ∧ ∃ x t', x ∈ xs ∧ d = f x ∧ outs = [t'] ∧ StOk t' := by
      refine run_e ?_
      show Ok (bPick [some t, some o]) _
      unfold bPick
      simp only [okL, Option.some.injEq, exists_eq_left']
      refine ok_take (m := xs.length) rfl ht hl (eq_of_ok ?_) fun v t' hv ht' => ?_
      · simp only [okL, Option.some.injEq, exists_eq_left']
        rcases ho with rfl | rfl
        · exact ⟨_, dLen_L _, by rw [List.length_map], trivial⟩
        · exact ⟨_, dLen_T _, by rw [List.length_map], trivial⟩
      · have hv' : v < xs.length := by omega
        have hg : (xs.map f)[v]? = some (f xs[v]) := by rw [List.getElem?_map, List.getElem?_eq_getElem hv']; rfl
        refine ⟨f xs[v], ?_, ends_rt (outs := [t']) rfl ⟨xs[v], t', List.getElem_mem hv', rfl, rfl, ht'⟩⟩
        rcases ho with rfl | rfl
        · exact dIx_nat hg
        · exact dIx_natT hg
    obtain ⟨d, outs, e, x, t', hx, rfl, rfl, h⟩ := key
    exact ⟨x, t', hx, e, h⟩
  exact ⟨go _ (.inl rfl), go _ (.inr rfl)⟩
theorem okCall {F : Fn} {as : List Ag} {r r1 r2 : Env} {Q : D → Env → Prop} {ods : List (Option D)} {ds outs : List D} {d : D} (ha : argL as r = .ok ods r1) (hf : argF as ods r1 = some ds) (hF : F ds = .ok d outs) (hb : argB as outs r1 = some r2) (q : Q d r2) : Ok (sCall F as r) Q := by
  rw [ok_Call]
  exact ok_of ha ⟨ds, hf, d, outs, hF, r2, hb, q⟩
/-- a call that gives one list back -/
theorem ok_call1 {F : Fn} {i : Nat} {r : Env} {Q : D → Env → Prop} {t x d t' : D} {e : SE} (hi : getS r i = some t) (he : e r = .ok x r) (hF : F [t, x] = .ok d [t']) (q : Q d (r.set i (some t'))) : Ok (sCall F [.io i, .e e] r) Q := by
  refine okCall (ods := [none, some x]) (ds := [t, x]) (r1 := r) (r2 := r.set i (some t')) ?_ ?_ hF rfl q
  · simp [argL, hi, he, R.bind]
  · simp [argF, hi]
/-- one that only reads -/
theorem ok_call {F : Fn} {r : Env} {Q : D → Env → Prop} {x d : D} {e : SE} (he : e r = .ok x r) (hF : F [x] = .ok d []) (q : Q d r) : Ok (sCall F [.e e] r) Q :=
  okCall (ods := [some x]) (ds := [x]) (r1 := r) (r2 := r) (by simp [argL, he, R.bind]) rfl hF rfl q
theorem ok_call2 {F : Fn} {r : Env} {Q : D → Env → Prop} {x y d : D} {e f : SE} (he : e r = .ok x r) (hf : f r = .ok y r) (hF : F [x, y] = .ok d []) (q : Q d r) : Ok (sCall F [.e e, .e f] r) Q :=
  okCall (ods := [some x, some y]) (ds := [x, y]) (r1 := r) (r2 := r) (by simp [argL, he, hf, R.bind]) rfl hF rfl q
theorem ok_call3 {F : Fn} {r : Env} {Q : D → Env → Prop} {x y z d : D} {e f g : SE} (he : e r = .ok x r) (hf : f r = .ok y r) (hg : g r = .ok z r) (hF : F [x, y, z] = .ok d []) (q : Q d r) : Ok (sCall F [.e e, .e f, .e g] r) Q :=
  okCall (ods := [some x, some y, some z]) (ds := [x, y, z]) (r1 := r) (r2 := r) (by simp [argL, he, hf, hg, R.bind]) rfl hF rfl q
end J

set_option Elab.async false
set_option linter.all false
set_option maxRecDepth 100000
/-! JOrd1: orders told by pairs: plain facts. -/
namespace J
abbrev Ps := List (Nat × Nat)
/-- from one to the other, by pairs -/
inductive Tc (ps : Ps) : Nat → Nat → Prop
  | one {a b : Nat} : (a, b) ∈ ps → Tc ps a b
  | step {a b c : Nat} : (a, b) ∈ ps → Tc ps b c → Tc ps a c
theorem Tc.trans {ps : Ps} {a b c : Nat} (h : Tc ps a b) (q : Tc ps b c) : Tc ps a c := by
  induction h with
  | one m => exact .step m q
  | step m _ ih => exact .step m (ih q)
theorem Tc.snoc {ps : Ps} {a b c : Nat} (h : Tc ps a b) (q : (b, c) ∈ ps) : Tc ps a c := h.trans (.one q)
theorem Tc.mono {ps qs : Ps} (h : ∀ p ∈ ps, p ∈ qs) {a b : Nat} (t : Tc ps a b) : Tc qs a b := by
  induction t with
  | one m => exact .one (h _ m)
  | step m _ ih => exact .step (h _ m) ih
def InR (n : Nat) (ps : Ps) : Prop := ∀ p ∈ ps, p.1 < n ∧ p.2 < n
theorem Tc.lt {n : Nat} {ps : Ps} (h : InR n ps) {a b : Nat} (t : Tc ps a b) : a < n ∧ b < n := by
  induction t with
  | one m => exact h _ m
  | step m _ ih => exact ⟨(h _ m).1, ih.2⟩
/-- the pairs go up by ranks below n -/
def Rk (n : Nat) (ps : Ps) (r : Nat → Nat) : Prop := ∀ p ∈ ps, r p.1 < r p.2 ∧ r p.2 < n
theorem Tc.rk {n : Nat} {ps : Ps} {r : Nat → Nat} (h : Rk n ps r) {a b : Nat} (t : Tc ps a b) : r a < r b ∧ r b < n := by
  induction t with
  | one m => exact h _ m
  | step m _ ih => exact ⟨Nat.lt_trans (h _ m).1 ih.1, ih.2⟩
theorem Tc.irr {n : Nat} {ps : Ps} {r : Nat → Nat} (h : Rk n ps r) {a : Nat} (t : Tc ps a a) : False := Nat.lt_irrefl _ (t.rk h).1
/-- at most m pairs on the way -/
def Pth (ps : Ps) : Nat → Nat → Nat → Prop
  | 0, _, _ => False
  | m + 1, a, b => (a, b) ∈ ps ∨ ∃ c, (a, c) ∈ ps ∧ Pth ps m c b
theorem Pth.up {ps : Ps} : ∀ {m : Nat} {a b : Nat}, Pth ps m a b → Pth ps (m + 1) a b
  | 0, _, _, h => h.elim
  | m + 1, a, b, h => h.elim .inl fun ⟨c, h1, h2⟩ => .inr ⟨c, h1, Pth.up h2⟩
theorem Pth.le {ps : Ps} {m k : Nat} {a b : Nat} (h : Pth ps m a b) (l : m ≤ k) : Pth ps k a b := by
  induction l with
  | refl => exact h
  | step _ ih => exact Pth.up ih
theorem Pth.tc {ps : Ps} : ∀ {m : Nat} {a b : Nat}, Pth ps m a b → Tc ps a b
  | 0, _, _, h => h.elim
  | m + 1, a, b, h => h.elim .one fun ⟨c, h1, h2⟩ => .step h1 (Pth.tc h2)
theorem Tc.pth {n : Nat} {ps : Ps} {r : Nat → Nat} (h : Rk n ps r) {a b : Nat} (t : Tc ps a b) : Pth ps (r b - r a) a b := by
  induction t with
  | one m =>
    have := (h _ m).1
    exact Pth.le (m := 1) (.inl m) (by simp only at this; omega)
  | step m q ih =>
    rename_i a b c
    have h1 := (h _ m).1
    have h2 := (q.rk h).1
    simp only at h1
    exact Pth.le (m := r c - r b + 1) (.inr ⟨b, m, ih⟩) (by omega)
noncomputable instance tcDec (ps : Ps) (a b : Nat) : Decidable (Tc ps a b) := Classical.propDecidable _
/-- what lies above, ascending -/
noncomputable def upl (n : Nat) (ps : Ps) (k : Nat) : List Nat := (List.range n).filter fun j => decide (Tc ps k j)
theorem mem_upl {n : Nat} {ps : Ps} {k j : Nat} : j ∈ upl n ps k ↔ j < n ∧ Tc ps k j := by
  unfold upl
  rw [List.mem_filter, List.mem_range, decide_eq_true_eq]
theorem mem_upl' {n : Nat} {ps : Ps} (h : InR n ps) {k j : Nat} : j ∈ upl n ps k ↔ Tc ps k j := mem_upl.trans ⟨fun z => z.2, fun z => ⟨(z.lt h).2, z⟩⟩
theorem upl_asc {n : Nat} {ps : Ps} {k : Nat} : (upl n ps k).Pairwise (· < ·) := List.Pairwise.filter _ List.pairwise_lt_range
theorem upl_nd {n : Nat} {ps : Ps} {k : Nat} : (upl n ps k).Nodup := List.Pairwise.filter _ List.nodup_range
theorem upl_len {n : Nat} {ps : Ps} {k : Nat} : (upl n ps k).length ≤ n := by
  have := List.length_filter_le (fun j => decide (Tc ps k j)) (List.range n)
  rw [List.length_range] at this
  exact this
/-- strictly ascending lists with the same members -/
theorem asc_ext {a b : List Nat} (ha : a.Pairwise (· < ·)) (hb : b.Pairwise (· < ·)) (h : ∀ x, x ∈ a ↔ x ∈ b) : a = b := by
  have nd : ∀ {l : List Nat}, l.Pairwise (· < ·) → l.Nodup := fun h => h.imp fun {a b} q e => by omega
  exact List.Perm.eq_of_pairwise (fun x y _ _ h1 h2 => by omega) (ha.imp fun {a b} h => Nat.le_of_lt h) (hb.imp fun {a b} h => Nat.le_of_lt h) ((List.perm_ext_iff_of_nodup (nd ha) (nd hb)).mpr h)
theorem sortN_upl {n : Nat} {ps : Ps} {k : Nat} {l : List Nat} (nd : l.Nodup) (h : ∀ x, x ∈ l ↔ x ∈ upl n ps k) : sortN l = upl n ps k := by
  refine asc_ext (strict (sortN_pair l) ((sortN_perm l).nodup_iff.mpr nd)) upl_asc fun x => ?_
  rw [(sortN_perm l).mem_iff]
  exact h x
noncomputable def upN (n : Nat) (ps : Ps) : List (List Nat) := (List.range n).map (upl n ps)
theorem upN_len {n : Nat} {ps : Ps} : (upN n ps).length = n := by unfold upN; simp
theorem upN_at {n : Nat} {ps : Ps} {k : Nat} (h : k < n) : (upN n ps)[k]? = some (upl n ps k) := by
  unfold upN
  rw [List.getElem?_map, List.getElem?_range h]; rfl
theorem upl_congr {n : Nat} {ps qs : Ps} (h : ∀ a b, Tc ps a b ↔ Tc qs a b) (k : Nat) : upl n ps k = upl n qs k := by
  refine asc_ext upl_asc upl_asc fun x => ?_
  rw [mem_upl, mem_upl, h]
theorem upN_congr {n : Nat} {ps qs : Ps} (h : ∀ a b, Tc ps a b ↔ Tc qs a b) : upN n ps = upN n qs := by
  unfold upN
  exact List.map_congr_left fun k _ => upl_congr h k
/-! ### covers -/
def covF (u : Nat → List Nat) (k : Nat) : Ps := ((u k).filter fun j => decide (((u k).filter fun i => decide (j ∈ u i)).length = 0)).map fun j => (k, j)
noncomputable def covK (n : Nat) (ps : Ps) (k : Nat) : Ps := covF (upl n ps) k
noncomputable def covL (n : Nat) (ps : Ps) : Ps := (List.range n).flatMap (covK n ps)
theorem mem_covL {n : Nat} {ps : Ps} (h : InR n ps) {a b : Nat} : (a, b) ∈ covL n ps ↔ Tc ps a b ∧ ∀ i, Tc ps a i → ¬ Tc ps i b := by
  unfold covL covK covF
  simp only [List.mem_flatMap, List.mem_range, List.mem_map, List.mem_filter, decide_eq_true_eq, List.length_eq_zero_iff, List.filter_eq_nil_iff, Prod.mk.injEq, mem_upl' h]
  constructor
  · rintro ⟨k, _, j, ⟨h1, h2⟩, rfl, rfl⟩
    exact ⟨h1, h2⟩
  · rintro ⟨h1, h2⟩
    exact ⟨a, (h1.lt h).1, b, ⟨h1, h2⟩, rfl, rfl⟩
theorem covL_rng {n : Nat} {ps : Ps} (h : InR n ps) : InR n (covL n ps) := fun p hp => ((mem_covL h).mp (show (p.1, p.2) ∈ _ from hp)).1.lt h
theorem covL_rk {n : Nat} {ps : Ps} {r : Nat → Nat} (h : InR n ps) (hr : Rk n ps r) : Rk n (covL n ps) r := fun p hp => ((mem_covL h).mp (show (p.1, p.2) ∈ _ from hp)).1.rk hr
theorem covL_tc {n : Nat} {ps : Ps} {r : Nat → Nat} (h : InR n ps) (hr : Rk n ps r) (a b : Nat) : Tc (covL n ps) a b ↔ Tc ps a b := by
  constructor
  · intro t
    induction t with
    | one m => exact ((mem_covL h).mp m).1
    | step m _ ih => exact ((mem_covL h).mp m).1.trans ih
  · have go : ∀ m a b, r b - r a ≤ m → Tc ps a b → Tc (covL n ps) a b := by
      intro m
      induction m with
      | zero =>
        intro a b hm t
        have := (t.rk hr).1
        omega
      | succ m ih =>
        intro a b hm t
        by_cases c : ∃ i, Tc ps a i ∧ Tc ps i b
        · obtain ⟨i, h1, h2⟩ := c
          have q1 := (h1.rk hr).1
          have q2 := (h2.rk hr).1
          exact (ih a i (by omega) h1).trans (ih i b (by omega) h2)
        · exact .one ((mem_covL h).mpr ⟨t, fun i h1 h2 => c ⟨i, h1, h2⟩⟩)
    exact go _ a b (Nat.le_refl _)
theorem covL_nd {n : Nat} {ps : Ps} : (covL n ps).Nodup := by
  unfold covL
  have go : ∀ ks : List Nat, ks.Nodup → (ks.flatMap (covK n ps)).Nodup := by
    intro ks
    induction ks with
    | nil => intro _; simp
    | cons k ks ih =>
      intro nd
      rw [List.nodup_cons] at nd
      rw [List.flatMap_cons]
      refine List.nodup_append.mpr ⟨?_, ih nd.2, fun x hx y hy e => ?_⟩
      · unfold covK covF
        unfold List.Nodup
        rw [List.pairwise_map]
        exact (List.Pairwise.filter _ upl_nd).imp fun {a b} q e => q (Prod.mk.inj e).2
      · subst e
        unfold covK covF at hx hy
        obtain ⟨j, _, rfl⟩ := List.mem_map.mp hx
        obtain ⟨k', hk', hy⟩ := List.mem_flatMap.mp hy
        obtain ⟨j', _, e⟩ := List.mem_map.mp hy
        rw [(Prod.mk.inj e).1] at hk'
        exact nd.1 hk'
  exact go _ List.nodup_range
/-- an order, by its covers -/
structure Ord (n : Nat) (cs : Ps) : Prop where
  rng : InR n cs
  rk : ∃ r, Rk n cs r
  cov : cs = covL n cs
theorem Ord.nd {n : Nat} {cs : Ps} (h : Ord n cs) : cs.Nodup := by rw [h.cov]; exact covL_nd
theorem Ord.irr {n : Nat} {cs : Ps} (h : Ord n cs) {a : Nat} (t : Tc cs a a) : False := by
  obtain ⟨r, hr⟩ := h.rk
  exact t.irr hr
theorem Ord.asym {n : Nat} {cs : Ps} (h : Ord n cs) {a b : Nat} (t : Tc cs a b) (q : Tc cs b a) : False := h.irr (t.trans q)
theorem covL_ord {n : Nat} {ps : Ps} {r : Nat → Nat} (h : InR n ps) (hr : Rk n ps r) : Ord n (covL n ps) := by
  refine ⟨covL_rng h, ⟨r, covL_rk h hr⟩, ?_⟩
  have e : ∀ k, upl n (covL n ps) k = upl n ps k := upl_congr (covL_tc h hr)
  have e2 : upl n (covL n ps) = upl n ps := funext e
  have e3 : covK n (covL n ps) = covK n ps := funext fun k => by unfold covK; rw [e2]
  exact (congrArg (fun f => (List.range n).flatMap f) e3).symm
theorem covL_up {n : Nat} {ps : Ps} {r : Nat → Nat} (h : InR n ps) (hr : Rk n ps r) : upN n (covL n ps) = upN n ps := upN_congr (covL_tc h hr)
theorem sum_const (n : Nat) : ∀ l : List Nat, (l.map fun _ => n).sum = l.length * n
  | [] => by simp
  | x :: l => by rw [List.map_cons, List.sum_cons, sum_const n l, List.length_cons, Nat.succ_mul]; omega
theorem ps_len {n : Nat} {ps : Ps} (nd : ps.Nodup) (h : InR n ps) : ps.length ≤ n * n := by
  have := nodup_sub (t := (List.range n).flatMap fun a => (List.range n).map fun b => (a, b)) nd fun p hp => by
    obtain ⟨h1, h2⟩ := h p hp
    exact List.mem_flatMap.mpr ⟨p.1, List.mem_range.mpr h1, List.mem_map.mpr ⟨p.2, List.mem_range.mpr h2, rfl⟩⟩
  rw [List.length_flatMap] at this
  have e : ((List.range n).map fun a => ((List.range n).map fun b => (a, b)).length).sum = n * n := by
    have := sum_const n (List.range n)
    rw [List.length_range] at this
    rw [← this]
    congr 1
    exact List.map_congr_left fun a _ => by rw [List.length_map, List.length_range]
  rw [e] at this
  exact this
theorem map_eraseJ {α β : Type} {f : α → β} : ∀ (l : List α) (i : Nat), (l.map f).eraseIdx i = (l.eraseIdx i).map f
  | [], _ => rfl
  | _ :: _, 0 => rfl
  | x :: l, i + 1 => by
    show f x :: (l.map f).eraseIdx i = f x :: (l.eraseIdx i).map f
    rw [map_eraseJ l i]
theorem erase_permJ {α : Type} : ∀ {l : List α} {i : Nat} (h : i < l.length), (l[i] :: l.eraseIdx i).Perm l
  | _ :: _, 0, _ => .refl _
  | x :: l, i + 1, h => (List.Perm.swap ..).trans (List.Perm.cons x (erase_permJ (l := l) (i := i) (by simpa using h)))
theorem mPopAt_nL {left : List Nat} {v : Nat} (hv : v < left.length) (hl : left.length ≤ 1000) : mPopAt (left.map nD) [nD v] = some (nD left[v], (left.eraseIdx v).map nD) := by
  unfold mPopAt nD
  simp only
  rw [if_pos ⟨by omega, by omega⟩, List.length_map, ixD_nat hv]
  simp only [Option.bind_some, List.getElem?_map, List.getElem?_eq_getElem hv, Option.map_some]
  rw [map_eraseJ]
/-! ### as data -/
def pD (p : Nat × Nat) : D := .tuple [nD p.1, nD p.2]
def ordD (n : Nat) (cs : Ps) : D := .tuple [.str "order", nD n, .tuple (cs.map pD)]
end J

set_option Elab.async false
set_option linter.all false
set_option maxRecDepth 100000
/-! JOrd2: the program's texts about orders. -/
namespace J
open PySem
noncomputable def bGoals : SS := (sRet ((sLc (.tp [2, 3]) (itSeq (sV 0)) (sT (sBin dEq (sV 2) (sV 1))) (lcE (sV 3)) [2, 3])))
noncomputable def fGoals : Fn := runD 4 [] bGoals
noncomputable def bReached : SS := (sSeq (sSet 2 ((sLst sNil))) (sSeq (sSet 3 ((sCall fGoals [.e (sV 0), .e (sV 1)]))) (sSeq (sWhile (sT (sBin dNe (sV 3) ((sLst sNil)))) (sSeq (sSet 4 ((sMet mPop 3 sNil))) (sIf (sT (sBin dNin (sV 4) (sV 2))) (sSeq (sX ((sMet mApp 2 (sCons (sV 4) sNil)))) (sX ((sMet mExt 3 (sCons ((sCall fGoals [.e (sV 0), .e (sV 4)])) sNil))))) sPass)) [4]) (sRet ((sFn dSorI (sCons (sV 2) sNil)))))))
noncomputable def fReached : Fn := runD 5 [] bReached
noncomputable def bAbove : SS := (sRet ((sCall fReached [.e ((sBin dIx (sV 0) (sC (.int 2)))), .e (sV 1)])))
noncomputable def fAbove : Fn := runD 2 [] bAbove
noncomputable def bUps : SS := (sRet ((sLc (.nm 1) (itRg1 ((sBin dIx (sV 0) (sC (.int 1))))) sYes (lcE ((sCall fAbove [.e (sV 0), .e (sV 1)]))) [1])))
noncomputable def fUps : Fn := runD 2 [] bUps
noncomputable def bLUp : SS := (sSeq (sSet 2 ((sLc (.nm 4) (itRg1 (sV 0)) sYes (lcE ((sLc (.tp [7, 8]) (itSeq (sV 1)) (sT (sBin dEq (sV 7) (sV 4))) (lcE (sV 8)) [7, 8]))) [4]))) (sSeq (sFor (.nm 3) (itRg1 (sV 0)) (sFor (.nm 4) (itRg1 (sV 0)) (sFor (.nm 5) (itSeq ((sFn dList (sCons ((sBin dIx (sV 2) (sV 4))) sNil)))) (sSub 2 (sV 4) ((sBin dAdd ((sBin dIx (sV 2) (sV 4))) ((sLc (.nm 7) (itSeq ((sBin dIx (sV 2) (sV 5)))) (sT (sBin dNin (sV 7) ((sBin dIx (sV 2) (sV 4))))) (lcE (sV 7)) [7]))))) [5]) [4, 5]) [3, 4, 5]) (sRet ((sLc (.nm 6) (itSeq (sV 2)) sYes (lcE ((sFn dSorI (sCons (sV 6) sNil)))) [6])))))
noncomputable def fLUp : Fn := runD 9 [] bLUp
noncomputable def bLUps : SS := (sRet ((sCall fLUp [.e ((sBin dIx (sV 0) (sC (.int 1)))), .e ((sBin dIx (sV 0) (sC (.int 2))))])))
noncomputable def fLUps : Fn := runD 1 [] bLUps
noncomputable def bLOrderOf : SS := (sSeq (sSet 2 ((sCall fLUp [.e (sV 0), .e (sV 1)]))) (sSeq (sSet 3 ((sLst sNil))) (sSeq (sFor (.nm 4) (itRg1 (sV 0)) (sSet 3 ((sBin dAdd (sV 3) ((sLc (.nm 5) (itSeq ((sBin dIx (sV 2) (sV 4)))) (sT (sBin dEq ((sFn dLen (sCons ((sLc (.nm 6) (itSeq ((sBin dIx (sV 2) (sV 4)))) (sT (sBin dIn (sV 5) ((sBin dIx (sV 2) (sV 6))))) (lcE (sV 6)) [6])) sNil))) (sC (.int 0)))) (lcE ((sTup (sCons (sV 4) (sCons (sV 5) sNil))))) [5]))))) [4]) (sRet ((sTup (sCons (sC (.str "order")) (sCons (sV 0) (sCons ((sFn dTuple (sCons (sV 3) sNil))) sNil)))))))))
noncomputable def fLOrderOf : Fn := runD 7 [] bLOrderOf
noncomputable def bLOrder : SS := (sSeq (sSet 2 ((sBin dAdd (sC (.int 1)) ((sCall fTake [.io 0, .e (sV 1)]))))) (sSeq (sParN [3, 4] (sCons ((sUn dListRg1 (sV 2))) (sCons ((sLst sNil)) sNil))) (sSeq (sFor (.nm 5) (itRg1 (sV 2)) (sX ((sMet mApp 4 (sCons ((sMet mPopAt 3 (sCons ((sCall fTake [.io 0, .e ((sFn dLen (sCons (sV 3) sNil)))])) sNil))) sNil)))) [5]) (sSeq (sParN [6, 7] (sCons ((sCall fPick [.io 0, .e ((sLst (sCons (sC (.int 2)) (sCons (sC (.int 3)) (sCons (sC (.int 5)) sNil)))))])) (sCons ((sLst sNil)) sNil))) (sSeq (sFor (.nm 5) (itRg1 (sV 2)) (sSet 7 ((sBin dAdd (sV 7) ((sLc (.nm 8) (itRg2 ((sBin dAdd (sV 5) (sC (.int 1)))) (sV 2)) (sT (sBin dEq ((sCall fTake [.io 0, .e (sV 6)])) (sC (.int 0)))) (lcE ((sTup (sCons ((sBin dIx (sV 4) (sV 5))) (sCons ((sBin dIx (sV 4) (sV 8))) sNil))))) [8]))))) [5]) (sRet ((sCall fLOrderOf [.e (sV 2), .e (sV 7)]))))))))
noncomputable def fLOrder : Fn := runD 9 [0] bLOrder
/-! ### comprehensions, any target -/
section
variable {α : Type} {f : α → D} {tg : Tg} {c : SB} {s : SE} {own : List Nat} {p : α → Bool} {g : α → D} {r1 : Env} {E : α → Env}
theorem lc_genGo : ∀ {xs : List α} {acc : List D} {r : Env}, kill own r = kill own r1 → (∀ x ∈ xs, tg.put (f x) (kill own r1) = some (E x)) → (∀ x ∈ xs, kill own (E x) = kill own r1) → (∀ x ∈ xs, c (E x) = .ok (p x) (E x)) → (∀ x ∈ xs, p x = true → s (E x) = .ok (g x) (E x)) →
    ∃ r2, lcG tg c (lcE s) own (xs.map f) acc r = .ok (acc ++ (xs.filter p).map g) r2 ∧ kill own r2 = kill own r1
  | [], acc, r, h, _, _, _, _ => ⟨r, by simp [lcG], h⟩
  | x :: xs, acc, r, h, hp, hk, hc, hs => by
    rw [List.map_cons]
    unfold lcG
    rw [h, hp x List.mem_cons_self]
    simp only
    rw [hc x List.mem_cons_self, bind_ok]
    cases e : p x with
    | false =>
      obtain ⟨r2, e1, e2⟩ := lc_genGo (xs := xs) (acc := acc) (hk x List.mem_cons_self) (fun y m => hp y (List.mem_cons_of_mem _ m)) (fun y m => hk y (List.mem_cons_of_mem _ m)) (fun y m => hc y (List.mem_cons_of_mem _ m)) (fun y m => hs y (List.mem_cons_of_mem _ m))
      refine ⟨r2, ?_, e2⟩
      simp only [Bool.false_eq_true, if_false]
      rw [e1, List.filter_cons_of_neg (by rw [e]; decide)]
    | true =>
      obtain ⟨r2, e1, e2⟩ := lc_genGo (xs := xs) (acc := acc ++ [g x]) (hk x List.mem_cons_self) (fun y m => hp y (List.mem_cons_of_mem _ m)) (fun y m => hk y (List.mem_cons_of_mem _ m)) (fun y m => hc y (List.mem_cons_of_mem _ m)) (fun y m => hs y (List.mem_cons_of_mem _ m))
      refine ⟨r2, ?_, e2⟩
      simp only [if_true]
      rw [lcE, hs x List.mem_cons_self e, bind_ok, bind_ok, e1, List.filter_cons_of_pos e]
      simp
theorem lc_gen {it : SI} {r : Env} {xs : List α} (hi : it r = .ok (xs.map f) r1) (hp : ∀ x ∈ xs, tg.put (f x) (kill own r1) = some (E x)) (hk : ∀ x ∈ xs, kill own (E x) = kill own r1) (hc : ∀ x ∈ xs, c (E x) = .ok (p x) (E x)) (hs : ∀ x ∈ xs, p x = true → s (E x) = .ok (g x) (E x)) :
    sLc tg it c (lcE s) own r = .ok (.list ((xs.filter p).map g)) r1 := by
  obtain ⟨r2, e1, e2⟩ := lc_genGo (xs := xs) (acc := []) rfl hp hk hc hs
  unfold sLc
  rw [hi, bind_ok, e1, bind_ok, back_kill e2]
  simp
end
theorem itSeq_of {a : SE} {r : Env} {d : D} {xs : List D} (h : a r = .ok d r) (hi : items d = some xs) : itSeq a r = .ok xs r := by
  unfold itSeq
  rw [h, bind_ok, hi]
/-! ### goals -/
def gls (ps : Ps) (k : Nat) : List Nat := (ps.filter fun p => decide (p.1 = k)).map (·.2)
theorem goals_ok {d : D} {ps : Ps} (hd : items d = some (ps.map pD)) (k : Nat) : fGoals [d, nD k] = .ok (nL (gls ps k)) [] := by
  refine run_v ?_
  show Ok (bGoals [some d, some (nD k), none, none]) _
  unfold bGoals
  rw [ok_Ret]
  refine ok_of (lc_gen (f := pD) (xs := ps) (p := fun p => decide (p.1 = k)) (g := fun p => nD p.2) (E := fun p => [some d, some (nD k), some (nD p.1), some (nD p.2)]) (itSeq_of (nm_eq rfl) hd) (fun p _ => rfl) (fun p _ => rfl) (fun p _ => eq_of_ok ?_) (fun p _ _ => nm_eq rfl)) ?_
  · simp only [okL, Option.some.injEq, exists_eq_left', dEq_nD, PyData.bool.injEq]
    exact ⟨trivial, trivial⟩
  · refine ends_rt0 ?_
    unfold nL gls
    rw [List.map_map]; rfl
theorem mem_gls {ps : Ps} {k j : Nat} : j ∈ gls ps k ↔ (k, j) ∈ ps := by
  unfold gls
  simp only [List.mem_map, List.mem_filter, decide_eq_true_eq]
  constructor
  · rintro ⟨⟨a, b⟩, ⟨h, e⟩, rfl⟩
    simp only at e
    subst e; exact h
  · intro h; exact ⟨(k, j), ⟨h, rfl⟩, rfl⟩
theorem gls_len {ps : Ps} {k : Nat} : (gls ps k).length ≤ ps.length := by
  unfold gls
  rw [List.length_map]
  exact List.length_filter_le ..
/-! ### reached -/
structure RchI (n : Nat) (ps : Ps) (k : Nat) (found waiting : List Nat) : Prop where
  nd : found.Nodup
  f1 : ∀ x ∈ found, Tc ps k x
  w1 : ∀ x ∈ waiting, Tc ps k x
  st : ∀ x, (k, x) ∈ ps → x ∈ found ∨ x ∈ waiting
  cl : ∀ x ∈ found, ∀ y, (x, y) ∈ ps → y ∈ found ∨ y ∈ waiting
theorem reached_ok {d : D} {n : Nat} {ps : Ps} (hd : items d = some (ps.map pD)) (hr : InR n ps) (hn : n ≤ 60) (hl : ps.length ≤ 4000) (k : Nat) : fReached [d, nD k] = .ok (nL (upl n ps k)) [] := by
  refine run_v ?_
  show Ok (bReached [some d, some (nD k), none, none, none]) _
  unfold bReached
  rw [ok_Seq, ok_Set]
  simp only [ok_Lst, ok_Nil, List.set_cons_zero, List.set_cons_succ]
  rw [ok_Seq, ok_Set]
  refine ok_call2 (nm_eq rfl) (nm_eq rfl) (goals_ok hd k) ?_
  simp only [List.set_cons_zero, List.set_cons_succ]
  refine seq_th ?_
  refine while_inv (Inv := fun m r => ∃ found waiting : List Nat, r = [some d, some (nD k), some (nL found), some (nL waiting), none] ∧ RchI n ps k found waiting ∧ m = (n - found.length) * (ps.length + 1) + waiting.length ∧ m ≤ 300000) (m0 := n * (ps.length + 1) + (gls ps k).length) ⟨[], gls ps k, rfl, ⟨List.Pairwise.nil, by simp, fun x hx => .one (mem_gls.mp hx), fun x hx => .inr (mem_gls.mpr hx), by simp⟩, by simp, by
    have := gls_len (ps := ps) (k := k)
    have : n * (ps.length + 1) ≤ 60 * 4001 := Nat.mul_le_mul hn (by omega)
    omega⟩ fun m r ⟨found, waiting, er, hI, hm, hm9⟩ => ?_
  subst er
  have hfl : found.length ≤ n := nodup_le hI.nd fun g hg => ((hI.f1 g hg).lt hr).2
  rw [ok_T, ok_Bin, ok_V]
  refine ⟨_, rfl, ?_⟩
  simp only [ok_Lst, ok_Nil, show PyData.list [] = nL [] from rfl, dNe_nL, Option.some.injEq, exists_eq_left', PyData.bool.injEq]
  by_cases hw : waiting = []
  · rw [if_neg (by simp [hw])]
    refine then_nx ?_
    subst hw
    simp only [kill_cons, kill_nil, List.set_cons_zero, List.set_cons_succ]
    rw [ok_Ret, ok_Fn, ok_Cons, ok_V]
    refine ⟨_, rfl, ?_⟩
    simp only [ok_Nil, dSorI_nL, Option.some.injEq, exists_eq_left']
    refine ends_rt0 ?_
    rw [sortN_upl (n := n) (ps := ps) (k := k) hI.nd fun x => ?_]
    rw [mem_upl' hr]
    refine ⟨hI.f1 x, fun t => ?_⟩
    have go : ∀ {a b : Nat}, Tc ps a b → (a = k ∨ a ∈ found) → b ∈ found := by
      intro a b t
      have nxt : ∀ a c, (a, c) ∈ ps → (a = k ∨ a ∈ found) → c ∈ found := fun a c m h => by
        rcases h with rfl | h
        · exact (hI.st c m).resolve_right (by simp)
        · exact (hI.cl a h c m).resolve_right (by simp)
      induction t with
      | one m => exact nxt _ _ m
      | step m _ ih => exact fun h => ih (.inr (nxt _ _ m h))
    exact go t (.inl rfl)
  · rw [if_pos (by simp [hw])]
    rw [ok_Seq, ok_Set]
    have hlen : 0 < waiting.length := List.length_pos_iff.mpr hw
    have hpop : mPop (waiting.map nD) [] = some (nD (waiting.getD (waiting.length - 1) 0), waiting.dropLast.map nD) := by
      simp only [mPop]
      rw [List.length_map, List.getElem?_map, getD_at (d := 0) (by omega)]
      simp [List.map_dropLast]
    refine ok_Met ⟨⟨_, rfl⟩, ?_⟩
    rw [ok_Nil]
    refine ⟨_, _, _, rfl, hpop, ?_⟩
    simp only [List.set_cons_zero, List.set_cons_succ]
    have hx : waiting.getD (waiting.length - 1) 0 ∈ waiting := List.mem_of_getElem? (getD_at (by omega))
    have hsplit : ∀ y, y ∈ waiting → y ∈ waiting.dropLast ∨ y = waiting.getD (waiting.length - 1) 0 := fun y hy => by
      have e := List.dropLast_concat_getLast hw
      rw [← e] at hy
      rcases List.mem_append.mp hy with h | h
      · exact .inl h
      · refine .inr ?_
        rw [List.mem_singleton.mp h, List.getLast_eq_getElem, List.getD_eq_getElem?_getD, List.getElem?_eq_getElem (by omega)]; rfl
    generalize waiting.getD (waiting.length - 1) 0 = x at hx hsplit
    have hdl : waiting.dropLast.length = waiting.length - 1 := List.length_dropLast
    rw [ok_If, ok_T, ok_Bin, ok_V]
    refine ⟨_, rfl, ?_⟩
    rw [ok_V]
    refine ⟨_, rfl, ?_⟩
    simp only [show PyData.list (List.map nD waiting.dropLast) = nL waiting.dropLast from rfl, dNin_nL, Option.some.injEq, exists_eq_left', PyData.bool.injEq]
    by_cases hf : x ∈ found
    · rw [if_neg (by simp [hf]), ok_Pass]
      refine turn_nx ⟨m - 1, ?_, found, waiting.dropLast, rfl, ⟨hI.nd, hI.f1, fun y hy => hI.w1 y (List.dropLast_subset _ hy), fun y hy => ?_, fun y hy z hz => ?_⟩, ?_⟩
      · omega
      · rcases hI.st y hy with h | h
        · exact .inl h
        · exact (hsplit y h).elim .inr fun e => .inl (e ▸ hf)
      · rcases hI.cl y hy z hz with h | h
        · exact .inl h
        · exact (hsplit z h).elim .inr fun e => .inl (e ▸ hf)
      · omega
    · rw [if_pos (by simp [hf])]
      have hft : Tc ps k x := hI.w1 x hx
      have nd2 : (found ++ [x]).Nodup := List.nodup_append.mpr ⟨hI.nd, by simp, fun a ha b hb e => hf (by rw [← List.mem_singleton.mp hb, ← e]; exact ha)⟩
      have hfl2 : (found ++ [x]).length ≤ n := nodup_le nd2 fun g hg => by
        rcases List.mem_append.mp hg with h | h
        · exact ((hI.f1 g h).lt hr).2
        · rw [List.mem_singleton.mp h]; exact (hft.lt hr).2
      rw [List.length_append, List.length_singleton] at hfl2
      rw [ok_Seq, ok_X]
      refine ok_Met ⟨⟨_, rfl⟩, ?_⟩
      rw [ok_Cons, ok_V]
      refine ⟨_, rfl, ?_⟩
      rw [ok_Nil]
      refine ⟨_, _, _, rfl, mApp_nL found x (by rw [show line = 16777216 from rfl]; omega), ?_⟩
      simp only [List.set_cons_zero, List.set_cons_succ]
      rw [ok_X]
      refine ok_Met ⟨⟨_, rfl⟩, ?_⟩
      rw [ok_Cons]
      refine ok_call2 (nm_eq rfl) (nm_eq rfl) (goals_ok hd x) ?_
      rw [ok_Nil]
      have hg := gls_len (ps := ps) (k := x)
      have hext : mExt (waiting.dropLast.map nD) [nL (gls ps x)] = some (.none, (waiting.dropLast ++ gls ps x).map nD) := by
        simp only [mExt, nL]
        rw [if_pos (by rw [List.length_map, List.length_map, show line = 16777216 from rfl]; omega), List.map_append]
      have e9 : (n - found.length) * (ps.length + 1) = (n - (found.length + 1)) * (ps.length + 1) + (ps.length + 1) := by
        rw [← Nat.succ_mul]
        congr 1
        omega
      refine ⟨_, _, _, rfl, hext, turn_nx ⟨(n - (found.length + 1)) * (ps.length + 1) + (waiting.dropLast ++ gls ps x).length, ?_, found ++ [x], waiting.dropLast ++ gls ps x, rfl, ⟨nd2, fun y hy => ?_, fun y hy => ?_, fun y hy => ?_, fun y hy z hz => ?_⟩, ?_, ?_⟩⟩
      · rw [List.length_append]; omega
      · rcases List.mem_append.mp hy with h | h
        · exact hI.f1 y h
        · rw [List.mem_singleton.mp h]; exact hft
      · rcases List.mem_append.mp hy with h | h
        · exact hI.w1 y (List.dropLast_subset _ h)
        · exact hft.snoc (mem_gls.mp h)
      · rcases hI.st y hy with h | h
        · exact .inl (List.mem_append_left _ h)
        · exact (hsplit y h).elim (fun z => .inr (List.mem_append_left _ z)) fun e => .inl (by rw [e]; simp)
      · rcases List.mem_append.mp hy with hy | hy
        · rcases hI.cl y hy z hz with h | h
          · exact .inl (List.mem_append_left _ h)
          · exact (hsplit z h).elim (fun z => .inr (List.mem_append_left _ z)) fun e => .inl (by rw [e]; simp)
        · rw [List.mem_singleton.mp hy] at hz
          exact .inr (List.mem_append_right _ (mem_gls.mpr hz))
      · rw [show (found ++ [x]).length = found.length + 1 by simp]
      · rw [List.length_append]; omega
end J

set_option Elab.async false
set_option linter.all false
set_option maxRecDepth 100000
/-! JOrd3: above, ups; the law's own closing. -/
namespace J
open PySem
theorem ix2 (n : Nat) (cs : Ps) : dIx (ordD n cs) (.int 2) = some (.tuple (cs.map pD)) ∧ dIx (ordD n cs) (.int 1) = some (nD n) ∧ dIx (ordD n cs) (.int 0) = some (.str "order") := ⟨rfl, rfl, rfl⟩
theorem above_ok {n : Nat} {cs : Ps} (hr : InR n cs) (hn : n ≤ 60) (hl : cs.length ≤ 4000) (k : Nat) : fAbove [ordD n cs, nD k] = .ok (nL (upl n cs k)) [] := by
  refine run_v ?_
  show Ok (bAbove [some (ordD n cs), some (nD k)]) _
  unfold bAbove
  rw [ok_Ret]
  refine ok_call2 (x := .tuple (cs.map pD)) (eq_of_ok ?_) (nm_eq rfl) (reached_ok rfl hr hn hl k) (ends_rt0 rfl)
  simp only [okL, Option.some.injEq, exists_eq_left', (ix2 n cs).1]
  exact ⟨trivial, trivial⟩
theorem order_n {i n : Nat} {cs : Ps} {r : Env} (h : getS r i = some (ordD n cs)) : (sBin dIx (sV i) (sC (.int 1))) r = .ok (nD n) r := eq_of_ok (by
  simp only [okL, h, Option.some.injEq, exists_eq_left', (ix2 n cs).2.1]
  exact ⟨trivial, trivial⟩)
theorem order_cs {i n : Nat} {cs : Ps} {r : Env} (h : getS r i = some (ordD n cs)) : (sBin dIx (sV i) (sC (.int 2))) r = .ok (.tuple (cs.map pD)) r := eq_of_ok (by
  simp only [okL, h, Option.some.injEq, exists_eq_left', (ix2 n cs).1]
  exact ⟨trivial, trivial⟩)
theorem ups_ok {n : Nat} {cs : Ps} (hr : InR n cs) (hn : n ≤ 60) (hl : cs.length ≤ 4000) : fUps [ordD n cs] = .ok (.list ((upN n cs).map nL)) [] := by
  refine run_v ?_
  show Ok (bUps [some (ordD n cs), none]) _
  unfold bUps
  rw [ok_Ret]
  refine ok_of (lc_map0 (f := nD) (xs := List.range n) (p := fun _ => true) (g := fun k => nL (upl n cs k)) (rg1_eq (order_n rfl) (by omega)) (fun _ _ => rfl) (fun k _ _ => eq_of_ok ?_)) ?_
  · exact ok_call2 (nm_eq rfl) (nm_eq rfl) (above_ok hr hn hl k) ⟨rfl, rfl⟩
  · refine ends_rt0 ?_
    rw [filt_true]
    unfold upN
    rw [List.map_map]; rfl
/-! ### the law's closing -/
/-- how far the rows are: all that is t + 1 pairs away is in -/
structure UpI (n : Nat) (ps : Ps) (u : List (List Nat)) : Prop where
  len : u.length = n
  nd : ∀ (k : Nat) (l : List Nat), u[k]? = some l → l.Nodup
  tc : ∀ (k : Nat) (l : List Nat), u[k]? = some l → ∀ x ∈ l, Tc ps k x
/-- more in each row -/
def Mor (u v : List (List Nat)) : Prop := v.length = u.length ∧ ∀ (k : Nat) (l : List Nat), u[k]? = some l → ∃ l', v[k]? = some l' ∧ ∀ x ∈ l, x ∈ l'
theorem Mor.refl {u : List (List Nat)} : Mor u u := ⟨rfl, fun k l h => ⟨l, h, fun _ m => m⟩⟩
theorem Mor.trans {u v w : List (List Nat)} (a : Mor u v) (b : Mor v w) : Mor u w := ⟨b.1.trans a.1, fun k l h => by
  obtain ⟨l', h1, h2⟩ := a.2 k l h
  obtain ⟨l'', h3, h4⟩ := b.2 k l' h1
  exact ⟨l'', h3, fun x m => h4 x (h2 x m)⟩⟩
def Has (u : List (List Nat)) (k x : Nat) : Prop := ∃ l, u[k]? = some l ∧ x ∈ l
theorem Mor.has {u v : List (List Nat)} (m : Mor u v) {k x : Nat} (h : Has u k x) : Has v k x := by
  obtain ⟨l, h1, h2⟩ := h
  obtain ⟨l', h3, h4⟩ := m.2 k l h1
  exact ⟨l', h3, h4 x h2⟩
theorem upI_set {n : Nat} {ps : Ps} {u : List (List Nat)} (h : UpI n ps u) {k j : Nat} {lk lj : List Nat} (hk : u[k]? = some lk) (hj : u[j]? = some lj) (hkj : Tc ps k j) :
    UpI n ps (u.set k (lk ++ lj.filter fun x => !decide (x ∈ lk))) ∧ Mor u (u.set k (lk ++ lj.filter fun x => !decide (x ∈ lk))) ∧ ∀ x ∈ lj, Has (u.set k (lk ++ lj.filter fun x => !decide (x ∈ lk))) k x := by
  have hl := (List.getElem?_eq_some_iff.mp hk).1
  have at_ : ∀ (i : Nat) (l : List Nat), (u.set k (lk ++ lj.filter fun x => !decide (x ∈ lk)))[i]? = some l → (i = k ∧ l = lk ++ lj.filter fun x => !decide (x ∈ lk)) ∨ (i ≠ k ∧ u[i]? = some l) := fun i l h => by
    by_cases e : i = k
    · subst e
      rw [List.getElem?_set_self hl] at h
      exact .inl ⟨rfl, (Option.some.inj h).symm⟩
    · rw [List.getElem?_set_ne (Ne.symm e)] at h
      exact .inr ⟨e, h⟩
  refine ⟨⟨by rw [List.length_set]; exact h.len, fun i l hi => ?_, fun i l hi x hx => ?_⟩, ⟨by rw [List.length_set], fun i l hi => ?_⟩, fun x hx => ?_⟩
  · rcases at_ i l hi with ⟨rfl, rfl⟩ | ⟨_, hi⟩
    · refine List.nodup_append.mpr ⟨h.nd _ _ hk, List.Pairwise.filter _ (h.nd _ _ hj), fun a ha b hb e => ?_⟩
      rw [List.mem_filter] at hb
      have := hb.2
      simp only [Bool.not_eq_true', decide_eq_false_iff_not] at this
      exact this (e ▸ ha)
    · exact h.nd _ _ hi
  · rcases at_ i l hi with ⟨rfl, rfl⟩ | ⟨_, hi⟩
    · rcases List.mem_append.mp hx with hx | hx
      · exact h.tc _ _ hk x hx
      · exact hkj.trans (h.tc _ _ hj x (List.mem_filter.mp hx).1)
    · exact h.tc _ _ hi x hx
  · by_cases e : i = k
    · subst e
      rw [hk] at hi
      cases hi
      exact ⟨_, List.getElem?_set_self hl, fun x m => List.mem_append_left _ m⟩
    · exact ⟨l, by rw [List.getElem?_set_ne (Ne.symm e)]; exact hi, fun _ m => m⟩
  · refine ⟨_, List.getElem?_set_self hl, ?_⟩
    by_cases c : x ∈ lk
    · exact List.mem_append_left _ c
    · exact List.mem_append_right _ (List.mem_filter.mpr ⟨hx, by simp [c]⟩)
theorem gls_nd {ps : Ps} (h : ps.Nodup) (k : Nat) : (gls ps k).Nodup := by
  unfold gls List.Nodup
  rw [List.pairwise_map]
  refine (List.Pairwise.filter _ h).imp_of_mem fun {a b} ha hb q e => q ?_
  have h1 := of_decide_eq_true (List.mem_filter.mp ha).2
  have h2 := of_decide_eq_true (List.mem_filter.mp hb).2
  exact Prod.ext (h1.trans h2.symm) e
theorem dIx_rows {u : List (List Nat)} {k : Nat} {l : List Nat} (h : u[k]? = some l) : dIx (.list (u.map nL)) (nD k) = some (nL l) := dIx_nat (by rw [List.getElem?_map, h]; rfl)
theorem upI_len {n : Nat} {ps : Ps} {u : List (List Nat)} (hr : InR n ps) (h : UpI n ps u) {k : Nat} {l : List Nat} (hk : u[k]? = some l) : l.length ≤ n := nodup_le (h.nd _ _ hk) fun x hx => ((h.tc _ _ hk x hx).lt hr).2
theorem lup_ok {n : Nat} {ps : Ps} {d : D} {r : Nat → Nat} (hd : items d = some (ps.map pD)) (hr : InR n ps) (hk : Rk n ps r) (hnd : ps.Nodup) (hn : n ≤ 60) : fLUp [nD n, d] = .ok (.list ((upN n ps).map nL)) [] := by
  refine run_v ?_
  show Ok (bLUp [some (nD n), some d, none, none, none, none, none, none, none]) _
  unfold bLUp
  rw [ok_Seq, ok_Set]
  refine ok_of (lc_map0 (f := nD) (xs := List.range n) (p := fun _ => true) (g := fun k => nL (gls ps k)) (rg1_eq (nm_eq rfl) (by omega)) (fun _ _ => rfl) (fun k _ _ => eq_of_ok ?_)) ?_
  · refine ok_of (lc_gen (f := pD) (xs := ps) (p := fun p => decide (p.1 = k)) (g := fun p => nD p.2) (E := fun p => [some (nD n), some d, none, none, some (nD k), none, none, some (nD p.1), some (nD p.2)]) (itSeq_of (nm_eq rfl) hd) (fun p _ => rfl) (fun p _ => rfl) (fun p _ => eq_of_ok ?_) (fun p _ _ => nm_eq rfl)) ⟨?_, rfl⟩
    · simp only [okL, Option.some.injEq, exists_eq_left', dEq_nD, PyData.bool.injEq]
      exact ⟨trivial, trivial⟩
    · unfold nL gls
      rw [List.map_map]; rfl
  rw [filt_true]
  have e0 : (List.range n).map (fun k => nL (gls ps k)) = ((List.range n).map (gls ps)).map nL := by rw [List.map_map]; rfl
  rw [e0]
  simp only [List.set_cons_zero, List.set_cons_succ]
  have hI0 : UpI n ps ((List.range n).map (gls ps)) := by
    refine ⟨by simp, fun k l h => ?_, fun k l h x hx => ?_⟩
    · rw [List.getElem?_map] at h
      obtain ⟨j, _, rfl⟩ := Option.map_eq_some_iff.mp h
      exact gls_nd hnd j
    · rw [List.getElem?_map] at h
      obtain ⟨j, hj, rfl⟩ := Option.map_eq_some_iff.mp h
      obtain ⟨hl, e⟩ := List.getElem?_eq_some_iff.mp hj
      rw [List.getElem_range] at e
      subst e
      exact .one (mem_gls.mp hx)
  have hE0 : ∀ a b, (a, b) ∈ ps → Has ((List.range n).map (gls ps)) a b := fun a b m => by
    refine ⟨gls ps a, ?_, mem_gls.mpr m⟩
    rw [List.getElem?_map, List.getElem?_range (hr _ m).1]; rfl
  refine seq_th ?_
  rw [ok_For]
  refine ok_of (rg1_eq (n := n) (nm_eq rfl) (by omega)) ?_
  refine forL_rg (Inv := fun t e => ∃ u : List (List Nat), e = [some (nD n), some d, some (.list (u.map nL)), none, none, none, none, none, none] ∧ UpI n ps u ∧ ∀ a b, Pth ps (t + 1) a b → Has u a b) ⟨_, rfl, hI0, fun a b h => hE0 a b (h.resolve_right fun ⟨_, _, z⟩ => z)⟩ (fun t ht e ⟨u, ee, hI, hP⟩ => ?_) (fun e ⟨u, ee, hI, hP⟩ => ?_)
  · subst ee
    simp only [List.set_cons_zero, List.set_cons_succ]
    rw [ok_For]
    refine ok_of (rg1_eq (n := n) (nm_eq rfl) (by omega)) ?_
    refine forL_rg (Inv := fun k e => ∃ v : List (List Nat), e = [some (nD n), some d, some (.list (v.map nL)), some (nD t), none, none, none, none, none] ∧ UpI n ps v ∧ Mor u v ∧ ∀ a b, a < k → Pth ps (t + 2) a b → Has v a b) ⟨u, rfl, hI, .refl, fun _ _ h => by omega⟩ (fun k hkn e ⟨v, ee, hIv, hM, hQ⟩ => ?_) (fun e ⟨v, ee, hIv, hM, hQ⟩ => ?_)
    · subst ee
      simp only [List.set_cons_zero, List.set_cons_succ]
      have hvk : v[k]? = some (v[k]'(by rw [hIv.len]; exact hkn)) := List.getElem?_eq_getElem _
      generalize (v[k]'(by rw [hIv.len]; exact hkn)) = s at hvk
      rw [ok_For, ok_itSeq, ok_Fn, ok_Cons, ok_Bin, ok_V]
      refine ⟨_, rfl, ?_⟩
      rw [ok_V]
      refine ⟨_, rfl, _, dIx_rows hvk, ?_⟩
      rw [ok_Nil]
      refine ⟨_, dList_nL s, _, rfl, ?_⟩
      simp only [kill_cons, kill_nil, List.set_cons_zero, List.set_cons_succ]
      refine forL_map (f := nD) (xs := s) (Inv := fun m e => ∃ w : List (List Nat), e = [some (nD n), some d, some (.list (w.map nL)), some (nD t), some (nD k), none, none, none, none] ∧ UpI n ps w ∧ Mor v w ∧ ∀ m' j, m' < m → s[m']? = some j → ∀ x, Has v j x → Has w k x) ⟨v, rfl, hIv, .refl, fun _ _ h => by omega⟩ (fun m j hm e ⟨w, ee, hIw, hMw, hS⟩ => ?_) (fun e ⟨w, ee, hIw, hMw, hS⟩ => ?_)
      · subst ee
        have hjs := List.mem_of_getElem? hm
        have hkj := hIv.tc _ _ hvk j hjs
        have hjn := (hkj.lt hr).2
        have hwk : w[k]? = some (w[k]'(by rw [hIw.len]; exact hkn)) := List.getElem?_eq_getElem _
        generalize (w[k]'(by rw [hIw.len]; exact hkn)) = lk at hwk
        have hwj : w[j]? = some (w[j]'(by rw [hIw.len]; exact hjn)) := List.getElem?_eq_getElem _
        generalize (w[j]'(by rw [hIw.len]; exact hjn)) = lj at hwj
        obtain ⟨g1, g2, g3⟩ := upI_set hIw hwk hwj hkj
        simp only [List.set_cons_zero, List.set_cons_succ]
        have lk_le := upI_len hr hIw hwk
        have lj_le := upI_len hr hIw hwj
        have hf_le := List.length_filter_le (fun x => !decide (x ∈ lk)) lj
        refine ok_Sub ?_
        rw [ok_Bin, ok_Bin, ok_V]
        refine ⟨_, rfl, ?_⟩
        rw [ok_V]
        refine ⟨_, rfl, _, dIx_rows hwk, ?_⟩
        refine ok_of (lc_map0 (f := nD) (xs := lj) (p := fun x => !decide (x ∈ lk)) (g := nD) (itSeq_of (d := nL lj) (eq_of_ok ?_) rfl) (fun x _ => eq_of_ok ?_) (fun x _ _ => nm_eq rfl)) ?_
        · simp only [okL, Option.some.injEq, exists_eq_left', dIx_rows hwj]
          exact ⟨trivial, trivial⟩
        · simp only [okL, List.set_cons_zero, List.set_cons_succ, Option.some.injEq, exists_eq_left', dIx_rows hwk, dNin_nL, PyData.bool.injEq]
          exact ⟨trivial, trivial⟩
        · refine ⟨_, dAdd_nL lk (lj.filter fun x => !decide (x ∈ lk)) (by rw [show line = 16777216 from rfl]; omega), ⟨_, rfl⟩, ?_⟩
          rw [ok_V]
          refine ⟨_, rfl, k, w.map nL, k, rfl, rfl, ?_, ?_⟩
          · rw [List.length_map, hIw.len]; exact ixD_nat hkn
          · simp only [List.set_cons_zero, List.set_cons_succ]
            refine turn_nx ⟨w.set k (lk ++ lj.filter fun x => !decide (x ∈ lk)), ?_, g1, hMw.trans g2, fun m' j' h1 h2 x hx => ?_⟩
            · simp only [kill_cons, kill_nil, List.set_cons_zero, List.set_cons_succ]
              rw [List.map_set]
            · by_cases e : m' = m
              · subst e
                rw [hm] at h2
                cases h2
                obtain ⟨l, hl, hxl⟩ := hMw.has hx
                rw [hwj] at hl
                cases hl
                exact g3 x hxl
              · exact g2.has (hS m' j' (by omega) h2 x hx)
      · subst ee
        refine turn_nx ⟨w, rfl, hIw, hM.trans hMw, fun a b h1 h2 => ?_⟩
        by_cases e : a = k
        · subst e
          rcases h2 with h2 | ⟨c, h3, h4⟩
          · exact (hM.trans hMw).has (hP _ _ (.inl h2))
          · obtain ⟨l, hl, hc⟩ := hM.has (hP _ _ (show Pth ps (t + 1) a c from .inl h3))
            rw [hvk] at hl
            cases hl
            obtain ⟨m', hm', e⟩ := List.mem_iff_getElem.mp hc
            exact hS m' c hm' (by rw [List.getElem?_eq_getElem hm', e]) b (hM.has (hP _ _ h4))
        · exact hMw.has (hQ a b (by omega) h2)
    · subst ee
      refine turn_nx ⟨v, rfl, hIv, fun a b h => ?_⟩
      exact hQ a b ((Pth.tc h).lt hr).1 h
  · subst ee
    refine then_nx ?_
    simp only [kill_cons, kill_nil, List.set_cons_zero, List.set_cons_succ]
    rw [ok_Ret]
    refine ok_of (lc_map0 (f := nL) (xs := u) (p := fun _ => true) (g := fun l => nL (sortN l)) (itSeq_of (nm_eq rfl) rfl) (fun _ _ => rfl) (fun l _ _ => eq_of_ok ?_)) ?_
    · simp only [okL, List.set_cons_zero, List.set_cons_succ, Option.some.injEq, exists_eq_left', dSorI_nL]
      exact ⟨trivial, trivial⟩
    · refine ends_rt0 ?_
      rw [filt_true]
      have e : u.map (fun l => nL (sortN l)) = (u.map sortN).map nL := by rw [List.map_map]; rfl
      rw [e]
      congr 2
      refine List.ext_getElem? fun k => ?_
      rw [List.getElem?_map]
      by_cases hkn : k < n
      · have hu : u[k]? = some (u[k]'(by rw [hI.len]; exact hkn)) := List.getElem?_eq_getElem _
        generalize (u[k]'(by rw [hI.len]; exact hkn)) = l at hu
        rw [hu, upN_at hkn, Option.map_some]
        congr 1
        refine sortN_upl (hI.nd _ _ hu) fun x => ?_
        rw [mem_upl' hr]
        refine ⟨hI.tc _ _ hu x, fun t => ?_⟩
        have := (t.rk hk).2
        obtain ⟨l', hl', hx⟩ := hP k x ((t.pth hk).le (by omega))
        rw [hu] at hl'
        cases hl'
        exact hx
      · rw [List.getElem?_eq_none (by rw [hI.len]; omega), List.getElem?_eq_none (by rw [upN_len]; omega)]; rfl
end J

set_option Elab.async false
set_option linter.all false
set_option maxRecDepth 100000
/-! JOrd4: orders made and drawn. -/
namespace J
open PySem
theorem lups_ok {n : Nat} {cs : Ps} (h : Ord n cs) (hn : n ≤ 60) : fLUps [ordD n cs] = .ok (.list ((upN n cs).map nL)) [] := by
  obtain ⟨r, hr⟩ := h.rk
  refine run_v ?_
  show Ok (bLUps [some (ordD n cs)]) _
  unfold bLUps
  rw [ok_Ret]
  exact ok_call2 (order_n rfl) (order_cs rfl) (lup_ok rfl h.rng hr h.nd hn) (ends_rt0 rfl)
theorem flat_len {α β : Type} (f : α → List β) (n : Nat) : ∀ l : List α, (∀ x ∈ l, (f x).length ≤ n) → (l.flatMap f).length ≤ l.length * n
  | [], _ => by simp
  | x :: l, h => by
    rw [List.flatMap_cons, List.length_append, List.length_cons, Nat.succ_mul]
    have := h x List.mem_cons_self
    have := flat_len f n l fun y m => h y (List.mem_cons_of_mem _ m)
    omega
theorem covK_len {n : Nat} {ps : Ps} {k : Nat} : (covK n ps k).length ≤ n := by
  unfold covK covF
  rw [List.length_map]
  exact Nat.le_trans (List.length_filter_le ..) upl_len
theorem dIx_up {n : Nat} {ps : Ps} {k : Nat} (h : k < n) : dIx (.list ((upN n ps).map nL)) (nD k) = some (nL (upl n ps k)) := dIx_rows (upN_at h)
theorem lorderof_ok {n : Nat} {ps : Ps} {d : D} {r : Nat → Nat} (hd : items d = some (ps.map pD)) (hr : InR n ps) (hk : Rk n ps r) (hnd : ps.Nodup) (hn : n ≤ 60) : fLOrderOf [nD n, d] = .ok (ordD n (covL n ps)) [] := by
  refine run_v ?_
  show Ok (bLOrderOf [some (nD n), some d, none, none, none, none, none]) _
  unfold bLOrderOf
  rw [ok_Seq, ok_Set]
  refine ok_call2 (nm_eq rfl) (nm_eq rfl) (lup_ok hd hr hk hnd hn) ?_
  simp only [List.set_cons_zero, List.set_cons_succ]
  rw [ok_Seq, ok_Set]
  simp only [ok_Lst, ok_Nil, List.set_cons_zero, List.set_cons_succ]
  refine seq_th ?_
  rw [ok_For]
  refine ok_of (rg1_eq (n := n) (nm_eq rfl) (by omega)) ?_
  refine forL_rg (Inv := fun k e => e = [some (nD n), some d, some (.list ((upN n ps).map nL)), some (.list (((List.range k).flatMap (covK n ps)).map pD)), none, none, none]) rfl (fun k hkn e ee => ?_) (fun e ee => ?_)
  · subst ee
    simp only [List.set_cons_zero, List.set_cons_succ]
    rw [ok_Set, ok_Bin, ok_V]
    refine ⟨_, rfl, ?_⟩
    have inU : ∀ i ∈ upl n ps k, i < n := fun i hi => (mem_upl.mp hi).1
    refine ok_of (lc_map0 (f := nD) (xs := upl n ps k) (p := fun j => decide (((upl n ps k).filter fun i => decide (j ∈ upl n ps i)).length = 0)) (g := fun j => pD (k, j)) (itSeq_of (d := nL (upl n ps k)) (eq_of_ok ?_) rfl) (fun j hj => eq_of_ok ?_) (fun j hj _ => eq_of_ok ?_)) ?_
    · simp only [okL, Option.some.injEq, exists_eq_left', dIx_up hkn]
      exact ⟨trivial, trivial⟩
    · rw [ok_T, ok_Bin, ok_Fn, ok_Cons]
      simp only [List.set_cons_zero, List.set_cons_succ]
      refine ok_of (lc_map0 (f := nD) (xs := upl n ps k) (p := fun i => decide (j ∈ upl n ps i)) (g := nD) (itSeq_of (d := nL (upl n ps k)) (eq_of_ok ?_) rfl) (fun i hi => eq_of_ok ?_) (fun i _ _ => nm_eq rfl)) ?_
      · simp only [okL, Option.some.injEq, exists_eq_left', dIx_up hkn]
        exact ⟨trivial, trivial⟩
      · simp only [okL, List.set_cons_zero, List.set_cons_succ, Option.some.injEq, exists_eq_left', dIx_up (inU i hi), dIn_nL, PyData.bool.injEq]
        exact ⟨trivial, trivial⟩
      · simp only [ok_Nil, dLen_L, List.length_map, ok_C, show PyData.int 0 = nD 0 from rfl, dEq_nD, Option.some.injEq, exists_eq_left', PyData.bool.injEq]
        exact ⟨trivial, trivial⟩
    · simp only [okL, List.set_cons_zero, List.set_cons_succ, Option.some.injEq, exists_eq_left']
      exact ⟨rfl, trivial⟩
    · have e2 : ∀ (xs : List Nat) (q : Nat → Bool), (xs.filter q).map (fun j => pD (k, j)) = ((xs.filter q).map fun j => (k, j)).map pD := fun xs q => by rw [List.map_map]; rfl
      rw [e2]
      have hl : ((List.range k).flatMap (covK n ps)).length ≤ k * n := by
        have := flat_len (covK n ps) n (List.range k) fun x _ => covK_len
        rw [List.length_range] at this
        exact this
      have hl2 : k * n ≤ 60 * 60 := Nat.mul_le_mul (by omega) hn
      have hl3 := covK_len (n := n) (ps := ps) (k := k)
      refine ⟨_, dAdd_mapL _ (show _ ≤ line from ?_), turn_nx ?_⟩
      · show ((List.range k).flatMap (covK n ps)).length + (covK n ps k).length ≤ 16777216
        omega
      · simp only [kill_cons, kill_nil, List.set_cons_zero, List.set_cons_succ]
        rw [List.range_succ, List.flatMap_append]
        simp [covK, covF]
  · subst ee
    refine then_nx ?_
    simp only [kill_cons, kill_nil, List.set_cons_zero, List.set_cons_succ]
    rw [ok_Ret, ok_Tup, ok_Cons, ok_C, ok_Cons, ok_V]
    refine ⟨_, rfl, ?_⟩
    simp only [okL, Option.some.injEq, exists_eq_left', dTuple]
    exact ends_rt0 rfl
/-! ### an order drawn -/
theorem names_at {ns : List Nat} {n : Nat} (hp : ns.Perm (List.range n)) {i : Nat} (hi : i < n) : ∃ x, ns[i]? = some x ∧ x < n := by
  have hl := hp.length_eq
  rw [List.length_range] at hl
  exact ⟨ns[i]'(by omega), List.getElem?_eq_getElem _, List.mem_range.mp (hp.mem_iff.mp (List.getElem_mem _))⟩
structure Drw (n : Nat) (ns : List Nat) (k : Nat) (ps : Ps) : Prop where
  nd : ps.Nodup
  pr : ∀ p ∈ ps, ∃ i j, i < k ∧ i < j ∧ j < n ∧ ns[i]? = some p.1 ∧ ns[j]? = some p.2
theorem nodup_at {ns : List Nat} (h : ns.Nodup) {i j : Nat} {x : Nat} (hi : ns[i]? = some x) (hj : ns[j]? = some x) : i = j := by
  obtain ⟨h1, e1⟩ := List.getElem?_eq_some_iff.mp hi
  obtain ⟨h2, e2⟩ := List.getElem?_eq_some_iff.mp hj
  have q := List.pairwise_iff_getElem.mp h
  rcases Nat.lt_trichotomy i j with c | c | c
  · exact absurd (e1.trans e2.symm) (q i j h1 h2 c)
  · exact c
  · exact absurd (e2.trans e1.symm) (q j i h2 h1 c)
theorem drw_ord {n : Nat} {ns : List Nat} {ps : Ps} (hp : ns.Perm (List.range n)) (h : Drw n ns n ps) : InR n ps ∧ Rk n ps (fun x => ns.idxOf x) := by
  have nd : ns.Nodup := hp.nodup_iff.mpr List.nodup_range
  have ix : ∀ i x, ns[i]? = some x → ns.idxOf x = i := fun i x hi => by
    obtain ⟨h1, e1⟩ := List.getElem?_eq_some_iff.mp hi
    subst e1
    exact List.Nodup.idxOf_getElem nd i h1
  constructor
  · intro p hm
    obtain ⟨i, j, h1, h2, h3, h4, h5⟩ := h.pr p hm
    obtain ⟨x, hx, hxl⟩ := names_at hp (show i < n by omega)
    obtain ⟨y, hy, hyl⟩ := names_at hp h3
    rw [h4] at hx
    rw [h5] at hy
    cases hx
    cases hy
    exact ⟨hxl, hyl⟩
  · intro p hm
    obtain ⟨i, j, h1, h2, h3, h4, h5⟩ := h.pr p hm
    simp only [ix i _ h4, ix j _ h5]
    exact ⟨h2, h3⟩
theorem lorder_ok {t : D} (ht : StOk t) (most : Nat) (hm : most ≤ 50) : ∃ n cs t', fLOrder [t, nD most] = .ok (ordD n cs) [t'] ∧ StOk t' ∧ Ord n cs ∧ 1 ≤ n ∧ n ≤ max 1 most := by
  have key : ∃ d outs, fLOrder [t, nD most] = .ok d outs ∧ ∃ n cs t', d = ordD n cs ∧ outs = [t'] ∧ StOk t' ∧ Ord n cs ∧ 1 ≤ n ∧ n ≤ max 1 most := by
    refine run_e ?_
    show Ok (bLOrder [some t, some (nD most), none, none, none, none, none, none, none]) _
    unfold bLOrder
    rw [ok_Seq, ok_Set, ok_Bin, ok_C]
    refine ok_take (m := most) rfl ht (by omega) (nm_eq rfl) fun v t1 hv ht1 => ?_
    simp only [List.set_cons_zero, List.set_cons_succ, show PyData.int 1 = nD 1 from rfl, dAdd_nD, Option.some.injEq, exists_eq_left']
    have hn1 : 1 ≤ 1 + v := by omega
    have hn2 : 1 + v ≤ max 1 most := by omega
    generalize 1 + v = n at hn1 hn2
    rw [ok_Seq, ok_ParN]
    simp only [ok_Cons, ok_Nil, ok_Un, ok_V, ok_Lst, getS_zero, getS_succ, Option.some.injEq, exists_eq_left', dListRg1_nD n (by omega), setAll_nil, setAll_cons, List.set_cons_zero, List.set_cons_succ]
    refine seq_th ?_
    rw [ok_For]
    refine ok_of (rg1_eq (n := n) (nm_eq rfl) (by omega)) ?_
    refine forL_rg (Inv := fun k e => ∃ t left ns, e = [some t, some (nD most), some (nD n), some (nL left), some (nL ns), none, none, none, none] ∧ StOk t ∧ ns.length = k ∧ (ns ++ left).Perm (List.range n)) ⟨t1, List.range n, [], rfl, ht1, rfl, .refl _⟩ (fun k hk e ⟨t, left, ns, ee, ht, hf, hp⟩ => ?_) (fun e ⟨t, left, ns, ee, ht, hf, hp⟩ => ?_)
    · subst ee
      have hlen := hp.length_eq
      rw [List.length_append, List.length_range] at hlen
      simp only [List.set_cons_zero, List.set_cons_succ]
      rw [ok_X]
      refine ok_Met ⟨⟨_, rfl⟩, ?_⟩
      rw [ok_Cons]
      refine ok_Met ⟨⟨_, rfl⟩, ?_⟩
      rw [ok_Cons]
      refine ok_take (m := left.length) rfl ht (by omega) (by rw [show left.length = (left.map nD).length by simp]; exact len_L rfl) fun v t' hv ht' => ?_
      have hv' : v < left.length := by omega
      simp only [ok_Nil, List.set_cons_zero, List.set_cons_succ]
      refine ⟨_, _, _, rfl, mPopAt_nL hv' (by omega), ?_⟩
      try rw [ok_Nil]
      refine ⟨_, _, _, rfl, mApp_nL ns left[v] (by rw [show line = 16777216 from rfl]; omega), turn_nx ⟨t', left.eraseIdx v, ns ++ [left[v]], rfl, ht', by simp [hf], ?_⟩⟩
      refine (List.Perm.trans ?_ hp)
      rw [List.append_assoc]
      exact List.Perm.append_left ns (erase_permJ hv')
    · subst ee
      refine then_nx ?_
      simp only [kill_cons, kill_nil, List.set_cons_zero, List.set_cons_succ]
      have hlen := hp.length_eq
      rw [List.length_append, List.length_range] at hlen
      have : left = [] := List.length_eq_zero_iff.mp (by omega)
      subst this
      rw [List.append_nil] at hp
      obtain ⟨x, t2, hx, hpk, ht2⟩ := (ok_pickF ht (f := nD) [2, 3, 5] (by simp) (by decide)).1
      have hx5 : x ≤ 5 ∧ 1 ≤ x := by
        rcases List.mem_cons.mp hx with rfl | hx
        · decide
        rcases List.mem_cons.mp hx with rfl | hx
        · decide
        rcases List.mem_cons.mp hx with rfl | hx
        · decide
        cases hx
      rw [ok_Seq, ok_ParN, ok_Cons]
      refine ok_call1 (x := .list ([2, 3, 5].map nD)) rfl (eq_of_ok ?_) hpk ?_
      · simp only [okL]
        exact ⟨rfl, trivial⟩
      simp only [ok_Cons, ok_Nil, ok_Lst, Option.some.injEq, exists_eq_left', setAll_nil, setAll_cons, List.set_cons_zero, List.set_cons_succ]
      refine seq_th ?_
      rw [ok_For]
      refine ok_of (rg1_eq (n := n) (nm_eq rfl) (by omega)) ?_
      refine forL_rg (Inv := fun k e => ∃ t ps, e = [some t, some (nD most), some (nD n), some (nL []), some (nL ns), none, some (nD x), some (.list (ps.map pD)), none] ∧ StOk t ∧ Drw n ns k ps ∧ ps.length ≤ 60 * k) ⟨t2, [], rfl, ht2, ⟨List.Pairwise.nil, by simp⟩, by simp⟩ (fun k hk e ⟨t, ps, ee, ht, hD, hl⟩ => ?_) (fun e ⟨t, ps, ee, ht, hD, hl⟩ => ?_)
      · subst ee
        obtain ⟨a, ha, han⟩ := names_at hp hk
        simp only [List.set_cons_zero, List.set_cons_succ]
        rw [ok_Set, ok_Bin, ok_V]
        refine ⟨_, rfl, ?_⟩
        refine ok_Lc (Inv := fun r1 m acc r => r1 = [some t, some (nD most), some (nD n), some (nL []), some (nL ns), some (nD k), some (nD x), some (.list (ps.map pD)), none] ∧ ∃ t' js o, r = [some t', some (nD most), some (nD n), some (nL []), some (nL ns), some (nD k), some (nD x), some (.list (ps.map pD)), o] ∧ StOk t' ∧ List.Sublist js (List.range' (k + 1) m) ∧ acc = js.map fun j => pD (a, ns.getD j 0)) ?_
        refine ok_of (rg2_eq (i := k + 1) (j := n) (add1_eq (nm_eq rfl)) (nm_eq rfl) (by omega) (by omega)) ⟨⟨rfl, t, [], none, rfl, ht, .slnil, rfl⟩, fun m d hm acc r ⟨_, t', js, o, er, ht', hsub, hacc⟩ => ?_, fun ys r2 ⟨_, t', js, o, er, ht', hsub, hacc⟩ => ?_⟩
        · subst er
          rw [List.getElem?_map] at hm
          obtain ⟨j, hj, rfl⟩ := Option.map_eq_some_iff.mp hm
          obtain ⟨hjl, ej⟩ := List.getElem?_eq_some_iff.mp hj
          simp at hjl ej
          subst ej
          refine ⟨_, rfl, ?_⟩
          simp only [kill_cons, kill_nil, List.set_cons_zero, List.set_cons_succ]
          rw [ok_T, ok_Bin]
          refine ok_take (m := x) rfl ht' (by omega) (nm_eq rfl) fun v t3 hv ht3 => ?_
          simp only [ok_C, show PyData.int 0 = nD 0 from rfl, dEq_nD, Option.some.injEq, exists_eq_left', PyData.bool.injEq, List.set_cons_zero, List.set_cons_succ]
          have hjl2 : k + 1 + m < ns.length := by omega
          by_cases c : v = 0
          · rw [if_pos (decide_eq_true c), ok_lcE]
            have e1 : dIx (nL ns) (nD k) = some (nD a) := dIx_nat (by rw [List.getElem?_map, ha]; rfl)
            simp only [okL, Option.some.injEq, exists_eq_left', e1, dIx_nL hjl2]
            refine ⟨trivial, t3, js ++ [k + 1 + m], _, rfl, ht3, ?_, ?_⟩
            · rw [List.range'_concat]
              simp only [Nat.one_mul]
              exact hsub.append (List.Sublist.refl _)
            · rw [hacc, List.map_append]; rfl
          · rw [if_neg (by rw [decide_eq_true_eq]; exact c)]
            refine ⟨trivial, t3, js, _, rfl, ht3, hsub.trans ?_, hacc⟩
            rw [List.range'_concat]
            exact List.sublist_append_left ..
        · subst er
          subst hacc
          rw [List.length_map, List.length_range'] at hsub
          have hjl := hsub.length_le
          rw [List.length_range'] at hjl
          have e2 : (js.map fun j => pD (a, ns.getD j 0)) = (js.map fun j => (a, ns.getD j 0)).map pD := by rw [List.map_map]; rfl
          have hjs : ∀ j ∈ js, k < j ∧ j < n := fun j hj => by
            have := List.mem_range'_1.mp (hsub.subset hj)
            omega
          have hnd : ns.Nodup := hp.nodup_iff.mpr List.nodup_range
          have gat : ∀ j ∈ js, ns[j]? = some (ns.getD j 0) := fun j hj => getD_at (by have := hjs j hj; omega)
          rw [e2]
          refine ⟨_, dAdd_mapL ps (by rw [List.length_map, show line = 16777216 from rfl]; omega), turn_nx ⟨t', ps ++ js.map fun j => (a, ns.getD j 0), rfl, ht', ⟨List.nodup_append.mpr ⟨hD.nd, ?_, fun p hp' q hq e => ?_⟩, fun p hp' => ?_⟩, ?_⟩⟩
          · unfold List.Nodup
            rw [List.pairwise_map]
            refine (hsub.nodup (List.nodup_range' ..)).imp_of_mem fun {i j} hi hj q e => q ?_
            have e3 := (Prod.mk.inj e).2
            have h1 := gat i hi
            rw [e3] at h1
            exact nodup_at hnd h1 (gat j hj)
          · subst e
            obtain ⟨j, hj, e4⟩ := List.mem_map.mp hq
            obtain ⟨i, j', h1, _, _, h4, _⟩ := hD.pr _ hp'
            rw [← e4] at h4
            have := nodup_at hnd h4 ha
            omega
          · rcases List.mem_append.mp hp' with h | h
            · obtain ⟨i, j, h1, h2⟩ := hD.pr p h
              exact ⟨i, j, by omega, h2⟩
            · obtain ⟨j, hj, rfl⟩ := List.mem_map.mp h
              obtain ⟨h1, h2⟩ := hjs j hj
              exact ⟨k, j, by omega, h1, h2, ha, gat j hj⟩
          · rw [List.length_append, List.length_map]; omega
      · subst ee
        refine then_nx ?_
        simp only [kill_cons, kill_nil, List.set_cons_zero, List.set_cons_succ]
        obtain ⟨h1, h2⟩ := drw_ord hp hD
        rw [ok_Ret]
        refine ok_call2 (nm_eq rfl) (nm_eq rfl) (lorderof_ok rfl h1 h2 hD.nd (by omega)) ?_
        exact ends_rt (outs := [t]) rfl ⟨n, covL n ps, t, rfl, rfl, ht, covL_ord h1 h2, hn1, hn2⟩
  obtain ⟨d, outs, e, n, cs, t', rfl, rfl, h⟩ := key
  exact ⟨n, cs, t', e, h⟩
end J

set_option Elab.async false
set_option linter.all false
set_option maxRecDepth 100000
/-! JP3: pieces that change nothing, by their values. -/
namespace J
open PySem
section
variable {a b : SE} {c e : SB} {r : Env} {x y d : D} {p q : Bool}
theorem and_eq (h1 : c r = .ok p r) (h2 : e r = .ok q r) : sAnd c e r = .ok (p && q) r := by
  cases p <;> simp [sAnd, h1, h2, bind_ok]
theorem or_eq (h1 : c r = .ok p r) (h2 : e r = .ok q r) : sOr c e r = .ok (p || q) r := by
  cases p <;> simp [sOr, h1, h2, bind_ok]
/-- the second is asked only if the first holds -/
theorem and_eq' (h1 : c r = .ok p r) (h2 : p = true → e r = .ok q r) : sAnd c e r = .ok (p && q) r := by
  cases p with
  | false => simp [sAnd, h1, bind_ok]
  | true => simp [sAnd, h1, h2 rfl, bind_ok]
theorem or_eq' (h1 : c r = .ok p r) (h2 : p = false → e r = .ok q r) : sOr c e r = .ok (p || q) r := by
  cases p with
  | true => simp [sOr, h1, bind_ok]
  | false => simp [sOr, h1, h2 rfl, bind_ok]
theorem not_eq (h1 : c r = .ok p r) : sNot c r = .ok (!p) r := by simp [sNot, h1, bind_ok]
theorem t_eq (h : a r = .ok (.bool p) r) : sT a r = .ok p r := by simp [sT, h, bind_ok, toB]
theorem ofB_eq (h : c r = .ok p r) : sOfB c r = .ok (.bool p) r := by simp [sOfB, h, bind_ok]
theorem bin_eq {f : D → D → Option D} (h1 : a r = .ok x r) (h2 : b r = .ok y r) (hf : f x y = some d) : sBin f a b r = .ok d r := by simp [sBin, h1, h2, bind_ok, hf, lift]
theorem un_eq {f : D → Option D} (h1 : a r = .ok x r) (hf : f x = some d) : sUn f a r = .ok d r := by simp [sUn, h1, bind_ok, hf, lift]
theorem fn1_eq {f : List D → Option D} (h1 : a r = .ok x r) (hf : f [x] = some d) : sFn f (sCons a sNil) r = .ok d r := by simp [sFn, sCons, sNil, h1, bind_ok, hf, lift]
theorem cons_eq {as : SA} {xs : List D} (h1 : a r = .ok x r) (h2 : as r = .ok xs r) : sCons a as r = .ok (x :: xs) r := by simp [sCons, h1, h2, bind_ok]
theorem nil_eq : sNil r = .ok [] r := rfl
theorem tup_eq {as : SA} {xs : List D} (h2 : as r = .ok xs r) : sTup as r = .ok (.tuple xs) r := by simp [sTup, h2, bind_ok]
theorem lst_eq {as : SA} {xs : List D} (h2 : as r = .ok xs r) : sLst as r = .ok (.list xs) r := by simp [sLst, h2, bind_ok]
theorem c_eq : sC x r = .ok x r := rfl
theorem ife_eq (h1 : c r = .ok p r) (h2 : p = true → a r = .ok d r) (h3 : p = false → b r = .ok d r) : sIfE c a b r = .ok d r := by
  cases p with
  | true => simp [sIfE, h1, h2 rfl, bind_ok]
  | false => simp [sIfE, h1, h3 rfl, bind_ok]
theorem call_eq1 {F : Fn} (he : a r = .ok x r) (hF : F [x] = .ok d []) : sCall F [.e a] r = .ok d r := eq_of_ok (ok_call he hF ⟨rfl, rfl⟩)
theorem call_eq2 {F : Fn} (he : a r = .ok x r) (hf : b r = .ok y r) (hF : F [x, y] = .ok d []) : sCall F [.e a, .e b] r = .ok d r := eq_of_ok (ok_call2 he hf hF ⟨rfl, rfl⟩)
theorem call_eq3 {F : Fn} {g : SE} {z : D} (he : a r = .ok x r) (hf : b r = .ok y r) (hg : g r = .ok z r) (hF : F [x, y, z] = .ok d []) : sCall F [.e a, .e b, .e g] r = .ok d r := eq_of_ok (ok_call3 he hf hg hF ⟨rfl, rfl⟩)
theorem call_eq4 {F : Fn} {g g' : SE} {z u : D} (he : a r = .ok x r) (hf : b r = .ok y r) (hg : g r = .ok z r) (hg' : g' r = .ok u r) (hF : F [x, y, z, u] = .ok d []) : sCall F [.e a, .e b, .e g, .e g'] r = .ok d r := by
  simp [sCall, argL, he, hf, hg, hg', bind_ok, argF, hF, argB]
theorem sl_eq {lo hi : Env → R (Option Int)} {l h : Option Int} (h1 : a r = .ok x r) (h2 : lo r = .ok l r) (h3 : hi r = .ok h r) (hf : dSl l h x = some d) : sSl a lo hi r = .ok d r := by simp [sSl, h1, h2, h3, bind_ok, hf, lift]
theorem nopart_eq : sNoPart r = .ok none r := rfl
theorem part_eq {n : Nat} (h : a r = .ok (nD n) r) : sPart a r = .ok (some (n : Int)) r := by simp [sPart, h, bind_ok, intOf_nD]
theorem partI_eq {n : Int} (h : a r = .ok (.int n) r) : sPart a r = .ok (some n) r := by simp [sPart, h, bind_ok, intOf]
/-- statements -/
theorem if_ok {s t : SS} {Q : Fl → Env → Prop} (h1 : c r = .ok p r) (h2 : p = true → Ok (s r) Q) (h3 : p = false → Ok (t r) Q) : Ok (sIf c s t r) Q := by
  rw [ok_If]
  refine ok_of h1 ?_
  cases p with
  | true => rw [if_pos rfl]; exact h2 rfl
  | false => rw [if_neg (by decide)]; exact h3 rfl
theorem set_ok {i : Nat} {Q : Fl → Env → Prop} (h : a r = .ok d r) (q : Q .nx (r.set i (some d))) : Ok (sSet i a r) Q := by
  rw [ok_Set]
  exact ok_of h q
theorem seqset_ok {i : Nat} {s : SS} {Q : Fl → Env → Prop} (h : a r = .ok d r) (q : Ok (s (r.set i (some d))) Q) : Ok (sSeq (sSet i a) s r) Q := by
  rw [ok_Seq]
  exact set_ok h q
theorem ret_ok {Q : Fl → Env → Prop} (h : a r = .ok d r) (q : Q (.rt d) r) : Ok (sRet a r) Q := by
  rw [ok_Ret]
  exact ok_of h q
/-- an early return, or on -/
theorem seqif_ok {s : SS} {v : SE} {Q : Fl → Env → Prop} (h1 : c r = .ok p r) (h2 : p = true → Ok (v r) fun d r' => Q (.rt d) r') (h3 : p = false → Ok (s r) Q) : Ok (sSeq (sIf c (sRet v) sPass) s r) Q := by
  rw [ok_Seq, ok_If]
  refine ok_of h1 ?_
  cases p with
  | true =>
    rw [if_pos rfl, ok_Ret]
    exact h2 rfl
  | false =>
    rw [if_neg (by decide), ok_Pass]
    exact h3 rfl
theorem for_ok {tg : Tg} {it : SI} {s : SS} {ks : List Nat} {xs : List D} {Q : Fl → Env → Prop} (h : it r = .ok xs r) (q : Ok (forL tg s ks xs (kill ks r)) Q) : Ok (sFor tg it s ks r) Q := by
  rw [ok_For]
  exact ok_of h q
end
theorem dAny_map {α : Type} (xs : List α) (p : α → Bool) : dAny [.list (xs.map fun x => .bool (p x))] = some (.bool (xs.any p)) := by
  have e : xs.map (fun x => PyData.bool (p x)) = (xs.map p).map .bool := by rw [List.map_map]; rfl
  unfold dAny
  rw [e]
  simp only [bools_map, Option.map_some]
  simp [List.any_map]
theorem all_not_len {α : Type} (p : α → Bool) : ∀ l : List α, decide ((l.filter p).length = 0) = l.all fun x => !p x
  | [] => rfl
  | x :: l => by
    rw [List.all_cons, ← all_not_len p l, List.filter_cons]
    cases p x <;> simp
end J

set_option Elab.async false
set_option linter.all false
set_option maxRecDepth 100000
/-! JTOrd: orders drawn from a tape. -/
namespace J
open PySem
noncomputable def bMixed : SS := (sSeq (sSet 2 ((sUn dListRg1 (sV 1)))) (sRet ((sLc (.nm 3) (itRg1 (sV 1)) sYes (lcE ((sMet mPopAt 2 (sCons ((sCall fNext [.io 0, .e ((sFn dLen (sCons (sV 2) sNil)))])) sNil)))) [3]))))
noncomputable def fMixed : Fn := runD 4 [0] bMixed
noncomputable def bClosed : SS := (sSeq (sSet 2 ((sLc (.nm 4) (itRg1 (sV 0)) sYes (lcE ((sLc (.tp [7, 8]) (itSeq (sV 1)) (sT (sBin dEq (sV 7) (sV 4))) (lcE (sV 8)) [7, 8]))) [4]))) (sSeq (sFor (.nm 3) (itRg1 (sV 0)) (sFor (.nm 4) (itRg1 (sV 0)) (sFor (.nm 5) (itSeq ((sFn dList (sCons ((sBin dIx (sV 2) (sV 4))) sNil)))) (sSub 2 (sV 4) ((sBin dAdd ((sBin dIx (sV 2) (sV 4))) ((sLc (.nm 9) (itSeq ((sBin dIx (sV 2) (sV 5)))) (sT (sBin dNin (sV 9) ((sBin dIx (sV 2) (sV 4))))) (lcE (sV 9)) [9]))))) [5]) [4, 5]) [3, 4, 5]) (sRet ((sLc (.nm 6) (itSeq (sV 2)) sYes (lcE ((sUn dSortSet (sV 6)))) [6])))))
noncomputable def fClosed : Fn := runD 10 [] bClosed
noncomputable def bMade : SS := (sSeq (sSet 1 ((sLst sNil))) (sSeq (sFor (.nm 2) (itRg1 ((sFn dLen (sCons (sV 0) sNil)))) (sSet 1 ((sBin dAdd (sV 1) ((sLc (.nm 3) (itSeq ((sBin dIx (sV 0) (sV 2)))) (sT (sBin dEq ((sFn dLen (sCons ((sLc (.nm 4) (itSeq ((sBin dIx (sV 0) (sV 2)))) (sT (sBin dIn (sV 3) ((sBin dIx (sV 0) (sV 4))))) (lcE (sV 4)) [4])) sNil))) (sC (.int 0)))) (lcE ((sTup (sCons (sV 2) (sCons (sV 3) sNil))))) [3]))))) [2]) (sRet ((sTup (sCons (sC (.str "order")) (sCons ((sFn dLen (sCons (sV 0) sNil))) (sCons ((sFn dTuple (sCons ((sFn dSorD (sCons (sV 1) sNil))) sNil))) sNil))))))))
noncomputable def fMade : Fn := runD 5 [] bMade
noncomputable def bTPairs : SS := (sSeq (sSet 2 ((sCall fMixed [.io 0, .e (sV 1)]))) (sSeq (sSet 3 ((sCall fNext [.io 0, .e (sC (.int 7))]))) (sSeq (sIf (sT (sBin dLt (sV 3) (sC (.int 3)))) (sSeq (sSet 4 ((sBin dAdd (sC (.int 1)) ((sCall fNext [.io 0, .e (sC (.int 6))]))))) (sSeq (sSet 5 ((sLst sNil))) (sSeq (sFor (.nm 6) (itRg1 (sV 1)) (sSet 5 ((sBin dAdd (sV 5) ((sLc (.nm 11) (itRg2 ((sBin dAdd (sV 6) (sC (.int 1)))) (sV 1)) (sT (sBin dLt ((sCall fNext [.io 0, .e (sC (.int 7))])) (sV 4))) (lcE ((sTup (sCons ((sBin dIx (sV 2) (sV 6))) (sCons ((sBin dIx (sV 2) (sV 11))) sNil))))) [11]))))) [6]) (sRet (sV 5))))) sPass) (sSeq (sIf (sT (sBin dEq (sV 3) (sC (.int 3)))) (sSeq (sSet 7 ((sCall fMixed [.io 0, .e (sV 1)]))) (sSeq (sSet 5 ((sLst sNil))) (sSeq (sFor (.nm 6) (itRg1 (sV 1)) (sSet 5 ((sBin dAdd (sV 5) ((sLc (.nm 11) (itRg2 ((sBin dAdd (sV 6) (sC (.int 1)))) (sV 1)) (sT (sBin dLt ((sBin dIx (sV 7) (sV 6))) ((sBin dIx (sV 7) (sV 11))))) (lcE ((sTup (sCons ((sBin dIx (sV 2) (sV 6))) (sCons ((sBin dIx (sV 2) (sV 11))) sNil))))) [11]))))) [6]) (sRet (sV 5))))) sPass) (sSeq (sIf (sT (sBin dEq (sV 3) (sC (.int 4)))) (sSeq (sSet 8 ((sLc (.nm 10) (itRg1 (sV 1)) sYes (lcE ((sTup (sCons ((sCall fNext [.io 0, .e ((sBin dMul (sC (.int 2)) (sV 1)))])) (sCons ((sCall fNext [.io 0, .e (sC (.int 4))])) sNil))))) [10]))) (sSeq (sSet 5 ((sLst sNil))) (sSeq (sFor (.nm 6) (itRg1 (sV 1)) (sSet 5 ((sBin dAdd (sV 5) ((sLc (.nm 11) (itRg1 (sV 1)) (sT (sBin dLt ((sBin dAdd ((sBin dIx ((sBin dIx (sV 8) (sV 6))) (sC (.int 0)))) ((sBin dIx ((sBin dIx (sV 8) (sV 6))) (sC (.int 1)))))) ((sBin dIx ((sBin dIx (sV 8) (sV 11))) (sC (.int 0)))))) (lcE ((sTup (sCons (sV 6) (sCons (sV 11) sNil))))) [11]))))) [6]) (sRet (sV 5))))) sPass) (sSeq (sIf (sT (sBin dEq (sV 3) (sC (.int 5)))) (sRet ((sLc (.nm 10) (itRg2 (sC (.int 1)) (sV 1)) (sT (sBin dGt ((sCall fNext [.io 0, .e (sC (.int 5))])) (sC (.int 0)))) (lcE ((sTup (sCons ((sBin dIx (sV 2) (sV 10))) (sCons ((sBin dIx (sV 2) ((sCall fNext [.io 0, .e (sV 10)])))) sNil))))) [10]))) sPass) (sSeq (sSet 9 ((sBin dDiv (sV 1) (sC (.int 2))))) (sSeq (sSet 5 ((sLst sNil))) (sSeq (sFor (.nm 6) (itRg1 (sV 9)) (sSet 5 ((sBin dAdd (sV 5) ((sLc (.nm 11) (itRg1 ((sBin dSub (sV 1) (sV 9)))) (sT (sBin dNe (sV 11) (sV 6))) (lcE ((sTup (sCons ((sBin dIx (sV 2) (sV 6))) (sCons ((sBin dIx (sV 2) ((sBin dAdd (sV 9) (sV 11))))) sNil))))) [11]))))) [6]) (sRet (sV 5)))))))))))
noncomputable def fTPairs : Fn := runD 12 [0] bTPairs
noncomputable def bTOrder : SS := (sSeq (sSet 2 ((sBin dAdd (sC (.int 1)) ((sCall fNext [.io 0, .e (sV 1)]))))) (sRet ((sCall fMade [.e ((sCall fClosed [.e (sV 2), .e ((sCall fTPairs [.io 0, .e (sV 2)]))]))]))))
noncomputable def fTOrder : Fn := runD 3 [0] bTOrder
noncomputable def bTUp : SS := (sRet ((sCall fClosed [.e ((sBin dIx (sV 0) (sC (.int 1)))), .e ((sBin dIx (sV 0) (sC (.int 2))))])))
noncomputable def fTUp : Fn := runD 1 [] bTUp
noncomputable def bTPick : SS := (sRet ((sBin dIx (sV 1) ((sCall fNext [.io 0, .e ((sFn dLen (sCons (sV 1) sNil)))])))))
noncomputable def fTPick : Fn := runD 2 [0] bTPick
theorem closed_ok {n : Nat} {ps : Ps} {d : D} {r : Nat → Nat} (hd : items d = some (ps.map pD)) (hr : InR n ps) (hk : Rk n ps r) (hnd : ps.Nodup) (hn : n ≤ 60) : fClosed [nD n, d] = .ok (.list ((upN n ps).map nL)) [] := by
  refine run_v ?_
  show Ok (bClosed [some (nD n), some d, none, none, none, none, none, none, none, none]) _
  unfold bClosed
  rw [ok_Seq, ok_Set]
  refine ok_of (lc_map0 (f := nD) (xs := List.range n) (p := fun _ => true) (g := fun k => nL (gls ps k)) (rg1_eq (nm_eq rfl) (by omega)) (fun _ _ => rfl) (fun k _ _ => eq_of_ok ?_)) ?_
  · refine ok_of (lc_gen (f := pD) (xs := ps) (p := fun p => decide (p.1 = k)) (g := fun p => nD p.2) (E := fun p => [some (nD n), some d, none, none, some (nD k), none, none, some (nD p.1), some (nD p.2), none]) (itSeq_of (nm_eq rfl) hd) (fun p _ => rfl) (fun p _ => rfl) (fun p _ => eq_of_ok ?_) (fun p _ _ => nm_eq rfl)) ⟨?_, rfl⟩
    · simp only [okL, Option.some.injEq, exists_eq_left', dEq_nD, PyData.bool.injEq]
      exact ⟨trivial, trivial⟩
    · unfold nL gls
      rw [List.map_map]; rfl
  rw [filt_true]
  have e0 : (List.range n).map (fun k => nL (gls ps k)) = ((List.range n).map (gls ps)).map nL := by rw [List.map_map]; rfl
  rw [e0]
  simp only [List.set_cons_zero, List.set_cons_succ]
  have hI0 : UpI n ps ((List.range n).map (gls ps)) := by
    refine ⟨by simp, fun k l h => ?_, fun k l h x hx => ?_⟩
    · rw [List.getElem?_map] at h
      obtain ⟨j, _, rfl⟩ := Option.map_eq_some_iff.mp h
      exact gls_nd hnd j
    · rw [List.getElem?_map] at h
      obtain ⟨j, hj, rfl⟩ := Option.map_eq_some_iff.mp h
      obtain ⟨hl, e⟩ := List.getElem?_eq_some_iff.mp hj
      rw [List.getElem_range] at e
      subst e
      exact .one (mem_gls.mp hx)
  have hE0 : ∀ a b, (a, b) ∈ ps → Has ((List.range n).map (gls ps)) a b := fun a b m => by
    refine ⟨gls ps a, ?_, mem_gls.mpr m⟩
    rw [List.getElem?_map, List.getElem?_range (hr _ m).1]; rfl
  refine seq_th ?_
  rw [ok_For]
  refine ok_of (rg1_eq (n := n) (nm_eq rfl) (by omega)) ?_
  refine forL_rg (Inv := fun t e => ∃ u : List (List Nat), e = [some (nD n), some d, some (.list (u.map nL)), none, none, none, none, none, none, none] ∧ UpI n ps u ∧ ∀ a b, Pth ps (t + 1) a b → Has u a b) ⟨_, rfl, hI0, fun a b h => hE0 a b (h.resolve_right fun ⟨_, _, z⟩ => z)⟩ (fun t ht e ⟨u, ee, hI, hP⟩ => ?_) (fun e ⟨u, ee, hI, hP⟩ => ?_)
  · subst ee
    simp only [List.set_cons_zero, List.set_cons_succ]
    rw [ok_For]
    refine ok_of (rg1_eq (n := n) (nm_eq rfl) (by omega)) ?_
    refine forL_rg (Inv := fun k e => ∃ v : List (List Nat), e = [some (nD n), some d, some (.list (v.map nL)), some (nD t), none, none, none, none, none, none] ∧ UpI n ps v ∧ Mor u v ∧ ∀ a b, a < k → Pth ps (t + 2) a b → Has v a b) ⟨u, rfl, hI, .refl, fun _ _ h => by omega⟩ (fun k hkn e ⟨v, ee, hIv, hM, hQ⟩ => ?_) (fun e ⟨v, ee, hIv, hM, hQ⟩ => ?_)
    · subst ee
      simp only [List.set_cons_zero, List.set_cons_succ]
      have hvk : v[k]? = some (v[k]'(by rw [hIv.len]; exact hkn)) := List.getElem?_eq_getElem _
      generalize (v[k]'(by rw [hIv.len]; exact hkn)) = s at hvk
      rw [ok_For, ok_itSeq, ok_Fn, ok_Cons, ok_Bin, ok_V]
      refine ⟨_, rfl, ?_⟩
      rw [ok_V]
      refine ⟨_, rfl, _, dIx_rows hvk, ?_⟩
      rw [ok_Nil]
      refine ⟨_, dList_nL s, _, rfl, ?_⟩
      simp only [kill_cons, kill_nil, List.set_cons_zero, List.set_cons_succ]
      refine forL_map (f := nD) (xs := s) (Inv := fun m e => ∃ w : List (List Nat), e = [some (nD n), some d, some (.list (w.map nL)), some (nD t), some (nD k), none, none, none, none, none] ∧ UpI n ps w ∧ Mor v w ∧ ∀ m' j, m' < m → s[m']? = some j → ∀ x, Has v j x → Has w k x) ⟨v, rfl, hIv, .refl, fun _ _ h => by omega⟩ (fun m j hm e ⟨w, ee, hIw, hMw, hS⟩ => ?_) (fun e ⟨w, ee, hIw, hMw, hS⟩ => ?_)
      · subst ee
        have hjs := List.mem_of_getElem? hm
        have hkj := hIv.tc _ _ hvk j hjs
        have hjn := (hkj.lt hr).2
        have hwk : w[k]? = some (w[k]'(by rw [hIw.len]; exact hkn)) := List.getElem?_eq_getElem _
        generalize (w[k]'(by rw [hIw.len]; exact hkn)) = lk at hwk
        have hwj : w[j]? = some (w[j]'(by rw [hIw.len]; exact hjn)) := List.getElem?_eq_getElem _
        generalize (w[j]'(by rw [hIw.len]; exact hjn)) = lj at hwj
        obtain ⟨g1, g2, g3⟩ := upI_set hIw hwk hwj hkj
        simp only [List.set_cons_zero, List.set_cons_succ]
        have lk_le := upI_len hr hIw hwk
        have lj_le := upI_len hr hIw hwj
        have hf_le := List.length_filter_le (fun x => !decide (x ∈ lk)) lj
        refine ok_Sub ?_
        rw [ok_Bin, ok_Bin, ok_V]
        refine ⟨_, rfl, ?_⟩
        rw [ok_V]
        refine ⟨_, rfl, _, dIx_rows hwk, ?_⟩
        refine ok_of (lc_map0 (f := nD) (xs := lj) (p := fun x => !decide (x ∈ lk)) (g := nD) (itSeq_of (d := nL lj) (eq_of_ok ?_) rfl) (fun x _ => eq_of_ok ?_) (fun x _ _ => nm_eq rfl)) ?_
        · simp only [okL, Option.some.injEq, exists_eq_left', dIx_rows hwj]
          exact ⟨trivial, trivial⟩
        · simp only [okL, List.set_cons_zero, List.set_cons_succ, Option.some.injEq, exists_eq_left', dIx_rows hwk, dNin_nL, PyData.bool.injEq]
          exact ⟨trivial, trivial⟩
        · refine ⟨_, dAdd_nL lk (lj.filter fun x => !decide (x ∈ lk)) (by rw [show line = 16777216 from rfl]; omega), ⟨_, rfl⟩, ?_⟩
          rw [ok_V]
          refine ⟨_, rfl, k, w.map nL, k, rfl, rfl, ?_, ?_⟩
          · rw [List.length_map, hIw.len]; exact ixD_nat hkn
          · simp only [List.set_cons_zero, List.set_cons_succ]
            refine turn_nx ⟨w.set k (lk ++ lj.filter fun x => !decide (x ∈ lk)), ?_, g1, hMw.trans g2, fun m' j' h1 h2 x hx => ?_⟩
            · simp only [kill_cons, kill_nil, List.set_cons_zero, List.set_cons_succ]
              rw [List.map_set]
            · by_cases e : m' = m
              · subst e
                rw [hm] at h2
                cases h2
                obtain ⟨l, hl, hxl⟩ := hMw.has hx
                rw [hwj] at hl
                cases hl
                exact g3 x hxl
              · exact g2.has (hS m' j' (by omega) h2 x hx)
      · subst ee
        refine turn_nx ⟨w, rfl, hIw, hM.trans hMw, fun a b h1 h2 => ?_⟩
        by_cases e : a = k
        · subst e
          rcases h2 with h2 | ⟨c, h3, h4⟩
          · exact (hM.trans hMw).has (hP _ _ (.inl h2))
          · obtain ⟨l, hl, hc⟩ := hM.has (hP _ _ (show Pth ps (t + 1) a c from .inl h3))
            rw [hvk] at hl
            cases hl
            obtain ⟨m', hm', e⟩ := List.mem_iff_getElem.mp hc
            exact hS m' c hm' (by rw [List.getElem?_eq_getElem hm', e]) b (hM.has (hP _ _ h4))
        · exact hMw.has (hQ a b (by omega) h2)
    · subst ee
      refine turn_nx ⟨v, rfl, hIv, fun a b h => ?_⟩
      exact hQ a b ((Pth.tc h).lt hr).1 h
  · subst ee
    refine then_nx ?_
    simp only [kill_cons, kill_nil, List.set_cons_zero, List.set_cons_succ]
    rw [ok_Ret]
    have hus : ∀ l ∈ u, l.Nodup ∧ l.length ≤ n := fun l hl => by
      obtain ⟨k, hk', e⟩ := List.mem_iff_getElem.mp hl
      have hu : u[k]? = some l := by rw [List.getElem?_eq_getElem hk', e]
      exact ⟨hI.nd _ _ hu, upI_len hr hI hu⟩
    refine ok_of (lc_map0 (f := nL) (xs := u) (p := fun _ => true) (g := fun l => nL (sortN l)) (itSeq_of (nm_eq rfl) rfl) (fun _ _ => rfl) (fun l hl _ => eq_of_ok ?_)) ?_
    · obtain ⟨h1, h2⟩ := hus l hl
      have es : dSortSet (nL l) = some (nL (sortN l)) := dSortSet_gen (ints_nD l) (by omega) (strict (sortN_pair l) ((sortN_perm l).nodup_iff.mpr h1)) (fun k => (sortN_perm l).mem_iff) (by rw [(sortN_perm l).length_eq]; omega)
      simp only [okL, List.set_cons_zero, List.set_cons_succ, Option.some.injEq, exists_eq_left', es]
      exact ⟨trivial, trivial⟩
    · refine ends_rt0 ?_
      rw [filt_true]
      have e : u.map (fun l => nL (sortN l)) = (u.map sortN).map nL := by rw [List.map_map]; rfl
      rw [e]
      congr 2
      refine List.ext_getElem? fun k => ?_
      rw [List.getElem?_map]
      by_cases hkn : k < n
      · have hu : u[k]? = some (u[k]'(by rw [hI.len]; exact hkn)) := List.getElem?_eq_getElem _
        generalize (u[k]'(by rw [hI.len]; exact hkn)) = l at hu
        rw [hu, upN_at hkn, Option.map_some]
        congr 1
        refine sortN_upl (hI.nd _ _ hu) fun x => ?_
        rw [mem_upl' hr]
        refine ⟨hI.tc _ _ hu x, fun t => ?_⟩
        have := (t.rk hk).2
        obtain ⟨l', hl', hx⟩ := hP k x ((t.pth hk).le (by omega))
        rw [hu] at hl'
        cases hl'
        exact hx
      · rw [List.getElem?_eq_none (by rw [hI.len]; omega), List.getElem?_eq_none (by rw [upN_len]; omega)]; rfl

/-! ### pairs, sorted -/
theorem keyP (p : Nat × Nat) : PySem.W.keyToks (pD p) = [.inl 1, .inl p.1, .inl 1, .inl p.2, .inl 0] := by
  simp [pD, nD, PySem.W.keyToks, PySem.W.keyToksAll]
def pLe (p q : Nat × Nat) : Prop := p.1 < q.1 ∨ (p.1 = q.1 ∧ p.2 ≤ q.2)
theorem le_pD {p q : Nat × Nat} (h : pLe p q) : PySem.W.dataLe false id (pD p) (pD q) = true := by
  show (!PyProof.Rows.lexLt PyProof.Rows.itemOrd (PySem.W.keyToks (pD q)) (PySem.W.keyToks (pD p))) = true
  rw [keyP, keyP]
  simp only [PyProof.Rows.lexLt]
  show (!(decide ((1 : Int) < 1) || (!decide ((1 : Int) < 1) && (decide ((q.1 : Int) < p.1) || (!decide ((p.1 : Int) < q.1) && (decide ((1 : Int) < 1) || (!decide ((1 : Int) < 1) && (decide ((q.2 : Int) < p.2) || (!decide ((p.2 : Int) < q.2) && (decide ((0 : Int) < 0) || (!decide ((0 : Int) < 0) && false))))))))))) = true
  unfold pLe at h
  rcases h with h | ⟨h1, h2⟩
  · have e1 : ¬ (q.1 : Int) < p.1 := by omega
    have e2 : (p.1 : Int) < q.1 := by omega
    simp [e1, e2]
  · have e1 : ¬ (q.1 : Int) < p.1 := by omega
    have e2 : ¬ (q.2 : Int) < p.2 := by omega
    simp [e1, e2]
theorem alikeP (p q : Nat × Nat) : PySem.W.alike (pD p) (pD q) = true := by simp [pD, nD, PySem.W.alike, PySem.W.alikeAll]
theorem smP (p : Nat × Nat) : Sm 1 (pD p) := sm_tup fun x hx => by
  rcases List.mem_cons.mp hx with rfl | hx
  · exact sm_nD
  · rcases List.mem_cons.mp hx with rfl | hx
    · exact sm_nD
    · cases hx
/-- pairs that stand in order stay as they are -/
theorem sorted_pD (ps : Ps) (h : ps.Pairwise pLe) (hl : ps.length ≤ line) : dSorD [.list (ps.map pD)] = some (.list (ps.map pD)) := by
  simp only [dSorD, items, Option.bind_some, srtOk_map (n := 1) ps (fun p _ q _ => alikeP p q) (.inl fun _ _ => rfl) (fun p _ => smP p) hl, if_true]
  unfold srtD
  rw [List.mergeSort_of_pairwise]
  rw [List.pairwise_map]
  exact h.imp fun {p q} z => le_pD z
theorem covL_asc {n : Nat} {ps : Ps} : (covL n ps).Pairwise pLe := by
  unfold covL
  have go : ∀ ks : List Nat, ks.Pairwise (· < ·) → (ks.flatMap (covK n ps)).Pairwise pLe := by
    intro ks
    induction ks with
    | nil => intro _; simp
    | cons k ks ih =>
      intro h
      rw [List.pairwise_cons] at h
      rw [List.flatMap_cons, List.pairwise_append]
      refine ⟨?_, ih h.2, fun x hx y hy => ?_⟩
      · unfold covK covF
        rw [List.pairwise_map]
        exact (List.Pairwise.filter _ upl_asc).imp fun {a b} q => .inr ⟨rfl, Nat.le_of_lt q⟩
      · unfold covK covF at hx hy
        obtain ⟨j, _, rfl⟩ := List.mem_map.mp hx
        obtain ⟨k', hk', hy⟩ := List.mem_flatMap.mp hy
        obtain ⟨j', _, rfl⟩ := List.mem_map.mp hy
        exact .inl (h.1 k' hk')
  exact go _ List.pairwise_lt_range
theorem made_ok {n : Nat} {ps : Ps} (hn : n ≤ 60) : fMade [.list ((upN n ps).map nL)] = .ok (ordD n (covL n ps)) [] := by
  refine run_v ?_
  show Ok (bMade [some (.list ((upN n ps).map nL)), none, none, none, none]) _
  unfold bMade
  have ln : ∀ r : Env, getS r 0 = some (.list ((upN n ps).map nL)) → (sFn dLen (sCons (sV 0) sNil)) r = .ok (nD n) r := fun r h => by
    have := len_L h
    rw [List.length_map, upN_len] at this
    exact this
  refine seqset_ok (lst_eq nil_eq) ?_
  simp only [List.set_cons_zero, List.set_cons_succ]
  refine seq_th (for_ok (rg1_eq (n := n) (ln _ rfl) (by omega)) ?_)
  simp only [kill_cons, kill_nil, List.set_cons_zero, List.set_cons_succ]
  have hlen : ∀ k, k ≤ n → ((List.range k).flatMap (covK n ps)).length ≤ 3600 := fun k hk => by
    have := flat_len (covK n ps) n (List.range k) fun x _ => covK_len
    rw [List.length_range] at this
    have h2 : k * n ≤ 60 * 60 := Nat.mul_le_mul (by omega) hn
    omega
  refine forL_rg (Inv := fun k e => e = [some (.list ((upN n ps).map nL)), some (.list (((List.range k).flatMap (covK n ps)).map pD)), none, none, none]) rfl (fun k hkn e ee => ?_) (fun e ee => ?_)
  · subst ee
    simp only [List.set_cons_zero, List.set_cons_succ]
    have inU : ∀ i ∈ upl n ps k, i < n := fun i hi => (mem_upl.mp hi).1
    have e2 : ∀ (xs : List Nat) (q : Nat → Bool), (xs.filter q).map (fun j => pD (k, j)) = ((xs.filter q).map fun j => (k, j)).map pD := fun xs q => by rw [List.map_map]; rfl
    refine set_ok (d := .list (((List.range k).flatMap (covK n ps) ++ covK n ps k).map pD)) (bin_eq (nm_eq rfl) (lc_map0 (f := nD) (xs := upl n ps k) (p := fun j => decide (((upl n ps k).filter fun i => decide (j ∈ upl n ps i)).length = 0)) (g := fun j => pD (k, j)) (itSeq_of (bin_eq (nm_eq rfl) (nm_eq rfl) (dIx_up hkn)) rfl) (fun j _ => t_eq (bin_eq (fn1_eq (lc_map0 (f := nD) (xs := upl n ps k) (p := fun i => decide (j ∈ upl n ps i)) (g := nD) (itSeq_of (bin_eq (nm_eq rfl) (nm_eq rfl) (dIx_up hkn)) rfl) (fun i hi => t_eq (bin_eq (nm_eq rfl) (bin_eq (nm_eq rfl) (nm_eq rfl) (dIx_up (inU i hi))) (dIn_nL _ _))) (fun i _ _ => nm_eq rfl)) (dLen_L _)) c_eq ?_)) (fun j _ _ => tup_eq (cons_eq (nm_eq rfl) (cons_eq (nm_eq rfl) nil_eq)))) ?_) (turn_nx ?_)
    · rw [show PyData.int 0 = nD 0 from rfl, dEq_nD, List.length_map]
    · rw [e2]
      have h1 := hlen k (by omega)
      have h3 := covK_len (n := n) (ps := ps) (k := k)
      exact dAdd_mapL _ (show ((List.range k).flatMap (covK n ps)).length + (covK n ps k).length ≤ 16777216 by omega)
    · simp only [kill_cons, kill_nil, List.set_cons_zero, List.set_cons_succ]
      rw [List.range_succ, List.flatMap_append]
      simp [covK, covF]
  · subst ee
    refine then_nx ?_
    simp only [kill_cons, kill_nil, List.set_cons_zero, List.set_cons_succ]
    refine ret_ok (tup_eq (cons_eq c_eq (cons_eq (ln _ rfl) (cons_eq (fn1_eq (fn1_eq (nm_eq rfl) (sorted_pD (covL n ps) covL_asc (Nat.le_trans (hlen n (Nat.le_refl _)) (by decide)))) rfl) nil_eq)))) (ends_rt0 rfl)
theorem tup_up_ok {n : Nat} {cs : Ps} (h : Ord n cs) (hn : n ≤ 60) : fTUp [ordD n cs] = .ok (.list ((upN n cs).map nL)) [] := by
  obtain ⟨r, hr⟩ := h.rk
  refine run_v ?_
  show Ok (bTUp [some (ordD n cs)]) _
  unfold bTUp
  exact ret_ok (call_eq2 (order_n rfl) (order_cs rfl) (closed_ok rfl h.rng hr h.nd hn)) (ends_rt0 rfl)
/-! ### drawn -/
theorem tpick_ok {t : D} (ht : TapeOk t) {α : Type} {f : α → D} (xs : List α) (hne : xs ≠ []) (hl : xs.length < 1000000) : ∃ x t', x ∈ xs ∧ fTPick [t, .list (xs.map f)] = .ok (f x) [t'] ∧ TapeOk t' := by
  have h0 : 0 < xs.length := List.length_pos_iff.mpr hne
  have key : ∃ d outs, fTPick [t, .list (xs.map f)] = .ok d outs ∧ ∃ x t', x ∈ xs ∧ d = f x ∧ outs = [t'] ∧ TapeOk t' := by
    refine run_e ?_
    show Ok (bTPick [some t, some (.list (xs.map f))]) _
    unfold bTPick
    rw [ok_Ret, ok_Bin, ok_V]
    refine ⟨_, rfl, ?_⟩
    refine ok_next (m := xs.length) rfl ht h0 (by omega) (by rw [show xs.length = (xs.map f).length by simp]; exact len_L rfl) fun v t' hv ht' => ?_
    have hg : (xs.map f)[v]? = some (f xs[v]) := by rw [List.getElem?_map, List.getElem?_eq_getElem hv]; rfl
    exact ⟨f xs[v], dIx_nat hg, ends_rt (outs := [t']) rfl ⟨xs[v], t', List.getElem_mem hv, rfl, rfl, ht'⟩⟩
  obtain ⟨d, outs, e, x, t', hx, rfl, rfl, h⟩ := key
  exact ⟨x, t', hx, e, h⟩
theorem mixed_ok {t : D} (ht : TapeOk t) {n : Nat} (hn : n ≤ 60) : ∃ r t', fMixed [t, nD n] = .ok (nL r) [t'] ∧ r.Perm (List.range n) ∧ TapeOk t' := by
  have key : ∃ d outs, fMixed [t, nD n] = .ok d outs ∧ ∃ r t', d = nL r ∧ outs = [t'] ∧ r.Perm (List.range n) ∧ TapeOk t' := by
    refine run_e ?_
    show Ok (bMixed [some t, some (nD n), none, none]) _
    unfold bMixed
    refine seqset_ok (un_eq (nm_eq rfl) (dListRg1_nD n (by omega))) ?_
    simp only [List.set_cons_zero, List.set_cons_succ]
    rw [ok_Ret]
    refine ok_Lc (Inv := fun r1 m acc r => r1 = [some t, some (nD n), some (nL (List.range n)), none] ∧ ∃ t' left found o, r = [some t', some (nD n), some (nL left), o] ∧ TapeOk t' ∧ found.length = m ∧ (found ++ left).Perm (List.range n) ∧ acc = found.map nD) ?_
    refine ok_of (rg1_eq (n := n) (nm_eq rfl) (by omega)) ⟨⟨rfl, t, List.range n, [], none, rfl, ht, rfl, .refl _, rfl⟩, fun m d hm acc r ⟨_, t', left, found, o, er, ht', hf, hp, ha⟩ => ?_, fun ys r2 ⟨_, t', left, found, o, er, ht', hf, hp, ha⟩ => ?_⟩
    · subst er
      rw [List.getElem?_map] at hm
      obtain ⟨j, hj, rfl⟩ := Option.map_eq_some_iff.mp hm
      obtain ⟨hjl, ej⟩ := List.getElem?_eq_some_iff.mp hj
      simp at hjl ej
      subst ej
      have hlen := hp.length_eq
      rw [List.length_append, List.length_range] at hlen
      refine ⟨_, rfl, ?_⟩
      simp only [kill_cons, kill_nil, List.set_cons_zero, List.set_cons_succ]
      refine ok_of (show sYes _ = .ok true _ from rfl) ?_
      rw [if_pos rfl, ok_lcE]
      refine ok_Met ⟨⟨_, rfl⟩, ?_⟩
      rw [ok_Cons]
      refine ok_next (m := left.length) rfl ht' (by omega) (by omega) (by rw [show left.length = (left.map nD).length by simp]; exact len_L rfl) fun v t2 hv ht2 => ?_
      rw [ok_Nil]
      refine ⟨_, _, _, rfl, mPopAt_nL hv (by omega), trivial, t2, left.eraseIdx v, found ++ [left[v]], _, rfl, ht2, by simp [hf], ?_, by rw [ha, List.map_append]; rfl⟩
      refine (List.Perm.trans ?_ hp)
      rw [List.append_assoc]
      exact List.Perm.append_left found (erase_permJ hv)
    · subst er
      have hlen := hp.length_eq
      rw [List.length_append, List.length_range] at hlen
      rw [List.length_map, List.length_range] at hf
      have : left = [] := List.length_eq_zero_iff.mp (by omega)
      subst this
      rw [List.append_nil] at hp
      exact ends_rt (outs := [t']) rfl ⟨found, t', by rw [ha]; rfl, rfl, hp, ht'⟩
  obtain ⟨d, outs, e, r, t', rfl, rfl, h⟩ := key
  exact ⟨r, t', e, h⟩
/-! ### comprehensions that draw -/
theorem set_getS {r : Env} {i : Nat} {d : D} (h : getS r i = some d) : r.set i (some d) = r := by
  induction r generalizing i with
  | nil => rfl
  | cons o r ih =>
    cases i with
    | zero => simp only [getS_zero] at h; subst h; rfl
    | succ i => simp only [getS_succ] at h; rw [List.set_cons_succ, ih h]
theorem back_oth {r r' : Env} {i v : Nat} {o : Option D} (h : i ≠ v) : back [v] r r' = back [v] (r.set i o) r' := by
  unfold back
  rw [List.getElem?_set_ne h]
  rfl
section
variable {α β : Type} {P : α → β → Prop} {T : D → Prop} {f : α → D} {g : β → D} {i v : Nat} {it : SI} {c : SB} {s : SE} {r : Env} {xs : List α} {t : D} {Q : D → Env → Prop}
theorem ok_LcT (hiv : i ≠ v) (hi : it r = .ok (xs.map f) r) (ht : T t) (hr : getS r i = some t)
    (step : ∀ x ∈ xs, ∀ t, T t → Ok (c ((r.set i (some t)).set v (some (f x)))) fun b r' => ∃ t', T t' ∧ r' = (r.set i (some t')).set v (some (f x)) ∧ (b = true → Ok (s r') fun d r'' => ∃ t'' y, T t'' ∧ r'' = (r.set i (some t'')).set v (some (f x)) ∧ d = g y ∧ P x y))
    (h : ∀ t' (zs : List (α × β)), T t' → (zs.map (·.1)).Sublist xs → (∀ z ∈ zs, P z.1 z.2) → Q (.list (zs.map fun z => g z.2)) (r.set i (some t'))) :
    Ok (sLc (.nm v) it c (lcE s) [v] r) Q := by
  refine ok_Lc (Inv := fun r1 m acc r2 => r1 = r ∧ ∃ t, ∃ zs : List (α × β), T t ∧ (∀ o, r2.set v o = (r.set i (some t)).set v o) ∧ (zs.map (·.1)).Sublist (xs.take m) ∧ (∀ z ∈ zs, P z.1 z.2) ∧ acc = zs.map fun z => g z.2) ?_
  refine ok_of hi ⟨⟨rfl, t, [], ht, fun o => by rw [set_getS hr], List.nil_sublist _, fun z m => absurd m List.not_mem_nil, rfl⟩, fun m d hm acc r2 ⟨_, t, zs, ht, e, sl, al, ea⟩ => ?_, fun ys r2 ⟨_, t, zs, ht, e, sl, al, ea⟩ => ?_⟩
  · rw [List.getElem?_map] at hm
    obtain ⟨x, hx, rfl⟩ := Option.map_eq_some_iff.mp hm
    obtain ⟨hl, ex⟩ := List.getElem?_eq_some_iff.mp hx
    have hxm : x ∈ xs := ex ▸ List.getElem_mem hl
    have et : xs.take (m + 1) = xs.take m ++ [x] := by rw [List.take_succ, hx]; rfl
    refine ⟨(r.set i (some t)).set v (some (f x)), ?_, ?_⟩
    · show some (((kill [] r2).set v none).set v (some (f x))) = _
      rw [kill_nil, List.set_set, e]
    · refine (step x hxm t ht).imp fun b r3 ⟨t', ht', e3, hb⟩ => ?_
      subst e3
      cases b with
      | false =>
        simp only [Bool.false_eq_true, if_false]
        exact ⟨trivial, t', zs, ht', fun o => List.set_set .., sl.trans (et ▸ List.sublist_append_left _ _), al, ea⟩
      | true =>
        simp only [if_true]
        rw [ok_lcE]
        refine (hb rfl).imp fun d r4 ⟨t'', y, ht'', e4, ed, hp⟩ => ?_
        subst e4 ed ea
        refine ⟨trivial, t'', zs ++ [(x, y)], ht'', fun o => List.set_set .., ?_, fun z hz => ?_, by simp⟩
        · rw [et, List.map_append]
          exact sl.append (List.Sublist.refl _)
        · rcases List.mem_append.mp hz with hz | hz
          · exact al z hz
          · cases List.mem_singleton.mp hz
            exact hp
  · subst ea
    rw [List.length_map, List.take_length] at sl
    rw [back_oth (o := some t) hiv, back1 e]
    exact h t zs ht sl al
theorem ok_LcA (hiv : i ≠ v) (hi : it r = .ok (xs.map f) r) (ht : T t) (hr : getS r i = some t)
    (step : ∀ x ∈ xs, ∀ t, T t → Ok (s ((r.set i (some t)).set v (some (f x)))) fun d r'' => ∃ t'' y, T t'' ∧ r'' = (r.set i (some t'')).set v (some (f x)) ∧ d = g y ∧ P x y)
    (h : ∀ t' (zs : List (α × β)), T t' → zs.map (·.1) = xs → (∀ z ∈ zs, P z.1 z.2) → Q (.list (zs.map fun z => g z.2)) (r.set i (some t'))) :
    Ok (sLc (.nm v) it sYes (lcE s) [v] r) Q := by
  refine ok_Lc (Inv := fun r1 m acc r2 => r1 = r ∧ ∃ t, ∃ zs : List (α × β), T t ∧ (∀ o, r2.set v o = (r.set i (some t)).set v o) ∧ zs.map (·.1) = xs.take m ∧ (∀ z ∈ zs, P z.1 z.2) ∧ acc = zs.map fun z => g z.2) ?_
  refine ok_of hi ⟨⟨rfl, t, [], ht, fun o => by rw [set_getS hr], rfl, fun z m => absurd m List.not_mem_nil, rfl⟩, fun m d hm acc r2 ⟨_, t, zs, ht, e, sl, al, ea⟩ => ?_, fun ys r2 ⟨_, t, zs, ht, e, sl, al, ea⟩ => ?_⟩
  · rw [List.getElem?_map] at hm
    obtain ⟨x, hx, rfl⟩ := Option.map_eq_some_iff.mp hm
    obtain ⟨hl, ex⟩ := List.getElem?_eq_some_iff.mp hx
    have hxm : x ∈ xs := ex ▸ List.getElem_mem hl
    have et : xs.take (m + 1) = xs.take m ++ [x] := by rw [List.take_succ, hx]; rfl
    refine ⟨(r.set i (some t)).set v (some (f x)), ?_, ?_⟩
    · show some (((kill [] r2).set v none).set v (some (f x))) = _
      rw [kill_nil, List.set_set, e]
    · refine ok_of (y := true) rfl ?_
      simp only [if_true]
      rw [ok_lcE]
      refine (step x hxm t ht).imp fun d r4 ⟨t'', y, ht'', e4, ed, hp⟩ => ?_
      subst e4 ed ea
      refine ⟨trivial, t'', zs ++ [(x, y)], ht'', fun o => List.set_set .., ?_, fun z hz => ?_, by simp⟩
      · rw [et, List.map_append, sl]
        rfl
      · rcases List.mem_append.mp hz with hz | hz
        · exact al z hz
        · cases List.mem_singleton.mp hz
          exact hp
  · subst ea
    rw [List.length_map, List.take_length] at sl
    rw [back_oth (o := some t) hiv, back1 e]
    exact h t zs ht sl al
end
/-! ### pairs drawn from the tape -/
theorem drw_add {n k : Nat} {ns : List Nat} {ps : Ps} {bs : List Nat} (hp : ns.Perm (List.range n)) (h : Drw n ns k ps) (hk : k < n) (hb : bs.Pairwise (· < ·)) (hj : ∀ b ∈ bs, k < b ∧ b < n) : Drw n ns (k + 1) (ps ++ bs.map fun b => (ns.getD k 0, ns.getD b 0)) := by
  have hl := hp.length_eq
  rw [List.length_range] at hl
  have nd : ns.Nodup := hp.nodup_iff.mpr List.nodup_range
  have at_ : ∀ b, b < n → ns[b]? = some (ns.getD b 0) := fun b hb => getD_at (d := 0) (by omega)
  refine ⟨?_, fun p hm => ?_⟩
  · rw [List.nodup_append]
    refine ⟨h.nd, ?_, fun p hm q hq e => ?_⟩
    · rw [List.Nodup, List.pairwise_map]
      refine hb.imp_of_mem fun {a b} ha hb' hlt e => ?_
      have e2 : ns.getD a 0 = ns.getD b 0 := congrArg Prod.snd e
      have := nodup_at nd (at_ a (hj a ha).2) (e2 ▸ at_ b (hj b hb').2)
      omega
    · subst e
      obtain ⟨i, j, h1, h2, h3, h4, h5⟩ := h.pr p hm
      obtain ⟨b, hb', rfl⟩ := List.mem_map.mp hq
      have := nodup_at nd h4 (at_ k hk)
      omega
  · rcases List.mem_append.mp hm with hm | hm
    · obtain ⟨i, j, h1, h2⟩ := h.pr p hm
      exact ⟨i, j, by omega, h2⟩
    · obtain ⟨b, hb', rfl⟩ := List.mem_map.mp hm
      obtain ⟨h1, h2⟩ := hj b hb'
      exact ⟨k, b, by omega, h1, h2, at_ k hk, at_ b h2⟩
def PrOk (n : Nat) (ps : Ps) : Prop := ps.Nodup ∧ InR n ps ∧ ∃ r, Rk n ps r
theorem drw_pr {n k : Nat} {ns : List Nat} {ps : Ps} (hp : ns.Perm (List.range n)) (h : Drw n ns k ps) (hk : k ≤ n) : PrOk n ps := by
  have h2 : Drw n ns n ps := ⟨h.nd, fun p hm => by
    obtain ⟨i, j, h1, q⟩ := h.pr p hm
    exact ⟨i, j, by omega, q⟩⟩
  obtain ⟨a, b⟩ := drw_ord hp h2
  exact ⟨h.nd, a, _, b⟩
/-- pairs of spans, one after the other -/
theorem span_pr {n : Nat} {s : Nat → Nat} {ps : Ps} (nd : ps.Nodup) (h : ∀ p ∈ ps, p.1 < n ∧ p.2 < n ∧ s p.1 < s p.2) : PrOk n ps := by
  refine ⟨nd, fun p hp => ⟨(h p hp).1, (h p hp).2.1⟩, fun x => ((List.range n).filter fun y => decide (s y < s x)).length, fun p hp => ?_⟩
  obtain ⟨h1, h2, h3⟩ := h p hp
  constructor
  · have := nodup_sub (s := p.1 :: (List.range n).filter fun y => decide (s y < s p.1)) (t := (List.range n).filter fun y => decide (s y < s p.2)) (List.nodup_cons.mpr ⟨by simp, List.Pairwise.filter _ List.nodup_range⟩) fun x hx => by
      rcases List.mem_cons.mp hx with rfl | hx
      · simp [h1, h3]
      · simp only [List.mem_filter, List.mem_range, decide_eq_true_eq] at hx ⊢
        exact ⟨hx.1, by omega⟩
    simp only [List.length_cons] at this
    exact this
  · have := nodup_sub (s := p.2 :: (List.range n).filter fun y => decide (s y < s p.2)) (t := List.range n) (List.nodup_cons.mpr ⟨by simp, List.Pairwise.filter _ List.nodup_range⟩) fun x hx => by
      rcases List.mem_cons.mp hx with rfl | hx
      · simp [h2]
      · exact (List.mem_filter.mp hx).1
    simp only [List.length_cons, List.length_range] at this
    exact this
theorem nD1 : PyData.int 1 = nD 1 := rfl
theorem nD0 : PyData.int 0 = nD 0 := rfl
theorem nD2 : PyData.int 2 = nD 2 := rfl
theorem pl_len {n : Nat} {ns : List Nat} (hp : ns.Perm (List.range n)) : ns.length = n := by
  have := hp.length_eq
  rwa [List.length_range] at this
/-- a call of the tape's next, alone -/
theorem next_one {i : Nat} {m : Nat} {r : Env} {Q : D → Env → Prop} {t : D} (hi : getS r i = some t) (ht : TapeOk t) (hm : 0 < m) (hm2 : m < 1073741824) (h : ∀ v t', v < m → TapeOk t' → Q (nD v) (r.set i (some t'))) : Ok (sCall fNext [.io i, .e (sC (nD m))] r) Q := ok_next hi ht hm hm2 c_eq h
def tE (t : D) (n : Nat) (pl : List Nat) (rest : Env) : Env := some t :: some (nD n) :: some (nL pl) :: rest
theorem sub_asc {bs : List Nat} {i m : Nat} (h : bs.Sublist (List.range' i m)) : bs.Pairwise (· < ·) ∧ ∀ b ∈ bs, i ≤ b ∧ b < i + m := by
  refine ⟨List.Pairwise.sublist h List.pairwise_lt_range', fun b hb => ?_⟩
  have := h.mem hb
  rw [List.mem_range'_1] at this
  exact this
theorem sub_asc0 {bs : List Nat} {m : Nat} (h : bs.Sublist (List.range m)) : bs.Pairwise (· < ·) ∧ ∀ b ∈ bs, b < m := by
  refine ⟨List.Pairwise.sublist h List.pairwise_lt_range, fun b hb => ?_⟩
  exact List.mem_range.mp (h.mem hb)
theorem drw_len {n k : Nat} {ns : List Nat} {ps : Ps} (hp : ns.Perm (List.range n)) (h : Drw n ns k ps) (hk : k ≤ n) (hn : n ≤ 60) : ps.length ≤ 3600 := by
  obtain ⟨a, b, _⟩ := drw_pr hp h hk
  have := ps_len a b
  have h2 : n * n ≤ 60 * 60 := Nat.mul_le_mul hn hn
  omega
/-- the part of two rows' pairs: what all the loops do -/
theorem pr_add {ps qs : Ps} {n : Nat} (h1 : ps.length ≤ 3600) (h2 : qs.length ≤ n) (hn : n ≤ 60) : dAdd (.list (ps.map pD)) (.list (qs.map pD)) = some (.list ((ps ++ qs).map pD)) := dAdd_mapL _ (by rw [show line = 16777216 from rfl]; omega)
theorem dIx_pl {n : Nat} {pl : List Nat} (hp : pl.Perm (List.range n)) {k : Nat} (h : k < n) : dIx (nL pl) (nD k) = some (nD (pl.getD k 0)) := dIx_nL (by rw [pl_len hp]; exact h)
theorem zs_map {α : Type} {zs : List (α × (Nat × Nat))} {F : α → Nat × Nat} (h : ∀ z ∈ zs, z.2 = F z.1) : (zs.map fun z => pD z.2) = ((zs.map (·.1)).map F).map pD := by
  rw [List.map_map, List.map_map]
  exact List.map_congr_left fun z hz => by rw [h z hz]; rfl
theorem tpairs_ok {t : D} (ht : TapeOk t) {n : Nat} (h1 : 1 ≤ n) (hn : n ≤ 60) : ∃ ps t', fTPairs [t, nD n] = .ok (.list (ps.map pD)) [t'] ∧ TapeOk t' ∧ PrOk n ps := by
  have key : ∃ d outs, fTPairs [t, nD n] = .ok d outs ∧ ∃ ps t', d = .list (ps.map pD) ∧ outs = [t'] ∧ TapeOk t' ∧ PrOk n ps := by
    refine run_e ?_
    show Ok (bTPairs [some t, some (nD n), none, none, none, none, none, none, none, none, none, none]) _
    unfold bTPairs
    obtain ⟨pl, t1, e1, hp, ht1⟩ := mixed_ok ht hn
    have hpl := pl_len hp
    rw [ok_Seq, ok_Set]
    refine ok_call1 rfl (nm_eq rfl) e1 ?_
    simp only [List.set_cons_zero, List.set_cons_succ]
    rw [ok_Seq, ok_Set]
    refine ok_next (m := 7) rfl ht1 (by decide) (by decide) c_eq fun kind t2 hk ht2 => ?_
    simp only [List.set_cons_zero, List.set_cons_succ]
    rw [ok_Seq]
    refine if_ok (p := decide (kind < 3)) (t_eq (bin_eq (nm_eq rfl) c_eq (dLt_nD _ 3))) (fun hk3 => ?_) (fun hk3 => ?_)
    · rw [ok_Seq, ok_Set, ok_Bin, ok_C]
      refine ok_next (m := 6) rfl ht2 (by decide) (by decide) c_eq fun part t3 hpart ht3 => ?_
      simp only [List.set_cons_zero, List.set_cons_succ, nD1, dAdd_nD, Option.some.injEq, exists_eq_left']
      refine seqset_ok (lst_eq nil_eq) ?_
      simp only [List.set_cons_zero, List.set_cons_succ]
      refine seq_th (for_ok (rg1_eq (n := n) (nm_eq rfl) (by omega)) ?_)
      simp only [kill_cons, kill_nil, List.set_cons_zero, List.set_cons_succ]
      refine forL_rg (Inv := fun k e => ∃ t ps o, e = [some t, some (nD n), some (nL pl), some (nD kind), some (nD (1 + part)), some (.list (ps.map pD)), none, none, none, none, none, o] ∧ TapeOk t ∧ Drw n pl k ps) ⟨t3, [], none, rfl, ht3, List.nodup_nil, fun p m => absurd m List.not_mem_nil⟩ (fun k hkn e ⟨t, ps, o, ee, ht, hd⟩ => ?_) (fun e ⟨t, ps, o, ee, ht, hd⟩ => ?_)
      · subst ee
        simp only [List.set_cons_zero, List.set_cons_succ]
        rw [ok_Set, ok_Bin]
        refine ok_of (nm_eq rfl) ?_
        refine ok_LcT (i := 0) (T := TapeOk) (f := nD) (g := pD) (P := fun b (p : Nat × Nat) => p = (pl.getD k 0, pl.getD b 0)) (xs := List.range' (k + 1) (n - (k + 1))) (by decide) (rg2_eq (i := k + 1) (j := n) (add1_eq (nm_eq rfl)) (nm_eq rfl) (by omega) (by omega)) ht rfl (fun b hb t ht => ?_) (fun t' zs ht' sl al => ?_)
        · rw [List.mem_range'_1] at hb
          simp only [List.set_cons_zero, List.set_cons_succ]
          rw [ok_T, ok_Bin]
          refine ok_next (m := 7) rfl ht (by decide) (by decide) c_eq fun w t4 hw ht4 => ?_
          simp only [List.set_cons_zero, List.set_cons_succ]
          refine ok_of (nm_eq rfl) ⟨_, dLt_nD _ _, _, rfl, t4, ht4, rfl, fun _ => ?_⟩
          exact ok_of (tup_eq (cons_eq (bin_eq (nm_eq rfl) (nm_eq rfl) (dIx_pl hp hkn)) (cons_eq (bin_eq (nm_eq rfl) (nm_eq rfl) (dIx_pl hp (by omega))) nil_eq))) ⟨t4, (pl.getD k 0, pl.getD b 0), ht4, rfl, rfl, rfl⟩
        · obtain ⟨as, bd⟩ := sub_asc sl
          have hadd := drw_add hp hd hkn as fun b hb => by have := bd b hb; omega
          have hlen := sl.length_le
          rw [List.length_range'] at hlen
          rw [zs_map (F := fun b => (pl.getD k 0, pl.getD b 0)) al]
          simp only [List.set_cons_zero, List.set_cons_succ]
          refine ⟨_, pr_add (n := n) (drw_len hp hd (by omega) hn) (by rw [List.length_map]; omega) hn, turn_nx ?_⟩
          simp only [kill_cons, kill_nil, List.set_cons_zero, List.set_cons_succ]
          exact ⟨t', _, _, rfl, ht', hadd⟩
      · subst ee
        exact then_nx (ret_ok (nm_eq rfl) (ends_rt (outs := [t]) rfl ⟨ps, t, rfl, rfl, ht, drw_pr hp hd (Nat.le_refl _)⟩))
    rw [ok_Pass]
    rw [ok_Seq]
    refine if_ok (p := decide (kind = 3)) (t_eq (bin_eq (nm_eq rfl) c_eq (dEq_nD _ 3))) (fun hk3 => ?_) (fun hk3 => ?_)
    · obtain ⟨ot, t3, e3, hot, ht3⟩ := mixed_ok ht2 hn
      rw [ok_Seq, ok_Set]
      refine ok_call1 rfl (nm_eq rfl) e3 ?_
      simp only [List.set_cons_zero, List.set_cons_succ]
      refine seqset_ok (lst_eq nil_eq) ?_
      simp only [List.set_cons_zero, List.set_cons_succ]
      refine seq_th (for_ok (rg1_eq (n := n) (nm_eq rfl) (by omega)) ?_)
      simp only [kill_cons, kill_nil, List.set_cons_zero, List.set_cons_succ]
      refine forL_rg (Inv := fun k e => ∃ ps, e = [some t3, some (nD n), some (nL pl), some (nD kind), none, some (.list (ps.map pD)), none, some (nL ot), none, none, none, none] ∧ Drw n pl k ps) ⟨[], rfl, List.nodup_nil, fun p m => absurd m List.not_mem_nil⟩ (fun k hkn e ⟨ps, ee, hd⟩ => ?_) (fun e ⟨ps, ee, hd⟩ => ?_)
      · subst ee
        simp only [List.set_cons_zero, List.set_cons_succ]
        have sl : ((List.range' (k + 1) (n - (k + 1))).filter fun b => decide (ot.getD k 0 < ot.getD b 0)).Sublist (List.range' (k + 1) (n - (k + 1))) := List.filter_sublist
        obtain ⟨as, bd⟩ := sub_asc sl
        have hadd := drw_add hp hd hkn as fun b hb => by have := bd b hb; omega
        have hlen := sl.length_le
        rw [List.length_range'] at hlen
        refine set_ok (d := .list ((ps ++ ((List.range' (k + 1) (n - (k + 1))).filter fun b => decide (ot.getD k 0 < ot.getD b 0)).map fun b => (pl.getD k 0, pl.getD b 0)).map pD)) (bin_eq (nm_eq rfl) (lc_map0 (f := nD) (xs := List.range' (k + 1) (n - (k + 1))) (p := fun b => decide (ot.getD k 0 < ot.getD b 0)) (g := fun b => pD (pl.getD k 0, pl.getD b 0)) (rg2_eq (i := k + 1) (j := n) (add1_eq (nm_eq rfl)) (nm_eq rfl) (by omega) (by omega)) (fun b hb => ?_) (fun b hb _ => ?_)) ?_) (turn_nx ?_)
        · rw [List.mem_range'_1] at hb
          exact t_eq (bin_eq (bin_eq (nm_eq rfl) (nm_eq rfl) (dIx_pl hot hkn)) (bin_eq (nm_eq rfl) (nm_eq rfl) (dIx_pl hot (by omega))) (dLt_nD _ _))
        · rw [List.mem_range'_1] at hb
          exact tup_eq (cons_eq (bin_eq (nm_eq rfl) (nm_eq rfl) (dIx_pl hp hkn)) (cons_eq (bin_eq (nm_eq rfl) (nm_eq rfl) (dIx_pl hp (by omega))) nil_eq))
        · rw [show ∀ l : List Nat, (l.map fun b => pD (pl.getD k 0, pl.getD b 0)) = (l.map fun b => (pl.getD k 0, pl.getD b 0)).map pD from fun l => by rw [List.map_map]; rfl]
          exact pr_add (n := n) (drw_len hp hd (by omega) hn) (by rw [List.length_map]; omega) hn
        · simp only [kill_cons, kill_nil, List.set_cons_zero, List.set_cons_succ]
          exact ⟨_, rfl, hadd⟩
      · subst ee
        exact then_nx (ret_ok (nm_eq rfl) (ends_rt (outs := [t3]) rfl ⟨ps, t3, rfl, rfl, ht3, drw_pr hp hd (Nat.le_refl _)⟩))
    rw [ok_Pass]
    rw [ok_Seq]
    refine if_ok (p := decide (kind = 4)) (t_eq (bin_eq (nm_eq rfl) c_eq (dEq_nD _ 4))) (fun hk3 => ?_) (fun hk3 => ?_)
    · rw [ok_Seq, ok_Set]
      refine ok_LcA (i := 0) (T := TapeOk) (f := nD) (g := pD) (P := fun _ _ => True) (xs := List.range n) (by decide) (rg1_eq (n := n) (nm_eq rfl) (by omega)) ht2 rfl (fun b hb t ht => ?_) (fun t3 zs ht3 ez _ => ?_)
      · simp only [List.set_cons_zero, List.set_cons_succ]
        rw [ok_Tup, ok_Cons]
        refine ok_next (m := 2 * n) rfl ht (by omega) (by omega) (bin_eq c_eq (nm_eq rfl) (by rw [nD2]; unfold nD; rw [mul_int (.inl (by decide))]; rfl)) fun x t3 hx ht3 => ?_
        simp only [List.set_cons_zero, List.set_cons_succ]
        rw [ok_Cons]
        refine ok_next (m := 4) rfl ht3 (by omega) (by omega) c_eq fun y t4 hy ht4 => ?_
        simp only [List.set_cons_zero, List.set_cons_succ, ok_Nil]
        exact ⟨t4, (x, y), ht4, rfl, rfl, trivial⟩
      simp only [List.set_cons_zero, List.set_cons_succ]
      rw [show (zs.map fun z => pD z.2) = (zs.map (·.2)).map pD by rw [List.map_map]; rfl]
      have hsl : (zs.map (·.2)).length = n := by
        have := congrArg List.length ez
        simpa using this
      generalize zs.map (·.2) = sp at hsl
      have hsp : ∀ k, k < n → dIx (.list (sp.map pD)) (nD k) = some (pD (sp.getD k (0, 0))) := fun k hk => dIx_mapL (0, 0) (by omega)
      refine seqset_ok (lst_eq nil_eq) ?_
      simp only [List.set_cons_zero, List.set_cons_succ]
      refine seq_th (for_ok (rg1_eq (n := n) (nm_eq rfl) (by omega)) ?_)
      simp only [kill_cons, kill_nil, List.set_cons_zero, List.set_cons_succ]
      refine forL_rg (Inv := fun k e => ∃ ps : Ps, e = [some t3, some (nD n), some (nL pl), some (nD kind), none, some (.list (ps.map pD)), none, none, some (.list (sp.map pD)), none, none, none] ∧ ps.Nodup ∧ ∀ p ∈ ps, p.1 < k ∧ p.2 < n ∧ (sp.getD p.1 (0, 0)).1 < (sp.getD p.2 (0, 0)).1) ⟨[], rfl, List.nodup_nil, fun p m => absurd m List.not_mem_nil⟩ (fun k hkn e ⟨ps, ee, nd, hd⟩ => ?_) (fun e ⟨ps, ee, nd, hd⟩ => ?_)
      · subst ee
        simp only [List.set_cons_zero, List.set_cons_succ]
        have hl1 : ps.length ≤ 3600 := by
          have h0 := ps_len nd (n := n) fun p hp => ⟨by have := (hd p hp).1; omega, (hd p hp).2.1⟩
          have h2 : n * n ≤ 60 * 60 := Nat.mul_le_mul hn hn
          omega
        refine set_ok (d := .list ((ps ++ ((List.range n).filter fun b => decide ((sp.getD k (0, 0)).1 + (sp.getD k (0, 0)).2 < (sp.getD b (0, 0)).1)).map fun b => (k, b)).map pD)) (bin_eq (nm_eq rfl) (lc_map0 (f := nD) (xs := List.range n) (p := fun b => decide ((sp.getD k (0, 0)).1 + (sp.getD k (0, 0)).2 < (sp.getD b (0, 0)).1)) (g := fun b => pD (k, b)) (rg1_eq (n := n) (nm_eq rfl) (by omega)) (fun b hb => ?_) (fun b hb _ => tup_eq (cons_eq (nm_eq rfl) (cons_eq (nm_eq rfl) nil_eq)))) ?_) (turn_nx ?_)
        · rw [List.mem_range] at hb
          exact t_eq (bin_eq (bin_eq (bin_eq (bin_eq (nm_eq rfl) (nm_eq rfl) (hsp k hkn)) c_eq rfl) (bin_eq (bin_eq (nm_eq rfl) (nm_eq rfl) (hsp k hkn)) c_eq rfl) (dAdd_nD _ _)) (bin_eq (bin_eq (nm_eq rfl) (nm_eq rfl) (hsp b hb)) c_eq rfl) (dLt_nD _ _))
        · rw [show ∀ l : List Nat, (l.map fun b => pD (k, b)) = (l.map fun b => (k, b)).map pD from fun l => by rw [List.map_map]; rfl]
          refine pr_add (n := n) hl1 ?_ hn
          rw [List.length_map]
          exact Nat.le_trans (List.length_filter_le _ _) (by rw [List.length_range]; exact Nat.le_refl _)
        · simp only [kill_cons, kill_nil, List.set_cons_zero, List.set_cons_succ]
          refine ⟨_, rfl, ?_, fun p hp => ?_⟩
          · rw [List.nodup_append]
            refine ⟨nd, ?_, fun p hp q hq e => ?_⟩
            · rw [List.Nodup, List.pairwise_map]
              exact (List.Pairwise.filter _ (List.nodup_range (n := n))).imp fun h e => h (congrArg Prod.snd e)
            · subst e
              obtain ⟨b, _, rfl⟩ := List.mem_map.mp hq
              exact absurd (hd _ hp).1 (Nat.lt_irrefl _)
          · rcases List.mem_append.mp hp with hp | hp
            · have := hd p hp
              exact ⟨by omega, this.2⟩
            · obtain ⟨b, hb, rfl⟩ := List.mem_map.mp hp
              simp only [List.mem_filter, List.mem_range, decide_eq_true_eq] at hb
              exact ⟨Nat.lt_succ_self _, hb.1, by show (sp.getD k (0, 0)).1 < (sp.getD b (0, 0)).1; omega⟩
      · subst ee
        exact then_nx (ret_ok (nm_eq rfl) (ends_rt (outs := [t3]) rfl ⟨ps, t3, rfl, rfl, ht3, span_pr (s := fun k => (sp.getD k (0, 0)).1) nd hd⟩))
    rw [ok_Pass]
    rw [ok_Seq]
    refine if_ok (p := decide (kind = 5)) (t_eq (bin_eq (nm_eq rfl) c_eq (dEq_nD _ 5))) (fun hk3 => ?_) (fun hk3 => ?_)
    · rw [ok_Ret]
      refine ok_LcT (i := 0) (T := TapeOk) (f := nD) (g := pD) (P := fun b (p : Nat × Nat) => ∃ v, v < b ∧ p = (pl.getD b 0, pl.getD v 0)) (xs := List.range' 1 (n - 1)) (by decide) (rg2_eq (i := 1) (j := n) c_eq (nm_eq rfl) (by omega) (by omega)) ht2 rfl (fun b hb t ht => ?_) (fun t' zs ht' sl al => ?_)
      · rw [List.mem_range'_1] at hb
        simp only [List.set_cons_zero, List.set_cons_succ]
        rw [ok_T, ok_Bin]
        refine ok_next (m := 5) rfl ht (by decide) (by decide) c_eq fun w t4 hw ht4 => ?_
        simp only [List.set_cons_zero, List.set_cons_succ]
        refine ok_of c_eq ⟨_, dGt_nD _ 0, _, rfl, t4, ht4, rfl, fun _ => ?_⟩
        rw [ok_Tup, ok_Cons]
        refine ok_of (bin_eq (nm_eq rfl) (nm_eq rfl) (dIx_pl hp (by omega))) ?_
        rw [ok_Cons, ok_Bin]
        refine ok_of (nm_eq rfl) ?_
        refine ok_next (m := b) rfl ht4 (by omega) (by omega) (nm_eq rfl) fun v t5 hv ht5 => ?_
        refine ⟨_, dIx_pl hp (show v < n by omega), ?_⟩
        rw [ok_Nil]
        exact ⟨t5, (pl.getD b 0, pl.getD v 0), ht5, rfl, rfl, v, hv, rfl⟩
      · simp only [List.set_cons_zero, List.set_cons_succ]
        obtain ⟨as, bd⟩ := sub_asc sl
        refine ends_rt (outs := [t']) rfl ⟨zs.map (·.2), t', by rw [List.map_map]; rfl, rfl, ht', ?_⟩
        have hpr : pl.reverse.Perm (List.range n) := (List.reverse_perm pl).trans hp
        have nd : pl.Nodup := hp.nodup_iff.mpr List.nodup_range
        have at_ : ∀ b, b < n → pl[b]? = some (pl.getD b 0) := fun b hb => getD_at (d := 0) (by omega)
        have atr : ∀ b, b < n → pl.reverse[n - 1 - b]? = some (pl.getD b 0) := fun b hb => by
          rw [List.getElem?_reverse (by omega), hpl, show n - 1 - (n - 1 - b) = b by omega]
          exact at_ b hb
        refine drw_pr (k := n) hpr ⟨?_, fun p hm => ?_⟩ (Nat.le_refl _)
        · rw [List.Nodup, List.pairwise_map]
          rw [List.pairwise_map] at as
          refine as.imp_of_mem fun {a b} ha hb hlt e => ?_
          obtain ⟨v, hv, ea⟩ := al a ha
          obtain ⟨w, hw, eb⟩ := al b hb
          rw [ea, eb] at e
          have h3 := bd a.1 (List.mem_map_of_mem ha)
          have h4 := bd b.1 (List.mem_map_of_mem hb)
          have e1 : pl.getD a.1 0 = pl.getD b.1 0 := congrArg Prod.fst e
          have := nodup_at nd (at_ a.1 (by omega)) (e1 ▸ at_ b.1 (by omega))
          omega
        · obtain ⟨z, hz, rfl⟩ := List.mem_map.mp hm
          obtain ⟨v, hv, ez⟩ := al z hz
          have h3 := bd z.1 (List.mem_map_of_mem hz)
          refine ⟨n - 1 - z.1, n - 1 - v, by omega, by omega, by omega, ?_, ?_⟩
          · rw [ez]; exact atr z.1 (by omega)
          · rw [ez]; exact atr v (by omega)
    rw [ok_Pass]
    refine seqset_ok (bin_eq (nm_eq rfl) c_eq (show dDiv (nD n) (.int 2) = some (nD (n / 2)) from by unfold nD; rw [div_int (by decide) (by decide)]; rfl)) ?_
    simp only [List.set_cons_zero, List.set_cons_succ]
    refine seqset_ok (lst_eq nil_eq) ?_
    simp only [List.set_cons_zero, List.set_cons_succ]
    have hh : n / 2 ≤ n := Nat.div_le_self _ _
    generalize n / 2 = hf at hh
    refine seq_th (for_ok (rg1_eq (n := hf) (nm_eq rfl) (by omega)) ?_)
    simp only [kill_cons, kill_nil, List.set_cons_zero, List.set_cons_succ]
    refine forL_rg (Inv := fun k e => ∃ ps, e = [some t2, some (nD n), some (nL pl), some (nD kind), none, some (.list (ps.map pD)), none, none, none, some (nD hf), none, none] ∧ Drw n pl k ps) ⟨[], rfl, List.nodup_nil, fun p m => absurd m List.not_mem_nil⟩ (fun k hkh e ⟨ps, ee, hd⟩ => ?_) (fun e ⟨ps, ee, hd⟩ => ?_)
    · subst ee
      have hkn : k < n := by omega
      simp only [List.set_cons_zero, List.set_cons_succ]
      have sl : ((List.range (n - hf)).filter fun b => !decide (b = k)).Sublist (List.range (n - hf)) := List.filter_sublist
      obtain ⟨as, bd⟩ := sub_asc0 sl
      have hlen := sl.length_le
      rw [List.length_range] at hlen
      have hadd := drw_add (bs := ((List.range (n - hf)).filter fun b => !decide (b = k)).map fun b => hf + b) hp hd hkn (by rw [List.pairwise_map]; exact as.imp fun {a b} h => by omega) fun b hb => by
        obtain ⟨b', hb', rfl⟩ := List.mem_map.mp hb
        have := bd b' hb'
        omega
      rw [List.map_map] at hadd
      refine set_ok (d := .list ((ps ++ ((List.range (n - hf)).filter fun b => !decide (b = k)).map ((fun b => (pl.getD k 0, pl.getD b 0)) ∘ fun b => hf + b)).map pD)) (bin_eq (nm_eq rfl) (lc_map0 (f := nD) (xs := List.range (n - hf)) (p := fun b => !decide (b = k)) (g := fun b => pD (pl.getD k 0, pl.getD (hf + b) 0)) (rg1_eq (n := n - hf) (bin_eq (nm_eq rfl) (nm_eq rfl) (dSub_nD hh)) (by omega)) (fun b hb => t_eq (bin_eq (nm_eq rfl) (nm_eq rfl) (dNe_nD _ _))) (fun b hb _ => ?_)) ?_) (turn_nx ?_)
      · rw [List.mem_range] at hb
        exact tup_eq (cons_eq (bin_eq (nm_eq rfl) (nm_eq rfl) (dIx_pl hp hkn)) (cons_eq (bin_eq (nm_eq rfl) (bin_eq (nm_eq rfl) (nm_eq rfl) (dAdd_nD _ _)) (dIx_pl hp (by omega))) nil_eq))
      · rw [show ∀ l : List Nat, (l.map fun b => pD (pl.getD k 0, pl.getD (hf + b) 0)) = (l.map ((fun b => (pl.getD k 0, pl.getD b 0)) ∘ fun b => hf + b)).map pD from fun l => by rw [List.map_map]; rfl]
        exact pr_add (n := n) (drw_len hp hd (by omega) hn) (by rw [List.length_map]; omega) hn
      · simp only [kill_cons, kill_nil, List.set_cons_zero, List.set_cons_succ]
        exact ⟨_, rfl, hadd⟩
    · subst ee
      exact then_nx (ret_ok (nm_eq rfl) (ends_rt (outs := [t2]) rfl ⟨ps, t2, rfl, rfl, ht2, drw_pr hp hd hh⟩))
  obtain ⟨d, outs, e, ps, t', rfl, rfl, h⟩ := key
  exact ⟨ps, t', e, h⟩
theorem torder_ok {t : D} (ht : TapeOk t) {most : Nat} (h0 : 1 ≤ most) (hm : most ≤ 60) : ∃ n cs t', fTOrder [t, nD most] = .ok (ordD n cs) [t'] ∧ TapeOk t' ∧ Ord n cs ∧ 1 ≤ n ∧ n ≤ most := by
  have key : ∃ d outs, fTOrder [t, nD most] = .ok d outs ∧ ∃ n cs t', d = ordD n cs ∧ outs = [t'] ∧ TapeOk t' ∧ Ord n cs ∧ 1 ≤ n ∧ n ≤ most := by
    refine run_e ?_
    show Ok (bTOrder [some t, some (nD most), none]) _
    unfold bTOrder
    rw [ok_Seq, ok_Set, ok_Bin, ok_C]
    refine ok_next (m := most) rfl ht (by omega) (by omega) (nm_eq rfl) fun v t1 hv ht1 => ?_
    simp only [List.set_cons_zero, List.set_cons_succ, nD1, dAdd_nD, Option.some.injEq, exists_eq_left']
    have hn1 : 1 ≤ 1 + v := by omega
    have hn2 : 1 + v ≤ most := by omega
    generalize 1 + v = n at hn1 hn2
    obtain ⟨ps, t2, e2, ht2, nd, ir, rk, hrk⟩ := tpairs_ok ht1 hn1 (show n ≤ 60 by omega)
    rw [ok_Ret]
    rw [ok_Call, ok_argL_e, ok_Call, ok_argL_e]
    refine ok_of (nm_eq rfl) ?_
    rw [ok_argL_e]
    refine ok_call1 rfl (nm_eq rfl) e2 ?_
    simp only [ok_argL_nil, argF_e, argF_nil, Option.map_some, Option.some.injEq, exists_eq_left', argB_e, argB_nil, List.set_cons_zero, List.set_cons_succ, closed_ok (d := .list (ps.map pD)) rfl ir hrk nd (show n ≤ 60 by omega), RF.ok.injEq, made_ok (ps := ps) (show n ≤ 60 by omega), and_assoc, exists_and_left]
    exact ends_rt (outs := [t2]) rfl ⟨n, covL n ps, rfl, t2, rfl, ht2, covL_ord ir hrk, hn1, hn2⟩
  obtain ⟨d, outs, e, n, cs, t', rfl, rfl, h⟩ := key
  exact ⟨n, cs, t', e, h⟩
end J

set_option Elab.async false
set_option linter.all false
set_option maxRecDepth 100000
/-! JInt: whole numbers, largest and least, sums, a place put anew. -/
namespace J
open PySem
/-! ### tests of whole numbers -/
theorem lt_int (a b : Int) : dLt (.int a) (.int b) = some (.bool (decide (a < b))) := rfl
theorem leq_int (a b : Int) : dLe (.int a) (.int b) = some (.bool (decide (a ≤ b))) := rfl
theorem gt_int (a b : Int) : dGt (.int a) (.int b) = some (.bool (decide (b < a))) := rfl
theorem geq_int (a b : Int) : dGe (.int a) (.int b) = some (.bool (decide (b ≤ a))) := rfl
theorem add_int (a b : Int) : dAdd (.int a) (.int b) = some (.int (a + b)) := rfl
theorem sub_int (a b : Int) : dSub (.int a) (.int b) = some (.int (a - b)) := rfl
theorem ne_int (a b : Int) : dNe (.int a) (.int b) = some (.bool (!decide (a = b))) := by
  unfold dNe
  rw [shp_int, shp_int]
  simp
theorem eq_iT (a b : List Int) : dEq (.tuple (a.map .int)) (.tuple (b.map .int)) = some (.bool (decide (a = b))) := dEq_mapT (n := 0) (fun _ _ => eqv_int) (fun _ => sm_int) a b
theorem ne_iT (a b : List Int) : dNe (.tuple (a.map .int)) (.tuple (b.map .int)) = some (.bool (!decide (a = b))) := dNe_mapT (n := 0) (fun _ _ => eqv_int) (fun _ => sm_int) a b
theorem nT_int (xs : List Nat) : nT xs = .tuple ((xs.map Int.ofNat).map .int) := by unfold nT; rw [map_nD]
theorem nL_int (xs : List Nat) : nL xs = .list ((xs.map Int.ofNat).map .int) := by unfold nL; rw [map_nD]
theorem asInts_map : ∀ xs : List Int, asInts (xs.map .int) = some xs
  | [] => rfl
  | x :: xs => by simp [asInts, asInts_map xs]
/-! ### the largest, the least, the sum -/
def mxI : List Int → Int
  | [] => 0
  | x :: xs => xs.foldl max x
def mnI : List Int → Int
  | [] => 0
  | x :: xs => xs.foldl min x
theorem dMaxI_L {xs : List Int} (h : xs ≠ []) : dMaxI [.list (xs.map .int)] = some (.int (mxI xs)) := by
  cases xs with
  | nil => exact absurd rfl h
  | cons x xs => simp only [dMaxI, dBest, items, Option.bind_some, asInts_map, mxI]
theorem dMaxI_T {xs : List Int} (h : xs ≠ []) : dMaxI [.tuple (xs.map .int)] = some (.int (mxI xs)) := by
  cases xs with
  | nil => exact absurd rfl h
  | cons x xs => simp only [dMaxI, dBest, items, Option.bind_some, asInts_map, mxI]
theorem dMinI_L {xs : List Int} (h : xs ≠ []) : dMinI [.list (xs.map .int)] = some (.int (mnI xs)) := by
  cases xs with
  | nil => exact absurd rfl h
  | cons x xs => simp only [dMinI, dBest, items, Option.bind_some, asInts_map, mnI]
theorem dMinI_T {xs : List Int} (h : xs ≠ []) : dMinI [.tuple (xs.map .int)] = some (.int (mnI xs)) := by
  cases xs with
  | nil => exact absurd rfl h
  | cons x xs => simp only [dMinI, dBest, items, Option.bind_some, asInts_map, mnI]
theorem foldl_max_i : ∀ (xs : List Int) (x : Int), x ≤ xs.foldl max x ∧ (∀ y ∈ xs, y ≤ xs.foldl max x) ∧ (xs.foldl max x = x ∨ xs.foldl max x ∈ xs)
  | [], x => ⟨Int.le_refl _, fun _ h => absurd h List.not_mem_nil, .inl rfl⟩
  | y :: ys, x => by
    obtain ⟨a, b, c⟩ := foldl_max_i ys (max x y)
    rw [List.foldl_cons]
    refine ⟨by omega, fun z hz => ?_, ?_⟩
    · rcases List.mem_cons.mp hz with rfl | hz
      · omega
      · exact b z hz
    · rcases c with c | c
      · rcases Int.le_total x y with h | h
        · right
          rw [c, Int.max_eq_right h]
          exact List.mem_cons_self
        · left
          rw [c, Int.max_eq_left h]
      · exact .inr (List.mem_cons_of_mem _ c)
theorem foldl_min_i : ∀ (xs : List Int) (x : Int), xs.foldl min x ≤ x ∧ (∀ y ∈ xs, xs.foldl min x ≤ y) ∧ (xs.foldl min x = x ∨ xs.foldl min x ∈ xs)
  | [], x => ⟨Int.le_refl _, fun _ h => absurd h List.not_mem_nil, .inl rfl⟩
  | y :: ys, x => by
    obtain ⟨a, b, c⟩ := foldl_min_i ys (min x y)
    rw [List.foldl_cons]
    refine ⟨by omega, fun z hz => ?_, ?_⟩
    · rcases List.mem_cons.mp hz with rfl | hz
      · omega
      · exact b z hz
    · rcases c with c | c
      · rcases Int.le_total x y with h | h
        · left
          rw [c, Int.min_eq_left h]
        · right
          rw [c, Int.min_eq_right h]
          exact List.mem_cons_self
      · exact .inr (List.mem_cons_of_mem _ c)
theorem le_mxI {xs : List Int} {x : Int} (h : x ∈ xs) : x ≤ mxI xs := by
  cases xs with
  | nil => cases h
  | cons y ys =>
    rcases List.mem_cons.mp h with rfl | h
    · exact (foldl_max_i ys _).1
    · exact (foldl_max_i ys _).2.1 _ h
theorem mxI_mem {xs : List Int} (h : xs ≠ []) : mxI xs ∈ xs := by
  cases xs with
  | nil => exact absurd rfl h
  | cons y ys =>
    rcases (foldl_max_i ys y).2.2 with c | c
    · show ys.foldl max y ∈ _
      rw [c]
      exact List.mem_cons_self
    · exact List.mem_cons_of_mem _ c
theorem mnI_le {xs : List Int} {x : Int} (h : x ∈ xs) : mnI xs ≤ x := by
  cases xs with
  | nil => cases h
  | cons y ys =>
    rcases List.mem_cons.mp h with rfl | h
    · exact (foldl_min_i ys _).1
    · exact (foldl_min_i ys _).2.1 _ h
theorem mnI_mem {xs : List Int} (h : xs ≠ []) : mnI xs ∈ xs := by
  cases xs with
  | nil => exact absurd rfl h
  | cons y ys =>
    rcases (foldl_min_i ys y).2.2 with c | c
    · show ys.foldl min y ∈ _
      rw [c]
      exact List.mem_cons_self
    · exact List.mem_cons_of_mem _ c
/-- the largest of natural numbers; of none: 0 -/
def mx : List Nat → Nat
  | [] => 0
  | x :: xs => max x (mx xs)
theorem le_mx : ∀ {xs : List Nat} {x : Nat}, x ∈ xs → x ≤ mx xs
  | y :: ys, x, h => by
    rcases List.mem_cons.mp h with rfl | h
    · exact Nat.le_max_left _ _
    · exact Nat.le_trans (le_mx h) (Nat.le_max_right _ _)
theorem mx_le : ∀ {xs : List Nat} {b : Nat}, (∀ x ∈ xs, x ≤ b) → mx xs ≤ b
  | [], _, _ => Nat.zero_le _
  | y :: ys, b, h => Nat.max_le.mpr ⟨h y List.mem_cons_self, mx_le fun x hx => h x (List.mem_cons_of_mem _ hx)⟩
theorem mx_mem : ∀ xs : List Nat, mx xs = 0 ∨ mx xs ∈ xs
  | [] => .inl rfl
  | y :: ys => by
    show max y (mx ys) = 0 ∨ max y (mx ys) ∈ _
    rcases Nat.le_total y (mx ys) with h | h
    · rw [Nat.max_eq_right h]
      exact (mx_mem ys).imp id (List.mem_cons_of_mem _)
    · rw [Nat.max_eq_left h]
      exact .inr List.mem_cons_self
theorem mx_mem' {xs : List Nat} (h : xs ≠ []) : mx xs ∈ xs := by
  cases xs with
  | nil => exact absurd rfl h
  | cons y ys =>
    show max y (mx ys) ∈ _
    rcases Nat.le_total y (mx ys) with h | h
    · rw [Nat.max_eq_right h]
      rcases mx_mem ys with c | c
      · have : y = mx ys := by omega
        rw [← this]
        exact List.mem_cons_self
      · exact List.mem_cons_of_mem _ c
    · rw [Nat.max_eq_left h]
      exact List.mem_cons_self
theorem mxI_nat (xs : List Nat) : mxI (xs.map Int.ofNat) = (mx xs : Nat) := by
  rcases Classical.em (xs = []) with rfl | h
  · rfl
  · have h' : xs.map Int.ofNat ≠ [] := by simpa using h
    obtain ⟨y, hy, e⟩ := List.mem_map.mp (mxI_mem h')
    have h1 := le_mx hy
    have h2 := le_mxI (List.mem_map_of_mem (f := Int.ofNat) (mx_mem' h))
    have e' : (y : Int) = mxI (xs.map Int.ofNat) := e
    have h2' : ((mx xs : Nat) : Int) ≤ mxI (xs.map Int.ofNat) := h2
    omega
theorem dMaxI_nL {xs : List Nat} (h : xs ≠ []) : dMaxI [nL xs] = some (nD (mx xs)) := by
  rw [nL_int, dMaxI_L (by simpa using h), mxI_nat]
  rfl
theorem dMaxI_nT {xs : List Nat} (h : xs ≠ []) : dMaxI [nT xs] = some (nD (mx xs)) := by
  rw [nT_int, dMaxI_T (by simpa using h), mxI_nat]
  rfl
/-- the least of natural numbers -/
theorem dMinI_nL {xs : List Nat} (h : xs ≠ []) : ∃ x ∈ xs, dMinI [nL xs] = some (nD x) ∧ ∀ y ∈ xs, x ≤ y := by
  have h' : xs.map Int.ofNat ≠ [] := by simpa using h
  obtain ⟨x, hx, e⟩ := List.mem_map.mp (mnI_mem h')
  refine ⟨x, hx, ?_, fun y hy => ?_⟩
  · rw [nL_int, dMinI_L h', ← e]
    rfl
  · have h2 := mnI_le (List.mem_map_of_mem (f := Int.ofNat) hy)
    have e' : (x : Int) = mnI (xs.map Int.ofNat) := e
    have h2' : mnI (xs.map Int.ofNat) ≤ (y : Int) := h2
    omega
theorem sum_nat : ∀ xs : List Nat, (xs.map Int.ofNat).sum = (xs.sum : Nat)
  | [] => rfl
  | x :: xs => by
    rw [List.map_cons, List.sum_cons, sum_nat xs, List.sum_cons]
    simp
theorem dSum_nL (xs : List Nat) : dSum [nL xs] = some (nD xs.sum) := by
  rw [nL_int]
  simp only [dSum, asInts_map, Option.map_some, sum_nat]
  rfl
theorem dSum_L (xs : List Int) : dSum [.list (xs.map .int)] = some (.int xs.sum) := by
  simp only [dSum, asInts_map, Option.map_some]
theorem dMin2_int (a b : Int) : dMin2 [.int a, .int b] = some (.int (min a b)) := by
  simp only [dMin2]
  congr 2
  split <;> omega
theorem dMul_L (n : Nat) (d : D) (h : n ≤ 1000) : dMul (.list [d]) (nD n) = some (.list (List.replicate n d)) := by
  have e0 : dMul (.list [d]) (nD n) = if -(2 ^ 63) ≤ (n : Int) ∧ (n : Int) < 2 ^ 63 ∧ [d].length * (n : Int).toNat ≤ line then some (.list (List.replicate (n : Int).toNat [d]).flatten) else none := rfl
  have h1 : -(2 ^ 63) ≤ (n : Int) := by omega
  have h2 : (n : Int) < 2 ^ 63 := by omega
  have h3 : [d].length * (n : Int).toNat ≤ line := by
    rw [Int.toNat_natCast, show line = 16777216 from rfl]
    simp only [List.length_cons, List.length_nil]
    omega
  rw [e0, if_pos ⟨h1, h2, h3⟩]
  clear e0 h1 h2 h3
  congr 2
  rw [Int.toNat_natCast]
  induction n with
  | zero => rfl
  | succ n ih => rw [List.replicate_succ, List.flatten_cons, ih (by omega)]; rfl
/-! ### a place put anew -/
theorem sub_ok {i j : Nat} {k v : SE} {r : Env} {d : D} {xs : List D} {Q : Fl → Env → Prop} (hv : v r = .ok d r) (hk : k r = .ok (nD j) r) (hg : getS r i = some (.list xs)) (hj : j < xs.length) (q : Q .nx (r.set i (some (.list (xs.set j d))))) : Ok (sSub i k v r) Q := by
  refine ok_Sub (ok_of hv ⟨⟨xs, hg⟩, ok_of hk ⟨(j : Int), xs, j, rfl, hg, ixD_nat hj, q⟩⟩)
theorem fn2_eq {f : List D → Option D} {a b : SE} {r : Env} {x y d : D} (h1 : a r = .ok x r) (h2 : b r = .ok y r) (hf : f [x, y] = some d) : sFn f (sCons a (sCons b sNil)) r = .ok d r := by simp [sFn, sCons, sNil, h1, h2, bind_ok, hf, lift]
theorem chain_eq {f g : D → D → Option D} {a b c : SE} {r : Env} {x y z : D} {p q : Bool} (h1 : a r = .ok x r) (h2 : b r = .ok y r) (h3 : c r = .ok z r) (hf : f x y = some (.bool p)) (hg : g y z = some (.bool q)) : sChain f g a b c r = .ok (.bool (p && q)) r := by
  refine eq_of_ok (ok_Chain ?_)
  refine ok_of h1 (ok_of h2 ⟨p, hf, ?_⟩)
  cases p with
  | false => simp
  | true => simpa using ok_of h3 ⟨_, hg, rfl, rfl⟩
theorem map_setD {α : Type} {f : α → D} (xs : List α) (j : Nat) (x : α) : (xs.map f).set j (f x) = (xs.set j x).map f := (List.map_set ..).symm
theorem getD_set {α : Type} {xs : List α} {j k : Nat} {x d : α} (h : j < xs.length) : (xs.set j x).getD k d = if j = k then x else xs.getD k d := by
  rw [List.getD_eq_getElem?_getD, List.getElem?_set, List.getD_eq_getElem?_getD]
  by_cases e : j = k
  · subst e; simp [h]
  · simp [e]
/-! ### words -/
theorem dEq_str {s t : PySem.Str} (h1 : shp (.str s) = true) (h2 : shp (.str t) = true) : dEq (.str s) (.str t) = some (.bool (s == t)) := by
  unfold dEq
  rw [if_pos ⟨h1, h2⟩, PyData.eqv]
theorem dNe_str {s t : PySem.Str} (h1 : shp (.str s) = true) (h2 : shp (.str t) = true) : dNe (.str s) (.str t) = some (.bool (!(s == t))) := by
  unfold dNe
  rw [if_pos ⟨h1, h2⟩, PyData.eqv]
theorem eqs {s t : PySem.Str} {b : Bool} (h1 : shp (.str s) = true) (h2 : shp (.str t) = true) (h : (s == t) = b) : dEq (.str s) (.str t) = some (.bool b) := by rw [dEq_str h1 h2, h]
theorem nes {s t : PySem.Str} {b : Bool} (h1 : shp (.str s) = true) (h2 : shp (.str t) = true) (h : (s == t) = b) : dNe (.str s) (.str t) = some (.bool (!b)) := by rw [dNe_str h1 h2, h]
/-- one range less than a length -/
theorem rgm_eq {a : SE} {r : Env} {m : Nat} (h : a r = .ok (.int ((m : Int) - 1)) r) (hm : m ≤ 1000) : itRg1 a r = .ok ((List.range (m - 1)).map nD) r := by
  refine eq_of_ok (ok_itRg1.mpr (ok_of h ⟨_, rfl, ⟨by omega, by omega, ?_⟩, ?_, rfl⟩))
  · rw [show line = 16777216 from rfl]
    omega
  · rw [show ((m : Int) - 1).toNat = m - 1 by omega]
    exact upTo_nat _
end J

set_option Elab.async false
set_option linter.all false
set_option maxRecDepth 100000
/-! JM3: lattices; what is neither pentagon nor diamond is distributive. -/
namespace J
structure Ltt (α : Type) where
  le : α → α → Prop
  j : α → α → α
  m : α → α → α
  refl : ∀ a, le a a
  trans : ∀ {a b c}, le a b → le b c → le a c
  anti : ∀ {a b}, le a b → le b a → a = b
  jl : ∀ a b, le a (j a b)
  jr : ∀ a b, le b (j a b)
  lub : ∀ {a b c}, le a c → le b c → le (j a b) c
  ml : ∀ a b, le (m a b) a
  mr : ∀ a b, le (m a b) b
  glb : ∀ {a b c}, le c a → le c b → le c (m a b)
namespace Ltt
variable {α : Type} (L : Ltt α)
def op : Ltt α := ⟨fun a b => L.le b a, L.m, L.j, L.refl, fun h k => L.trans k h, fun h k => L.anti k h, L.ml, L.mr, L.glb, L.jl, L.jr, L.lub⟩
variable {L}
theorem jc (a b : α) : L.j a b = L.j b a := L.anti (L.lub (L.jr b a) (L.jl b a)) (L.lub (L.jr a b) (L.jl a b))
theorem mc (a b : α) : L.m a b = L.m b a := L.anti (L.glb (L.mr a b) (L.ml a b)) (L.glb (L.mr b a) (L.ml b a))
theorem j_of {a b : α} (h : L.le a b) : L.j a b = b := L.anti (L.lub h (L.refl b)) (L.jr a b)
theorem m_of {a b : α} (h : L.le a b) : L.m a b = a := L.anti (L.ml a b) (L.glb (L.refl a) h)
/-- modular -/
def Mod (L : Ltt α) : Prop := ∀ a b c, L.le a c → L.j a (L.m b c) = L.m (L.j a b) c
def Dst (L : Ltt α) (a b c : α) : Prop := L.m a (L.j b c) = L.j (L.m a b) (L.m a c)
def Pen (L : Ltt α) (a b c : α) : Prop := L.le a b ∧ a ≠ b ∧ L.j a c = L.j b c ∧ L.m a c = L.m b c
theorem Pen.ac {a b c : α} (h : L.Pen a b c) : ¬ L.le a c ∧ ¬ L.le c a ∧ ¬ L.le b c ∧ ¬ L.le c b := by
  obtain ⟨h1, h2, h3, h4⟩ := h
  have bc : ¬ L.le b c := fun q => by
    -- a and b both below c
    have e1 := m_of (L := L) q
    have e2 := m_of (L := L) (L.trans h1 q)
    exact h2 (by rw [← e1, ← e2, h4])
  have ca : ¬ L.le c a := fun q => by
    have e1 := j_of (L := L) q
    have e2 := j_of (L := L) (L.trans q h1)
    rw [jc] at e1 e2
    exact h2 (by rw [← e1, ← e2, h3])
  refine ⟨fun q => bc ?_, ca, bc, fun q => ca ?_⟩
  · -- a ≤ c: the join of b and c is c
    have e1 := j_of (L := L) q
    rw [e1] at h3
    rw [h3]
    exact L.jl b c
  · have e1 := m_of (L := L) q
    rw [mc] at e1
    rw [e1] at h4
    rw [← h4]
    exact L.ml a c
theorem mod_of (h : ∀ a b c, ¬ L.Pen a b c) : L.Mod := by
  intro a b c hac
  refine Classical.byContradiction fun ne => h (L.j a (L.m b c)) (L.m (L.j a b) c) b ⟨?_, ne, ?_, ?_⟩
  · exact L.glb (L.lub (L.jl a b) (L.trans (L.ml b c) (L.jr a b))) (L.lub hac (L.mr b c))
  · refine L.anti (L.lub (L.trans ?_ (L.jl _ b)) (L.jr _ b)) (L.lub (L.trans (L.ml (L.j a b) c) ?_) (L.jr _ b))
    · exact L.glb (L.lub (L.jl a b) (L.trans (L.ml b c) (L.jr a b))) (L.lub hac (L.mr b c))
    · exact L.lub (L.trans (L.jl a (L.m b c)) (L.jl _ b)) (L.jr _ b)
  · refine L.anti (L.glb (L.trans (L.ml _ b) ?_) (L.mr _ b)) (L.glb ?_ (L.mr _ b))
    · exact L.glb (L.lub (L.jl a b) (L.trans (L.ml b c) (L.jr a b))) (L.lub hac (L.mr b c))
    · exact L.trans (L.glb (L.mr _ b) (L.trans (L.ml _ b) (L.mr _ c))) (L.jr a (L.m b c))
theorem no_pen (h : L.Mod) {a b c : α} : ¬ L.Pen a b c := by
  rintro ⟨h1, h2, h3, h4⟩
  -- a = a j (c m b) = (a j c) m b = b
  have e := h a c b h1
  apply h2
  have e1 : L.j a (L.m c b) = a := by
    rw [mc c b, ← h4, jc]
    exact j_of (L.ml a c)
  have e2 : L.m (L.j a c) b = b := by
    rw [h3, mc]
    exact m_of (L.jl b c)
  rw [← e1, e, e2]
theorem Mod.op (h : L.Mod) : L.op.Mod := by
  intro a b c hac
  show L.m a (L.j b c) = L.j (L.m a b) c
  have := h c b a hac
  rw [mc a, jc b, ← this, jc c, mc b]
/-- the lowest and the highest of three -/
structure Med (L : Ltt α) (x y z d e : α) : Prop where
  d : ∀ w, L.le d w ↔ L.le (L.m x y) w ∧ L.le (L.m y z) w ∧ L.le (L.m x z) w
  e : ∀ w, L.le w e ↔ L.le w (L.j x y) ∧ L.le w (L.j y z) ∧ L.le w (L.j x z)
theorem Med.op {x y z d e : α} (h : L.Med x y z d e) : L.op.Med x y z e d := ⟨h.e, h.d⟩
theorem Med.yx {x y z d e : α} (h : L.Med x y z d e) : L.Med y x z d e := ⟨fun w => by rw [h.d, mc x y]; exact ⟨fun ⟨a, b, c⟩ => ⟨a, c, b⟩, fun ⟨a, b, c⟩ => ⟨a, c, b⟩⟩, fun w => by rw [h.e, jc x y]; exact ⟨fun ⟨a, b, c⟩ => ⟨a, c, b⟩, fun ⟨a, b, c⟩ => ⟨a, c, b⟩⟩⟩
theorem Med.xz {x y z d e : α} (h : L.Med x y z d e) : L.Med x z y d e := ⟨fun w => by rw [h.d, mc y z]; exact ⟨fun ⟨a, b, c⟩ => ⟨c, b, a⟩, fun ⟨a, b, c⟩ => ⟨c, b, a⟩⟩, fun w => by rw [h.e, jc y z]; exact ⟨fun ⟨a, b, c⟩ => ⟨c, b, a⟩, fun ⟨a, b, c⟩ => ⟨c, b, a⟩⟩⟩
theorem med (L : Ltt α) (x y z : α) : ∃ d e, L.Med x y z d e := by
  refine ⟨L.j (L.j (L.m x y) (L.m y z)) (L.m x z), L.m (L.m (L.j x y) (L.j y z)) (L.j x z), fun w => ⟨fun h => ⟨?_, ?_, ?_⟩, fun ⟨a, b, c⟩ => L.lub (L.lub a b) c⟩, fun w => ⟨fun h => ⟨?_, ?_, ?_⟩, fun ⟨a, b, c⟩ => L.glb (L.glb a b) c⟩⟩
  · exact L.trans (L.trans (L.jl _ _) (L.jl _ _)) h
  · exact L.trans (L.trans (L.jr _ _) (L.jl _ _)) h
  · exact L.trans (L.jr _ _) h
  · exact L.trans h (L.trans (L.ml _ _) (L.ml _ _))
  · exact L.trans h (L.trans (L.ml _ _) (L.mr _ _))
  · exact L.trans h (L.mr _ _)
section
variable {x y z d e : α} (h : L.Med x y z d e)
include h
theorem Med.d3 : L.le (L.m x y) d ∧ L.le (L.m y z) d ∧ L.le (L.m x z) d := (h.d d).mp (L.refl d)
theorem Med.e3 : L.le e (L.j x y) ∧ L.le e (L.j y z) ∧ L.le e (L.j x z) := (h.e e).mp (L.refl e)
theorem Med.de : L.le d e := (h.e d).mpr ⟨(h.d _).mpr ⟨L.trans (L.ml _ _) (L.jl _ _), L.trans (L.ml _ _) (L.jr _ _), L.trans (L.ml _ _) (L.jl _ _)⟩,
  (h.d _).mpr ⟨L.trans (L.mr _ _) (L.jl _ _), L.trans (L.ml _ _) (L.jl _ _), L.trans (L.mr _ _) (L.jr _ _)⟩,
  (h.d _).mpr ⟨L.trans (L.ml _ _) (L.jl _ _), L.trans (L.mr _ _) (L.jr _ _), L.trans (L.ml _ _) (L.jl _ _)⟩⟩
/-- x below the highest -/
theorem Med.xe : L.m x e = L.m x (L.j y z) := L.anti (L.glb (L.ml _ _) (L.trans (L.mr _ _) h.e3.2.1)) (L.glb (L.ml _ _) ((h.e _).mpr ⟨L.trans (L.ml _ _) (L.jl _ _), L.mr _ _, L.trans (L.ml _ _) (L.jl _ _)⟩))
theorem Med.xd : L.j x d = L.j x (L.m y z) := h.op.xe
/-- the meet of two of the middle ones -/
theorem Med.mab (M : L.Mod) {a b : α} (ha1 : a = L.j (L.m x e) d) (ha2 : a = L.m (L.j x d) e) (hb1 : b = L.j (L.m y e) d) : L.m a b = d := by
  have hda : L.le d a := by rw [ha1]; exact L.jr _ _
  have hdb : L.le d b := by rw [hb1]; exact L.jr _ _
  refine L.anti ?_ (L.glb hda hdb)
  -- the meet is d j ((y m e) m a)
  have e1 := M d (L.m y e) a hda
  have e2 : L.m a b = L.j d (L.m (L.m y e) a) := by rw [e1, hb1, mc, jc]
  rw [e2]
  refine L.lub (L.refl d) ?_
  -- below y, x j z and x j (y m z)
  have h1 : L.le (L.m (L.m y e) a) y := L.trans (L.ml _ _) (L.ml _ _)
  have h2 : L.le (L.m (L.m y e) a) (L.j x (L.m y z)) := by
    rw [← h.xd]
    exact L.trans (L.mr _ _) (by rw [ha2]; exact L.ml _ _)
  have e3 := M (L.m y z) x y (L.ml y z)
  have h3 : L.le (L.m (L.m y e) a) (L.j (L.m y z) (L.m x y)) := by
    rw [e3]
    exact L.glb (L.trans h2 (L.lub (L.jr _ _) (L.jl _ _))) h1
  exact L.trans h3 (L.lub h.d3.2.1 h.d3.1)
theorem Med.dst (M : L.Mod) (q : d = e) : L.Dst x y z := by
  unfold Dst
  rw [← h.xe, ← q]
  -- x m d = p
  refine L.anti ?_ (L.glb (L.lub (L.ml _ _) (L.ml _ _)) (L.lub h.d3.1 h.d3.2.2))
  have hp : L.le (L.j (L.m x y) (L.m x z)) x := L.lub (L.ml _ _) (L.ml _ _)
  have e1 := M (L.j (L.m x y) (L.m x z)) (L.m y z) x hp
  have h1 : L.le d (L.j (L.j (L.m x y) (L.m x z)) (L.m y z)) := (h.d _).mpr ⟨L.trans (L.jl _ _) (L.jl _ _), L.jr _ _, L.trans (L.jr _ _) (L.jl _ _)⟩
  have h2 : L.le (L.m x d) (L.j (L.j (L.m x y) (L.m x z)) (L.m (L.m y z) x)) := by
    rw [e1]
    exact L.glb (L.trans (L.mr _ _) h1) (L.ml _ _)
  refine L.trans h2 (L.lub (L.refl _) (L.trans (L.glb (L.mr _ _) (L.trans (L.ml _ _) (L.ml _ _))) (L.jl _ _)))
end
/-- three things, any two of which make the same lower and upper thing -/
structure Dia (L : Ltt α) (a b c d e : α) : Prop where
  mab : L.m a b = d
  mac : L.m a c = d
  mbc : L.m b c = d
  jab : L.j a b = e
  jac : L.j a c = e
  jbc : L.j b c = e
  ne : d ≠ e
theorem Dia.ba {a b c d e : α} (h : L.Dia a b c d e) : L.Dia b a c d e := ⟨by rw [mc]; exact h.mab, h.mbc, h.mac, by rw [jc]; exact h.jab, h.jbc, h.jac, h.ne⟩
theorem Dia.cb {a b c d e : α} (h : L.Dia a b c d e) : L.Dia a c b d e := ⟨h.mac, h.mab, by rw [mc]; exact h.mbc, h.jac, h.jab, by rw [jc]; exact h.jbc, h.ne⟩
theorem Dia.ab {a b c d e : α} (h : L.Dia a b c d e) : a ≠ b := fun q => by
  have e1 := h.mab
  have e2 := h.jab
  rw [q, m_of (L.refl b)] at e1
  rw [q, j_of (L.refl b)] at e2
  exact h.ne (e1.symm.trans e2)
theorem Dia.da {a b c d e : α} (h : L.Dia a b c d e) : d ≠ a := fun q => by
  have hab : L.le a b := by rw [← q, ← h.mab]; exact L.mr a b
  have hac : L.le a c := by rw [← q, ← h.mac]; exact L.mr a c
  have e1 := h.jab
  have e2 := h.jac
  rw [j_of hab] at e1
  rw [j_of hac] at e2
  exact h.ba.cb.ab (e1.trans e2.symm)
theorem Dia.op {a b c d e : α} (h : L.Dia a b c d e) : L.op.Dia a b c e d := ⟨h.jab, h.jac, h.jbc, h.mab, h.mac, h.mbc, fun q => h.ne q.symm⟩
theorem Dia.ea {a b c d e : α} (h : L.Dia a b c d e) : e ≠ a := h.op.da
theorem dia_of (M : L.Mod) {x y z : α} (hn : ¬ L.Dst x y z) : ∃ a b c d e, L.Dia a b c d e := by
  obtain ⟨d, e, h⟩ := L.med x y z
  have md : ∀ x, L.j (L.m x e) d = L.m (L.j x d) e := fun x => by
    have := M d x e h.de
    rw [jc, this, jc]
  have go : ∀ {x y z}, L.Med x y z d e → L.m (L.j (L.m x e) d) (L.j (L.m y e) d) = d ∧ L.j (L.j (L.m x e) d) (L.j (L.m y e) d) = e := fun {x y z} h => by
    refine ⟨h.mab M rfl (md x) rfl, ?_⟩
    exact h.op.mab M.op (md x) rfl (md y)
  refine ⟨L.j (L.m x e) d, L.j (L.m y e) d, L.j (L.m z e) d, d, e, (go h).1, (go h.xz).1, (go h.yx.xz).1, (go h).2, (go h.xz).2, (go h.yx.xz).2, fun q => hn (h.dst M q)⟩
theorem pen_or_dia {x y z : α} (hn : ¬ L.Dst x y z) (hp : ∀ a b c, ¬ L.Pen a b c) : ∃ a b c d e, L.Dia a b c d e := dia_of (mod_of hp) hn
/-- where all is distributive there is neither -/
theorem dst_mod (h : ∀ a b c, L.Dst a b c) : L.Mod := by
  intro a b c hac
  have := h c a b
  unfold Dst at this
  rw [mc (L.j a b), this, mc c a, m_of hac, mc c b]
end Ltt
end J

set_option Elab.async false
set_option linter.all false
set_option maxRecDepth 100000
/-! JLat: joins and meets of orders, tables of them; written by mklat.py. -/
namespace J
open PySem (PyData)
noncomputable def bBelow : SS := (sRet ((sCall fReached [.e ((sLc (.nm 2) (itSeq ((sBin dIx (sV 0) (sC (.int 2))))) sYes (lcE ((sUn dRev (sV 2)))) [2])), .e (sV 1)])))
noncomputable def fBelow : Fn := runD 3 [] bBelow
noncomputable def bLeastOf : SS := (sRet ((sLc (.nm 2) (itSeq (sV 1)) (sNot (sT ((sFn dAny (sCons ((sLc (.nm 3) (itSeq (sV 1)) sYes (lcE ((sBin dIn (sV 3) ((sCall fBelow [.e (sV 0), .e (sV 2)]))))) [3])) sNil))))) (lcE (sV 2)) [2])))
noncomputable def fLeastOf : Fn := runD 4 [] bLeastOf
noncomputable def bUpper : SS := (sSeq (sParN [3, 4] (sCons ((sBin dAdd ((sLst (sCons (sV 1) sNil))) ((sCall fAbove [.e (sV 0), .e (sV 1)])))) (sCons ((sBin dAdd ((sLst (sCons (sV 2) sNil))) ((sCall fAbove [.e (sV 0), .e (sV 2)])))) sNil))) (sRet ((sFn dSorI (sCons ((sLc (.nm 5) (itSeq (sV 3)) (sT (sBin dIn (sV 5) (sV 4))) (lcE (sV 5)) [5])) sNil)))))
noncomputable def fUpper : Fn := runD 6 [] bUpper
noncomputable def bJoin : SS := (sSeq (sSet 3 ((sCall fLeastOf [.e (sV 0), .e ((sCall fUpper [.e (sV 0), .e (sV 1), .e (sV 2)]))]))) (sRet ((sIfE (sT (sBin dEq ((sFn dLen (sCons (sV 3) sNil))) (sC (.int 1)))) ((sBin dIx (sV 3) (sC (.int 0)))) (sC .none)))))
noncomputable def fJoin : Fn := runD 4 [] bJoin
noncomputable def bJoins : SS := (sRet ((sFn dTuple (sCons ((sLc (.nm 1) (itRg1 ((sBin dIx (sV 0) (sC (.int 1))))) sYes (lcE ((sFn dTuple (sCons ((sLc (.nm 2) (itRg1 ((sBin dIx (sV 0) (sC (.int 1))))) sYes (lcE ((sCall fJoin [.e (sV 0), .e (sV 1), .e (sV 2)]))) [2])) sNil)))) [1])) sNil))))
noncomputable def fJoins : Fn := runD 3 [] bJoins
noncomputable def bGreatestOf : SS := (sRet ((sLc (.nm 2) (itSeq (sV 1)) (sNot (sT ((sFn dAny (sCons ((sLc (.nm 3) (itSeq (sV 1)) sYes (lcE ((sBin dIn (sV 3) ((sCall fAbove [.e (sV 0), .e (sV 2)]))))) [3])) sNil))))) (lcE (sV 2)) [2])))
noncomputable def fGreatestOf : Fn := runD 4 [] bGreatestOf
noncomputable def bLower : SS := (sSeq (sParN [3, 4] (sCons ((sBin dAdd ((sLst (sCons (sV 1) sNil))) ((sCall fBelow [.e (sV 0), .e (sV 1)])))) (sCons ((sBin dAdd ((sLst (sCons (sV 2) sNil))) ((sCall fBelow [.e (sV 0), .e (sV 2)])))) sNil))) (sRet ((sFn dSorI (sCons ((sLc (.nm 5) (itSeq (sV 3)) (sT (sBin dIn (sV 5) (sV 4))) (lcE (sV 5)) [5])) sNil)))))
noncomputable def fLower : Fn := runD 6 [] bLower
noncomputable def bMeet : SS := (sSeq (sSet 3 ((sCall fGreatestOf [.e (sV 0), .e ((sCall fLower [.e (sV 0), .e (sV 1), .e (sV 2)]))]))) (sRet ((sIfE (sT (sBin dEq ((sFn dLen (sCons (sV 3) sNil))) (sC (.int 1)))) ((sBin dIx (sV 3) (sC (.int 0)))) (sC .none)))))
noncomputable def fMeet : Fn := runD 4 [] bMeet
noncomputable def bMeets : SS := (sRet ((sFn dTuple (sCons ((sLc (.nm 1) (itRg1 ((sBin dIx (sV 0) (sC (.int 1))))) sYes (lcE ((sFn dTuple (sCons ((sLc (.nm 2) (itRg1 ((sBin dIx (sV 0) (sC (.int 1))))) sYes (lcE ((sCall fMeet [.e (sV 0), .e (sV 1), .e (sV 2)]))) [2])) sNil)))) [1])) sNil))))
noncomputable def fMeets : Fn := runD 3 [] bMeets
noncomputable def bLLow : SS := (sRet ((sLc (.nm 2) (itSeq (sV 1)) (sT (sBin dEq ((sFn dLen (sCons ((sLc (.nm 3) (itSeq (sV 1)) (sT (sBin dIn (sV 2) ((sBin dIx (sV 0) (sV 3))))) (lcE (sV 3)) [3])) sNil))) (sC (.int 0)))) (lcE (sV 2)) [2])))
noncomputable def fLLow : Fn := runD 4 [] bLLow
noncomputable def bLHigh : SS := (sRet ((sLc (.nm 2) (itSeq (sV 1)) (sT (sBin dEq ((sFn dLen (sCons ((sLc (.nm 3) (itSeq (sV 1)) (sT (sBin dIn (sV 3) ((sBin dIx (sV 0) (sV 2))))) (lcE (sV 3)) [3])) sNil))) (sC (.int 0)))) (lcE (sV 2)) [2])))
noncomputable def fLHigh : Fn := runD 4 [] bLHigh
noncomputable def bLTables : SS := (sSeq (sParN [1, 2] (sCons ((sCall fLUps [.e (sV 0)])) (sCons ((sUn dListRg1 ((sBin dIx (sV 0) (sC (.int 1)))))) sNil))) (sSeq (sParN [3, 4] (sCons ((sLst sNil)) (sCons ((sLst sNil)) sNil))) (sSeq (sFor (.nm 5) (itSeq (sV 2)) (sSeq (sParN [6, 7] (sCons ((sLst sNil)) (sCons ((sLst sNil)) sNil))) (sSeq (sFor (.nm 8) (itSeq (sV 2)) (sSeq (sSet 9 (sLc (.nm 13) (itSeq (sV 2)) (sAnd (sOr (sT (sBin dEq (sV 13) (sV 5))) (sT (sBin dIn (sV 13) ((sBin dIx (sV 1) (sV 5)))))) (sOr (sT (sBin dEq (sV 13) (sV 8))) (sT (sBin dIn (sV 13) ((sBin dIx (sV 1) (sV 8))))))) (lcE (sV 13)) [13])) (sSeq (sSet 10 (sLc (.nm 13) (itSeq (sV 2)) (sAnd (sOr (sT (sBin dEq (sV 13) (sV 5))) (sT (sBin dIn (sV 5) ((sBin dIx (sV 1) (sV 13)))))) (sOr (sT (sBin dEq (sV 13) (sV 8))) (sT (sBin dIn (sV 8) ((sBin dIx (sV 1) (sV 13))))))) (lcE (sV 13)) [13])) (sSeq (sParN [11, 12] (sCons ((sCall fLLow [.e (sV 1), .e (sV 9)])) (sCons ((sCall fLHigh [.e (sV 1), .e (sV 10)])) sNil))) (sSeq (sX ((sMet mApp 6 (sCons ((sIfE (sT (sBin dEq ((sFn dLen (sCons (sV 11) sNil))) (sC (.int 1)))) ((sBin dIx (sV 11) (sC (.int 0)))) (sC .none))) sNil)))) (sX ((sMet mApp 7 (sCons ((sIfE (sT (sBin dEq ((sFn dLen (sCons (sV 12) sNil))) (sC (.int 1)))) ((sBin dIx (sV 12) (sC (.int 0)))) (sC .none))) sNil)))))))) [8, 9, 10, 11, 12]) (sSeq (sX ((sMet mApp 3 (sCons ((sFn dTuple (sCons (sV 6) sNil))) sNil)))) (sX ((sMet mApp 4 (sCons ((sFn dTuple (sCons (sV 7) sNil))) sNil))))))) [5, 6, 7, 8, 9, 10, 11, 12]) (sRet ((sTup (sCons ((sFn dTuple (sCons (sV 3) sNil))) (sCons ((sFn dTuple (sCons (sV 4) sNil))) sNil))))))))
noncomputable def fLTables : Fn := runD 14 [] bLTables
noncomputable def bLIsLattice : SS := (sSeq (sAsg (.tp [1, 2]) ((sCall fLTables [.e (sV 0)]))) (sRet ((sBin dEq ((sFn dLen (sCons ((sLc (.nm 3) (itSeq ((sBin dAdd (sV 1) (sV 2)))) (sT (sBin dIn (sC .none) (sV 3))) (lcE (sV 3)) [3])) sNil))) (sC (.int 0))))))
noncomputable def fLIsLattice : Fn := runD 4 [] bLIsLattice
/-! ### below or the same -/
def Le (cs : Ps) (a b : Nat) : Prop := a = b ∨ Tc cs a b
noncomputable instance leDec (cs : Ps) (a b : Nat) : Decidable (Le cs a b) := Classical.propDecidable _
theorem Le.refl {cs : Ps} {a : Nat} : Le cs a a := .inl rfl
theorem Le.trans {cs : Ps} {a b c : Nat} (h : Le cs a b) (q : Le cs b c) : Le cs a c := by
  rcases h with rfl | h
  · exact q
  · rcases q with rfl | q
    · exact .inr h
    · exact .inr (h.trans q)
theorem Le.anti {n : Nat} {cs : Ps} (o : Ord n cs) {a b : Nat} (h : Le cs a b) (q : Le cs b a) : a = b := by
  rcases h with h | h
  · exact h
  · rcases q with q | q
    · exact q.symm
    · exact (o.asym h q).elim
theorem tc_swap {cs : Ps} {a b : Nat} : Tc (cs.map fun p => (p.2, p.1)) a b ↔ Tc cs b a := by
  constructor
  · intro t
    induction t with
    | one m =>
      obtain ⟨p, hp, e⟩ := List.mem_map.mp m
      cases e
      exact .one hp
    | step m t ih =>
      obtain ⟨p, hp, e⟩ := List.mem_map.mp m
      cases e
      exact ih.trans (.one hp)
  · intro t
    induction t with
    | one m => exact .one (List.mem_map.mpr ⟨_, m, rfl⟩)
    | step m t ih => exact ih.trans (.one (List.mem_map.mpr ⟨_, m, rfl⟩))
noncomputable def upsD (n : Nat) (cs : Ps) : D := .list ((upN n cs).map nL)
theorem dIx_ups {n : Nat} {cs : Ps} {k : Nat} (hk : k < n) : dIx (upsD n cs) (nD k) = some (nL (upl n cs k)) := dIx_up hk
theorem ord_len {n : Nat} {cs : Ps} (h : Ord n cs) (hn : n ≤ 60) : cs.length ≤ 4000 := by
  have := ps_len h.nd h.rng
  have h2 : n * n ≤ 60 * 60 := Nat.mul_le_mul hn hn
  omega
theorem jups_ok {n : Nat} {cs : Ps} (h : Ord n cs) (hn : n ≤ 60) : fUps [ordD n cs] = .ok (upsD n cs) [] := ups_ok h.rng hn (ord_len h hn)
theorem jlups_ok {n : Nat} {cs : Ps} (h : Ord n cs) (hn : n ≤ 60) : fLUps [ordD n cs] = .ok (upsD n cs) [] := lups_ok h hn
theorem jabove_ok {n : Nat} {cs : Ps} (h : Ord n cs) (hn : n ≤ 60) (k : Nat) : fAbove [ordD n cs, nD k] = .ok (nL (upl n cs k)) [] := above_ok h.rng hn (ord_len h hn) k
/-- what is below -/
noncomputable def dwl (n : Nat) (cs : Ps) (k : Nat) : List Nat := upl n (cs.map fun p => (p.2, p.1)) k
theorem swap_rng {n : Nat} {cs : Ps} (h : InR n cs) : InR n (cs.map fun p => (p.2, p.1)) := fun p hp => by
  obtain ⟨q, hq, rfl⟩ := List.mem_map.mp hp
  exact ⟨(h q hq).2, (h q hq).1⟩
theorem mem_dwl {n : Nat} {cs : Ps} (h : InR n cs) {k j : Nat} : j ∈ dwl n cs k ↔ Tc cs j k := (mem_upl' (swap_rng h)).trans tc_swap
theorem jbelow_ok {n : Nat} {cs : Ps} (h : Ord n cs) (hn : n ≤ 60) (k : Nat) : fBelow [ordD n cs, nD k] = .ok (nL (dwl n cs k)) [] := by
  refine run_v ?_
  show Ok (bBelow [some (ordD n cs), some (nD k), none]) _
  unfold bBelow
  refine ret_ok (call_eq2 (lc_map0 (f := pD) (xs := cs) (p := fun _ => true) (g := fun p => pD (p.2, p.1)) (itSeq_of (order_cs rfl) rfl) (fun _ _ => rfl) (fun p _ _ => un_eq (nm_eq rfl) rfl)) (nm_eq rfl) ?_) (ends_rt0 rfl)
  refine reached_ok (n := n) ?_ (swap_rng h.rng) hn (by rw [List.length_map]; exact ord_len h hn) k
  rw [filt_true, List.map_map]
  rfl
/-! ### bounds -/
section
variable {n : Nat} {cs : Ps}
noncomputable def upp (n : Nat) (cs : Ps) (a b : Nat) : List Nat := (List.range n).filter fun k => (decide (k = a) || decide (k ∈ upl n cs a)) && (decide (k = b) || decide (k ∈ upl n cs b))
noncomputable def lww (n : Nat) (cs : Ps) (a b : Nat) : List Nat := (List.range n).filter fun k => (decide (k = a) || decide (a ∈ upl n cs k)) && (decide (k = b) || decide (b ∈ upl n cs k))
theorem mem_upp (h : InR n cs) {a b k : Nat} : k ∈ upp n cs a b ↔ k < n ∧ Le cs a k ∧ Le cs b k := by
  unfold upp Le
  rw [List.mem_filter, List.mem_range, Bool.and_eq_true, Bool.or_eq_true, Bool.or_eq_true, decide_eq_true_eq, decide_eq_true_eq, decide_eq_true_eq, decide_eq_true_eq, mem_upl' h, mem_upl' h, eq_comm (a := k), eq_comm (a := k)]
theorem mem_lww (h : InR n cs) {a b k : Nat} : k ∈ lww n cs a b ↔ k < n ∧ Le cs k a ∧ Le cs k b := by
  unfold lww Le
  rw [List.mem_filter, List.mem_range, Bool.and_eq_true, Bool.or_eq_true, Bool.or_eq_true, decide_eq_true_eq, decide_eq_true_eq, decide_eq_true_eq, decide_eq_true_eq, mem_upl' h, mem_upl' h]
noncomputable def minL (n : Nat) (cs : Ps) (lot : List Nat) : List Nat := lot.filter fun k => decide ((lot.filter fun j => decide (k ∈ upl n cs j)).length = 0)
noncomputable def maxL (n : Nat) (cs : Ps) (lot : List Nat) : List Nat := lot.filter fun k => decide ((lot.filter fun j => decide (j ∈ upl n cs k)).length = 0)
theorem mem_minL (h : InR n cs) {lot : List Nat} {k : Nat} : k ∈ minL n cs lot ↔ k ∈ lot ∧ ∀ j ∈ lot, ¬ Tc cs j k := by
  unfold minL
  rw [List.mem_filter, all_not_len, List.all_eq_true]
  refine and_congr_right fun _ => ⟨fun q j hj => ?_, fun q j hj => ?_⟩
  · have := q j hj
    rw [Bool.not_eq_true', decide_eq_false_iff_not, mem_upl' h] at this
    exact this
  · rw [Bool.not_eq_true', decide_eq_false_iff_not, mem_upl' h]
    exact q j hj
theorem mem_maxL (h : InR n cs) {lot : List Nat} {k : Nat} : k ∈ maxL n cs lot ↔ k ∈ lot ∧ ∀ j ∈ lot, ¬ Tc cs k j := by
  unfold maxL
  rw [List.mem_filter, all_not_len, List.all_eq_true]
  refine and_congr_right fun _ => ⟨fun q j hj => ?_, fun q j hj => ?_⟩
  · have := q j hj
    rw [Bool.not_eq_true', decide_eq_false_iff_not, mem_upl' h] at this
    exact this
  · rw [Bool.not_eq_true', decide_eq_false_iff_not, mem_upl' h]
    exact q j hj
def oneOf (l : List Nat) : Option Nat := if l.length = 1 then some (l.getD 0 0) else none
theorem oneOf_some {l : List Nat} {x : Nat} : oneOf l = some x ↔ l = [x] := by
  unfold oneOf
  match l with
  | [] => simp
  | [y] => simp
  | y :: z :: l => simp
noncomputable def jn (n : Nat) (cs : Ps) (a b : Nat) : Option Nat := oneOf (minL n cs (upp n cs a b))
noncomputable def mt (n : Nat) (cs : Ps) (a b : Nat) : Option Nat := oneOf (maxL n cs (lww n cs a b))
def oT (r : List (Option Nat)) : D := .tuple (r.map oD)
def tab (n : Nat) (f : Nat → Nat → Option Nat) : D := .tuple (((List.range n).map fun a => (List.range n).map (f a)).map oT)
/-! ### the law's tables -/
theorem llow_ok {lot : List Nat} (hl : ∀ k ∈ lot, k < n) : fLLow [upsD n cs, nL lot] = .ok (nL (minL n cs lot)) [] := by
  refine run_v ?_
  show Ok (bLLow [some (upsD n cs), some (nL lot), none, none]) _
  unfold bLLow
  refine ret_ok (lc_map0 (f := nD) (xs := lot) (p := fun k => decide ((lot.filter fun j => decide (k ∈ upl n cs j)).length = 0)) (g := nD) (itSeq_of (nm_eq rfl) rfl) (fun k hk => t_eq (bin_eq (fn1_eq (lc_map0 (f := nD) (xs := lot) (p := fun j => decide (k ∈ upl n cs j)) (g := nD) (itSeq_of (nm_eq rfl) rfl) (fun j hj => t_eq (bin_eq (nm_eq rfl) (bin_eq (nm_eq rfl) (nm_eq rfl) (dIx_ups (hl j hj))) (dIn_nL _ _))) (fun j _ _ => nm_eq rfl)) (dLen_L _)) c_eq (by rw [nD0, dEq_nD, List.length_map]))) (fun k _ _ => nm_eq rfl)) (ends_rt0 rfl)
theorem lhigh_ok {lot : List Nat} (hl : ∀ k ∈ lot, k < n) : fLHigh [upsD n cs, nL lot] = .ok (nL (maxL n cs lot)) [] := by
  refine run_v ?_
  show Ok (bLHigh [some (upsD n cs), some (nL lot), none, none]) _
  unfold bLHigh
  refine ret_ok (lc_map0 (f := nD) (xs := lot) (p := fun k => decide ((lot.filter fun j => decide (j ∈ upl n cs k)).length = 0)) (g := nD) (itSeq_of (nm_eq rfl) rfl) (fun k hk => t_eq (bin_eq (fn1_eq (lc_map0 (f := nD) (xs := lot) (p := fun j => decide (j ∈ upl n cs k)) (g := nD) (itSeq_of (nm_eq rfl) rfl) (fun j hj => t_eq (bin_eq (nm_eq rfl) (bin_eq (nm_eq rfl) (nm_eq rfl) (dIx_ups (hl k hk))) (dIn_nL _ _))) (fun j _ _ => nm_eq rfl)) (dLen_L _)) c_eq (by rw [nD0, dEq_nD, List.length_map]))) (fun k _ _ => nm_eq rfl)) (ends_rt0 rfl)
theorem one_eq {i : Nat} {r : Env} {l : List Nat} (h : getS r i = some (nL l)) : (sIfE (sT (sBin dEq (sFn dLen (sCons (sV i) sNil)) (sC (.int 1)))) (sBin dIx (sV i) (sC (.int 0))) (sC .none)) r = .ok (oD (oneOf l)) r := by
  refine ife_eq (p := decide (l.length = 1)) (t_eq (bin_eq (fn1_eq (nm_eq h) (dLen_nL l)) c_eq (dEq_nD _ 1))) (fun e => ?_) (fun e => ?_)
  · have e := of_decide_eq_true e
    unfold oneOf
    rw [if_pos e]
    exact bin_eq (nm_eq h) c_eq (show dIx (nL l) (nD 0) = some (nD (l.getD 0 0)) from dIx_nL (by omega))
  · have e := of_decide_eq_false e
    unfold oneOf
    rw [if_neg e]
    rfl
theorem app_ok {i : Nat} {r : Env} {xs : List D} {e : SE} {d : D} {Q : Fl → Env → Prop} (hg : getS r i = some (.list xs)) (he : e r = .ok d r) (hl : xs.length ≤ 100000) (q : Q .nx (r.set i (some (.list (xs ++ [d]))))) : Ok (sX (sMet mApp i (sCons e sNil)) r) Q := by
  rw [ok_X]
  refine ok_Met ⟨⟨_, hg⟩, ok_of (cons_eq he nil_eq) ⟨xs, .none, xs ++ [d], hg, ?_, q⟩⟩
  have : xs.length < line := by rw [show line = 16777216 from rfl]; omega
  simp [mApp, this]
theorem upp_eq {r : Env} {e : SI} {ia ib iu v : Nat} {a b : Nat} (ha : a < n) (hb : b < n) (hit : e r = .ok ((List.range n).map nD) r) (h1 : ∀ x : D, getS (r.set v (some x)) ia = some (nD a)) (h2 : ∀ x : D, getS (r.set v (some x)) ib = some (nD b)) (h3 : ∀ x : D, getS (r.set v (some x)) iu = some (upsD n cs)) (h4 : ∀ x : D, getS (r.set v (some x)) v = some x) :
    sLc (.nm v) e (sAnd (sOr (sT (sBin dEq (sV v) (sV ia))) (sT (sBin dIn (sV v) (sBin dIx (sV iu) (sV ia))))) (sOr (sT (sBin dEq (sV v) (sV ib))) (sT (sBin dIn (sV v) (sBin dIx (sV iu) (sV ib)))))) (lcE (sV v)) [v] r = .ok (nL (upp n cs a b)) r :=
  lc_map0 (f := nD) (xs := List.range n) (p := fun k => (decide (k = a) || decide (k ∈ upl n cs a)) && (decide (k = b) || decide (k ∈ upl n cs b))) (g := nD) hit (fun k hk => and_eq (or_eq (t_eq (bin_eq (nm_eq (h4 _)) (nm_eq (h1 _)) (dEq_nD _ _))) (t_eq (bin_eq (nm_eq (h4 _)) (bin_eq (nm_eq (h3 _)) (nm_eq (h1 _)) (dIx_ups ha)) (dIn_nL _ _)))) (or_eq (t_eq (bin_eq (nm_eq (h4 _)) (nm_eq (h2 _)) (dEq_nD _ _))) (t_eq (bin_eq (nm_eq (h4 _)) (bin_eq (nm_eq (h3 _)) (nm_eq (h2 _)) (dIx_ups hb)) (dIn_nL _ _))))) (fun k _ _ => nm_eq (h4 _))
theorem lww_eq {r : Env} {e : SI} {ia ib iu v : Nat} {a b : Nat} (hit : e r = .ok ((List.range n).map nD) r) (h1 : ∀ x : D, getS (r.set v (some x)) ia = some (nD a)) (h2 : ∀ x : D, getS (r.set v (some x)) ib = some (nD b)) (h3 : ∀ x : D, getS (r.set v (some x)) iu = some (upsD n cs)) (h4 : ∀ x : D, getS (r.set v (some x)) v = some x) :
    sLc (.nm v) e (sAnd (sOr (sT (sBin dEq (sV v) (sV ia))) (sT (sBin dIn (sV ia) (sBin dIx (sV iu) (sV v))))) (sOr (sT (sBin dEq (sV v) (sV ib))) (sT (sBin dIn (sV ib) (sBin dIx (sV iu) (sV v)))))) (lcE (sV v)) [v] r = .ok (nL (lww n cs a b)) r :=
  lc_map0 (f := nD) (xs := List.range n) (p := fun k => (decide (k = a) || decide (a ∈ upl n cs k)) && (decide (k = b) || decide (b ∈ upl n cs k))) (g := nD) hit (fun k hk => and_eq (or_eq (t_eq (bin_eq (nm_eq (h4 _)) (nm_eq (h1 _)) (dEq_nD _ _))) (t_eq (bin_eq (nm_eq (h1 _)) (bin_eq (nm_eq (h3 _)) (nm_eq (h4 _)) (dIx_ups (List.mem_range.mp hk))) (dIn_nL _ _)))) (or_eq (t_eq (bin_eq (nm_eq (h4 _)) (nm_eq (h2 _)) (dEq_nD _ _))) (t_eq (bin_eq (nm_eq (h2 _)) (bin_eq (nm_eq (h3 _)) (nm_eq (h4 _)) (dIx_ups (List.mem_range.mp hk))) (dIn_nL _ _))))) (fun k _ _ => nm_eq (h4 _))
theorem upp_lt {a b : Nat} : ∀ k ∈ upp n cs a b, k < n := fun k hk => List.mem_range.mp (List.mem_filter.mp hk).1
theorem lww_lt {a b : Nat} : ∀ k ∈ lww n cs a b, k < n := fun k hk => List.mem_range.mp (List.mem_filter.mp hk).1
theorem map_succ {α β : Type} (g : β → D) (f : Nat → β) (m : Nat) : ((List.range m).map f).map g ++ [g (f m)] = ((List.range (m + 1)).map f).map g := by
  rw [List.range_succ, List.map_append, List.map_append]
  rfl
theorem ltables_ok (h : Ord n cs) (hn : n ≤ 60) : fLTables [ordD n cs] = .ok (.tuple [tab n (jn n cs), tab n (mt n cs)]) [] := by
  refine run_v ?_
  show Ok (bLTables [some (ordD n cs), none, none, none, none, none, none, none, none, none, none, none, none, none]) _
  unfold bLTables
  rw [ok_Seq, ok_ParN]
  refine ok_of (cons_eq (call_eq1 (nm_eq rfl) (jlups_ok h hn)) (cons_eq (un_eq (order_n rfl) (dListRg1_nD n (by omega))) nil_eq)) ⟨_, rfl, ?_⟩
  simp only [List.set_cons_zero, List.set_cons_succ]
  rw [ok_Seq, ok_ParN]
  refine ok_of (cons_eq (lst_eq nil_eq) (cons_eq (lst_eq nil_eq) nil_eq)) ⟨_, rfl, ?_⟩
  simp only [List.set_cons_zero, List.set_cons_succ]
  refine seq_th (for_ok (itSeq_of (nm_eq rfl) rfl) ?_)
  simp only [kill_cons, kill_nil, List.set_cons_zero, List.set_cons_succ]
  refine forL_rg (Inv := fun k e => e = [some (ordD n cs), some (upsD n cs), some (nL (List.range n)), some (.list (((List.range k).map fun a => (List.range n).map (jn n cs a)).map oT)), some (.list (((List.range k).map fun a => (List.range n).map (mt n cs a)).map oT)), none, none, none, none, none, none, none, none, none]) rfl (fun a ha e ee => ?_) (fun e ee => ?_)
  · subst ee
    simp only [List.set_cons_zero, List.set_cons_succ]
    rw [ok_Seq, ok_ParN]
    refine ok_of (cons_eq (lst_eq nil_eq) (cons_eq (lst_eq nil_eq) nil_eq)) ⟨_, rfl, ?_⟩
    simp only [List.set_cons_zero, List.set_cons_succ]
    refine seq_th (for_ok (itSeq_of (nm_eq rfl) rfl) ?_)
    simp only [kill_cons, kill_nil, List.set_cons_zero, List.set_cons_succ]
    refine forL_rg (Inv := fun m e => e = [some (ordD n cs), some (upsD n cs), some (nL (List.range n)), some (.list (((List.range a).map fun a => (List.range n).map (jn n cs a)).map oT)), some (.list (((List.range a).map fun a => (List.range n).map (mt n cs a)).map oT)), some (nD a), some (.list (((List.range m).map (jn n cs a)).map oD)), some (.list (((List.range m).map (mt n cs a)).map oD)), none, none, none, none, none, none]) rfl (fun b hb e ee => ?_) (fun e ee => ?_)
    · subst ee
      simp only [List.set_cons_zero, List.set_cons_succ]
      refine seqset_ok (upp_eq ha hb (itSeq_of (nm_eq rfl) rfl) (fun _ => rfl) (fun _ => rfl) (fun _ => rfl) (fun _ => rfl)) ?_
      simp only [List.set_cons_zero, List.set_cons_succ]
      refine seqset_ok (lww_eq (itSeq_of (nm_eq rfl) rfl) (fun _ => rfl) (fun _ => rfl) (fun _ => rfl) (fun _ => rfl)) ?_
      simp only [List.set_cons_zero, List.set_cons_succ]
      rw [ok_Seq, ok_ParN]
      refine ok_of (cons_eq (call_eq2 (nm_eq rfl) (nm_eq rfl) (llow_ok upp_lt)) (cons_eq (call_eq2 (nm_eq rfl) (nm_eq rfl) (lhigh_ok lww_lt)) nil_eq)) ⟨_, rfl, ?_⟩
      simp only [List.set_cons_zero, List.set_cons_succ]
      refine seq_th (app_ok rfl (one_eq rfl) (by simp; omega) (then_nx ?_))
      simp only [List.set_cons_zero, List.set_cons_succ]
      refine app_ok rfl (one_eq rfl) (by simp; omega) (turn_nx ?_)
      simp only [kill_cons, kill_nil, List.set_cons_zero, List.set_cons_succ]
      rw [← map_succ (α := Nat) oD (jn n cs a) b, ← map_succ (α := Nat) oD (mt n cs a) b]
      rfl
    · subst ee
      refine then_nx ?_
      simp only [kill_cons, kill_nil, List.set_cons_zero, List.set_cons_succ]
      refine seq_th (app_ok rfl (fn1_eq (nm_eq rfl) rfl) (by simp; omega) (then_nx ?_))
      simp only [List.set_cons_zero, List.set_cons_succ]
      refine app_ok rfl (fn1_eq (nm_eq rfl) rfl) (by simp; omega) (turn_nx ?_)
      simp only [kill_cons, kill_nil, List.set_cons_zero, List.set_cons_succ]
      rw [← map_succ (α := Nat) oT (fun a => (List.range n).map (jn n cs a)) a, ← map_succ (α := Nat) oT (fun a => (List.range n).map (mt n cs a)) a]
      rfl
  · subst ee
    refine then_nx ?_
    simp only [kill_cons, kill_nil, List.set_cons_zero, List.set_cons_succ]
    exact ret_ok (tup_eq (cons_eq (fn1_eq (nm_eq rfl) rfl) (cons_eq (fn1_eq (nm_eq rfl) rfl) nil_eq))) (ends_rt0 rfl)
/-! ### is it a lattice -/
def IsLat (n : Nat) (cs : Ps) : Prop := ∀ a, a < n → ∀ b, b < n → jn n cs a b ≠ none ∧ mt n cs a b ≠ none
noncomputable instance (n : Nat) (cs : Ps) : Decidable (IsLat n cs) := Classical.propDecidable _
theorem eqv_oT (a b : List (Option Nat)) : PyData.eqv (oT a) (oT b) = decide (a = b) := by
  unfold oT
  rw [eqv_tt, eqvAll_map eqv_oD]
theorem llattice_ok (h : Ord n cs) (hn : n ≤ 60) : fLIsLattice [ordD n cs] = .ok (.bool (decide (IsLat n cs))) [] := by
  refine run_v ?_
  show Ok (bLIsLattice [some (ordD n cs), none, none, none]) _
  unfold bLIsLattice
  rw [ok_Seq, ok_Asg]
  refine ok_of (call_eq1 (nm_eq rfl) (ltables_ok h hn)) ⟨_, rfl, ?_⟩
  simp only [setAll_cons, setAll_nil, List.set_cons_zero, List.set_cons_succ]
  refine ret_ok (bin_eq (fn1_eq (lc_map0 (f := oT) (xs := ((List.range n).map fun a => (List.range n).map (jn n cs a)) ++ ((List.range n).map fun a => (List.range n).map (mt n cs a))) (p := fun r => @decide (none ∈ r) (@List.instDecidableMemOfLawfulBEq (Option Nat) instBEqOfDecidableEq _ none r)) (g := oT) (itSeq_of (bin_eq (nm_eq rfl) (nm_eq rfl) (dAdd_mapT (f := oT) _ (by rw [show line = 16777216 from rfl]; simp; omega))) rfl) (fun r hr => t_eq (bin_eq c_eq (nm_eq rfl) (dIn_mapT (n := 0) eqv_oD (fun _ => sm_oD) none r))) (fun r _ _ => nm_eq rfl)) (dLen_L _)) c_eq (by rw [nD0, dEq_nD, List.length_map])) (ends_rt0 ?_)
  congr 1
  rw [all_not_len, Bool.eq_iff_iff, List.all_eq_true, decide_eq_true_eq]
  constructor
  · intro q a ha b hb
    have g1 := q _ (List.mem_append.mpr (.inl (List.mem_map.mpr ⟨a, List.mem_range.mpr ha, rfl⟩)))
    have g2 := q _ (List.mem_append.mpr (.inr (List.mem_map.mpr ⟨a, List.mem_range.mpr ha, rfl⟩)))
    rw [Bool.not_eq_true', decide_eq_false_iff_not] at g1 g2
    exact ⟨fun e => g1 (List.mem_map.mpr ⟨b, List.mem_range.mpr hb, e⟩), fun e => g2 (List.mem_map.mpr ⟨b, List.mem_range.mpr hb, e⟩)⟩
  · intro L r hr
    rw [Bool.not_eq_true', decide_eq_false_iff_not]
    intro hm
    rcases List.mem_append.mp hr with hr | hr
    · obtain ⟨a, ha, rfl⟩ := List.mem_map.mp hr
      obtain ⟨b, hb, e⟩ := List.mem_map.mp hm
      exact (L a (List.mem_range.mp ha) b (List.mem_range.mp hb)).1 e
    · obtain ⟨a, ha, rfl⟩ := List.mem_map.mp hr
      obtain ⟨b, hb, e⟩ := List.mem_map.mp hm
      exact (L a (List.mem_range.mp ha) b (List.mem_range.mp hb)).2 e
/-! ### the program's tables -/
theorem up_sort (h : Ord n cs) {a b : Nat} (ha : a < n) : sortN ((a :: upl n cs a).filter fun k => decide (k ∈ b :: upl n cs b)) = upp n cs a b := by
  have nd : (a :: upl n cs a).Nodup := List.nodup_cons.mpr ⟨fun m => h.irr (mem_upl.mp m).2, upl_nd⟩
  refine asc_ext (strict (sortN_pair _) ((sortN_perm _).nodup_iff.mpr (List.Pairwise.filter _ nd))) (List.Pairwise.filter _ List.pairwise_lt_range) fun x => ?_
  rw [(sortN_perm _).mem_iff, List.mem_filter, decide_eq_true_eq, List.mem_cons, List.mem_cons, mem_upl' h.rng, mem_upl' h.rng, mem_upp h.rng]
  unfold Le
  constructor
  · rintro ⟨h1, h2⟩
    refine ⟨?_, h1.imp (fun e => e.symm) id, h2.imp (fun e => e.symm) id⟩
    rcases h1 with rfl | h1
    · exact ha
    · exact (h1.lt h.rng).2
  · rintro ⟨_, h1, h2⟩
    exact ⟨h1.imp (fun e => e.symm) id, h2.imp (fun e => e.symm) id⟩
theorem dw_sort (h : Ord n cs) {a b : Nat} (ha : a < n) : sortN ((a :: dwl n cs a).filter fun k => decide (k ∈ b :: dwl n cs b)) = lww n cs a b := by
  have nd : (a :: dwl n cs a).Nodup := List.nodup_cons.mpr ⟨fun m => h.irr ((mem_dwl h.rng).mp m), upl_nd⟩
  refine asc_ext (strict (sortN_pair _) ((sortN_perm _).nodup_iff.mpr (List.Pairwise.filter _ nd))) (List.Pairwise.filter _ List.pairwise_lt_range) fun x => ?_
  rw [(sortN_perm _).mem_iff, List.mem_filter, decide_eq_true_eq, List.mem_cons, List.mem_cons, mem_dwl h.rng, mem_dwl h.rng, mem_lww h.rng]
  unfold Le
  constructor
  · rintro ⟨h1, h2⟩
    refine ⟨?_, h1, h2⟩
    rcases h1 with rfl | h1
    · exact ha
    · exact (h1.lt h.rng).1
  · rintro ⟨_, h1, h2⟩
    exact ⟨h1, h2⟩
theorem cons_add (a : Nat) (xs : List Nat) (h : xs.length ≤ 60) : dAdd (.list [nD a]) (nL xs) = some (nL (a :: xs)) := by
  have := dAdd_nL [a] xs (by rw [show line = 16777216 from rfl]; simp; omega)
  exact this
theorem dwl_len {k : Nat} : (dwl n cs k).length ≤ n := upl_len
theorem upper_ok (h : Ord n cs) (hn : n ≤ 60) {a b : Nat} (ha : a < n) : fUpper [ordD n cs, nD a, nD b] = .ok (nL (upp n cs a b)) [] := by
  refine run_v ?_
  show Ok (bUpper [some (ordD n cs), some (nD a), some (nD b), none, none, none]) _
  unfold bUpper
  have l1 := upl_len (n := n) (ps := cs) (k := a)
  have l2 := upl_len (n := n) (ps := cs) (k := b)
  rw [ok_Seq, ok_ParN]
  refine ok_of (cons_eq (bin_eq (lst_eq (cons_eq (nm_eq rfl) nil_eq)) (call_eq2 (nm_eq rfl) (nm_eq rfl) (jabove_ok h hn a)) (cons_add _ _ (by omega))) (cons_eq (bin_eq (lst_eq (cons_eq (nm_eq rfl) nil_eq)) (call_eq2 (nm_eq rfl) (nm_eq rfl) (jabove_ok h hn b)) (cons_add _ _ (by omega))) nil_eq)) ⟨_, rfl, ?_⟩
  simp only [List.set_cons_zero, List.set_cons_succ]
  refine ret_ok (fn1_eq (lc_map0 (f := nD) (xs := a :: upl n cs a) (p := fun k => decide (k ∈ b :: upl n cs b)) (g := nD) (itSeq_of (nm_eq rfl) rfl) (fun k _ => t_eq (bin_eq (nm_eq rfl) (nm_eq rfl) (dIn_nL _ _))) (fun k _ _ => nm_eq rfl)) (dSorI_nL _)) (ends_rt0 ?_)
  rw [up_sort h ha]
theorem lower_ok (h : Ord n cs) (hn : n ≤ 60) {a b : Nat} (ha : a < n) : fLower [ordD n cs, nD a, nD b] = .ok (nL (lww n cs a b)) [] := by
  refine run_v ?_
  show Ok (bLower [some (ordD n cs), some (nD a), some (nD b), none, none, none]) _
  unfold bLower
  have l1 := dwl_len (n := n) (cs := cs) (k := a)
  have l2 := dwl_len (n := n) (cs := cs) (k := b)
  rw [ok_Seq, ok_ParN]
  refine ok_of (cons_eq (bin_eq (lst_eq (cons_eq (nm_eq rfl) nil_eq)) (call_eq2 (nm_eq rfl) (nm_eq rfl) (jbelow_ok h hn a)) (cons_add _ _ (by omega))) (cons_eq (bin_eq (lst_eq (cons_eq (nm_eq rfl) nil_eq)) (call_eq2 (nm_eq rfl) (nm_eq rfl) (jbelow_ok h hn b)) (cons_add _ _ (by omega))) nil_eq)) ⟨_, rfl, ?_⟩
  simp only [List.set_cons_zero, List.set_cons_succ]
  refine ret_ok (fn1_eq (lc_map0 (f := nD) (xs := a :: dwl n cs a) (p := fun k => decide (k ∈ b :: dwl n cs b)) (g := nD) (itSeq_of (nm_eq rfl) rfl) (fun k _ => t_eq (bin_eq (nm_eq rfl) (nm_eq rfl) (dIn_nL _ _))) (fun k _ _ => nm_eq rfl)) (dSorI_nL _)) (ends_rt0 ?_)
  rw [dw_sort h ha]
theorem any_len0 (p : Nat → Bool) (l : List Nat) : (!l.any p) = decide ((l.filter p).length = 0) := by
  rw [all_not_len, List.all_eq_not_any_not]
  congr 2
  funext x
  rw [Bool.not_not]
theorem least_ok (h : Ord n cs) (hn : n ≤ 60) (lot : List Nat) : fLeastOf [ordD n cs, nL lot] = .ok (nL (minL n cs lot)) [] := by
  refine run_v ?_
  show Ok (bLeastOf [some (ordD n cs), some (nL lot), none, none]) _
  unfold bLeastOf
  refine ret_ok (lc_map0 (f := nD) (xs := lot) (p := fun k => !lot.any fun j => decide (j ∈ dwl n cs k)) (g := nD) (itSeq_of (nm_eq rfl) rfl) (fun k hk => not_eq (t_eq (fn1_eq (lc_map0 (f := nD) (xs := lot) (p := fun _ => true) (g := fun j => .bool (decide (j ∈ dwl n cs k))) (itSeq_of (nm_eq rfl) rfl) (fun _ _ => rfl) (fun j _ _ => bin_eq (nm_eq rfl) (call_eq2 (nm_eq rfl) (nm_eq rfl) (jbelow_ok h hn k)) (dIn_nL _ _))) (by rw [filt_true]; exact dAny_map _ _)))) (fun k _ _ => nm_eq rfl)) (ends_rt0 ?_)
  unfold nL minL
  congr 3
  funext k
  rw [any_len0]
  congr 4
  funext j
  exact decide_eq_decide.mpr (by rw [mem_dwl h.rng, mem_upl' h.rng])
theorem greatest_ok (h : Ord n cs) (hn : n ≤ 60) (lot : List Nat) : fGreatestOf [ordD n cs, nL lot] = .ok (nL (maxL n cs lot)) [] := by
  refine run_v ?_
  show Ok (bGreatestOf [some (ordD n cs), some (nL lot), none, none]) _
  unfold bGreatestOf
  refine ret_ok (lc_map0 (f := nD) (xs := lot) (p := fun k => !lot.any fun j => decide (j ∈ upl n cs k)) (g := nD) (itSeq_of (nm_eq rfl) rfl) (fun k hk => not_eq (t_eq (fn1_eq (lc_map0 (f := nD) (xs := lot) (p := fun _ => true) (g := fun j => .bool (decide (j ∈ upl n cs k))) (itSeq_of (nm_eq rfl) rfl) (fun _ _ => rfl) (fun j _ _ => bin_eq (nm_eq rfl) (call_eq2 (nm_eq rfl) (nm_eq rfl) (jabove_ok h hn k)) (dIn_nL _ _))) (by rw [filt_true]; exact dAny_map _ _)))) (fun k _ _ => nm_eq rfl)) (ends_rt0 ?_)
  unfold nL maxL
  congr 3
  funext k
  rw [any_len0]
theorem join_ok (h : Ord n cs) (hn : n ≤ 60) {a b : Nat} (ha : a < n) : fJoin [ordD n cs, nD a, nD b] = .ok (oD (jn n cs a b)) [] := by
  refine run_v ?_
  show Ok (bJoin [some (ordD n cs), some (nD a), some (nD b), none]) _
  unfold bJoin
  refine seqset_ok (call_eq2 (nm_eq rfl) (call_eq3 (nm_eq rfl) (nm_eq rfl) (nm_eq rfl) (upper_ok h hn ha)) (least_ok h hn _)) ?_
  simp only [List.set_cons_zero, List.set_cons_succ]
  exact ret_ok (one_eq rfl) (ends_rt0 rfl)
theorem meet_ok (h : Ord n cs) (hn : n ≤ 60) {a b : Nat} (ha : a < n) : fMeet [ordD n cs, nD a, nD b] = .ok (oD (mt n cs a b)) [] := by
  refine run_v ?_
  show Ok (bMeet [some (ordD n cs), some (nD a), some (nD b), none]) _
  unfold bMeet
  refine seqset_ok (call_eq2 (nm_eq rfl) (call_eq3 (nm_eq rfl) (nm_eq rfl) (nm_eq rfl) (lower_ok h hn ha)) (greatest_ok h hn _)) ?_
  simp only [List.set_cons_zero, List.set_cons_succ]
  exact ret_ok (one_eq rfl) (ends_rt0 rfl)
theorem tabT (f : Nat → Nat → Option Nat) : dTuple [.list ((List.range n).map fun a => oT ((List.range n).map (f a)))] = some (tab n f) := by
  unfold tab
  rw [List.map_map]
  rfl
theorem joins_ok (h : Ord n cs) (hn : n ≤ 60) : fJoins [ordD n cs] = .ok (tab n (jn n cs)) [] := by
  refine run_v ?_
  show Ok (bJoins [some (ordD n cs), none, none]) _
  unfold bJoins
  refine ret_ok (fn1_eq (lc_map0 (f := nD) (xs := List.range n) (p := fun _ => true) (g := fun a => oT ((List.range n).map (jn n cs a))) (rg1_eq (n := n) (order_n rfl) (by omega)) (fun _ _ => rfl) (fun a ha _ => fn1_eq (lc_map0 (f := nD) (xs := List.range n) (p := fun _ => true) (g := fun b => oD (jn n cs a b)) (rg1_eq (n := n) (order_n rfl) (by omega)) (fun _ _ => rfl) (fun b hb _ => call_eq3 (nm_eq rfl) (nm_eq rfl) (nm_eq rfl) (join_ok h hn (List.mem_range.mp ha)))) (by rw [filt_true]; unfold oT; rw [List.map_map]; rfl))) (by rw [filt_true]; exact tabT _)) (ends_rt0 rfl)
theorem meets_ok (h : Ord n cs) (hn : n ≤ 60) : fMeets [ordD n cs] = .ok (tab n (mt n cs)) [] := by
  refine run_v ?_
  show Ok (bMeets [some (ordD n cs), none, none]) _
  unfold bMeets
  refine ret_ok (fn1_eq (lc_map0 (f := nD) (xs := List.range n) (p := fun _ => true) (g := fun a => oT ((List.range n).map (mt n cs a))) (rg1_eq (n := n) (order_n rfl) (by omega)) (fun _ _ => rfl) (fun a ha _ => fn1_eq (lc_map0 (f := nD) (xs := List.range n) (p := fun _ => true) (g := fun b => oD (mt n cs a b)) (rg1_eq (n := n) (order_n rfl) (by omega)) (fun _ _ => rfl) (fun b hb _ => call_eq3 (nm_eq rfl) (nm_eq rfl) (nm_eq rfl) (meet_ok h hn (List.mem_range.mp ha)))) (by rw [filt_true]; unfold oT; rw [List.map_map]; rfl))) (by rw [filt_true]; exact tabT _)) (ends_rt0 rfl)
/-! ### joins and meets are least and greatest bounds -/
theorem ex_min (h : Ord n cs) {lot : List Nat} {k : Nat} (hk : k ∈ lot) : ∃ x ∈ minL n cs lot, Le cs x k := by
  obtain ⟨r, hr⟩ := h.rk
  have go : ∀ m k, k ∈ lot → r k ≤ m → ∃ x ∈ minL n cs lot, Le cs x k := by
    intro m
    induction m with
    | zero =>
      intro k hk hm
      refine ⟨k, (mem_minL h.rng).mpr ⟨hk, fun j _ t => ?_⟩, .refl⟩
      have := t.rk hr
      omega
    | succ m ih =>
      intro k hk hm
      rcases Classical.em (∃ j ∈ lot, Tc cs j k) with ⟨j, hj, t⟩ | q
      · have := t.rk hr
        obtain ⟨x, hx, q⟩ := ih j hj (by omega)
        exact ⟨x, hx, q.trans (.inr t)⟩
      · exact ⟨k, (mem_minL h.rng).mpr ⟨hk, fun j hj t => q ⟨j, hj, t⟩⟩, .refl⟩
  exact go _ k hk (Nat.le_refl _)
theorem ex_max (h : Ord n cs) {lot : List Nat} {k : Nat} (hk : k ∈ lot) : ∃ x ∈ maxL n cs lot, Le cs k x := by
  obtain ⟨r, hr⟩ := h.rk
  have go : ∀ m k, k ∈ lot → n - r k ≤ m → ∃ x ∈ maxL n cs lot, Le cs k x := by
    intro m
    induction m with
    | zero =>
      intro k hk hm
      refine ⟨k, (mem_maxL h.rng).mpr ⟨hk, fun j _ t => ?_⟩, .refl⟩
      have := t.rk hr
      omega
    | succ m ih =>
      intro k hk hm
      rcases Classical.em (∃ j ∈ lot, Tc cs k j) with ⟨j, hj, t⟩ | q
      · have := t.rk hr
        obtain ⟨x, hx, q⟩ := ih j hj (by omega)
        exact ⟨x, hx, (Le.trans (.inr t) q)⟩
      · exact ⟨k, (mem_maxL h.rng).mpr ⟨hk, fun j hj t => q ⟨j, hj, t⟩⟩, .refl⟩
  exact go _ k hk (Nat.le_refl _)
theorem jn_spec (h : Ord n cs) {a b x : Nat} (e : jn n cs a b = some x) : x < n ∧ Le cs a x ∧ Le cs b x ∧ ∀ c, c < n → Le cs a c → Le cs b c → Le cs x c := by
  have e := oneOf_some.mp e
  have hx : x ∈ upp n cs a b := ((mem_minL h.rng).mp (by rw [e]; exact List.mem_singleton.mpr rfl)).1
  obtain ⟨h1, h2, h3⟩ := (mem_upp h.rng).mp hx
  refine ⟨h1, h2, h3, fun c hc ha hb => ?_⟩
  obtain ⟨y, hy, q⟩ := ex_min h ((mem_upp h.rng).mpr ⟨hc, ha, hb⟩)
  rw [e, List.mem_singleton] at hy
  exact hy ▸ q
theorem mt_spec (h : Ord n cs) {a b x : Nat} (e : mt n cs a b = some x) : x < n ∧ Le cs x a ∧ Le cs x b ∧ ∀ c, c < n → Le cs c a → Le cs c b → Le cs c x := by
  have e := oneOf_some.mp e
  have hx : x ∈ lww n cs a b := ((mem_maxL h.rng).mp (by rw [e]; exact List.mem_singleton.mpr rfl)).1
  obtain ⟨h1, h2, h3⟩ := (mem_lww h.rng).mp hx
  refine ⟨h1, h2, h3, fun c hc ha hb => ?_⟩
  obtain ⟨y, hy, q⟩ := ex_max h ((mem_lww h.rng).mpr ⟨hc, ha, hb⟩)
  rw [e, List.mem_singleton] at hy
  exact hy ▸ q
noncomputable def jN (n : Nat) (cs : Ps) (a b : Nat) : Nat := (jn n cs a b).getD 0
noncomputable def mN (n : Nat) (cs : Ps) (a b : Nat) : Nat := (mt n cs a b).getD 0
theorem IsLat.j (L : IsLat n cs) {a b : Nat} (ha : a < n) (hb : b < n) : jn n cs a b = some (jN n cs a b) := by
  have := (L a ha b hb).1
  unfold jN
  cases e : jn n cs a b with
  | none => exact absurd e this
  | some x => rfl
theorem IsLat.m (L : IsLat n cs) {a b : Nat} (ha : a < n) (hb : b < n) : mt n cs a b = some (mN n cs a b) := by
  have := (L a ha b hb).2
  unfold mN
  cases e : mt n cs a b with
  | none => exact absurd e this
  | some x => rfl
/-- the lattice of an order -/
noncomputable def ltt (h : Ord n cs) (L : IsLat n cs) : Ltt (Fin n) where
  le a b := Le cs a.1 b.1
  j a b := ⟨jN n cs a.1 b.1, (jn_spec h (L.j a.2 b.2)).1⟩
  m a b := ⟨mN n cs a.1 b.1, (mt_spec h (L.m a.2 b.2)).1⟩
  refl _ := .refl
  trans := .trans
  anti q k := Fin.ext (Le.anti h q k)
  jl a b := (jn_spec h (L.j a.2 b.2)).2.1
  jr a b := (jn_spec h (L.j a.2 b.2)).2.2.1
  lub {a b c} q k := (jn_spec h (L.j a.2 b.2)).2.2.2 c.1 c.2 q k
  ml a b := (mt_spec h (L.m a.2 b.2)).2.1
  mr a b := (mt_spec h (L.m a.2 b.2)).2.2.1
  glb {a b c} q k := (mt_spec h (L.m a.2 b.2)).2.2.2 c.1 c.2 q k
end
end J

set_option Elab.async false
set_option linter.all false
set_option maxRecDepth 100000
/-! JRelP: all pairs of a relation; sublists. -/
namespace J
open PySem (PyData)
/-- pairs of places, row by row -/
def relK (n : Nat) (p : Nat → Nat → Bool) (k : Nat) : Ps := (List.range k).flatMap fun a => ((List.range n).filter (p a)).map fun b => (a, b)
theorem relK_succ {n : Nat} {p : Nat → Nat → Bool} {k : Nat} : relK n p (k + 1) = relK n p k ++ ((List.range n).filter (p k)).map fun b => (k, b) := by
  unfold relK
  rw [List.range_succ, List.flatMap_append]
  simp
theorem relK_len {n : Nat} {p : Nat → Nat → Bool} {k : Nat} : (relK n p k).length ≤ k * n := by
  have := flat_len (fun a => ((List.range n).filter (p a)).map fun b => (a, b)) n (List.range k) fun x _ => by
    rw [List.length_map]
    have := List.length_filter_le (p x) (List.range n)
    rwa [List.length_range] at this
  rwa [List.length_range] at this
theorem mem_relK {n : Nat} {p : Nat → Nat → Bool} {k : Nat} {q : Nat × Nat} : q ∈ relK n p k ↔ q.1 < k ∧ q.2 < n ∧ p q.1 q.2 = true := by
  unfold relK
  rw [List.mem_flatMap]
  constructor
  · rintro ⟨a, ha, h⟩
    obtain ⟨b, hb, rfl⟩ := List.mem_map.mp h
    rw [List.mem_filter, List.mem_range] at hb
    exact ⟨List.mem_range.mp ha, hb⟩
  · rintro ⟨h1, h2, h3⟩
    exact ⟨q.1, List.mem_range.mpr h1, List.mem_map.mpr ⟨q.2, List.mem_filter.mpr ⟨List.mem_range.mpr h2, h3⟩, rfl⟩⟩
theorem relK_nd {n : Nat} {p : Nat → Nat → Bool} {k : Nat} : (relK n p k).Nodup := by
  induction k with
  | zero => exact List.nodup_nil
  | succ k ih =>
    rw [relK_succ, List.nodup_append]
    refine ⟨ih, ?_, fun x hx y hy e => ?_⟩
    · rw [List.Nodup, List.pairwise_map]
      exact (List.Pairwise.filter _ (List.nodup_range (n := n))).imp fun h e => h (congrArg Prod.snd e)
    · subst e
      obtain ⟨b, _, rfl⟩ := List.mem_map.mp hy
      exact absurd (mem_relK.mp hx).1 (Nat.lt_irrefl _)
theorem rel_pr {n : Nat} {p : Nat → Nat → Bool} {s : Nat → Nat} (h : ∀ a b, a < n → b < n → p a b = true → s a < s b) : PrOk n (relK n p n) :=
  span_pr (s := s) relK_nd fun q hq => by
    obtain ⟨h1, h2, h3⟩ := mem_relK.mp hq
    exact ⟨h1, h2, h _ _ h1 h2 h3⟩
/-- a step of the loop that writes them -/
theorem rel_add {n : Nat} {p : Nat → Nat → Bool} {k : Nat} (hk : k ≤ n) (hn : n ≤ 100) : dAdd (.list ((relK n p k).map pD)) (.list (((List.range n).filter (p k)).map fun b => pD (k, b))) = some (.list ((relK n p (k + 1)).map pD)) := by
  have e : (((List.range n).filter (p k)).map fun b => pD (k, b)) = (((List.range n).filter (p k)).map fun b => (k, b)).map pD := by rw [List.map_map]; rfl
  have l1 := relK_len (n := n) (p := p) (k := k)
  have l2 : k * n ≤ 100 * 100 := Nat.mul_le_mul (by omega) hn
  have l3 := List.length_filter_le (p k) (List.range n)
  rw [List.length_range] at l3
  rw [e, dAdd_mapL _ (by rw [show line = 16777216 from rfl, List.length_map]; omega), relK_succ]
/-- the law's order of them -/
theorem relord_ok {n : Nat} {p : Nat → Nat → Bool} {s : Nat → Nat} (h : ∀ a b, a < n → b < n → p a b = true → s a < s b) (hn : n ≤ 60) : fLOrderOf [nD n, .list ((relK n p n).map pD)] = .ok (ordD n (covL n (relK n p n))) [] ∧ Ord n (covL n (relK n p n)) := by
  obtain ⟨nd, ir, r, hr⟩ := rel_pr h
  exact ⟨lorderof_ok (d := .list ((relK n p n).map pD)) rfl ir hr nd hn, covL_ord ir hr⟩
theorem eqv_pD (a b : Nat × Nat) : PyData.eqv (pD a) (pD b) = decide (a = b) := by
  obtain ⟨a1, a2⟩ := a
  obtain ⟨b1, b2⟩ := b
  show PyData.eqv (.tuple ([a1, a2].map nD)) (.tuple ([b1, b2].map nD)) = _
  rw [eqv_tt, eqvAll_map eqv_nD]
  exact decide_eq_decide.mpr (by simp)
theorem sm_pD (a : Nat × Nat) : Sm 1 (pD a) := sm_tup fun x hx => by
  rcases List.mem_cons.mp hx with rfl | hx
  · exact sm_nD
  · rcases List.mem_cons.mp hx with rfl | hx
    · exact sm_nD
    · cases hx
/-! ### all sublists -/
def subs : List Nat → List (List Nat)
  | [] => [[]]
  | x :: xs => subs xs ++ (subs xs).map (x :: ·)
theorem subs_len : ∀ xs : List Nat, (subs xs).length = 2 ^ xs.length
  | [] => rfl
  | x :: xs => by
    show (subs xs ++ (subs xs).map (x :: ·)).length = _
    rw [List.length_append, List.length_map, subs_len xs, List.length_cons, Nat.pow_succ]
    omega
theorem mem_subs {l xs : List Nat} (h : l.Sublist xs) : l ∈ subs xs := by
  induction h with
  | slnil => exact List.mem_singleton.mpr rfl
  | cons a _ ih => exact List.mem_append.mpr (.inl ih)
  | cons_cons a _ ih => exact List.mem_append.mpr (.inr (List.mem_map.mpr ⟨_, ih, rfl⟩))
/-- different lots of few things -/
structure Lots (m : Nat) (lots : List (List Nat)) : Prop where
  nd : lots.Nodup
  sub : ∀ l ∈ lots, l.Sublist (List.range m)
theorem Lots.len {m : Nat} {lots : List (List Nat)} (h : Lots m lots) : lots.length ≤ 2 ^ m := by
  have := nodup_sub h.nd fun l hl => mem_subs (h.sub l hl)
  rwa [subs_len, List.length_range] at this
theorem Lots.add {m : Nat} {lots : List (List Nat)} {l : List Nat} (h : Lots m lots) (hl : l.Sublist (List.range m)) (hn : l ∉ lots) : Lots m (lots ++ [l]) := by
  refine ⟨?_, fun x hx => ?_⟩
  · rw [List.nodup_append]
    refine ⟨h.nd, by simp, fun x hx y hy e => ?_⟩
    rw [List.mem_singleton.mp hy] at e
    exact hn (e ▸ hx)
  · rcases List.mem_append.mp hx with hx | hx
    · exact h.sub x hx
    · rw [List.mem_singleton.mp hx]
      exact hl
theorem sub_len {a b : List Nat} (ha : a.Pairwise (· < ·)) (hb : b.Pairwise (· < ·)) (h : ∀ x ∈ a, x ∈ b) (ne : a ≠ b) : a.length < b.length := by
  have nda : a.Nodup := ha.imp fun h => Nat.ne_of_lt h
  have h1 := nodup_sub nda h
  refine Nat.lt_of_le_of_ne h1 fun e => ne (asc_ext ha hb fun x => ⟨h x, fun hx => ?_⟩)
  refine Classical.byContradiction fun q => ?_
  have := nodup_sub (s := x :: a) (t := b) (List.nodup_cons.mpr ⟨q, nda⟩) fun y hy => by
    rcases List.mem_cons.mp hy with rfl | hy
    · exact hx
    · exact h y hy
  rw [List.length_cons] at this
  omega
/-- within -/
def lotB (lots : List (List Nat)) (k j : Nat) : Bool := !decide (j = k) && decide (((lots.getD k []).filter fun x => !decide (x ∈ lots.getD j [])).length = 0)
theorem lot_at {m : Nat} {lots : List (List Nat)} (h : Lots m lots) {k : Nat} (hk : k < lots.length) : (lots.getD k []).Sublist (List.range m) := by
  rw [List.getD_eq_getElem?_getD, List.getElem?_eq_getElem hk]
  exact h.sub _ (List.getElem_mem _)
theorem lotB_lt {m : Nat} {lots : List (List Nat)} (h : Lots m lots) : ∀ a b, a < lots.length → b < lots.length → lotB lots a b = true → (lots.getD a []).length < (lots.getD b []).length := by
  intro a b ha hb q
  unfold lotB at q
  rw [Bool.and_eq_true, Bool.not_eq_true', decide_eq_false_iff_not, all_not_len, List.all_eq_true] at q
  refine sub_len (List.Pairwise.sublist (lot_at h ha) List.pairwise_lt_range) (List.Pairwise.sublist (lot_at h hb) List.pairwise_lt_range) (fun x hx => ?_) (fun e => ?_)
  · have := q.2 x hx
    rw [Bool.not_not, decide_eq_true_eq] at this
    exact this
  · rw [List.getD_eq_getElem?_getD, List.getD_eq_getElem?_getD, List.getElem?_eq_getElem ha, List.getElem?_eq_getElem hb] at e
    have nd := List.pairwise_iff_getElem.mp h.nd
    rcases Nat.lt_trichotomy a b with c | c | c
    · exact nd a b ha hb c e
    · exact q.1 c.symm
    · exact nd b a hb ha c e.symm
end J

set_option Elab.async false
set_option linter.all false
set_option maxRecDepth 100000
/-! the texts of the law, over plain data -/
namespace K51
open J

/-- _law_state(script): names 0 script 1 cells 2 cell -/
noncomputable def b__law_state : SS := (sSeq (sSet 1 (sLc (.nm 2) (itSeq ((sSl (sV 0) sNoPart (sPart (sC (.int 63)))))) sYes (lcE ((sFn dAbs (sCons (sV 2) sNil)))) [2])) (sSeq (sIf (sT (sBin dEq ((sFn dLen (sCons (sV 1) sNil))) (sC (.int 0)))) (sSet 1 ((sLst (sCons (sC (.int 0)) sNil)))) sPass) (sRet ((sLst (sCons (sC (.int 0)) (sCons (sMv 1) sNil)))))))
noncomputable def f__law_state : Fn := runD 3 [] b__law_state
def f__law_take : Fn := fTake
/-- _law_up(many, pairs): names 0 many 1 pairs 2 up 3 turn 4 k 5 j 6 row 7 one 8 other -/
noncomputable def b__law_up : SS := (sSeq (sSet 2 ((sLc (.nm 4) (itRg1 (sV 0)) sYes (lcE ((sLc (.tp [7, 8]) (itSeq (sV 1)) (sT (sBin dEq (sV 7) (sV 4))) (lcE (sV 8)) [7, 8]))) [4]))) (sSeq (sFor (.nm 3) (itRg1 (sV 0)) (sFor (.nm 4) (itRg1 (sV 0)) (sFor (.nm 5) (itSeq ((sFn dList (sCons ((sBin dIx (sV 2) (sV 4))) sNil)))) (sSub 2 (sV 4) ((sBin dAdd ((sBin dIx (sV 2) (sV 4))) ((sLc (.nm 7) (itSeq ((sBin dIx (sV 2) (sV 5)))) (sT (sBin dNin (sV 7) ((sBin dIx (sV 2) (sV 4))))) (lcE (sV 7)) [7]))))) [5]) [4, 5]) [3, 4, 5]) (sRet ((sLc (.nm 6) (itSeq (sV 2)) sYes (lcE ((sFn dSorI (sCons (sV 6) sNil)))) [6])))))
noncomputable def f__law_up : Fn := runD 9 [] b__law_up
/-- _law_order_of(many, pairs): names 0 many 1 pairs 2 up 3 covers 4 k 5 j 6 one -/
noncomputable def b__law_order_of : SS := (sSeq (sSet 2 ((sCall f__law_up [.e (sV 0), .e (sV 1)]))) (sSeq (sSet 3 ((sLst sNil))) (sSeq (sFor (.nm 4) (itRg1 (sV 0)) (sSet 3 ((sBin dAdd (sV 3) ((sLc (.nm 5) (itSeq ((sBin dIx (sV 2) (sV 4)))) (sT (sBin dEq ((sFn dLen (sCons ((sLc (.nm 6) (itSeq ((sBin dIx (sV 2) (sV 4)))) (sT (sBin dIn (sV 5) ((sBin dIx (sV 2) (sV 6))))) (lcE (sV 6)) [6])) sNil))) (sC (.int 0)))) (lcE ((sTup (sCons (sV 4) (sCons (sV 5) sNil))))) [5]))))) [4]) (sRet ((sTup (sCons (sC (.str "order")) (sCons (sV 0) (sCons ((sFn dTuple (sCons (sV 3) sNil))) sNil)))))))))
noncomputable def f__law_order_of : Fn := runD 7 [] b__law_order_of
/-- _law_family(state): names 0 state 1 many 2 lots 3 turn 4 lot 5 other 6 both 7 one 8 pairs 9 k 10 j -/
noncomputable def b__law_family : SS := (sSeq (sSet 1 ((sBin dAdd (sC (.int 2)) ((sCall f__law_take [.io 0, .e (sC (.int 3))]))))) (sSeq (sSet 2 ((sLst (sCons ((sUn dTupleRg1 (sV 1))) sNil)))) (sSeq (sFor (.nm 3) (itRg1 ((sBin dAdd (sC (.int 1)) ((sCall f__law_take [.io 0, .e (sC (.int 5))]))))) (sSeq (sSet 4 ((sFn dTuple (sCons ((sLc (.nm 9) (itRg1 (sV 1)) (sT (sBin dEq ((sCall f__law_take [.io 0, .e (sC (.int 2))])) (sC (.int 0)))) (lcE (sV 9)) [9])) sNil)))) (sFor (.nm 5) (itSeq ((sFn dList (sCons (sV 2) sNil)))) (sSeq (sSet 6 ((sFn dTuple (sCons ((sLc (.nm 9) (itSeq (sV 4)) (sT (sBin dIn (sV 9) (sV 5))) (lcE (sV 9)) [9])) sNil)))) (sIf (sAnd (sT (sBin dNin (sV 6) (sV 2))) (sT (sBin dLt ((sFn dLen (sCons (sV 2) sNil))) (sC (.int 14))))) (sX ((sMet mApp 2 (sCons (sV 6) sNil)))) sPass)) [5, 6])) [3, 4, 5, 6]) (sSeq (sFor (.nm 3) (itRg1 (sC (.int 3))) (sFor (.nm 7) (itSeq ((sFn dList (sCons (sV 2) sNil)))) (sFor (.nm 5) (itSeq ((sFn dList (sCons (sV 2) sNil)))) (sSeq (sSet 6 ((sFn dTuple (sCons ((sLc (.nm 9) (itSeq (sV 7)) (sT (sBin dIn (sV 9) (sV 5))) (lcE (sV 9)) [9])) sNil)))) (sIf (sT (sBin dNin (sV 6) (sV 2))) (sX ((sMet mApp 2 (sCons (sV 6) sNil)))) sPass)) [5, 6]) [7, 5, 6]) [3, 7, 5, 6]) (sSeq (sSet 8 ((sLst sNil))) (sSeq (sFor (.nm 9) (itRg1 ((sFn dLen (sCons (sV 2) sNil)))) (sSet 8 ((sBin dAdd (sV 8) ((sLc (.nm 10) (itRg1 ((sFn dLen (sCons (sV 2) sNil)))) (sAnd (sT (sBin dNe (sV 10) (sV 9))) (sT (sBin dEq ((sFn dLen (sCons ((sLc (.nm 7) (itSeq ((sBin dIx (sV 2) (sV 9)))) (sT (sBin dNin (sV 7) ((sBin dIx (sV 2) (sV 10))))) (lcE (sV 7)) [7])) sNil))) (sC (.int 0))))) (lcE ((sTup (sCons (sV 9) (sCons (sV 10) sNil))))) [10]))))) [9]) (sRet ((sCall f__law_order_of [.e ((sFn dLen (sCons (sV 2) sNil))), .e (sV 8)])))))))))
noncomputable def f__law_family : Fn := runD 11 [0] b__law_family
/-- _law_world(state): names 0 state 1 kind 2 first 3 second 4 cells 5 a 6 pairs 7 k 8 cell 9 b 10 j -/
noncomputable def b__law_world : SS := (sSeq (sSet 1 ((sCall f__law_take [.io 0, .e (sC (.int 4))]))) (sSeq (sIf (sT (sBin dEq (sV 1) (sC (.int 0)))) (sRet ((sCall f__law_family [.io 0]))) sPass) (sSeq (sIf (sT (sBin dEq (sV 1) (sC (.int 1)))) (sRet ((sCall f__law_order_of [.e (sC (.int 5)), .e ((sIfE (sT (sBin dEq ((sCall f__law_take [.io 0, .e (sC (.int 2))])) (sC (.int 0)))) ((sLst (sCons ((sTup (sCons (sC (.int 0)) (sCons (sC (.int 1)) sNil)))) (sCons ((sTup (sCons (sC (.int 1)) (sCons (sC (.int 2)) sNil)))) (sCons ((sTup (sCons (sC (.int 2)) (sCons (sC (.int 4)) sNil)))) (sCons ((sTup (sCons (sC (.int 0)) (sCons (sC (.int 3)) sNil)))) (sCons ((sTup (sCons (sC (.int 3)) (sCons (sC (.int 4)) sNil)))) sNil))))))) ((sLst (sCons ((sTup (sCons (sC (.int 0)) (sCons (sC (.int 1)) sNil)))) (sCons ((sTup (sCons (sC (.int 0)) (sCons (sC (.int 2)) sNil)))) (sCons ((sTup (sCons (sC (.int 0)) (sCons (sC (.int 3)) sNil)))) (sCons ((sTup (sCons (sC (.int 1)) (sCons (sC (.int 4)) sNil)))) (sCons ((sTup (sCons (sC (.int 2)) (sCons (sC (.int 4)) sNil)))) (sCons ((sTup (sCons (sC (.int 3)) (sCons (sC (.int 4)) sNil)))) sNil))))))))))]))) sPass) (sSeq (sParN [2, 3] (sCons ((sBin dAdd (sC (.int 2)) ((sCall f__law_take [.io 0, .e (sC (.int 3))])))) (sCons ((sBin dAdd (sC (.int 1)) ((sCall f__law_take [.io 0, .e (sC (.int 3))])))) sNil))) (sSeq (sSet 4 ((sLst sNil))) (sSeq (sFor (.nm 5) (itRg1 (sV 2)) (sSet 4 ((sBin dAdd (sV 4) ((sLc (.nm 9) (itRg1 (sV 3)) sYes (lcE ((sTup (sCons (sV 5) (sCons (sV 9) sNil))))) [9]))))) [5]) (sSeq (sIf (sT (sBin dEq (sV 1) (sC (.int 2)))) (sSet 4 ((sLc (.nm 8) (itSeq (sV 4)) (sOr (sT (sBin dIn (sV 8) ((sLst (sCons ((sTup (sCons (sC (.int 0)) (sCons (sC (.int 0)) sNil)))) (sCons ((sTup (sCons ((sBin dSub (sV 2) (sC (.int 1)))) (sCons ((sBin dSub (sV 3) (sC (.int 1)))) sNil)))) sNil)))))) (sT (sBin dGt ((sCall f__law_take [.io 0, .e (sC (.int 4))])) (sC (.int 0))))) (lcE (sV 8)) [8]))) sPass) (sSeq (sSet 6 ((sLst sNil))) (sSeq (sFor (.nm 7) (itRg1 ((sFn dLen (sCons (sV 4) sNil)))) (sSet 6 ((sBin dAdd (sV 6) ((sLc (.nm 10) (itRg1 ((sFn dLen (sCons (sV 4) sNil)))) (sAnd (sT (sBin dNe (sV 10) (sV 7))) (sAnd (sT (sBin dLe ((sBin dIx ((sBin dIx (sV 4) (sV 7))) (sC (.int 0)))) ((sBin dIx ((sBin dIx (sV 4) (sV 10))) (sC (.int 0)))))) (sT (sBin dLe ((sBin dIx ((sBin dIx (sV 4) (sV 7))) (sC (.int 1)))) ((sBin dIx ((sBin dIx (sV 4) (sV 10))) (sC (.int 1)))))))) (lcE ((sTup (sCons (sV 7) (sCons (sV 10) sNil))))) [10]))))) [7]) (sRet ((sCall f__law_order_of [.e ((sFn dLen (sCons (sV 4) sNil))), .e (sV 6)]))))))))))))
noncomputable def f__law_world : Fn := runD 11 [0] b__law_world
/-- _law_ups(order): names 0 order -/
noncomputable def b__law_ups : SS := (sRet ((sCall f__law_up [.e ((sBin dIx (sV 0) (sC (.int 1)))), .e ((sBin dIx (sV 0) (sC (.int 2))))])))
noncomputable def f__law_ups : Fn := runD 1 [] b__law_ups
/-- _law_low(up, lot): names 0 up 1 lot 2 k 3 j -/
noncomputable def b__law_low : SS := (sRet ((sLc (.nm 2) (itSeq (sV 1)) (sT (sBin dEq ((sFn dLen (sCons ((sLc (.nm 3) (itSeq (sV 1)) (sT (sBin dIn (sV 2) ((sBin dIx (sV 0) (sV 3))))) (lcE (sV 3)) [3])) sNil))) (sC (.int 0)))) (lcE (sV 2)) [2])))
noncomputable def f__law_low : Fn := runD 4 [] b__law_low
/-- _law_high(up, lot): names 0 up 1 lot 2 k 3 j -/
noncomputable def b__law_high : SS := (sRet ((sLc (.nm 2) (itSeq (sV 1)) (sT (sBin dEq ((sFn dLen (sCons ((sLc (.nm 3) (itSeq (sV 1)) (sT (sBin dIn (sV 3) ((sBin dIx (sV 0) (sV 2))))) (lcE (sV 3)) [3])) sNil))) (sC (.int 0)))) (lcE (sV 2)) [2])))
noncomputable def f__law_high : Fn := runD 4 [] b__law_high
/-- _law_tables(order): names 0 order 1 up 2 many 3 joins_v 4 meets_v 5 a 6 high 7 low 8 b 9 over 10 under 11 first 12 last 13 k -/
noncomputable def b__law_tables : SS := (sSeq (sParN [1, 2] (sCons ((sCall f__law_ups [.e (sV 0)])) (sCons ((sUn dListRg1 ((sBin dIx (sV 0) (sC (.int 1)))))) sNil))) (sSeq (sParN [3, 4] (sCons ((sLst sNil)) (sCons ((sLst sNil)) sNil))) (sSeq (sFor (.nm 5) (itSeq (sV 2)) (sSeq (sParN [6, 7] (sCons ((sLst sNil)) (sCons ((sLst sNil)) sNil))) (sSeq (sFor (.nm 8) (itSeq (sV 2)) (sSeq (sSet 9 (sLc (.nm 13) (itSeq (sV 2)) (sAnd (sOr (sT (sBin dEq (sV 13) (sV 5))) (sT (sBin dIn (sV 13) ((sBin dIx (sV 1) (sV 5)))))) (sOr (sT (sBin dEq (sV 13) (sV 8))) (sT (sBin dIn (sV 13) ((sBin dIx (sV 1) (sV 8))))))) (lcE (sV 13)) [13])) (sSeq (sSet 10 (sLc (.nm 13) (itSeq (sV 2)) (sAnd (sOr (sT (sBin dEq (sV 13) (sV 5))) (sT (sBin dIn (sV 5) ((sBin dIx (sV 1) (sV 13)))))) (sOr (sT (sBin dEq (sV 13) (sV 8))) (sT (sBin dIn (sV 8) ((sBin dIx (sV 1) (sV 13))))))) (lcE (sV 13)) [13])) (sSeq (sParN [11, 12] (sCons ((sCall f__law_low [.e (sV 1), .e (sV 9)])) (sCons ((sCall f__law_high [.e (sV 1), .e (sV 10)])) sNil))) (sSeq (sX ((sMet mApp 6 (sCons ((sIfE (sT (sBin dEq ((sFn dLen (sCons (sV 11) sNil))) (sC (.int 1)))) ((sBin dIx (sV 11) (sC (.int 0)))) (sC .none))) sNil)))) (sX ((sMet mApp 7 (sCons ((sIfE (sT (sBin dEq ((sFn dLen (sCons (sV 12) sNil))) (sC (.int 1)))) ((sBin dIx (sV 12) (sC (.int 0)))) (sC .none))) sNil)))))))) [8, 9, 10, 11, 12]) (sSeq (sX ((sMet mApp 3 (sCons ((sFn dTuple (sCons (sV 6) sNil))) sNil)))) (sX ((sMet mApp 4 (sCons ((sFn dTuple (sCons (sV 7) sNil))) sNil))))))) [5, 6, 7, 8, 9, 10, 11, 12]) (sRet ((sTup (sCons ((sFn dTuple (sCons (sV 3) sNil))) (sCons ((sFn dTuple (sCons (sV 4) sNil))) sNil))))))))
noncomputable def f__law_tables : Fn := runD 14 [] b__law_tables
/-- _law_kinds(order): names 0 order 1 joins_v 2 meets_v 3 up 4 many 5 good 6 even 7 a 8 b 9 c -/
noncomputable def b__law_kinds : SS := (sSeq (sAsg (.tp [1, 2]) ((sCall f__law_tables [.e (sV 0)]))) (sSeq (sParN [3, 4] (sCons ((sCall f__law_ups [.e (sV 0)])) (sCons ((sUn dListRg1 ((sBin dIx (sV 0) (sC (.int 1)))))) sNil))) (sSeq (sAsg (.tp [5, 6]) ((sTup (sCons (sC (.bool true)) (sCons (sC (.bool true)) sNil))))) (sSeq (sFor (.nm 7) (itSeq (sV 4)) (sFor (.nm 8) (itSeq (sV 4)) (sFor (.nm 9) (itSeq (sV 4)) (sSeq (sSet 5 ((sOfB (sAnd (sT (sV 5)) (sT ((sBin dEq ((sBin dIx ((sBin dIx (sV 2) (sV 7))) ((sBin dIx ((sBin dIx (sV 1) (sV 8))) (sV 9))))) ((sBin dIx ((sBin dIx (sV 1) ((sBin dIx ((sBin dIx (sV 2) (sV 7))) (sV 8))))) ((sBin dIx ((sBin dIx (sV 2) (sV 7))) (sV 9)))))))))))) (sIf (sT (sBin dIn (sV 9) ((sBin dIx (sV 3) (sV 7))))) (sSet 6 ((sOfB (sAnd (sT (sV 6)) (sT ((sBin dEq ((sBin dIx ((sBin dIx (sV 1) (sV 7))) ((sBin dIx ((sBin dIx (sV 2) (sV 8))) (sV 9))))) ((sBin dIx ((sBin dIx (sV 2) ((sBin dIx ((sBin dIx (sV 1) (sV 7))) (sV 8))))) (sV 9)))))))))) sPass)) [9]) [8, 9]) [7, 8, 9]) (sRet ((sTup (sCons (sV 5) (sCons (sV 6) sNil)))))))))
noncomputable def f__law_kinds : Fn := runD 10 [] b__law_kinds
/-- _law_is_lattice(order): names 0 order 1 joins_v 2 meets_v 3 row -/
noncomputable def b__law_is_lattice : SS := (sSeq (sAsg (.tp [1, 2]) ((sCall f__law_tables [.e (sV 0)]))) (sRet ((sBin dEq ((sFn dLen (sCons ((sLc (.nm 3) (itSeq ((sBin dAdd (sV 1) (sV 2)))) (sT (sBin dIn (sC .none) (sV 3))) (lcE (sV 3)) [3])) sNil))) (sC (.int 0))))))
noncomputable def f__law_is_lattice : Fn := runD 4 [] b__law_is_lattice
/-- goals(pairs, one): names 0 pairs 1 one 2 first 3 other -/
noncomputable def b_goals : SS := (sRet ((sLc (.tp [2, 3]) (itSeq (sV 0)) (sT (sBin dEq (sV 2) (sV 1))) (lcE (sV 3)) [2, 3])))
noncomputable def f_goals : Fn := runD 4 [] b_goals
/-- reached(pairs, one): names 0 pairs 1 one 2 found 3 waiting 4 now -/
noncomputable def b_reached : SS := (sSeq (sSet 2 ((sLst sNil))) (sSeq (sSet 3 ((sCall f_goals [.e (sV 0), .e (sV 1)]))) (sSeq (sWhile (sT (sBin dNe (sV 3) ((sLst sNil)))) (sSeq (sSet 4 ((sMet mPop 3 sNil))) (sIf (sT (sBin dNin (sV 4) (sV 2))) (sSeq (sX ((sMet mApp 2 (sCons (sV 4) sNil)))) (sX ((sMet mExt 3 (sCons ((sCall f_goals [.e (sV 0), .e (sV 4)])) sNil))))) sPass)) [4]) (sRet ((sFn dSorI (sCons (sV 2) sNil)))))))
noncomputable def f_reached : Fn := runD 5 [] b_reached
/-- below(order, one): names 0 order 1 one 2 pair -/
noncomputable def b_below : SS := (sRet ((sCall f_reached [.e ((sLc (.nm 2) (itSeq ((sBin dIx (sV 0) (sC (.int 2))))) sYes (lcE ((sUn dRev (sV 2)))) [2])), .e (sV 1)])))
noncomputable def f_below : Fn := runD 3 [] b_below
/-- least_of(order, lot): names 0 order 1 lot 2 one 3 other -/
noncomputable def b_least_of : SS := (sRet ((sLc (.nm 2) (itSeq (sV 1)) (sNot (sT ((sFn dAny (sCons ((sLc (.nm 3) (itSeq (sV 1)) sYes (lcE ((sBin dIn (sV 3) ((sCall f_below [.e (sV 0), .e (sV 2)]))))) [3])) sNil))))) (lcE (sV 2)) [2])))
noncomputable def f_least_of : Fn := runD 4 [] b_least_of
/-- above(order, one): names 0 order 1 one -/
noncomputable def b_above : SS := (sRet ((sCall f_reached [.e ((sBin dIx (sV 0) (sC (.int 2)))), .e (sV 1)])))
noncomputable def f_above : Fn := runD 2 [] b_above
/-- upper(order, one, other): names 0 order 1 one 2 other 3 first 4 second 5 k -/
noncomputable def b_upper : SS := (sSeq (sParN [3, 4] (sCons ((sBin dAdd ((sLst (sCons (sV 1) sNil))) ((sCall f_above [.e (sV 0), .e (sV 1)])))) (sCons ((sBin dAdd ((sLst (sCons (sV 2) sNil))) ((sCall f_above [.e (sV 0), .e (sV 2)])))) sNil))) (sRet ((sFn dSorI (sCons ((sLc (.nm 5) (itSeq (sV 3)) (sT (sBin dIn (sV 5) (sV 4))) (lcE (sV 5)) [5])) sNil)))))
noncomputable def f_upper : Fn := runD 6 [] b_upper
/-- join(order, one, other): names 0 order 1 one 2 other 3 told -/
noncomputable def b_join : SS := (sSeq (sSet 3 ((sCall f_least_of [.e (sV 0), .e ((sCall f_upper [.e (sV 0), .e (sV 1), .e (sV 2)]))]))) (sRet ((sIfE (sT (sBin dEq ((sFn dLen (sCons (sV 3) sNil))) (sC (.int 1)))) ((sBin dIx (sV 3) (sC (.int 0)))) (sC .none)))))
noncomputable def f_join : Fn := runD 4 [] b_join
/-- joins(order): names 0 order 1 one 2 other -/
noncomputable def b_joins : SS := (sRet ((sFn dTuple (sCons ((sLc (.nm 1) (itRg1 ((sBin dIx (sV 0) (sC (.int 1))))) sYes (lcE ((sFn dTuple (sCons ((sLc (.nm 2) (itRg1 ((sBin dIx (sV 0) (sC (.int 1))))) sYes (lcE ((sCall f_join [.e (sV 0), .e (sV 1), .e (sV 2)]))) [2])) sNil)))) [1])) sNil))))
noncomputable def f_joins : Fn := runD 3 [] b_joins
/-- greatest_of(order, lot): names 0 order 1 lot 2 one 3 other -/
noncomputable def b_greatest_of : SS := (sRet ((sLc (.nm 2) (itSeq (sV 1)) (sNot (sT ((sFn dAny (sCons ((sLc (.nm 3) (itSeq (sV 1)) sYes (lcE ((sBin dIn (sV 3) ((sCall f_above [.e (sV 0), .e (sV 2)]))))) [3])) sNil))))) (lcE (sV 2)) [2])))
noncomputable def f_greatest_of : Fn := runD 4 [] b_greatest_of
/-- lower(order, one, other): names 0 order 1 one 2 other 3 first 4 second 5 k -/
noncomputable def b_lower : SS := (sSeq (sParN [3, 4] (sCons ((sBin dAdd ((sLst (sCons (sV 1) sNil))) ((sCall f_below [.e (sV 0), .e (sV 1)])))) (sCons ((sBin dAdd ((sLst (sCons (sV 2) sNil))) ((sCall f_below [.e (sV 0), .e (sV 2)])))) sNil))) (sRet ((sFn dSorI (sCons ((sLc (.nm 5) (itSeq (sV 3)) (sT (sBin dIn (sV 5) (sV 4))) (lcE (sV 5)) [5])) sNil)))))
noncomputable def f_lower : Fn := runD 6 [] b_lower
/-- meet(order, one, other): names 0 order 1 one 2 other 3 told -/
noncomputable def b_meet : SS := (sSeq (sSet 3 ((sCall f_greatest_of [.e (sV 0), .e ((sCall f_lower [.e (sV 0), .e (sV 1), .e (sV 2)]))]))) (sRet ((sIfE (sT (sBin dEq ((sFn dLen (sCons (sV 3) sNil))) (sC (.int 1)))) ((sBin dIx (sV 3) (sC (.int 0)))) (sC .none)))))
noncomputable def f_meet : Fn := runD 4 [] b_meet
/-- meets(order): names 0 order 1 one 2 other -/
noncomputable def b_meets : SS := (sRet ((sFn dTuple (sCons ((sLc (.nm 1) (itRg1 ((sBin dIx (sV 0) (sC (.int 1))))) sYes (lcE ((sFn dTuple (sCons ((sLc (.nm 2) (itRg1 ((sBin dIx (sV 0) (sC (.int 1))))) sYes (lcE ((sCall f_meet [.e (sV 0), .e (sV 1), .e (sV 2)]))) [2])) sNil)))) [1])) sNil))))
noncomputable def f_meets : Fn := runD 3 [] b_meets
/-- ups(order): names 0 order 1 one -/
noncomputable def b_ups : SS := (sRet ((sLc (.nm 1) (itRg1 ((sBin dIx (sV 0) (sC (.int 1))))) sYes (lcE ((sCall f_above [.e (sV 0), .e (sV 1)]))) [1])))
noncomputable def f_ups : Fn := runD 2 [] b_ups
/-- pentagon(order, up, down): names 0 order 1 up 2 down 3 over 4 a 5 b 6 c -/
noncomputable def b_pentagon : SS := (sSeq (sSet 3 ((sCall f_ups [.e (sV 0)]))) (sSeq (sFor (.nm 4) (itRg1 ((sBin dIx (sV 0) (sC (.int 1))))) (sFor (.nm 5) (itSeq ((sBin dIx (sV 3) (sV 4)))) (sFor (.nm 6) (itRg1 ((sBin dIx (sV 0) (sC (.int 1))))) (sIf (sAnd (sT (sBin dEq ((sBin dIx ((sBin dIx (sV 1) (sV 4))) (sV 6))) ((sBin dIx ((sBin dIx (sV 1) (sV 5))) (sV 6))))) (sAnd (sT (sBin dEq ((sBin dIx ((sBin dIx (sV 2) (sV 4))) (sV 6))) ((sBin dIx ((sBin dIx (sV 2) (sV 5))) (sV 6))))) (sT (sBin dNin (sV 6) ((sTup (sCons (sV 4) (sCons (sV 5) sNil)))))))) (sIf (sAnd (sT (sBin dNin (sV 6) ((sBin dIx (sV 3) (sV 4))))) (sAnd (sT (sBin dNin (sV 4) ((sBin dIx (sV 3) (sV 6))))) (sAnd (sT (sBin dNin (sV 6) ((sBin dIx (sV 3) (sV 5))))) (sT (sBin dNin (sV 5) ((sBin dIx (sV 3) (sV 6)))))))) (sRet ((sTup (sCons (sC (.str "pentagon")) (sCons ((sBin dIx ((sBin dIx (sV 2) (sV 4))) (sV 6))) (sCons (sV 4) (sCons (sV 5) (sCons (sV 6) (sCons ((sBin dIx ((sBin dIx (sV 1) (sV 4))) (sV 6))) sNil))))))))) sPass) sPass) [6]) [5, 6]) [4, 5, 6]) (sRet (sC .none))))
noncomputable def f_pentagon : Fn := runD 7 [] b_pentagon
/-- diamond(order, up, down): names 0 order 1 up 2 down 3 many 4 a 5 b 6 c 7 low 8 high -/
noncomputable def b_diamond : SS := (sSeq (sSet 3 ((sBin dIx (sV 0) (sC (.int 1))))) (sSeq (sFor (.nm 4) (itRg1 (sV 3)) (sFor (.nm 5) (itRg2 ((sBin dAdd (sV 4) (sC (.int 1)))) (sV 3)) (sFor (.nm 6) (itRg2 ((sBin dAdd (sV 5) (sC (.int 1)))) (sV 3)) (sSeq (sParN [7, 8] (sCons ((sBin dIx ((sBin dIx (sV 2) (sV 4))) (sV 5))) (sCons ((sBin dIx ((sBin dIx (sV 1) (sV 4))) (sV 5))) sNil))) (sIf (sT (sBin dEq ((sTup (sCons ((sBin dIx ((sBin dIx (sV 2) (sV 4))) (sV 6))) (sCons ((sBin dIx ((sBin dIx (sV 2) (sV 5))) (sV 6))) (sCons ((sBin dIx ((sBin dIx (sV 1) (sV 4))) (sV 6))) (sCons ((sBin dIx ((sBin dIx (sV 1) (sV 5))) (sV 6))) sNil)))))) ((sTup (sCons (sV 7) (sCons (sV 7) (sCons (sV 8) (sCons (sV 8) sNil)))))))) (sIf (sAnd (sT (sBin dNin (sV 7) ((sTup (sCons (sV 4) (sCons (sV 5) (sCons (sV 6) sNil))))))) (sT (sBin dNin (sV 8) ((sTup (sCons (sV 4) (sCons (sV 5) (sCons (sV 6) sNil)))))))) (sRet ((sTup (sCons (sC (.str "diamond")) (sCons (sV 7) (sCons (sV 4) (sCons (sV 5) (sCons (sV 6) (sCons (sV 8) sNil))))))))) sPass) sPass)) [6, 7, 8]) [5, 6, 7, 8]) [4, 5, 6, 7, 8]) (sRet (sC .none))))
noncomputable def f_diamond : Fn := runD 9 [] b_diamond
/-- bar_in(order, up, down): names 0 order 1 up 2 down 3 told -/
noncomputable def b_bar_in : SS := (sSeq (sSet 3 ((sCall f_pentagon [.e (sV 0), .e (sV 1), .e (sV 2)]))) (sRet ((sIfE (sT (sBin dIsnt (sV 3) (sC .none))) (sV 3) ((sCall f_diamond [.e (sV 0), .e (sV 1), .e (sV 2)]))))))
noncomputable def f_bar_in : Fn := runD 4 [] b_bar_in
/-- distributive(order): names 0 order 1 up 2 down 3 many 4 a 5 b 6 c -/
noncomputable def b_distributive : SS := (sSeq (sParN [1, 2] (sCons ((sCall f_joins [.e (sV 0)])) (sCons ((sCall f_meets [.e (sV 0)])) sNil))) (sSeq (sSet 3 (sUn dRng ((sBin dIx (sV 0) (sC (.int 1)))))) (sSeq (sFor (.nm 4) (itRng 3) (sFor (.nm 5) (itRng 3) (sFor (.nm 6) (itRng 3) (sIf (sT (sBin dNe ((sBin dIx ((sBin dIx (sV 2) (sV 4))) ((sBin dIx ((sBin dIx (sV 1) (sV 5))) (sV 6))))) ((sBin dIx ((sBin dIx (sV 1) ((sBin dIx ((sBin dIx (sV 2) (sV 4))) (sV 5))))) ((sBin dIx ((sBin dIx (sV 2) (sV 4))) (sV 6))))))) (sRet ((sCall f_bar_in [.e (sV 0), .e (sV 1), .e (sV 2)]))) sPass) [6]) [5, 6]) [4, 5, 6]) (sRet ((sTup (sCons (sC (.str "distributive")) sNil)))))))
noncomputable def f_distributive : Fn := runD 7 [] b_distributive
/-- modular(order): names 0 order 1 up 2 down 3 told -/
noncomputable def b_modular : SS := (sSeq (sParN [1, 2] (sCons ((sCall f_joins [.e (sV 0)])) (sCons ((sCall f_meets [.e (sV 0)])) sNil))) (sSeq (sSet 3 ((sCall f_pentagon [.e (sV 0), .e (sV 1), .e (sV 2)]))) (sRet ((sIfE (sT (sBin dIs (sV 3) (sC .none))) ((sTup (sCons (sC (.str "modular")) sNil))) (sV 3))))))
noncomputable def f_modular : Fn := runD 4 [] b_modular
/-- is_whole(value, low, high): names 0 value 1 low 2 high -/
noncomputable def b_is_whole : SS := (sRet ((sOfB (sAnd (sT ((sUn (dIsa "int") (sV 0)))) (sAnd (sNot (sT ((sUn (dIsa "bool") (sV 0))))) (sT ((sChain dLe dLe (sV 1) (sV 0) (sV 2)))))))))
noncomputable def f_is_whole : Fn := runD 3 [] b_is_whole
/-- is_bar(order, value): names 0 order 1 value 2 up 3 down 4 low 5 a 6 b 7 c 8 high 9 pairs 10 i 11 j 12 k -/
noncomputable def b_is_bar : SS := (sSeq (sIf (sOr (sNot (sT ((sUn (dIsa "tuple") (sV 1))))) (sOr (sT (sBin dNe ((sFn dLen (sCons (sV 1) sNil))) (sC (.int 6)))) (sT (sBin dNin ((sBin dIx (sV 1) (sC (.int 0)))) ((sTup (sCons (sC (.str "pentagon")) (sCons (sC (.str "diamond")) sNil)))))))) (sRet (sC (.bool false))) sPass) (sSeq (sIf (sOr (sNot (sT ((sFn dAll (sCons ((sLc (.nm 12) (itSeq ((sSl (sV 1) (sPart (sC (.int 1))) sNoPart))) sYes (lcE ((sCall f_is_whole [.e (sV 12), .e (sC (.int 0)), .e ((sBin dSub ((sBin dIx (sV 0) (sC (.int 1)))) (sC (.int 1))))]))) [12])) sNil))))) (sT (sBin dNe ((sUn dLenSet ((sSl (sV 1) (sPart (sC (.int 1))) sNoPart)))) (sC (.int 5))))) (sRet (sC (.bool false))) sPass) (sSeq (sParN [2, 3] (sCons ((sCall f_joins [.e (sV 0)])) (sCons ((sCall f_meets [.e (sV 0)])) sNil))) (sSeq (sAsg (.tp [4, 5, 6, 7, 8]) ((sSl (sV 1) (sPart (sC (.int 1))) sNoPart))) (sSeq (sSet 9 ((sIfE (sT (sBin dEq ((sBin dIx (sV 1) (sC (.int 0)))) (sC (.str "pentagon")))) ((sLst (sCons ((sTup (sCons (sV 5) (sCons (sV 7) sNil)))) (sCons ((sTup (sCons (sV 6) (sCons (sV 7) sNil)))) sNil)))) ((sLst (sCons ((sTup (sCons (sV 5) (sCons (sV 6) sNil)))) (sCons ((sTup (sCons (sV 5) (sCons (sV 7) sNil)))) (sCons ((sTup (sCons (sV 6) (sCons (sV 7) sNil)))) sNil)))))))) (sSeq (sIf (sNot (sT ((sFn dAll (sCons ((sLc (.tp [10, 11]) (itSeq (sV 9)) sYes (lcE ((sOfB (sAnd (sT ((sBin dEq ((sBin dIx ((sBin dIx (sV 2) (sV 10))) (sV 11))) (sV 8)))) (sT ((sBin dEq ((sBin dIx ((sBin dIx (sV 3) (sV 10))) (sV 11))) (sV 4)))))))) [10, 11])) sNil))))) (sRet (sC (.bool false))) sPass) (sRet ((sOfB (sOr (sT ((sBin dEq ((sBin dIx (sV 1) (sC (.int 0)))) (sC (.str "diamond"))))) (sT ((sBin dIn (sV 6) ((sCall f_above [.e (sV 0), .e (sV 5)])))))))))))))))
noncomputable def f_is_bar : Fn := runD 13 [] b_is_bar
/-- _law_right(order, value): names 0 order 1 value 2 k 3 joins_v 4 meets_v 5 low 6 a 7 b 8 c 9 high 10 pairs 11 pair -/
noncomputable def b__law_right : SS := (sSeq (sIf (sOr (sNot (sT ((sUn (dIsa "tuple") (sV 1))))) (sOr (sT (sBin dNe ((sFn dLen (sCons (sV 1) sNil))) (sC (.int 6)))) (sT (sBin dNin ((sBin dIx (sV 1) (sC (.int 0)))) ((sLst (sCons (sC (.str "pentagon")) (sCons (sC (.str "diamond")) sNil)))))))) (sRet (sC (.bool false))) sPass) (sSeq (sFor (.nm 2) (itRg2 (sC (.int 1)) (sC (.int 6))) (sIf (sOr (sNot (sT ((sUn (dIsa "int") ((sBin dIx (sV 1) (sV 2))))))) (sOr (sT ((sUn (dIsa "bool") ((sBin dIx (sV 1) (sV 2)))))) (sOr (sT (sBin dLt ((sBin dIx (sV 1) (sV 2))) (sC (.int 0)))) (sOr (sT (sBin dGe ((sBin dIx (sV 1) (sV 2))) ((sBin dIx (sV 0) (sC (.int 1)))))) (sT (sBin dIn ((sBin dIx (sV 1) (sV 2))) ((sSl (sV 1) (sPart (sC (.int 1))) (sPart (sV 2)))))))))) (sRet (sC (.bool false))) sPass) [2]) (sSeq (sAsg (.tp [3, 4]) ((sCall f__law_tables [.e (sV 0)]))) (sSeq (sAsg (.tp [5, 6, 7, 8, 9]) ((sSl (sV 1) (sPart (sC (.int 1))) sNoPart))) (sSeq (sSet 10 ((sBin dAdd ((sLst (sCons ((sTup (sCons (sV 6) (sCons (sV 8) sNil)))) (sCons ((sTup (sCons (sV 7) (sCons (sV 8) sNil)))) sNil)))) ((sIfE (sT (sBin dEq ((sBin dIx (sV 1) (sC (.int 0)))) (sC (.str "diamond")))) ((sLst (sCons ((sTup (sCons (sV 6) (sCons (sV 7) sNil)))) sNil))) ((sLst sNil))))))) (sSeq (sIf (sT (sBin dGt ((sFn dLen (sCons ((sLc (.nm 11) (itSeq (sV 10)) (sOr (sT (sBin dNe ((sBin dIx ((sBin dIx (sV 3) ((sBin dIx (sV 11) (sC (.int 0)))))) ((sBin dIx (sV 11) (sC (.int 1)))))) (sV 9))) (sT (sBin dNe ((sBin dIx ((sBin dIx (sV 4) ((sBin dIx (sV 11) (sC (.int 0)))))) ((sBin dIx (sV 11) (sC (.int 1)))))) (sV 5)))) (lcE (sV 11)) [11])) sNil))) (sC (.int 0)))) (sRet (sC (.bool false))) sPass) (sRet ((sOfB (sOr (sT ((sBin dEq ((sBin dIx (sV 1) (sC (.int 0)))) (sC (.str "diamond"))))) (sT ((sBin dIn (sV 7) ((sBin dIx ((sCall f__law_ups [.e (sV 0)])) (sV 6))))))))))))))))
noncomputable def f__law_right : Fn := runD 12 [] b__law_right
/-- _law_pick(state, row): names 0 state 1 row -/
noncomputable def b__law_pick : SS := (sRet ((sBin dIx (sV 1) ((sCall f__law_take [.io 0, .e ((sFn dLen (sCons (sV 1) sNil)))])))))
noncomputable def f__law_pick : Fn := runD 2 [0] b__law_pick
/-- law(script): names 0 script 1 state 2 order 3 good 4 even 5 first 6 second 7 bars 8 bar 9 k 10 bad 11 value 12 answer 13 turn 14 each -/
noncomputable def b_law : SS := (sSeq (sSet 1 ((sCall f__law_state [.bv 0]))) (sSeq (sSet 2 ((sCall f__law_world [.io 1]))) (sSeq (sIf (sNot (sT ((sCall f__law_is_lattice [.e (sV 2)])))) (sRet (sC (.bool true))) sPass) (sSeq (sAsg (.tp [3, 4]) ((sCall f__law_kinds [.e (sV 2)]))) (sSeq (sParN [5, 6] (sCons ((sCall f_distributive [.e (sV 2)])) (sCons ((sCall f_modular [.e (sV 2)])) sNil))) (sSeq (sIf (sOr (sT (sBin dNe ((sBin dEq (sV 5) ((sTup (sCons (sC (.str "distributive")) sNil))))) (sV 3))) (sAnd (sNot (sT (sV 3))) (sNot (sT ((sCall f__law_right [.e (sV 2), .e (sV 5)])))))) (sRet (sC (.bool false))) sPass) (sSeq (sIf (sOr (sT (sBin dNe ((sBin dEq (sV 6) ((sTup (sCons (sC (.str "modular")) sNil))))) (sV 4))) (sAnd (sNot (sT (sV 4))) (sOr (sNot (sT ((sCall f__law_right [.e (sV 2), .e (sV 6)])))) (sT (sBin dNe ((sBin dIx (sV 6) (sC (.int 0)))) (sC (.str "pentagon"))))))) (sRet (sC (.bool false))) sPass) (sSeq (sSet 7 (sLc (.nm 14) (itSeq ((sTup (sCons (sV 5) (sCons (sV 6) sNil))))) (sT (sBin dEq ((sFn dLen (sCons (sV 14) sNil))) (sC (.int 6)))) (lcE (sV 14)) [14])) (sSeq (sFor (.nm 8) (itSeq (sV 7)) (sSeq (sIf (sT (sBin dIsnt ((sCall f_is_bar [.e (sV 2), .e (sV 8)])) (sC (.bool true)))) (sRet (sC (.bool false))) sPass) (sSeq (sSet 9 ((sBin dAdd (sC (.int 1)) ((sCall f__law_take [.io 1, .e (sC (.int 5))]))))) (sSeq (sSet 10 ((sLst (sCons ((sBin dAdd ((sBin dAdd ((sSl (sV 8) sNoPart (sPart (sV 9)))) ((sTup (sCons ((sCall f__law_take [.io 1, .e ((sBin dIx (sV 2) (sC (.int 1))))])) sNil))))) ((sSl (sV 8) (sPart ((sBin dAdd (sV 9) (sC (.int 1))))) sNoPart)))) (sCons ((sBin dAdd ((sTup (sCons (sC (.str "diamond")) sNil))) ((sSl (sV 8) (sPart (sC (.int 1))) sNoPart)))) (sCons ((sBin dAdd ((sTup (sCons (sC (.str "pentagon")) sNil))) ((sSl (sV 8) (sPart (sC (.int 1))) sNoPart)))) (sCons ((sSl (sV 8) sNoPart (sPart (sC (.int 5))))) (sCons ((sFn dList (sCons (sV 8) sNil))) (sCons ((sBin dAdd ((sBin dAdd ((sSl (sV 8) sNoPart (sPart (sV 9)))) ((sTup (sCons (sC .none) sNil))))) ((sSl (sV 8) (sPart ((sBin dAdd (sV 9) (sC (.int 1))))) sNoPart)))) (sCons ((sBin dAdd ((sSl (sV 8) sNoPart (sPart (sC (.int 1))))) ((sUn dBk (sV 8))))) (sCons (sC .none) sNil))))))))))) (sFor (.nm 11) (itSeq (sV 10)) (sSeq (sSet 12 ((sCall f_is_bar [.e (sV 2), .e (sV 11)]))) (sIf (sOr (sNot (sT ((sUn (dIsa "bool") (sV 12))))) (sT (sBin dNe (sV 12) ((sCall f__law_right [.e (sV 2), .e (sV 11)]))))) (sRet (sC (.bool false))) sPass)) [11, 12])))) [8, 9, 10, 11, 12]) (sSeq (sFor (.nm 13) (itRg1 (sC (.int 4))) (sSeq (sSet 11 ((sBin dAdd ((sTup (sCons ((sCall f__law_pick [.io 1, .e ((sLst (sCons (sC (.str "pentagon")) (sCons (sC (.str "diamond")) sNil))))])) sNil))) ((sFn dTuple (sCons ((sLc (.nm 9) (itRg1 (sC (.int 5))) sYes (lcE ((sCall f__law_take [.io 1, .e ((sBin dIx (sV 2) (sC (.int 1))))]))) [9])) sNil)))))) (sIf (sT (sBin dNe ((sCall f_is_bar [.e (sV 2), .e (sV 11)])) ((sCall f__law_right [.e (sV 2), .e (sV 11)])))) (sRet (sC (.bool false))) sPass)) [13, 11]) (sRet (sC (.bool true)))))))))))))
noncomputable def f_law : Fn := runD 15 [] b_law
end K51

set_option Elab.async false
set_option linter.all false
set_option maxRecDepth 100000
set_option maxHeartbeats 4000000
/-! the walk: the program's texts do what the semantics says -/
namespace K51
open J PySem L2 PyProof.Rows

abbrev tp (i : Nat) : PySem.Stmt := PySem.Challenge.pw_abovebelow_k51_whole_kinds_of_lattices.main.body.getD i (.Pass ⟨0, 0, 0, 0⟩)
theorem boot_abs_ : bootBuiltins "abs" = some (.builtin "abs") := by decide +kernel
theorem boot_all_ : bootBuiltins "all" = some (.builtin "all") := by decide +kernel
theorem boot_any_ : bootBuiltins "any" = some (.builtin "any") := by decide +kernel
theorem boot_bool_ : bootBuiltins "bool" = some (.type "bool") := by decide +kernel
theorem boot_int_ : bootBuiltins "int" = some (.type "int") := by decide +kernel
theorem boot_isinstance_ : bootBuiltins "isinstance" = some (.builtin "isinstance") := by decide +kernel
theorem boot_len_ : bootBuiltins "len" = some (.builtin "len") := by decide +kernel
theorem boot_list_ : bootBuiltins "list" = some (.type "list") := by decide +kernel
theorem boot_range_ : bootBuiltins "range" = some (.type "range") := by decide +kernel
theorem boot_set_ : bootBuiltins "set" = some (.type "set") := by decide +kernel
theorem boot_sorted_ : bootBuiltins "sorted" = some (.builtin "sorted") := by decide +kernel
theorem boot_tuple_ : bootBuiltins "tuple" = some (.type "tuple") := by decide +kernel
/-- the built-ins' names are free -/
structure Bz (mg : PySem.Str → Option Value) : Prop where
  abs_ : mg "abs" = none
  all_ : mg "all" = none
  any_ : mg "any" = none
  bool_ : mg "bool" = none
  int_ : mg "int" = none
  isinstance_ : mg "isinstance" = none
  len_ : mg "len" = none
  list_ : mg "list" = none
  range_ : mg "range" = none
  set_ : mg "set" = none
  sorted_ : mg "sorted" = none
  tuple_ : mg "tuple" = none
theorem hu65 {A : Around} {k : Nat} (hr : Room k A) : A.units + 65 < cLine := by have := hr.un; omega
section
variable {P : Program} {w : World} {K : PySem.W.Frag} {mg : PySem.Str → Option Value} {base : Heap}
theorem sc__law_state : FnScope ["script", "cells", "cell"] ["script"] (defScope (tp 23)) := ⟨rfl, rfl, rfl, by decide +kernel, rfl, by decide +kernel, by decide +kernel⟩
theorem ok__law_state {f : Addr} {fd : FuncData} (D : Df K mg "_law_state" (tp 23) ["script"] f fd) (z : Bz mg) : Kn P w K mg base 1 "_law_state" ["script"] 3 [.fz] 2 f__law_state := by
  have scp := sc__law_state
  refine D.kn (jdef D.fn sc__law_state rfl rfl (by decide) (fun cdv A outer s H E hr => ?_) (fn := [.fz, .ow 0, .ow 0]) rfl)
  unfold b__law_state
  exact (js_cons (js_setLc (i := 1) (k := 1) (fn := [.fz, .ow 1, .ow 0]) (own := [("cell", 2)]) rfl scp.nd rfl rfl (ji_seq (je_b1 (je_sh (je_slZ (pv 0) rfl jo_none (jo_some (je_int (n := 0))) rfl)))) (blkOk_by (by kernel_rfl)) rfl rfl (fun _ _ _ _ _ => (jg_nm (pg_name scp.nd rfl (by first | exact .inl rfl | exact .inr rfl)) rfl (by decide) rfl)) (fun _ _ _ _ _ => jts_nil) (fun _ _ _ _ _ => (je_fn call_abs (fj_abs (n := 0)) boot_abs_ rfl z.abs_ (ja_cons (je_vs (pv 2) rfl) ja_nil))) (by decide) rfl (by decide) rfl)
  (js_cons (js_if (fn := [.fz, .ow 1, .ow 0]) (jt_cmp (op_eqD hr.units) oj_eq (je_fn call_len (fj_len (n := 0)) boot_len_ rfl z.len_ (ja_cons (je_vr (pv 1) rfl) ja_nil)) (je_int (n := 0))) (js_one (js_set (i := 1) (fn := [.fz, .ow 1, .ow 0]) scp.nd rfl (by first | exact .inl rfl | exact .inr rfl) (je_lst (n := 0) (k := 1) (ja_cons (je_int (n := 0)) ja_nil)) rfl rfl (by decide) rfl)) js_nil)
  (js_one (js_ret (je_lst (n := 1) (k := 2) (ja_cons (je_int (n := 1)) (ja_cons (je_mv (pv 1) rfl) ja_nil))) rfl))))
theorem sc__law_take : FnScope ["state", "most", "cells", "at", "cell", "mixed"] ["state", "most"] (defScope (tp 24)) := ⟨rfl, rfl, rfl, by decide +kernel, rfl, by decide +kernel, by decide +kernel⟩
theorem ok__law_take {f : Addr} {fd : FuncData} (D : Df K mg "_law_take" (tp 24) ["state", "most"] f fd) (z : Bz mg) : Kn P w K mg base 1 "_law_take" ["state", "most"] 6 [.io 2, .ow 0] 0 f__law_take := by
  have scp := sc__law_take
  refine D.kn (take_ok D.fn sc__law_take rfl rfl (fun cdv A outer s H E hr => ?_))
  exact (pss_cons (ps_if (pt_cmpR op_lt (pv 1) pe_int rfl) (pss_one (ps_ret pe_int)) pss_nil)
    (pss_cons (ps_set scp.nd rfl (by first | exact .inl rfl | exact .inr rfl) (pe_ix ix_seq (pv 0) pe_int (fun _ _ => rfl)))
    (pss_cons (ps_set scp.nd rfl (by first | exact .inl rfl | exact .inr rfl) (pe_op op_mod (pe_callTy call_int1 rfl z.int_ boot_int_ (pa_cons (pe_ix ix_seq (pv 0) pe_int (fun _ _ => rfl)) pa_nil)) (pe_callB call_len rfl z.len_ boot_len_ (pa_cons (pv 2) pa_nil))))
    (pss_cons (ps_set scp.nd rfl (by first | exact .inl rfl | exact .inr rfl) (pe_ix ix_seq (pv 2) (pv 3) (fun _ _ => rfl)))
    (pss_cons (ps_if (pt_cmpR op_ge (pv 4) pe_int rfl) (pss_cons (ps_asg (pe_op op_fdiv (pv 4) (pv 1)) (pg_sub (pv 2) (pv 3) set_list (by intro _; rfl)) rfl rfl rfl) (pss_one (ps_ret (pe_op op_mod (pe_callTy call_int1 rfl z.int_ boot_int_ (pa_cons (pv 4) pa_nil)) (pv 1))))) pss_nil)
    (pss_cons (ps_asg (pe_op op_add (pe_ix ix_seq (pv 0) pe_int (fun _ _ => rfl)) pe_int) (pg_sub (pv 0) pe_int set_list (by intro _; rfl)) rfl rfl rfl)
    (pss_cons (ps_set scp.nd rfl (by first | exact .inl rfl | exact .inr rfl) (pe_op op_mod (pe_callTy call_int1 rfl z.int_ boot_int_ (pa_cons (pe_op op_add (pe_op op_mul (pv 4) pe_int) (pe_op op_mul (pe_ix ix_seq (pv 0) pe_int (fun _ _ => rfl)) pe_int)) pa_nil)) pe_int))
    (pss_cons (ps_set scp.nd rfl (by first | exact .inl rfl | exact .inr rfl) (pe_op op_mod (pe_callTy call_int1 rfl z.int_ boot_int_ (pa_cons (pe_op op_add (pe_op op_mul (pv 5) pe_int) (pe_op op_mul (pe_ix ix_seq (pv 0) pe_int (fun _ _ => rfl)) pe_int)) pa_nil)) pe_int))
    (pss_one (ps_ret (pe_op op_mod (pe_callTy call_int1 rfl z.int_ boot_int_ (pa_cons (pe_op op_fdiv (pv 5) pe_int) pa_nil)) (pv 1))))))))))))
theorem sc__law_up : FnScope ["many", "pairs", "up", "turn", "k", "j", "row", "one", "other"] ["many", "pairs"] (defScope (tp 26)) := ⟨rfl, rfl, rfl, by decide +kernel, rfl, by decide +kernel, by decide +kernel⟩
theorem ok__law_up {f : Addr} {fd : FuncData} (D : Df K mg "_law_up" (tp 26) ["many", "pairs"] f fd) (z : Bz mg) : Kn P w K mg base 1 "_law_up" ["many", "pairs"] 9 [.ow 0, .b1] 0 f__law_up := by
  have scp := sc__law_up
  refine D.kn (jdef D.fn sc__law_up rfl rfl (by decide) (fun cdv A outer s H E hr => ?_) (fn := [.ow 0, .b1, .ow 0, .ow 0, .ow 0, .ow 0, .ow 0, .ow 0, .ow 0]) rfl)
  unfold b__law_up
  exact (js_cons (js_set (i := 2) (fn := [.ow 0, .b1, .ow 1, .ow 0, .ow 0, .ow 0, .ow 0, .ow 0, .ow 0]) scp.nd rfl (by first | exact .inl rfl | exact .inr rfl) (je_lc (own := [("k", 4)]) rfl scp.nd (ji_rg1 rfl z.range_ (je_vs (pv 0) rfl)) (blkOk_by (by kernel_rfl)) rfl rfl (fun _ _ _ _ _ => (jg_nm (pg_name scp.nd rfl (by first | exact .inl rfl | exact .inr rfl)) rfl (by decide) rfl)) (fun _ _ _ _ _ => jts_nil) (fun _ _ _ _ _ => (je_sh (je_lc (own := [("one", 7), ("other", 8)]) rfl scp.nd (ji_seq (je_vb (pv 1) rfl)) (blkOk_by (by kernel_rfl)) rfl rfl (fun _ _ _ _ _ => (jg_tp rfl (jgs_cons (pg_name scp.nd rfl (by first | exact .inl rfl | exact .inr rfl)) rfl (by decide) (jgs_cons (pg_name scp.nd rfl (by first | exact .inl rfl | exact .inr rfl)) rfl (by decide) jgs_nil)))) (fun _ _ _ _ _ => (jts_one (jt_cmp (op_eqD hr.units) oj_eq (je_vs (pv 7) rfl) (je_vs (pv 4) rfl)))) (fun _ _ _ _ _ => (je_vs (pv 8) rfl)))))) rfl rfl (by decide) rfl)
  (js_cons (js_for (ks := [3, 4, 5]) (f0 := [.ow 0, .b1, .ow 1, .ow 0, .ow 0, .ow 0, .ow 0, .ow 0, .ow 0]) (f2 := [.ow 0, .b1, .ow 1, .ow 0, .ow 0, .ow 0, .ow 0, .ow 0, .ow 0]) (f1 := [.ow 0, .b1, .ow 1, .ow 0, .ow 0, .ow 0, .ow 0, .ow 0, .ow 0]) PassesOwn.never rfl (ji_rg1 rfl z.range_ (je_vs (pv 0) rfl)) rfl (jg_nm (pg_name scp.nd rfl (by first | exact .inl rfl | exact .inr rfl)) rfl (by decide) rfl) (js_one (js_for (ks := [4, 5]) (f0 := [.ow 0, .b1, .ow 1, .ow 0, .ow 0, .ow 0, .ow 0, .ow 0, .ow 0]) (f2 := [.ow 0, .b1, .ow 1, .ow 0, .ow 0, .ow 0, .ow 0, .ow 0, .ow 0]) (f1 := [.ow 0, .b1, .ow 1, .ow 0, .ow 0, .ow 0, .ow 0, .ow 0, .ow 0]) PassesOwn.never rfl (ji_rg1 rfl z.range_ (je_vs (pv 0) rfl)) rfl (jg_nm (pg_name scp.nd rfl (by first | exact .inl rfl | exact .inr rfl)) rfl (by decide) rfl) (js_one (js_for (ks := [5]) (f0 := [.ow 0, .b1, .ow 1, .ow 0, .ow 0, .ow 0, .ow 0, .ow 0, .ow 0]) (f2 := [.ow 0, .b1, .ow 1, .ow 0, .ow 0, .ow 0, .ow 0, .ow 0, .ow 0]) (f1 := [.ow 0, .b1, .ow 1, .ow 0, .ow 0, .ow 0, .ow 0, .ow 0, .ow 0]) PassesOwn.never rfl (ji_seq (je_b1 (je_sh (je_ty call_list_of fj_list boot_list_ rfl z.list_ (ja_cons (je_r1 (je_b1 (je_ix ix_seq oj_ix (je_vr (pv 2) rfl) (je_vs (pv 4) rfl)))) ja_nil))))) rfl (jg_nm (pg_name scp.nd rfl (by first | exact .inl rfl | exact .inr rfl)) rfl (by decide) rfl) (js_one (js_sub (i := 2) (je_sh (je_op op_addAll (ob1 oj_add) (je_b1 (je_ix ix_seq oj_ix (je_vr (pv 2) rfl) (je_vs (pv 4) rfl))) (je_r1 (je_b1 (je_sh (je_lc (own := [("one", 7)]) rfl scp.nd (ji_seq (je_b1 (je_ix ix_seq oj_ix (je_vr (pv 2) rfl) (je_vs (pv 5) rfl)))) (blkOk_by (by kernel_rfl)) rfl rfl (fun _ _ _ _ _ => (jg_nm (pg_name scp.nd rfl (by first | exact .inl rfl | exact .inr rfl)) rfl (by decide) rfl)) (fun _ _ _ _ _ => (jts_one (jt_cmp (op_ninLT (hu65 hr)) oj_nin (je_vs (pv 7) rfl) (je_ix ix_seq oj_ix (je_vr (pv 2) rfl) (je_vs (pv 4) rfl))))) (fun _ _ _ _ _ => (je_vs (pv 7) rfl)))))))) (pv 2) (je_vs (pv 4) rfl) rfl)) rfl)) rfl)) rfl)
  (js_one (js_ret (je_sh (je_lc (own := [("row", 6)]) rfl scp.nd (ji_nm (pv 2) rfl) (blkOk_by (by kernel_rfl)) rfl rfl (fun _ _ _ _ _ => (jg_nm (pg_name scp.nd rfl (by first | exact .inl rfl | exact .inr rfl)) rfl (by decide) rfl)) (fun _ _ _ _ _ => jts_nil) (fun _ _ _ _ _ => (je_sh (je_fn cr_sortedI fj_sorI boot_sorted_ rfl z.sorted_ (ja_cons (je_vs (pv 6) rfl) ja_nil)))))) rfl))))
theorem sc__law_order_of : FnScope ["many", "pairs", "up", "covers", "k", "j", "one"] ["many", "pairs"] (defScope (tp 27)) := ⟨rfl, rfl, rfl, by decide +kernel, rfl, by decide +kernel, by decide +kernel⟩
theorem ok__law_order_of {f : Addr} {fd : FuncData} (D : Df K mg "_law_order_of" (tp 27) ["many", "pairs"] f fd) (z : Bz mg) (k__law_up : Kn P w K mg base 1 "_law_up" ["many", "pairs"] 9 [.ow 0, .b1] 0 f__law_up) : Kn P w K mg base 2 "_law_order_of" ["many", "pairs"] 7 [.ow 0, .b1] 0 f__law_order_of := by
  have scp := sc__law_order_of
  refine D.kn (jdef D.fn sc__law_order_of rfl rfl (by decide) (fun cdv A outer s H E hr => ?_) (fn := [.ow 0, .b1, .ow 0, .ow 0, .ow 0, .ow 0, .ow 0]) rfl)
  unfold b__law_order_of
  exact (js_cons (js_set (i := 2) (fn := [.ow 0, .b1, .ow 0, .ow 0, .ow 0, .ow 0, .ow 0]) scp.nd rfl (by first | exact .inl rfl | exact .inr rfl) (je_callK k__law_up hr rfl (jc_s (je_vs (pv 0) rfl) (jc_b (je_vb (pv 1) rfl) jc_nil)) rfl (by decide)) rfl rfl (by decide) rfl)
  (js_cons (js_set (i := 3) (fn := [.ow 0, .b1, .ow 0, .ow 0, .ow 0, .ow 0, .ow 0]) scp.nd rfl (by first | exact .inl rfl | exact .inr rfl) (je_sh (je_lst (n := 0) (k := 0) ja_nil)) rfl rfl (by decide) rfl)
  (js_cons (js_for (ks := [4]) (f0 := [.ow 0, .b1, .ow 0, .ow 0, .ow 0, .ow 0, .ow 0]) (f2 := [.ow 0, .b1, .ow 0, .ow 0, .ow 0, .ow 0, .ow 0]) (f1 := [.ow 0, .b1, .ow 0, .ow 0, .ow 0, .ow 0, .ow 0]) PassesOwn.never rfl (ji_rg1 rfl z.range_ (je_vs (pv 0) rfl)) rfl (jg_nm (pg_name scp.nd rfl (by first | exact .inl rfl | exact .inr rfl)) rfl (by decide) rfl) (js_one (js_set (i := 3) (fn := [.ow 0, .b1, .ow 0, .ow 0, .ow 0, .ow 0, .ow 0]) scp.nd rfl (by first | exact .inl rfl | exact .inr rfl) (je_sh (je_op op_addAll (ob1 oj_add) (je_b1 (je_vs (pv 3) rfl)) (je_r1 (je_b1 (je_sh (je_lc (own := [("j", 5)]) rfl scp.nd (ji_seq (je_b1 (je_ix ix_seq (ob1 oj_ix) (je_b1 (je_vs (pv 2) rfl)) (je_vs (pv 4) rfl)))) (blkOk_by (by kernel_rfl)) rfl rfl (fun _ _ _ _ _ => (jg_nm (pg_name scp.nd rfl (by first | exact .inl rfl | exact .inr rfl)) rfl (by decide) rfl)) (fun _ _ _ _ _ => (jts_one (jt_cmp (op_eqD hr.units) oj_eq (je_fn call_len (fj_len (n := 0)) boot_len_ rfl z.len_ (ja_cons (je_lc (own := [("one", 6)]) rfl scp.nd (ji_seq (je_b1 (je_ix ix_seq (ob1 oj_ix) (je_b1 (je_vs (pv 2) rfl)) (je_vs (pv 4) rfl)))) (blkOk_by (by kernel_rfl)) rfl rfl (fun _ _ _ _ _ => (jg_nm (pg_name scp.nd rfl (by first | exact .inl rfl | exact .inr rfl)) rfl (by decide) rfl)) (fun _ _ _ _ _ => (jts_one (jt_cmp (op_inLT (hu65 hr)) oj_in (je_vs (pv 5) rfl) (je_ix ix_seq (ob1 oj_ix) (je_b1 (je_vs (pv 2) rfl)) (je_vs (pv 6) rfl))))) (fun _ _ _ _ _ => (je_vs (pv 6) rfl))) ja_nil)) (je_int (n := 0))))) (fun _ _ _ _ _ => (je_tup (n := 0) (k := 2) (ja_cons (je_vs (pv 4) rfl) (ja_cons (je_vs (pv 5) rfl) ja_nil)))))))))) rfl rfl (by decide) rfl)) rfl)
  (js_one (js_ret (je_tup (n := 0) (k := 3) (ja_cons (je_str (n := 0)) (ja_cons (je_vs (pv 0) rfl) (ja_cons (je_ty call_tupN (fj_tuple (n := 0)) boot_tuple_ rfl z.tuple_ (ja_cons (je_r1 (je_b1 (je_vs (pv 3) rfl))) ja_nil)) ja_nil)))) rfl)))))
theorem sc__law_family : FnScope ["state", "many", "lots", "turn", "lot", "other", "both", "one", "pairs", "k", "j"] ["state"] (defScope (tp 34)) := ⟨rfl, rfl, rfl, by decide +kernel, rfl, by decide +kernel, by decide +kernel⟩
theorem ok__law_family {f : Addr} {fd : FuncData} (D : Df K mg "_law_family" (tp 34) ["state"] f fd) (z : Bz mg) (k__law_take : Kn P w K mg base 2 "_law_take" ["state", "most"] 6 [.io 2, .ow 0] 0 f__law_take) (k__law_order_of : Kn P w K mg base 2 "_law_order_of" ["many", "pairs"] 7 [.ow 0, .b1] 0 f__law_order_of) : Kn P w K mg base 3 "_law_family" ["state"] 11 [.io 2] 0 f__law_family := by
  have scp := sc__law_family
  refine D.kn (jdef D.fn sc__law_family rfl rfl (by decide) (fun cdv A outer s H E hr => ?_) (fn := [.io 2, .ow 0, .ow 0, .ow 0, .ow 0, .ow 0, .ow 0, .ow 0, .ow 0, .ow 0, .ow 0]) rfl)
  unfold b__law_family
  exact (js_cons (js_set (i := 1) (fn := [.io 2, .ow 0, .ow 0, .ow 0, .ow 0, .ow 0, .ow 0, .ow 0, .ow 0, .ow 0, .ow 0]) scp.nd rfl (by first | exact .inl rfl | exact .inr rfl) (je_sh (je_op op_addAll (ob1 oj_add) (je_b1 (je_int (n := 0))) (je_r1 (je_b1 (je_callK k__law_take hr rfl (jc_io (pv 0) rfl (jc_s (je_int (n := 0)) jc_nil)) rfl (by decide)))))) rfl rfl (by decide) rfl)
  (js_cons (js_set (i := 2) (fn := [.io 2, .ow 0, .ow 1, .ow 0, .ow 0, .ow 0, .ow 0, .ow 0, .ow 0, .ow 0, .ow 0]) scp.nd rfl (by first | exact .inl rfl | exact .inr rfl) (je_lst (n := 0) (k := 1) (ja_cons (je_sh (je_tupleRg1 rfl rfl z.tuple_ rfl z.range_ (je_vs (pv 1) rfl))) ja_nil)) rfl rfl (by decide) rfl)
  (js_cons (js_for (ks := [3, 4, 5, 6]) (f0 := [.io 2, .ow 0, .ow 1, .ow 0, .ow 0, .ow 0, .ow 0, .ow 0, .ow 0, .ow 0, .ow 0]) (f2 := [.io 2, .ow 0, .ow 1, .ow 0, .ow 0, .ow 0, .ow 0, .ow 0, .ow 0, .ow 0, .ow 0]) (f1 := [.io 2, .ow 0, .ow 1, .ow 0, .ow 0, .ow 0, .ow 0, .ow 0, .ow 0, .ow 0, .ow 0]) PassesOwn.never rfl (ji_rg1 rfl z.range_ (je_sh (je_op op_addAll (ob1 oj_add) (je_b1 (je_int (n := 0))) (je_r1 (je_b1 (je_callK k__law_take hr rfl (jc_io (pv 0) rfl (jc_s (je_int (n := 0)) jc_nil)) rfl (by decide))))))) rfl (jg_nm (pg_name scp.nd rfl (by first | exact .inl rfl | exact .inr rfl)) rfl (by decide) rfl) (js_cons (js_set (i := 4) (fn := [.io 2, .ow 0, .ow 1, .ow 0, .ow 0, .ow 0, .ow 0, .ow 0, .ow 0, .ow 0, .ow 0]) scp.nd rfl (by first | exact .inl rfl | exact .inr rfl) (je_ty call_tupN (fj_tuple (n := 0)) boot_tuple_ rfl z.tuple_ (ja_cons (je_r1 (je_b1 (je_sh (je_lc (own := [("k", 9)]) rfl scp.nd (ji_rg1 rfl z.range_ (je_vs (pv 1) rfl)) (blkOk_by (by kernel_rfl)) rfl rfl (fun _ _ _ _ _ => (jg_nm (pg_name scp.nd rfl (by first | exact .inl rfl | exact .inr rfl)) rfl (by decide) rfl)) (fun _ _ _ _ _ => (jts_one (jt_cmp (op_eqD hr.units) oj_eq (je_callK k__law_take hr rfl (jc_io (pv 0) rfl (jc_s (je_int (n := 0)) jc_nil)) rfl (by decide)) (je_int (n := 0))))) (fun _ _ _ _ _ => (je_vs (pv 9) rfl)))))) ja_nil)) rfl rfl (by decide) rfl)
  (js_one (js_for (ks := [5, 6]) (f0 := [.io 2, .ow 0, .ow 1, .ow 0, .ow 0, .ow 0, .ow 0, .ow 0, .ow 0, .ow 0, .ow 0]) (f2 := [.io 2, .ow 0, .ow 1, .ow 0, .ow 0, .ow 0, .ow 0, .ow 0, .ow 0, .ow 0, .ow 0]) (f1 := [.io 2, .ow 0, .ow 1, .ow 0, .ow 0, .ow 0, .ow 0, .ow 0, .ow 0, .ow 0, .ow 0]) PassesOwn.never rfl (ji_seq (je_b1 (je_sh (je_ty call_list_of fj_list boot_list_ rfl z.list_ (ja_cons (je_vr (pv 2) rfl) ja_nil))))) rfl (jg_nm (pg_name scp.nd rfl (by first | exact .inl rfl | exact .inr rfl)) rfl (by decide) rfl) (js_cons (js_set (i := 6) (fn := [.io 2, .ow 0, .ow 1, .ow 0, .ow 0, .ow 0, .ow 0, .ow 0, .ow 0, .ow 0, .ow 0]) scp.nd rfl (by first | exact .inl rfl | exact .inr rfl) (je_ty call_tupN (fj_tuple (n := 0)) boot_tuple_ rfl z.tuple_ (ja_cons (je_r1 (je_b1 (je_sh (je_lc (own := [("k", 9)]) rfl scp.nd (ji_seq (je_b1 (je_vs (pv 4) rfl))) (blkOk_by (by kernel_rfl)) rfl rfl (fun _ _ _ _ _ => (jg_nm (pg_name scp.nd rfl (by first | exact .inl rfl | exact .inr rfl)) rfl (by decide) rfl)) (fun _ _ _ _ _ => (jts_one (jt_cmp (op_inLT (hu65 hr)) oj_in (je_vs (pv 9) rfl) (je_vs (pv 5) rfl)))) (fun _ _ _ _ _ => (je_vs (pv 9) rfl)))))) ja_nil)) rfl rfl (by decide) rfl)
  (js_one (js_if (fn := [.io 2, .ow 0, .ow 1, .ow 0, .ow 0, .ow 0, .ow 0, .ow 0, .ow 0, .ow 0, .ow 0]) (jt_w (jw_and (jt_cmp (op_ninLT (hu65 hr)) oj_nin (je_vs (pv 6) rfl) (je_vr (pv 2) rfl)) (jw_and1 (jt_cmp op_lt oj_lt (je_fn call_len (fj_len (n := 0)) boot_len_ rfl z.len_ (ja_cons (je_vr (pv 2) rfl) ja_nil)) (je_int (n := 0)))))) (js_one (js_x (je_meth PySem.F.slot_list_append PySem.F.type_list_append mt_append mj_app (pv 2) (ja_cons (je_vs (pv 6) rfl) ja_nil) rfl))) js_nil))) rfl))) rfl)
  (js_cons (js_for (ks := [3, 7, 5, 6]) (f0 := [.io 2, .ow 0, .ow 1, .ow 0, .ow 0, .ow 0, .ow 0, .ow 0, .ow 0, .ow 0, .ow 0]) (f2 := [.io 2, .ow 0, .ow 1, .ow 0, .ow 0, .ow 0, .ow 0, .ow 0, .ow 0, .ow 0, .ow 0]) (f1 := [.io 2, .ow 0, .ow 1, .ow 0, .ow 0, .ow 0, .ow 0, .ow 0, .ow 0, .ow 0, .ow 0]) PassesOwn.never rfl (ji_rg1 rfl z.range_ (je_int (n := 0))) rfl (jg_nm (pg_name scp.nd rfl (by first | exact .inl rfl | exact .inr rfl)) rfl (by decide) rfl) (js_one (js_for (ks := [7, 5, 6]) (f0 := [.io 2, .ow 0, .ow 1, .ow 0, .ow 0, .ow 0, .ow 0, .ow 0, .ow 0, .ow 0, .ow 0]) (f2 := [.io 2, .ow 0, .ow 1, .ow 0, .ow 0, .ow 0, .ow 0, .ow 0, .ow 0, .ow 0, .ow 0]) (f1 := [.io 2, .ow 0, .ow 1, .ow 0, .ow 0, .ow 0, .ow 0, .ow 0, .ow 0, .ow 0, .ow 0]) PassesOwn.never rfl (ji_seq (je_b1 (je_sh (je_ty call_list_of fj_list boot_list_ rfl z.list_ (ja_cons (je_vr (pv 2) rfl) ja_nil))))) rfl (jg_nm (pg_name scp.nd rfl (by first | exact .inl rfl | exact .inr rfl)) rfl (by decide) rfl) (js_one (js_for (ks := [5, 6]) (f0 := [.io 2, .ow 0, .ow 1, .ow 0, .ow 0, .ow 0, .ow 0, .ow 0, .ow 0, .ow 0, .ow 0]) (f2 := [.io 2, .ow 0, .ow 1, .ow 0, .ow 0, .ow 0, .ow 0, .ow 0, .ow 0, .ow 0, .ow 0]) (f1 := [.io 2, .ow 0, .ow 1, .ow 0, .ow 0, .ow 0, .ow 0, .ow 0, .ow 0, .ow 0, .ow 0]) PassesOwn.never rfl (ji_seq (je_b1 (je_sh (je_ty call_list_of fj_list boot_list_ rfl z.list_ (ja_cons (je_vr (pv 2) rfl) ja_nil))))) rfl (jg_nm (pg_name scp.nd rfl (by first | exact .inl rfl | exact .inr rfl)) rfl (by decide) rfl) (js_cons (js_set (i := 6) (fn := [.io 2, .ow 0, .ow 1, .ow 0, .ow 0, .ow 0, .ow 0, .ow 0, .ow 0, .ow 0, .ow 0]) scp.nd rfl (by first | exact .inl rfl | exact .inr rfl) (je_ty call_tupN (fj_tuple (n := 0)) boot_tuple_ rfl z.tuple_ (ja_cons (je_r1 (je_b1 (je_sh (je_lc (own := [("k", 9)]) rfl scp.nd (ji_seq (je_b1 (je_vs (pv 7) rfl))) (blkOk_by (by kernel_rfl)) rfl rfl (fun _ _ _ _ _ => (jg_nm (pg_name scp.nd rfl (by first | exact .inl rfl | exact .inr rfl)) rfl (by decide) rfl)) (fun _ _ _ _ _ => (jts_one (jt_cmp (op_inLT (hu65 hr)) oj_in (je_vs (pv 9) rfl) (je_vs (pv 5) rfl)))) (fun _ _ _ _ _ => (je_vs (pv 9) rfl)))))) ja_nil)) rfl rfl (by decide) rfl)
  (js_one (js_if (fn := [.io 2, .ow 0, .ow 1, .ow 0, .ow 0, .ow 0, .ow 0, .ow 0, .ow 0, .ow 0, .ow 0]) (jt_cmp (op_ninLT (hu65 hr)) oj_nin (je_vs (pv 6) rfl) (je_vr (pv 2) rfl)) (js_one (js_x (je_meth PySem.F.slot_list_append PySem.F.type_list_append mt_append mj_app (pv 2) (ja_cons (je_vs (pv 6) rfl) ja_nil) rfl))) js_nil))) rfl)) rfl)) rfl)
  (js_cons (js_set (i := 8) (fn := [.io 2, .ow 0, .ow 1, .ow 0, .ow 0, .ow 0, .ow 0, .ow 0, .ow 0, .ow 0, .ow 0]) scp.nd rfl (by first | exact .inl rfl | exact .inr rfl) (je_sh (je_lst (n := 0) (k := 0) ja_nil)) rfl rfl (by decide) rfl)
  (js_cons (js_for (ks := [9]) (f0 := [.io 2, .ow 0, .ow 1, .ow 0, .ow 0, .ow 0, .ow 0, .ow 0, .ow 0, .ow 0, .ow 0]) (f2 := [.io 2, .ow 0, .ow 1, .ow 0, .ow 0, .ow 0, .ow 0, .ow 0, .ow 0, .ow 0, .ow 0]) (f1 := [.io 2, .ow 0, .ow 1, .ow 0, .ow 0, .ow 0, .ow 0, .ow 0, .ow 0, .ow 0, .ow 0]) PassesOwn.never rfl (ji_rg1 rfl z.range_ (je_fn call_len (fj_len (n := 0)) boot_len_ rfl z.len_ (ja_cons (je_vr (pv 2) rfl) ja_nil))) rfl (jg_nm (pg_name scp.nd rfl (by first | exact .inl rfl | exact .inr rfl)) rfl (by decide) rfl) (js_one (js_set (i := 8) (fn := [.io 2, .ow 0, .ow 1, .ow 0, .ow 0, .ow 0, .ow 0, .ow 0, .ow 0, .ow 0, .ow 0]) scp.nd rfl (by first | exact .inl rfl | exact .inr rfl) (je_sh (je_op op_addAll (ob1 oj_add) (je_b1 (je_vs (pv 8) rfl)) (je_r1 (je_b1 (je_sh (je_lc (own := [("j", 10)]) rfl scp.nd (ji_rg1 rfl z.range_ (je_fn call_len (fj_len (n := 0)) boot_len_ rfl z.len_ (ja_cons (je_vr (pv 2) rfl) ja_nil))) (blkOk_by (by kernel_rfl)) rfl rfl (fun _ _ _ _ _ => (jg_nm (pg_name scp.nd rfl (by first | exact .inl rfl | exact .inr rfl)) rfl (by decide) rfl)) (fun _ _ _ _ _ => (jts_one (jt_w (jw_and (jt_cmp (op_neD hr.units) oj_ne (je_vs (pv 10) rfl) (je_vs (pv 9) rfl)) (jw_and1 (jt_cmp (op_eqD hr.units) oj_eq (je_fn call_len (fj_len (n := 0)) boot_len_ rfl z.len_ (ja_cons (je_lc (own := [("one", 7)]) rfl scp.nd (ji_seq (je_b1 (je_ix ix_seq oj_ix (je_vr (pv 2) rfl) (je_vs (pv 9) rfl)))) (blkOk_by (by kernel_rfl)) rfl rfl (fun _ _ _ _ _ => (jg_nm (pg_name scp.nd rfl (by first | exact .inl rfl | exact .inr rfl)) rfl (by decide) rfl)) (fun _ _ _ _ _ => (jts_one (jt_cmp (op_ninLT (hu65 hr)) oj_nin (je_vs (pv 7) rfl) (je_ix ix_seq oj_ix (je_vr (pv 2) rfl) (je_vs (pv 10) rfl))))) (fun _ _ _ _ _ => (je_vs (pv 7) rfl))) ja_nil)) (je_int (n := 0)))))))) (fun _ _ _ _ _ => (je_tup (n := 0) (k := 2) (ja_cons (je_vs (pv 9) rfl) (ja_cons (je_vs (pv 10) rfl) ja_nil)))))))))) rfl rfl (by decide) rfl)) rfl)
  (js_one (js_ret (je_callK k__law_order_of hr rfl (jc_s (je_fn call_len (fj_len (n := 0)) boot_len_ rfl z.len_ (ja_cons (je_vr (pv 2) rfl) ja_nil)) (jc_b (je_b1 (je_vs (pv 8) rfl)) jc_nil)) rfl (by decide)) rfl))))))))
theorem sc__law_world : FnScope ["state", "kind", "first", "second", "cells", "a", "pairs", "k", "cell", "b", "j"] ["state"] (defScope (tp 35)) := ⟨rfl, rfl, rfl, by decide +kernel, rfl, by decide +kernel, by decide +kernel⟩
theorem ok__law_world {f : Addr} {fd : FuncData} (D : Df K mg "_law_world" (tp 35) ["state"] f fd) (z : Bz mg) (k__law_take : Kn P w K mg base 3 "_law_take" ["state", "most"] 6 [.io 2, .ow 0] 0 f__law_take) (k__law_family : Kn P w K mg base 3 "_law_family" ["state"] 11 [.io 2] 0 f__law_family) (k__law_order_of : Kn P w K mg base 3 "_law_order_of" ["many", "pairs"] 7 [.ow 0, .b1] 0 f__law_order_of) : Kn P w K mg base 4 "_law_world" ["state"] 11 [.io 2] 0 f__law_world := by
  have scp := sc__law_world
  refine D.kn (jdef D.fn sc__law_world rfl rfl (by decide) (fun cdv A outer s H E hr => ?_) (fn := [.io 2, .ow 0, .ow 0, .ow 0, .ow 0, .ow 0, .ow 0, .ow 0, .ow 0, .ow 0, .ow 0]) rfl)
  unfold b__law_world
  exact (js_cons (js_set (i := 1) (fn := [.io 2, .ow 0, .ow 0, .ow 0, .ow 0, .ow 0, .ow 0, .ow 0, .ow 0, .ow 0, .ow 0]) scp.nd rfl (by first | exact .inl rfl | exact .inr rfl) (je_callK k__law_take hr rfl (jc_io (pv 0) rfl (jc_s (je_int (n := 0)) jc_nil)) rfl (by decide)) rfl rfl (by decide) rfl)
  (js_cons (js_if (fn := [.io 2, .ow 0, .ow 0, .ow 0, .ow 0, .ow 0, .ow 0, .ow 0, .ow 0, .ow 0, .ow 0]) (jt_cmp (op_eqD hr.units) oj_eq (je_vs (pv 1) rfl) (je_int (n := 0))) (js_one (js_ret (je_callK k__law_family hr rfl (jc_io (pv 0) rfl jc_nil) rfl (by decide)) rfl)) js_nil)
  (js_cons (js_if (fn := [.io 2, .ow 0, .ow 0, .ow 0, .ow 0, .ow 0, .ow 0, .ow 0, .ow 0, .ow 0, .ow 0]) (jt_cmp (op_eqD hr.units) oj_eq (je_vs (pv 1) rfl) (je_int (n := 0))) (js_one (js_ret (je_callK k__law_order_of hr rfl (jc_s (je_int (n := 0)) (jc_b (je_if (jt_cmp (op_eqD hr.units) oj_eq (je_callK k__law_take hr rfl (jc_io (pv 0) rfl (jc_s (je_int (n := 0)) jc_nil)) rfl (by decide)) (je_int (n := 0))) (je_b1 (je_sh (je_lst (n := 0) (k := 5) (ja_cons (je_tup (n := 0) (k := 2) (ja_cons (je_int (n := 0)) (ja_cons (je_int (n := 0)) ja_nil))) (ja_cons (je_tup (n := 0) (k := 2) (ja_cons (je_int (n := 0)) (ja_cons (je_int (n := 0)) ja_nil))) (ja_cons (je_tup (n := 0) (k := 2) (ja_cons (je_int (n := 0)) (ja_cons (je_int (n := 0)) ja_nil))) (ja_cons (je_tup (n := 0) (k := 2) (ja_cons (je_int (n := 0)) (ja_cons (je_int (n := 0)) ja_nil))) (ja_cons (je_tup (n := 0) (k := 2) (ja_cons (je_int (n := 0)) (ja_cons (je_int (n := 0)) ja_nil))) ja_nil)))))))) (je_b1 (je_sh (je_lst (n := 0) (k := 6) (ja_cons (je_tup (n := 0) (k := 2) (ja_cons (je_int (n := 0)) (ja_cons (je_int (n := 0)) ja_nil))) (ja_cons (je_tup (n := 0) (k := 2) (ja_cons (je_int (n := 0)) (ja_cons (je_int (n := 0)) ja_nil))) (ja_cons (je_tup (n := 0) (k := 2) (ja_cons (je_int (n := 0)) (ja_cons (je_int (n := 0)) ja_nil))) (ja_cons (je_tup (n := 0) (k := 2) (ja_cons (je_int (n := 0)) (ja_cons (je_int (n := 0)) ja_nil))) (ja_cons (je_tup (n := 0) (k := 2) (ja_cons (je_int (n := 0)) (ja_cons (je_int (n := 0)) ja_nil))) (ja_cons (je_tup (n := 0) (k := 2) (ja_cons (je_int (n := 0)) (ja_cons (je_int (n := 0)) ja_nil))) ja_nil)))))))))) jc_nil)) rfl (by decide)) rfl)) js_nil)
  (js_cons (js_par (ms := [.own 0, .own 0]) (fn := [.io 2, .ow 0, .ow 0, .ow 0, .ow 0, .ow 0, .ow 0, .ow 0, .ow 0, .ow 0, .ow 0]) rfl (ja_cons (je_sh (je_op op_addAll (ob1 oj_add) (je_b1 (je_int (n := 0))) (je_r1 (je_b1 (je_callK k__law_take hr rfl (jc_io (pv 0) rfl (jc_s (je_int (n := 0)) jc_nil)) rfl (by decide)))))) (ja_cons (je_sh (je_op op_addAll (ob1 oj_add) (je_b1 (je_int (n := 0))) (je_r1 (je_b1 (je_callK k__law_take hr rfl (jc_io (pv 0) rfl (jc_s (je_int (n := 0)) jc_nil)) rfl (by decide)))))) ja_nil)) (jp_cons (pg_name scp.nd rfl (by first | exact .inl rfl | exact .inr rfl)) rfl rfl (by decide) (jp_cons (pg_name scp.nd rfl (by first | exact .inl rfl | exact .inr rfl)) rfl rfl (by decide) jp_nil)))
  (js_cons (js_set (i := 4) (fn := [.io 2, .ow 0, .ow 0, .ow 0, .ow 0, .ow 0, .ow 0, .ow 0, .ow 0, .ow 0, .ow 0]) scp.nd rfl (by first | exact .inl rfl | exact .inr rfl) (je_sh (je_lst (n := 0) (k := 0) ja_nil)) rfl rfl (by decide) rfl)
  (js_cons (js_for (ks := [5]) (f0 := [.io 2, .ow 0, .ow 0, .ow 0, .ow 0, .ow 0, .ow 0, .ow 0, .ow 0, .ow 0, .ow 0]) (f2 := [.io 2, .ow 0, .ow 0, .ow 0, .ow 0, .ow 0, .ow 0, .ow 0, .ow 0, .ow 0, .ow 0]) (f1 := [.io 2, .ow 0, .ow 0, .ow 0, .ow 0, .ow 0, .ow 0, .ow 0, .ow 0, .ow 0, .ow 0]) PassesOwn.never rfl (ji_rg1 rfl z.range_ (je_vs (pv 2) rfl)) rfl (jg_nm (pg_name scp.nd rfl (by first | exact .inl rfl | exact .inr rfl)) rfl (by decide) rfl) (js_one (js_set (i := 4) (fn := [.io 2, .ow 0, .ow 0, .ow 0, .ow 0, .ow 0, .ow 0, .ow 0, .ow 0, .ow 0, .ow 0]) scp.nd rfl (by first | exact .inl rfl | exact .inr rfl) (je_sh (je_op op_addAll (ob1 oj_add) (je_b1 (je_vs (pv 4) rfl)) (je_r1 (je_b1 (je_sh (je_lc (own := [("b", 9)]) rfl scp.nd (ji_rg1 rfl z.range_ (je_vs (pv 3) rfl)) (blkOk_by (by kernel_rfl)) rfl rfl (fun _ _ _ _ _ => (jg_nm (pg_name scp.nd rfl (by first | exact .inl rfl | exact .inr rfl)) rfl (by decide) rfl)) (fun _ _ _ _ _ => jts_nil) (fun _ _ _ _ _ => (je_tup (n := 0) (k := 2) (ja_cons (je_vs (pv 5) rfl) (ja_cons (je_vs (pv 9) rfl) ja_nil)))))))))) rfl rfl (by decide) rfl)) rfl)
  (js_cons (js_if (fn := [.io 2, .ow 0, .ow 0, .ow 0, .ow 0, .ow 0, .ow 0, .ow 0, .ow 0, .ow 0, .ow 0]) (jt_cmp (op_eqD hr.units) oj_eq (je_vs (pv 1) rfl) (je_int (n := 0))) (js_one (js_set (i := 4) (fn := [.io 2, .ow 0, .ow 0, .ow 0, .ow 0, .ow 0, .ow 0, .ow 0, .ow 0, .ow 0, .ow 0]) scp.nd rfl (by first | exact .inl rfl | exact .inr rfl) (je_sh (je_lc (own := [("cell", 8)]) rfl scp.nd (ji_seq (je_b1 (je_vs (pv 4) rfl))) (blkOk_by (by kernel_rfl)) rfl rfl (fun _ _ _ _ _ => (jg_nm (pg_name scp.nd rfl (by first | exact .inl rfl | exact .inr rfl)) rfl (by decide) rfl)) (fun _ _ _ _ _ => (jts_one (jt_w (jw_or (jt_cmp (op_inLT (hu65 hr)) oj_in (je_vs (pv 8) rfl) (je_lst (n := 0) (k := 2) (ja_cons (je_tup (n := 0) (k := 2) (ja_cons (je_int (n := 0)) (ja_cons (je_int (n := 0)) ja_nil))) (ja_cons (je_tup (n := 0) (k := 2) (ja_cons (je_op op_sub (oj_sub (n := 0)) (je_vs (pv 2) rfl) (je_int (n := 0))) (ja_cons (je_op op_sub (oj_sub (n := 0)) (je_vs (pv 3) rfl) (je_int (n := 0))) ja_nil))) ja_nil)))) (jw_or1 (jt_cmp op_gt oj_gt (je_callK k__law_take hr rfl (jc_io (pv 0) rfl (jc_s (je_int (n := 0)) jc_nil)) rfl (by decide)) (je_int (n := 0)))))))) (fun _ _ _ _ _ => (je_vs (pv 8) rfl)))) rfl rfl (by decide) rfl)) js_nil)
  (js_cons (js_set (i := 6) (fn := [.io 2, .ow 0, .ow 0, .ow 0, .ow 0, .ow 0, .ow 0, .ow 0, .ow 0, .ow 0, .ow 0]) scp.nd rfl (by first | exact .inl rfl | exact .inr rfl) (je_sh (je_lst (n := 0) (k := 0) ja_nil)) rfl rfl (by decide) rfl)
  (js_cons (js_for (ks := [7]) (f0 := [.io 2, .ow 0, .ow 0, .ow 0, .ow 0, .ow 0, .ow 0, .ow 0, .ow 0, .ow 0, .ow 0]) (f2 := [.io 2, .ow 0, .ow 0, .ow 0, .ow 0, .ow 0, .ow 0, .ow 0, .ow 0, .ow 0, .ow 0]) (f1 := [.io 2, .ow 0, .ow 0, .ow 0, .ow 0, .ow 0, .ow 0, .ow 0, .ow 0, .ow 0, .ow 0]) PassesOwn.never rfl (ji_rg1 rfl z.range_ (je_fn call_len (fj_len (n := 0)) boot_len_ rfl z.len_ (ja_cons (je_vs (pv 4) rfl) ja_nil))) rfl (jg_nm (pg_name scp.nd rfl (by first | exact .inl rfl | exact .inr rfl)) rfl (by decide) rfl) (js_one (js_set (i := 6) (fn := [.io 2, .ow 0, .ow 0, .ow 0, .ow 0, .ow 0, .ow 0, .ow 0, .ow 0, .ow 0, .ow 0]) scp.nd rfl (by first | exact .inl rfl | exact .inr rfl) (je_sh (je_op op_addAll (ob1 oj_add) (je_b1 (je_vs (pv 6) rfl)) (je_r1 (je_b1 (je_sh (je_lc (own := [("j", 10)]) rfl scp.nd (ji_rg1 rfl z.range_ (je_fn call_len (fj_len (n := 0)) boot_len_ rfl z.len_ (ja_cons (je_vs (pv 4) rfl) ja_nil))) (blkOk_by (by kernel_rfl)) rfl rfl (fun _ _ _ _ _ => (jg_nm (pg_name scp.nd rfl (by first | exact .inl rfl | exact .inr rfl)) rfl (by decide) rfl)) (fun _ _ _ _ _ => (jts_one (jt_w (jw_and (jt_cmp (op_neD hr.units) oj_ne (je_vs (pv 10) rfl) (je_vs (pv 7) rfl)) (jw_and (jt_cmp op_le oj_le (je_ix ix_seq (ob1 oj_ix) (je_b1 (je_ix ix_seq (ob1 oj_ix) (je_b1 (je_vs (pv 4) rfl)) (je_vs (pv 7) rfl))) (je_int (n := 0))) (je_ix ix_seq (ob1 oj_ix) (je_b1 (je_ix ix_seq (ob1 oj_ix) (je_b1 (je_vs (pv 4) rfl)) (je_vs (pv 10) rfl))) (je_int (n := 0)))) (jw_and1 (jt_cmp op_le oj_le (je_ix ix_seq (ob1 oj_ix) (je_b1 (je_ix ix_seq (ob1 oj_ix) (je_b1 (je_vs (pv 4) rfl)) (je_vs (pv 7) rfl))) (je_int (n := 0))) (je_ix ix_seq (ob1 oj_ix) (je_b1 (je_ix ix_seq (ob1 oj_ix) (je_b1 (je_vs (pv 4) rfl)) (je_vs (pv 10) rfl))) (je_int (n := 0)))))))))) (fun _ _ _ _ _ => (je_tup (n := 0) (k := 2) (ja_cons (je_vs (pv 7) rfl) (ja_cons (je_vs (pv 10) rfl) ja_nil)))))))))) rfl rfl (by decide) rfl)) rfl)
  (js_one (js_ret (je_callK k__law_order_of hr rfl (jc_s (je_fn call_len (fj_len (n := 0)) boot_len_ rfl z.len_ (ja_cons (je_vs (pv 4) rfl) ja_nil)) (jc_b (je_b1 (je_vs (pv 6) rfl)) jc_nil)) rfl (by decide)) rfl)))))))))))
theorem sc__law_ups : FnScope ["order"] ["order"] (defScope (tp 29)) := ⟨rfl, rfl, rfl, by decide +kernel, rfl, by decide +kernel, by decide +kernel⟩
theorem ok__law_ups {f : Addr} {fd : FuncData} (D : Df K mg "_law_ups" (tp 29) ["order"] f fd) (z : Bz mg) (k__law_up : Kn P w K mg base 1 "_law_up" ["many", "pairs"] 9 [.ow 0, .b1] 0 f__law_up) : Kn P w K mg base 2 "_law_ups" ["order"] 1 [.b1] 0 f__law_ups := by
  have scp := sc__law_ups
  refine D.kn (jdef D.fn sc__law_ups rfl rfl (by decide) (fun cdv A outer s H E hr => ?_) (fn := [.b1]) rfl)
  unfold b__law_ups
  exact (js_one (js_ret (je_callK k__law_up hr rfl (jc_s (je_ix ix_seq (ob1 oj_ix) (je_vb (pv 0) rfl) (je_int (n := 0))) (jc_b (je_b1 (je_ix ix_seq (ob1 oj_ix) (je_vb (pv 0) rfl) (je_int (n := 0)))) jc_nil)) rfl (by decide)) rfl))
theorem sc__law_low : FnScope ["up", "lot", "k", "j"] ["up", "lot"] (defScope (tp 30)) := ⟨rfl, rfl, rfl, by decide +kernel, rfl, by decide +kernel, by decide +kernel⟩
theorem ok__law_low {f : Addr} {fd : FuncData} (D : Df K mg "_law_low" (tp 30) ["up", "lot"] f fd) (z : Bz mg) : Kn P w K mg base 1 "_law_low" ["up", "lot"] 4 [.b1, .b1] 0 f__law_low := by
  have scp := sc__law_low
  refine D.kn (jdef D.fn sc__law_low rfl rfl (by decide) (fun cdv A outer s H E hr => ?_) (fn := [.b1, .b1, .ow 0, .ow 0]) rfl)
  unfold b__law_low
  exact (js_one (js_ret (je_sh (je_lc (own := [("k", 2)]) rfl scp.nd (ji_seq (je_vb (pv 1) rfl)) (blkOk_by (by kernel_rfl)) rfl rfl (fun _ _ _ _ _ => (jg_nm (pg_name scp.nd rfl (by first | exact .inl rfl | exact .inr rfl)) rfl (by decide) rfl)) (fun _ _ _ _ _ => (jts_one (jt_cmp (op_eqD hr.units) oj_eq (je_fn call_len (fj_len (n := 0)) boot_len_ rfl z.len_ (ja_cons (je_lc (own := [("j", 3)]) rfl scp.nd (ji_seq (je_vb (pv 1) rfl)) (blkOk_by (by kernel_rfl)) rfl rfl (fun _ _ _ _ _ => (jg_nm (pg_name scp.nd rfl (by first | exact .inl rfl | exact .inr rfl)) rfl (by decide) rfl)) (fun _ _ _ _ _ => (jts_one (jt_cmp (op_inLT (hu65 hr)) oj_in (je_vs (pv 2) rfl) (je_ix ix_seq (ob1 oj_ix) (je_vb (pv 0) rfl) (je_vs (pv 3) rfl))))) (fun _ _ _ _ _ => (je_vs (pv 3) rfl))) ja_nil)) (je_int (n := 0))))) (fun _ _ _ _ _ => (je_vs (pv 2) rfl)))) rfl))
theorem sc__law_high : FnScope ["up", "lot", "k", "j"] ["up", "lot"] (defScope (tp 31)) := ⟨rfl, rfl, rfl, by decide +kernel, rfl, by decide +kernel, by decide +kernel⟩
theorem ok__law_high {f : Addr} {fd : FuncData} (D : Df K mg "_law_high" (tp 31) ["up", "lot"] f fd) (z : Bz mg) : Kn P w K mg base 1 "_law_high" ["up", "lot"] 4 [.b1, .b1] 0 f__law_high := by
  have scp := sc__law_high
  refine D.kn (jdef D.fn sc__law_high rfl rfl (by decide) (fun cdv A outer s H E hr => ?_) (fn := [.b1, .b1, .ow 0, .ow 0]) rfl)
  unfold b__law_high
  exact (js_one (js_ret (je_sh (je_lc (own := [("k", 2)]) rfl scp.nd (ji_seq (je_vb (pv 1) rfl)) (blkOk_by (by kernel_rfl)) rfl rfl (fun _ _ _ _ _ => (jg_nm (pg_name scp.nd rfl (by first | exact .inl rfl | exact .inr rfl)) rfl (by decide) rfl)) (fun _ _ _ _ _ => (jts_one (jt_cmp (op_eqD hr.units) oj_eq (je_fn call_len (fj_len (n := 0)) boot_len_ rfl z.len_ (ja_cons (je_lc (own := [("j", 3)]) rfl scp.nd (ji_seq (je_vb (pv 1) rfl)) (blkOk_by (by kernel_rfl)) rfl rfl (fun _ _ _ _ _ => (jg_nm (pg_name scp.nd rfl (by first | exact .inl rfl | exact .inr rfl)) rfl (by decide) rfl)) (fun _ _ _ _ _ => (jts_one (jt_cmp (op_inLT (hu65 hr)) oj_in (je_vs (pv 3) rfl) (je_ix ix_seq (ob1 oj_ix) (je_vb (pv 0) rfl) (je_vs (pv 2) rfl))))) (fun _ _ _ _ _ => (je_vs (pv 3) rfl))) ja_nil)) (je_int (n := 0))))) (fun _ _ _ _ _ => (je_vs (pv 2) rfl)))) rfl))
theorem sc__law_tables : FnScope ["order", "up", "many", "joins_v", "meets_v", "a", "high", "low", "b", "over", "under", "first", "last", "k"] ["order"] (defScope (tp 32)) := ⟨rfl, rfl, rfl, by decide +kernel, rfl, by decide +kernel, by decide +kernel⟩
theorem ok__law_tables {f : Addr} {fd : FuncData} (D : Df K mg "_law_tables" (tp 32) ["order"] f fd) (z : Bz mg) (k__law_ups : Kn P w K mg base 2 "_law_ups" ["order"] 1 [.b1] 0 f__law_ups) (k__law_high : Kn P w K mg base 2 "_law_high" ["up", "lot"] 4 [.b1, .b1] 0 f__law_high) (k__law_low : Kn P w K mg base 2 "_law_low" ["up", "lot"] 4 [.b1, .b1] 0 f__law_low) : Kn P w K mg base 3 "_law_tables" ["order"] 14 [.b1] 0 f__law_tables := by
  have scp := sc__law_tables
  refine D.kn (jdef D.fn sc__law_tables rfl rfl (by decide) (fun cdv A outer s H E hr => ?_) (fn := [.b1, .ow 0, .ow 0, .ow 0, .ow 0, .ow 0, .ow 0, .ow 0, .ow 0, .ow 0, .ow 0, .ow 0, .ow 0, .ow 0]) rfl)
  unfold b__law_tables
  exact (js_cons (js_par (ms := [.own 0, .own 0]) (fn := [.b1, .ow 0, .ow 0, .ow 0, .ow 0, .ow 0, .ow 0, .ow 0, .ow 0, .ow 0, .ow 0, .ow 0, .ow 0, .ow 0]) rfl (ja_cons (je_callK k__law_ups hr rfl (jc_b (je_vb (pv 0) rfl) jc_nil) rfl (by decide)) (ja_cons (je_sh (je_listRg1 rfl rfl z.list_ rfl z.range_ (je_ix ix_seq (ob1 oj_ix) (je_vb (pv 0) rfl) (je_int (n := 0))))) ja_nil)) (jp_cons (pg_name scp.nd rfl (by first | exact .inl rfl | exact .inr rfl)) rfl rfl (by decide) (jp_cons (pg_name scp.nd rfl (by first | exact .inl rfl | exact .inr rfl)) rfl rfl (by decide) jp_nil)))
  (js_cons (js_par2 (i := 3) (j := 4) (m1 := .own 1) (m2 := .own 1) (fn := [.b1, .ow 0, .ow 0, .ow 1, .ow 1, .ow 0, .ow 0, .ow 0, .ow 0, .ow 0, .ow 0, .ow 0, .ow 0, .ow 0]) rfl scp.nd rfl rfl (by decide) rfl rfl (ja_cons (je_lst (n := 0) (k := 0) ja_nil) (ja_cons (je_lst (n := 0) (k := 0) ja_nil) ja_nil)) rfl rfl rfl rfl (by decide) (by decide) rfl)
  (js_cons (js_for (ks := [5, 6, 7, 8, 9, 10, 11, 12]) (f0 := [.b1, .ow 0, .ow 0, .ow 1, .ow 1, .ow 0, .ow 0, .ow 0, .ow 0, .ow 0, .ow 0, .ow 0, .ow 0, .ow 0]) (f2 := [.b1, .ow 0, .ow 0, .ow 1, .ow 1, .ow 0, .ow 1, .ow 1, .ow 0, .ow 0, .ow 0, .ow 0, .ow 0, .ow 0]) (f1 := [.b1, .ow 0, .ow 0, .ow 1, .ow 1, .ow 0, .ow 0, .ow 0, .ow 0, .ow 0, .ow 0, .ow 0, .ow 0, .ow 0]) PassesOwn.never rfl (ji_seq (je_b1 (je_vs (pv 2) rfl))) rfl (jg_nm (pg_name scp.nd rfl (by first | exact .inl rfl | exact .inr rfl)) rfl (by decide) rfl) (js_cons (js_par2 (i := 6) (j := 7) (m1 := .own 1) (m2 := .own 1) (fn := [.b1, .ow 0, .ow 0, .ow 1, .ow 1, .ow 0, .ow 1, .ow 1, .ow 0, .ow 0, .ow 0, .ow 0, .ow 0, .ow 0]) rfl scp.nd rfl rfl (by decide) rfl rfl (ja_cons (je_lst (n := 0) (k := 0) ja_nil) (ja_cons (je_lst (n := 0) (k := 0) ja_nil) ja_nil)) rfl rfl rfl rfl (by decide) (by decide) rfl)
  (js_cons (js_for (ks := [8, 9, 10, 11, 12]) (f0 := [.b1, .ow 0, .ow 0, .ow 1, .ow 1, .ow 0, .ow 1, .ow 1, .ow 0, .ow 0, .ow 0, .ow 0, .ow 0, .ow 0]) (f2 := [.b1, .ow 0, .ow 0, .ow 1, .ow 1, .ow 0, .ow 1, .ow 1, .ow 0, .ow 0, .ow 0, .ow 0, .ow 0, .ow 0]) (f1 := [.b1, .ow 0, .ow 0, .ow 1, .ow 1, .ow 0, .ow 1, .ow 1, .ow 0, .ow 0, .ow 0, .ow 0, .ow 0, .ow 0]) PassesOwn.never rfl (ji_seq (je_b1 (je_vs (pv 2) rfl))) rfl (jg_nm (pg_name scp.nd rfl (by first | exact .inl rfl | exact .inr rfl)) rfl (by decide) rfl) (js_cons (js_setLc (i := 9) (k := 0) (fn := [.b1, .ow 0, .ow 0, .ow 1, .ow 1, .ow 0, .ow 1, .ow 1, .ow 0, .ow 0, .ow 0, .ow 0, .ow 0, .ow 0]) (own := [("k", 13)]) rfl scp.nd rfl rfl (ji_seq (je_b1 (je_vs (pv 2) rfl))) (blkOk_by (by kernel_rfl)) rfl rfl (fun _ _ _ _ _ => (jg_nm (pg_name scp.nd rfl (by first | exact .inl rfl | exact .inr rfl)) rfl (by decide) rfl)) (fun _ _ _ _ _ => (jts_one (jt_w (jw_and (jt_w (jw_or (jt_cmp (op_eqD hr.units) oj_eq (je_vs (pv 13) rfl) (je_vs (pv 5) rfl)) (jw_or1 (jt_cmp (op_inLT (hu65 hr)) oj_in (je_vs (pv 13) rfl) (je_ix ix_seq (ob1 oj_ix) (je_b1 (je_vs (pv 1) rfl)) (je_vs (pv 5) rfl)))))) (jw_and1 (jt_w (jw_or (jt_cmp (op_eqD hr.units) oj_eq (je_vs (pv 13) rfl) (je_vs (pv 8) rfl)) (jw_or1 (jt_cmp (op_inLT (hu65 hr)) oj_in (je_vs (pv 13) rfl) (je_ix ix_seq (ob1 oj_ix) (je_b1 (je_vs (pv 1) rfl)) (je_vs (pv 8) rfl))))))))))) (fun _ _ _ _ _ => (je_vs (pv 13) rfl)) (by decide) rfl (by decide) rfl)
  (js_cons (js_setLc (i := 10) (k := 0) (fn := [.b1, .ow 0, .ow 0, .ow 1, .ow 1, .ow 0, .ow 1, .ow 1, .ow 0, .ow 0, .ow 0, .ow 0, .ow 0, .ow 0]) (own := [("k", 13)]) rfl scp.nd rfl rfl (ji_seq (je_b1 (je_vs (pv 2) rfl))) (blkOk_by (by kernel_rfl)) rfl rfl (fun _ _ _ _ _ => (jg_nm (pg_name scp.nd rfl (by first | exact .inl rfl | exact .inr rfl)) rfl (by decide) rfl)) (fun _ _ _ _ _ => (jts_one (jt_w (jw_and (jt_w (jw_or (jt_cmp (op_eqD hr.units) oj_eq (je_vs (pv 13) rfl) (je_vs (pv 5) rfl)) (jw_or1 (jt_cmp (op_inLT (hu65 hr)) oj_in (je_vs (pv 5) rfl) (je_ix ix_seq (ob1 oj_ix) (je_b1 (je_vs (pv 1) rfl)) (je_vs (pv 13) rfl)))))) (jw_and1 (jt_w (jw_or (jt_cmp (op_eqD hr.units) oj_eq (je_vs (pv 13) rfl) (je_vs (pv 8) rfl)) (jw_or1 (jt_cmp (op_inLT (hu65 hr)) oj_in (je_vs (pv 8) rfl) (je_ix ix_seq (ob1 oj_ix) (je_b1 (je_vs (pv 1) rfl)) (je_vs (pv 13) rfl))))))))))) (fun _ _ _ _ _ => (je_vs (pv 13) rfl)) (by decide) rfl (by decide) rfl)
  (js_cons (js_par2 (i := 11) (j := 12) (m1 := .own 0) (m2 := .own 0) (fn := [.b1, .ow 0, .ow 0, .ow 1, .ow 1, .ow 0, .ow 1, .ow 1, .ow 0, .ow 0, .ow 0, .ow 0, .ow 0, .ow 0]) rfl scp.nd rfl rfl (by decide) rfl rfl (ja_cons (je_callK k__law_low hr rfl (jc_b (je_b1 (je_vs (pv 1) rfl)) (jc_b (je_b1 (je_vs (pv 9) rfl)) jc_nil)) rfl (by decide)) (ja_cons (je_callK k__law_high hr rfl (jc_b (je_b1 (je_vs (pv 1) rfl)) (jc_b (je_b1 (je_vs (pv 10) rfl)) jc_nil)) rfl (by decide)) ja_nil)) rfl rfl rfl rfl (by decide) (by decide) rfl)
  (js_cons (js_x (je_meth PySem.F.slot_list_append PySem.F.type_list_append mt_append mj_app (pv 6) (ja_cons (je_if (jt_cmp (op_eqD hr.units) oj_eq (je_fn call_len (fj_len (n := 0)) boot_len_ rfl z.len_ (ja_cons (je_vs (pv 11) rfl) ja_nil)) (je_int (n := 0))) (je_ix ix_seq (ob1 oj_ix) (je_b1 (je_vs (pv 11) rfl)) (je_int (n := 0))) (je_non (n := 0))) ja_nil) rfl))
  (js_one (js_x (je_meth PySem.F.slot_list_append PySem.F.type_list_append mt_append mj_app (pv 7) (ja_cons (je_if (jt_cmp (op_eqD hr.units) oj_eq (je_fn call_len (fj_len (n := 0)) boot_len_ rfl z.len_ (ja_cons (je_vs (pv 12) rfl) ja_nil)) (je_int (n := 0))) (je_ix ix_seq (ob1 oj_ix) (je_b1 (je_vs (pv 12) rfl)) (je_int (n := 0))) (je_non (n := 0))) ja_nil) rfl))))))) rfl)
  (js_cons (js_x (je_meth PySem.F.slot_list_append PySem.F.type_list_append mt_append mj_app (pv 3) (ja_cons (je_ty call_tupN (fj_tuple (n := 0)) boot_tuple_ rfl z.tuple_ (ja_cons (je_vr (pv 6) rfl) ja_nil)) ja_nil) rfl))
  (js_one (js_x (je_meth PySem.F.slot_list_append PySem.F.type_list_append mt_append mj_app (pv 4) (ja_cons (je_ty call_tupN (fj_tuple (n := 0)) boot_tuple_ rfl z.tuple_ (ja_cons (je_vr (pv 7) rfl) ja_nil)) ja_nil) rfl)))))) rfl)
  (js_one (js_ret (je_tup (n := 0) (k := 2) (ja_cons (je_ty call_tupN (fj_tuple (n := 0)) boot_tuple_ rfl z.tuple_ (ja_cons (je_vr (pv 3) rfl) ja_nil)) (ja_cons (je_ty call_tupN (fj_tuple (n := 0)) boot_tuple_ rfl z.tuple_ (ja_cons (je_vr (pv 4) rfl) ja_nil)) ja_nil))) rfl)))))
theorem sc__law_kinds : FnScope ["order", "joins_v", "meets_v", "up", "many", "good", "even", "a", "b", "c"] ["order"] (defScope (tp 37)) := ⟨rfl, rfl, rfl, by decide +kernel, rfl, by decide +kernel, by decide +kernel⟩
theorem ok__law_kinds {f : Addr} {fd : FuncData} (D : Df K mg "_law_kinds" (tp 37) ["order"] f fd) (z : Bz mg) (k__law_tables : Kn P w K mg base 3 "_law_tables" ["order"] 14 [.b1] 0 f__law_tables) (k__law_ups : Kn P w K mg base 3 "_law_ups" ["order"] 1 [.b1] 0 f__law_ups) : Kn P w K mg base 4 "_law_kinds" ["order"] 10 [.b1] 0 f__law_kinds := by
  have scp := sc__law_kinds
  refine D.kn (jdef D.fn sc__law_kinds rfl rfl (by decide) (fun cdv A outer s H E hr => ?_) (fn := [.b1, .ow 0, .ow 0, .ow 0, .ow 0, .ow 0, .ow 0, .ow 0, .ow 0, .ow 0]) rfl)
  unfold b__law_kinds
  exact (js_cons (js_asg (fn := [.b1, .ow 0, .ow 0, .ow 0, .ow 0, .ow 0, .ow 0, .ow 0, .ow 0, .ow 0]) (je_callK k__law_tables hr rfl (jc_b (je_vb (pv 0) rfl) jc_nil) rfl (by decide)) (jg_tp rfl (jgs_cons (pg_name scp.nd rfl (by first | exact .inl rfl | exact .inr rfl)) rfl (by decide) (jgs_cons (pg_name scp.nd rfl (by first | exact .inl rfl | exact .inr rfl)) rfl (by decide) jgs_nil))))
  (js_cons (js_par2 (i := 3) (j := 4) (m1 := .own 0) (m2 := .own 0) (fn := [.b1, .ow 0, .ow 0, .ow 0, .ow 0, .ow 0, .ow 0, .ow 0, .ow 0, .ow 0]) rfl scp.nd rfl rfl (by decide) rfl rfl (ja_cons (je_callK k__law_ups hr rfl (jc_b (je_vb (pv 0) rfl) jc_nil) rfl (by decide)) (ja_cons (je_sh (je_listRg1 rfl rfl z.list_ rfl z.range_ (je_ix ix_seq (ob1 oj_ix) (je_vb (pv 0) rfl) (je_int (n := 0))))) ja_nil)) rfl rfl rfl rfl (by decide) (by decide) rfl)
  (js_cons (js_asg (fn := [.b1, .ow 0, .ow 0, .ow 0, .ow 0, .ow 0, .ow 0, .ow 0, .ow 0, .ow 0]) (je_tup (n := 0) (k := 2) (ja_cons (je_bl (n := 0)) (ja_cons (je_bl (n := 0)) ja_nil))) (jg_tp rfl (jgs_cons (pg_name scp.nd rfl (by first | exact .inl rfl | exact .inr rfl)) rfl (by decide) (jgs_cons (pg_name scp.nd rfl (by first | exact .inl rfl | exact .inr rfl)) rfl (by decide) jgs_nil))))
  (js_cons (js_for (ks := [7, 8, 9]) (f0 := [.b1, .ow 0, .ow 0, .ow 0, .ow 0, .ow 0, .ow 0, .ow 0, .ow 0, .ow 0]) (f2 := [.b1, .ow 0, .ow 0, .ow 0, .ow 0, .ow 0, .ow 0, .ow 0, .ow 0, .ow 0]) (f1 := [.b1, .ow 0, .ow 0, .ow 0, .ow 0, .ow 0, .ow 0, .ow 0, .ow 0, .ow 0]) PassesOwn.never rfl (ji_seq (je_b1 (je_vs (pv 4) rfl))) rfl (jg_nm (pg_name scp.nd rfl (by first | exact .inl rfl | exact .inr rfl)) rfl (by decide) rfl) (js_one (js_for (ks := [8, 9]) (f0 := [.b1, .ow 0, .ow 0, .ow 0, .ow 0, .ow 0, .ow 0, .ow 0, .ow 0, .ow 0]) (f2 := [.b1, .ow 0, .ow 0, .ow 0, .ow 0, .ow 0, .ow 0, .ow 0, .ow 0, .ow 0]) (f1 := [.b1, .ow 0, .ow 0, .ow 0, .ow 0, .ow 0, .ow 0, .ow 0, .ow 0, .ow 0]) PassesOwn.never rfl (ji_seq (je_b1 (je_vs (pv 4) rfl))) rfl (jg_nm (pg_name scp.nd rfl (by first | exact .inl rfl | exact .inr rfl)) rfl (by decide) rfl) (js_one (js_for (ks := [9]) (f0 := [.b1, .ow 0, .ow 0, .ow 0, .ow 0, .ow 0, .ow 0, .ow 0, .ow 0, .ow 0]) (f2 := [.b1, .ow 0, .ow 0, .ow 0, .ow 0, .ow 0, .ow 0, .ow 0, .ow 0, .ow 0]) (f1 := [.b1, .ow 0, .ow 0, .ow 0, .ow 0, .ow 0, .ow 0, .ow 0, .ow 0, .ow 0]) PassesOwn.never rfl (ji_seq (je_b1 (je_vs (pv 4) rfl))) rfl (jg_nm (pg_name scp.nd rfl (by first | exact .inl rfl | exact .inr rfl)) rfl (by decide) rfl) (js_cons (js_set (i := 5) (fn := [.b1, .ow 0, .ow 0, .ow 0, .ow 0, .ow 0, .ow 0, .ow 0, .ow 0, .ow 0]) scp.nd rfl (by first | exact .inl rfl | exact .inr rfl) (je_and (je_tb (je_vs (pv 5) rfl)) (je_one (je_tb (je_cmp (op_eqD hr.units) (oj_eq (n := 0)) (je_ix ix_seq (ob1 oj_ix) (je_b1 (je_ix ix_seq (ob1 oj_ix) (je_b1 (je_vs (pv 2) rfl)) (je_vs (pv 7) rfl))) (je_ix ix_seq (ob1 oj_ix) (je_b1 (je_ix ix_seq (ob1 oj_ix) (je_b1 (je_vs (pv 1) rfl)) (je_vs (pv 8) rfl))) (je_vs (pv 9) rfl))) (je_ix ix_seq (ob1 oj_ix) (je_b1 (je_ix ix_seq (ob1 oj_ix) (je_b1 (je_vs (pv 1) rfl)) (je_ix ix_seq (ob1 oj_ix) (je_b1 (je_ix ix_seq (ob1 oj_ix) (je_b1 (je_vs (pv 2) rfl)) (je_vs (pv 7) rfl))) (je_vs (pv 8) rfl)))) (je_ix ix_seq (ob1 oj_ix) (je_b1 (je_ix ix_seq (ob1 oj_ix) (je_b1 (je_vs (pv 2) rfl)) (je_vs (pv 7) rfl))) (je_vs (pv 9) rfl))))))) rfl rfl (by decide) rfl)
  (js_one (js_if (fn := [.b1, .ow 0, .ow 0, .ow 0, .ow 0, .ow 0, .ow 0, .ow 0, .ow 0, .ow 0]) (jt_cmp (op_inLT (hu65 hr)) oj_in (je_vs (pv 9) rfl) (je_ix ix_seq (ob1 oj_ix) (je_b1 (je_vs (pv 3) rfl)) (je_vs (pv 7) rfl))) (js_one (js_set (i := 6) (fn := [.b1, .ow 0, .ow 0, .ow 0, .ow 0, .ow 0, .ow 0, .ow 0, .ow 0, .ow 0]) scp.nd rfl (by first | exact .inl rfl | exact .inr rfl) (je_and (je_tb (je_vs (pv 6) rfl)) (je_one (je_tb (je_cmp (op_eqD hr.units) (oj_eq (n := 0)) (je_ix ix_seq (ob1 oj_ix) (je_b1 (je_ix ix_seq (ob1 oj_ix) (je_b1 (je_vs (pv 1) rfl)) (je_vs (pv 7) rfl))) (je_ix ix_seq (ob1 oj_ix) (je_b1 (je_ix ix_seq (ob1 oj_ix) (je_b1 (je_vs (pv 2) rfl)) (je_vs (pv 8) rfl))) (je_vs (pv 9) rfl))) (je_ix ix_seq (ob1 oj_ix) (je_b1 (je_ix ix_seq (ob1 oj_ix) (je_b1 (je_vs (pv 2) rfl)) (je_ix ix_seq (ob1 oj_ix) (je_b1 (je_ix ix_seq (ob1 oj_ix) (je_b1 (je_vs (pv 1) rfl)) (je_vs (pv 7) rfl))) (je_vs (pv 8) rfl)))) (je_vs (pv 9) rfl)))))) rfl rfl (by decide) rfl)) js_nil))) rfl)) rfl)) rfl)
  (js_one (js_ret (je_tup (n := 0) (k := 2) (ja_cons (je_vs (pv 5) rfl) (ja_cons (je_vs (pv 6) rfl) ja_nil))) rfl))))))
theorem sc__law_is_lattice : FnScope ["order", "joins_v", "meets_v", "row"] ["order"] (defScope (tp 33)) := ⟨rfl, rfl, rfl, by decide +kernel, rfl, by decide +kernel, by decide +kernel⟩
theorem ok__law_is_lattice {f : Addr} {fd : FuncData} (D : Df K mg "_law_is_lattice" (tp 33) ["order"] f fd) (z : Bz mg) (k__law_tables : Kn P w K mg base 3 "_law_tables" ["order"] 14 [.b1] 0 f__law_tables) : Kn P w K mg base 4 "_law_is_lattice" ["order"] 4 [.b1] 0 f__law_is_lattice := by
  have scp := sc__law_is_lattice
  refine D.kn (jdef D.fn sc__law_is_lattice rfl rfl (by decide) (fun cdv A outer s H E hr => ?_) (fn := [.b1, .ow 0, .ow 0, .ow 0]) rfl)
  unfold b__law_is_lattice
  exact (js_cons (js_asg (fn := [.b1, .ow 0, .ow 0, .ow 0]) (je_callK k__law_tables hr rfl (jc_b (je_vb (pv 0) rfl) jc_nil) rfl (by decide)) (jg_tp rfl (jgs_cons (pg_name scp.nd rfl (by first | exact .inl rfl | exact .inr rfl)) rfl (by decide) (jgs_cons (pg_name scp.nd rfl (by first | exact .inl rfl | exact .inr rfl)) rfl (by decide) jgs_nil))))
  (js_one (js_ret (je_cmp (op_eqD hr.units) (oj_eq (n := 0)) (je_fn call_len (fj_len (n := 0)) boot_len_ rfl z.len_ (ja_cons (je_lc (own := [("row", 3)]) rfl scp.nd (ji_seq (je_b1 (je_sh (je_op op_addAll (ob1 oj_add) (je_b1 (je_vs (pv 1) rfl)) (je_r1 (je_b1 (je_vs (pv 2) rfl))))))) (blkOk_by (by kernel_rfl)) rfl rfl (fun _ _ _ _ _ => (jg_nm (pg_name scp.nd rfl (by first | exact .inl rfl | exact .inr rfl)) rfl (by decide) rfl)) (fun _ _ _ _ _ => (jts_one (jt_cmp (op_inLT (hu65 hr)) oj_in (je_non (n := 0)) (je_vs (pv 3) rfl)))) (fun _ _ _ _ _ => (je_vs (pv 3) rfl))) ja_nil)) (je_int (n := 0))) rfl)))
theorem sc_goals : FnScope ["pairs", "one", "first", "other"] ["pairs", "one"] (defScope (tp 2)) := ⟨rfl, rfl, rfl, by decide +kernel, rfl, by decide +kernel, by decide +kernel⟩
theorem ok_goals {f : Addr} {fd : FuncData} (D : Df K mg "goals" (tp 2) ["pairs", "one"] f fd) (z : Bz mg) : Kn P w K mg base 1 "goals" ["pairs", "one"] 4 [.b1, .b1] 1 f_goals := by
  have scp := sc_goals
  refine D.kn (jdef D.fn sc_goals rfl rfl (by decide) (fun cdv A outer s H E hr => ?_) (fn := [.b1, .b1, .ow 0, .ow 0]) rfl)
  unfold b_goals
  exact (js_one (js_ret (je_lc (own := [("first", 2), ("other", 3)]) rfl scp.nd (ji_seq (je_vb (pv 0) rfl)) (blkOk_by (by kernel_rfl)) rfl rfl (fun _ _ _ _ _ => (jg_tp rfl (jgs_cons (pg_name scp.nd rfl (by first | exact .inl rfl | exact .inr rfl)) rfl (by decide) (jgs_cons (pg_name scp.nd rfl (by first | exact .inl rfl | exact .inr rfl)) rfl (by decide) jgs_nil)))) (fun _ _ _ _ _ => (jts_one (jt_cmp (op_eqD hr.units) oj_eq (je_vs (pv 2) rfl) (je_vb (pv 1) rfl)))) (fun _ _ _ _ _ => (je_vs (pv 3) rfl))) rfl))
theorem sc_reached : FnScope ["pairs", "one", "found", "waiting", "now"] ["pairs", "one"] (defScope (tp 3)) := ⟨rfl, rfl, rfl, by decide +kernel, rfl, by decide +kernel, by decide +kernel⟩
theorem ok_reached {f : Addr} {fd : FuncData} (D : Df K mg "reached" (tp 3) ["pairs", "one"] f fd) (z : Bz mg) (k_goals : Kn P w K mg base 1 "goals" ["pairs", "one"] 4 [.b1, .b1] 1 f_goals) : Kn P w K mg base 2 "reached" ["pairs", "one"] 5 [.b1, .b1] 0 f_reached := by
  have scp := sc_reached
  refine D.kn (jdef D.fn sc_reached rfl rfl (by decide) (fun cdv A outer s H E hr => ?_) (fn := [.b1, .b1, .ow 0, .ow 0, .ow 0]) rfl)
  unfold b_reached
  exact (js_cons (js_set (i := 2) (fn := [.b1, .b1, .ow 1, .ow 0, .ow 0]) scp.nd rfl (by first | exact .inl rfl | exact .inr rfl) (je_lst (n := 0) (k := 0) ja_nil) rfl rfl (by decide) rfl)
  (js_cons (js_set (i := 3) (fn := [.b1, .b1, .ow 1, .ow 1, .ow 0]) scp.nd rfl (by first | exact .inl rfl | exact .inr rfl) (je_callK k_goals hr rfl (jc_b (je_vb (pv 0) rfl) (jc_b (je_vb (pv 1) rfl) jc_nil)) rfl (by decide)) rfl rfl (by decide) rfl)
  (js_cons (js_while (ks := [4]) (f0 := [.b1, .b1, .ow 1, .ow 1, .ow 0]) (f2 := [.b1, .b1, .ow 1, .ow 1, .ow 0]) PassesOwn.never rfl (jt_cmp (op_neD hr.units) oj_ne (je_vr (pv 3) rfl) (je_lst (n := 0) (k := 0) ja_nil)) (js_cons (js_set (i := 4) (fn := [.b1, .b1, .ow 1, .ow 1, .ow 0]) scp.nd rfl (by first | exact .inl rfl | exact .inr rfl) (je_meth0 PySem.F.slot_list_pop PySem.F.type_list_pop mt_pop mj_pop (pv 3) rfl) rfl rfl (by decide) rfl)
  (js_one (js_if (fn := [.b1, .b1, .ow 1, .ow 1, .ow 0]) (jt_cmp (op_ninLT (hu65 hr)) oj_nin (je_vs (pv 4) rfl) (je_vr (pv 2) rfl)) (js_cons (js_x (je_meth PySem.F.slot_list_append PySem.F.type_list_append mt_append mj_app (pv 2) (ja_cons (je_vs (pv 4) rfl) ja_nil) rfl))
  (js_one (js_x (je_meth PySem.F.slot_list_extend PySem.F.type_list_extend mt_extend mj_ext (pv 3) (ja_cons (je_r1 (je_b1 (je_sh (je_callK k_goals hr rfl (jc_b (je_vb (pv 0) rfl) (jc_b (je_b1 (je_vs (pv 4) rfl)) jc_nil)) rfl (by decide))))) ja_nil) rfl)))) js_nil))) rfl)
  (js_one (js_ret (je_sh (je_fn cr_sortedI fj_sorI boot_sorted_ rfl z.sorted_ (ja_cons (je_vr (pv 2) rfl) ja_nil))) rfl)))))
theorem sc_below : FnScope ["order", "one", "pair"] ["order", "one"] (defScope (tp 5)) := ⟨rfl, rfl, rfl, by decide +kernel, rfl, by decide +kernel, by decide +kernel⟩
theorem ok_below {f : Addr} {fd : FuncData} (D : Df K mg "below" (tp 5) ["order", "one"] f fd) (z : Bz mg) (k_reached : Kn P w K mg base 2 "reached" ["pairs", "one"] 5 [.b1, .b1] 0 f_reached) : Kn P w K mg base 3 "below" ["order", "one"] 3 [.b1, .b1] 0 f_below := by
  have scp := sc_below
  refine D.kn (jdef D.fn sc_below rfl rfl (by decide) (fun cdv A outer s H E hr => ?_) (fn := [.b1, .b1, .ow 0]) rfl)
  unfold b_below
  exact (js_one (js_ret (je_callK k_reached hr rfl (jc_b (je_b1 (je_sh (je_lc (own := [("pair", 2)]) rfl scp.nd (ji_seq (je_b1 (je_ix ix_seq (ob1 oj_ix) (je_vb (pv 0) rfl) (je_int (n := 0))))) (blkOk_by (by kernel_rfl)) rfl rfl (fun _ _ _ _ _ => (jg_nm (pg_name scp.nd rfl (by first | exact .inl rfl | exact .inr rfl)) rfl (by decide) rfl)) (fun _ _ _ _ _ => jts_nil) (fun _ _ _ _ _ => (je_sh (je_rev (je_r1 (je_b1 (je_vs (pv 2) rfl))))))))) (jc_b (je_vb (pv 1) rfl) jc_nil)) rfl (by decide)) rfl))
theorem sc_least_of : FnScope ["order", "lot", "one", "other"] ["order", "lot"] (defScope (tp 10)) := ⟨rfl, rfl, rfl, by decide +kernel, rfl, by decide +kernel, by decide +kernel⟩
theorem ok_least_of {f : Addr} {fd : FuncData} (D : Df K mg "least_of" (tp 10) ["order", "lot"] f fd) (z : Bz mg) (k_below : Kn P w K mg base 3 "below" ["order", "one"] 3 [.b1, .b1] 0 f_below) : Kn P w K mg base 4 "least_of" ["order", "lot"] 4 [.b1, .b1] 0 f_least_of := by
  have scp := sc_least_of
  refine D.kn (jdef D.fn sc_least_of rfl rfl (by decide) (fun cdv A outer s H E hr => ?_) (fn := [.b1, .b1, .ow 0, .ow 0]) rfl)
  unfold b_least_of
  exact (js_one (js_ret (je_sh (je_lc (own := [("one", 2)]) rfl scp.nd (ji_seq (je_vb (pv 1) rfl)) (blkOk_by (by kernel_rfl)) rfl rfl (fun _ _ _ _ _ => (jg_nm (pg_name scp.nd rfl (by first | exact .inl rfl | exact .inr rfl)) rfl (by decide) rfl)) (fun _ _ _ _ _ => (jts_one (jt_not (jt_val (je_fn (cr_any rfl) (fj_any (n := 0)) boot_any_ rfl z.any_ (ja_cons (je_lc (own := [("other", 3)]) rfl scp.nd (ji_seq (je_vb (pv 1) rfl)) (blkOk_by (by kernel_rfl)) rfl rfl (fun _ _ _ _ _ => (jg_nm (pg_name scp.nd rfl (by first | exact .inl rfl | exact .inr rfl)) rfl (by decide) rfl)) (fun _ _ _ _ _ => jts_nil) (fun _ _ _ _ _ => (je_cmp (op_inLT (hu65 hr)) (oj_in (n := 0)) (je_vs (pv 3) rfl) (je_callK k_below hr rfl (jc_b (je_vb (pv 0) rfl) (jc_b (je_b1 (je_vs (pv 2) rfl)) jc_nil)) rfl (by decide))))) ja_nil)))))) (fun _ _ _ _ _ => (je_vs (pv 2) rfl)))) rfl))
theorem sc_above : FnScope ["order", "one"] ["order", "one"] (defScope (tp 4)) := ⟨rfl, rfl, rfl, by decide +kernel, rfl, by decide +kernel, by decide +kernel⟩
theorem ok_above {f : Addr} {fd : FuncData} (D : Df K mg "above" (tp 4) ["order", "one"] f fd) (z : Bz mg) (k_reached : Kn P w K mg base 2 "reached" ["pairs", "one"] 5 [.b1, .b1] 0 f_reached) : Kn P w K mg base 3 "above" ["order", "one"] 2 [.b1, .b1] 0 f_above := by
  have scp := sc_above
  refine D.kn (jdef D.fn sc_above rfl rfl (by decide) (fun cdv A outer s H E hr => ?_) (fn := [.b1, .b1]) rfl)
  unfold b_above
  exact (js_one (js_ret (je_callK k_reached hr rfl (jc_b (je_b1 (je_ix ix_seq (ob1 oj_ix) (je_vb (pv 0) rfl) (je_int (n := 0)))) (jc_b (je_vb (pv 1) rfl) jc_nil)) rfl (by decide)) rfl))
theorem sc_upper : FnScope ["order", "one", "other", "first", "second", "k"] ["order", "one", "other"] (defScope (tp 8)) := ⟨rfl, rfl, rfl, by decide +kernel, rfl, by decide +kernel, by decide +kernel⟩
theorem ok_upper {f : Addr} {fd : FuncData} (D : Df K mg "upper" (tp 8) ["order", "one", "other"] f fd) (z : Bz mg) (k_above : Kn P w K mg base 3 "above" ["order", "one"] 2 [.b1, .b1] 0 f_above) : Kn P w K mg base 4 "upper" ["order", "one", "other"] 6 [.b1, .ow 0, .ow 0] 0 f_upper := by
  have scp := sc_upper
  refine D.kn (jdef D.fn sc_upper rfl rfl (by decide) (fun cdv A outer s H E hr => ?_) (fn := [.b1, .ow 0, .ow 0, .ow 0, .ow 0, .ow 0]) rfl)
  unfold b_upper
  exact (js_cons (js_par (ms := [.own 0, .own 0]) (fn := [.b1, .ow 0, .ow 0, .ow 0, .ow 0, .ow 0]) rfl (ja_cons (je_sh (je_op op_addAll (ob1 oj_add) (je_b1 (je_sh (je_lst (n := 0) (k := 1) (ja_cons (je_vs (pv 1) rfl) ja_nil)))) (je_r1 (je_b1 (je_callK k_above hr rfl (jc_b (je_vb (pv 0) rfl) (jc_b (je_b1 (je_vs (pv 1) rfl)) jc_nil)) rfl (by decide)))))) (ja_cons (je_sh (je_op op_addAll (ob1 oj_add) (je_b1 (je_sh (je_lst (n := 0) (k := 1) (ja_cons (je_vs (pv 2) rfl) ja_nil)))) (je_r1 (je_b1 (je_callK k_above hr rfl (jc_b (je_vb (pv 0) rfl) (jc_b (je_b1 (je_vs (pv 2) rfl)) jc_nil)) rfl (by decide)))))) ja_nil)) (jp_cons (pg_name scp.nd rfl (by first | exact .inl rfl | exact .inr rfl)) rfl rfl (by decide) (jp_cons (pg_name scp.nd rfl (by first | exact .inl rfl | exact .inr rfl)) rfl rfl (by decide) jp_nil)))
  (js_one (js_ret (je_sh (je_fn cr_sortedI fj_sorI boot_sorted_ rfl z.sorted_ (ja_cons (je_lc (own := [("k", 5)]) rfl scp.nd (ji_seq (je_b1 (je_vs (pv 3) rfl))) (blkOk_by (by kernel_rfl)) rfl rfl (fun _ _ _ _ _ => (jg_nm (pg_name scp.nd rfl (by first | exact .inl rfl | exact .inr rfl)) rfl (by decide) rfl)) (fun _ _ _ _ _ => (jts_one (jt_cmp (op_inLT (hu65 hr)) oj_in (je_vs (pv 5) rfl) (je_vs (pv 4) rfl)))) (fun _ _ _ _ _ => (je_vs (pv 5) rfl))) ja_nil))) rfl)))
theorem sc_join : FnScope ["order", "one", "other", "told"] ["order", "one", "other"] (defScope (tp 12)) := ⟨rfl, rfl, rfl, by decide +kernel, rfl, by decide +kernel, by decide +kernel⟩
theorem ok_join {f : Addr} {fd : FuncData} (D : Df K mg "join" (tp 12) ["order", "one", "other"] f fd) (z : Bz mg) (k_upper : Kn P w K mg base 4 "upper" ["order", "one", "other"] 6 [.b1, .ow 0, .ow 0] 0 f_upper) (k_least_of : Kn P w K mg base 4 "least_of" ["order", "lot"] 4 [.b1, .b1] 0 f_least_of) : Kn P w K mg base 5 "join" ["order", "one", "other"] 4 [.b1, .ow 0, .ow 0] 0 f_join := by
  have scp := sc_join
  refine D.kn (jdef D.fn sc_join rfl rfl (by decide) (fun cdv A outer s H E hr => ?_) (fn := [.b1, .ow 0, .ow 0, .ow 0]) rfl)
  unfold b_join
  exact (js_cons (js_set (i := 3) (fn := [.b1, .ow 0, .ow 0, .ow 0]) scp.nd rfl (by first | exact .inl rfl | exact .inr rfl) (je_callK k_least_of hr rfl (jc_b (je_vb (pv 0) rfl) (jc_b (je_b1 (je_callK k_upper hr rfl (jc_b (je_vb (pv 0) rfl) (jc_s (je_vs (pv 1) rfl) (jc_s (je_vs (pv 2) rfl) jc_nil))) rfl (by decide))) jc_nil)) rfl (by decide)) rfl rfl (by decide) rfl)
  (js_one (js_ret (je_if (jt_cmp (op_eqD hr.units) oj_eq (je_fn call_len (fj_len (n := 0)) boot_len_ rfl z.len_ (ja_cons (je_vs (pv 3) rfl) ja_nil)) (je_int (n := 0))) (je_ix ix_seq (ob1 oj_ix) (je_b1 (je_vs (pv 3) rfl)) (je_int (n := 0))) (je_non (n := 0))) rfl)))
theorem sc_joins : FnScope ["order", "one", "other"] ["order"] (defScope (tp 14)) := ⟨rfl, rfl, rfl, by decide +kernel, rfl, by decide +kernel, by decide +kernel⟩
theorem ok_joins {f : Addr} {fd : FuncData} (D : Df K mg "joins" (tp 14) ["order"] f fd) (z : Bz mg) (k_join : Kn P w K mg base 5 "join" ["order", "one", "other"] 4 [.b1, .ow 0, .ow 0] 0 f_join) : Kn P w K mg base 6 "joins" ["order"] 3 [.b1] 0 f_joins := by
  have scp := sc_joins
  refine D.kn (jdef D.fn sc_joins rfl rfl (by decide) (fun cdv A outer s H E hr => ?_) (fn := [.b1, .ow 0, .ow 0]) rfl)
  unfold b_joins
  exact (js_one (js_ret (je_ty call_tupN (fj_tuple (n := 0)) boot_tuple_ rfl z.tuple_ (ja_cons (je_r1 (je_b1 (je_sh (je_lc (own := [("one", 1)]) rfl scp.nd (ji_rg1 rfl z.range_ (je_ix ix_seq (ob1 oj_ix) (je_vb (pv 0) rfl) (je_int (n := 0)))) (blkOk_by (by kernel_rfl)) rfl rfl (fun _ _ _ _ _ => (jg_nm (pg_name scp.nd rfl (by first | exact .inl rfl | exact .inr rfl)) rfl (by decide) rfl)) (fun _ _ _ _ _ => jts_nil) (fun _ _ _ _ _ => (je_ty call_tupN (fj_tuple (n := 0)) boot_tuple_ rfl z.tuple_ (ja_cons (je_r1 (je_b1 (je_sh (je_lc (own := [("other", 2)]) rfl scp.nd (ji_rg1 rfl z.range_ (je_ix ix_seq (ob1 oj_ix) (je_vb (pv 0) rfl) (je_int (n := 0)))) (blkOk_by (by kernel_rfl)) rfl rfl (fun _ _ _ _ _ => (jg_nm (pg_name scp.nd rfl (by first | exact .inl rfl | exact .inr rfl)) rfl (by decide) rfl)) (fun _ _ _ _ _ => jts_nil) (fun _ _ _ _ _ => (je_callK k_join hr rfl (jc_b (je_vb (pv 0) rfl) (jc_s (je_vs (pv 1) rfl) (jc_s (je_vs (pv 2) rfl) jc_nil))) rfl (by decide))))))) ja_nil))))))) ja_nil)) rfl))
theorem sc_greatest_of : FnScope ["order", "lot", "one", "other"] ["order", "lot"] (defScope (tp 11)) := ⟨rfl, rfl, rfl, by decide +kernel, rfl, by decide +kernel, by decide +kernel⟩
theorem ok_greatest_of {f : Addr} {fd : FuncData} (D : Df K mg "greatest_of" (tp 11) ["order", "lot"] f fd) (z : Bz mg) (k_above : Kn P w K mg base 3 "above" ["order", "one"] 2 [.b1, .b1] 0 f_above) : Kn P w K mg base 4 "greatest_of" ["order", "lot"] 4 [.b1, .b1] 0 f_greatest_of := by
  have scp := sc_greatest_of
  refine D.kn (jdef D.fn sc_greatest_of rfl rfl (by decide) (fun cdv A outer s H E hr => ?_) (fn := [.b1, .b1, .ow 0, .ow 0]) rfl)
  unfold b_greatest_of
  exact (js_one (js_ret (je_sh (je_lc (own := [("one", 2)]) rfl scp.nd (ji_seq (je_vb (pv 1) rfl)) (blkOk_by (by kernel_rfl)) rfl rfl (fun _ _ _ _ _ => (jg_nm (pg_name scp.nd rfl (by first | exact .inl rfl | exact .inr rfl)) rfl (by decide) rfl)) (fun _ _ _ _ _ => (jts_one (jt_not (jt_val (je_fn (cr_any rfl) (fj_any (n := 0)) boot_any_ rfl z.any_ (ja_cons (je_lc (own := [("other", 3)]) rfl scp.nd (ji_seq (je_vb (pv 1) rfl)) (blkOk_by (by kernel_rfl)) rfl rfl (fun _ _ _ _ _ => (jg_nm (pg_name scp.nd rfl (by first | exact .inl rfl | exact .inr rfl)) rfl (by decide) rfl)) (fun _ _ _ _ _ => jts_nil) (fun _ _ _ _ _ => (je_cmp (op_inLT (hu65 hr)) (oj_in (n := 0)) (je_vs (pv 3) rfl) (je_callK k_above hr rfl (jc_b (je_vb (pv 0) rfl) (jc_b (je_b1 (je_vs (pv 2) rfl)) jc_nil)) rfl (by decide))))) ja_nil)))))) (fun _ _ _ _ _ => (je_vs (pv 2) rfl)))) rfl))
theorem sc_lower : FnScope ["order", "one", "other", "first", "second", "k"] ["order", "one", "other"] (defScope (tp 9)) := ⟨rfl, rfl, rfl, by decide +kernel, rfl, by decide +kernel, by decide +kernel⟩
theorem ok_lower {f : Addr} {fd : FuncData} (D : Df K mg "lower" (tp 9) ["order", "one", "other"] f fd) (z : Bz mg) (k_below : Kn P w K mg base 3 "below" ["order", "one"] 3 [.b1, .b1] 0 f_below) : Kn P w K mg base 4 "lower" ["order", "one", "other"] 6 [.b1, .ow 0, .ow 0] 0 f_lower := by
  have scp := sc_lower
  refine D.kn (jdef D.fn sc_lower rfl rfl (by decide) (fun cdv A outer s H E hr => ?_) (fn := [.b1, .ow 0, .ow 0, .ow 0, .ow 0, .ow 0]) rfl)
  unfold b_lower
  exact (js_cons (js_par (ms := [.own 0, .own 0]) (fn := [.b1, .ow 0, .ow 0, .ow 0, .ow 0, .ow 0]) rfl (ja_cons (je_sh (je_op op_addAll (ob1 oj_add) (je_b1 (je_sh (je_lst (n := 0) (k := 1) (ja_cons (je_vs (pv 1) rfl) ja_nil)))) (je_r1 (je_b1 (je_callK k_below hr rfl (jc_b (je_vb (pv 0) rfl) (jc_b (je_b1 (je_vs (pv 1) rfl)) jc_nil)) rfl (by decide)))))) (ja_cons (je_sh (je_op op_addAll (ob1 oj_add) (je_b1 (je_sh (je_lst (n := 0) (k := 1) (ja_cons (je_vs (pv 2) rfl) ja_nil)))) (je_r1 (je_b1 (je_callK k_below hr rfl (jc_b (je_vb (pv 0) rfl) (jc_b (je_b1 (je_vs (pv 2) rfl)) jc_nil)) rfl (by decide)))))) ja_nil)) (jp_cons (pg_name scp.nd rfl (by first | exact .inl rfl | exact .inr rfl)) rfl rfl (by decide) (jp_cons (pg_name scp.nd rfl (by first | exact .inl rfl | exact .inr rfl)) rfl rfl (by decide) jp_nil)))
  (js_one (js_ret (je_sh (je_fn cr_sortedI fj_sorI boot_sorted_ rfl z.sorted_ (ja_cons (je_lc (own := [("k", 5)]) rfl scp.nd (ji_seq (je_b1 (je_vs (pv 3) rfl))) (blkOk_by (by kernel_rfl)) rfl rfl (fun _ _ _ _ _ => (jg_nm (pg_name scp.nd rfl (by first | exact .inl rfl | exact .inr rfl)) rfl (by decide) rfl)) (fun _ _ _ _ _ => (jts_one (jt_cmp (op_inLT (hu65 hr)) oj_in (je_vs (pv 5) rfl) (je_vs (pv 4) rfl)))) (fun _ _ _ _ _ => (je_vs (pv 5) rfl))) ja_nil))) rfl)))
theorem sc_meet : FnScope ["order", "one", "other", "told"] ["order", "one", "other"] (defScope (tp 13)) := ⟨rfl, rfl, rfl, by decide +kernel, rfl, by decide +kernel, by decide +kernel⟩
theorem ok_meet {f : Addr} {fd : FuncData} (D : Df K mg "meet" (tp 13) ["order", "one", "other"] f fd) (z : Bz mg) (k_lower : Kn P w K mg base 4 "lower" ["order", "one", "other"] 6 [.b1, .ow 0, .ow 0] 0 f_lower) (k_greatest_of : Kn P w K mg base 4 "greatest_of" ["order", "lot"] 4 [.b1, .b1] 0 f_greatest_of) : Kn P w K mg base 5 "meet" ["order", "one", "other"] 4 [.b1, .ow 0, .ow 0] 0 f_meet := by
  have scp := sc_meet
  refine D.kn (jdef D.fn sc_meet rfl rfl (by decide) (fun cdv A outer s H E hr => ?_) (fn := [.b1, .ow 0, .ow 0, .ow 0]) rfl)
  unfold b_meet
  exact (js_cons (js_set (i := 3) (fn := [.b1, .ow 0, .ow 0, .ow 0]) scp.nd rfl (by first | exact .inl rfl | exact .inr rfl) (je_callK k_greatest_of hr rfl (jc_b (je_vb (pv 0) rfl) (jc_b (je_b1 (je_callK k_lower hr rfl (jc_b (je_vb (pv 0) rfl) (jc_s (je_vs (pv 1) rfl) (jc_s (je_vs (pv 2) rfl) jc_nil))) rfl (by decide))) jc_nil)) rfl (by decide)) rfl rfl (by decide) rfl)
  (js_one (js_ret (je_if (jt_cmp (op_eqD hr.units) oj_eq (je_fn call_len (fj_len (n := 0)) boot_len_ rfl z.len_ (ja_cons (je_vs (pv 3) rfl) ja_nil)) (je_int (n := 0))) (je_ix ix_seq (ob1 oj_ix) (je_b1 (je_vs (pv 3) rfl)) (je_int (n := 0))) (je_non (n := 0))) rfl)))
theorem sc_meets : FnScope ["order", "one", "other"] ["order"] (defScope (tp 15)) := ⟨rfl, rfl, rfl, by decide +kernel, rfl, by decide +kernel, by decide +kernel⟩
theorem ok_meets {f : Addr} {fd : FuncData} (D : Df K mg "meets" (tp 15) ["order"] f fd) (z : Bz mg) (k_meet : Kn P w K mg base 5 "meet" ["order", "one", "other"] 4 [.b1, .ow 0, .ow 0] 0 f_meet) : Kn P w K mg base 6 "meets" ["order"] 3 [.b1] 0 f_meets := by
  have scp := sc_meets
  refine D.kn (jdef D.fn sc_meets rfl rfl (by decide) (fun cdv A outer s H E hr => ?_) (fn := [.b1, .ow 0, .ow 0]) rfl)
  unfold b_meets
  exact (js_one (js_ret (je_ty call_tupN (fj_tuple (n := 0)) boot_tuple_ rfl z.tuple_ (ja_cons (je_r1 (je_b1 (je_sh (je_lc (own := [("one", 1)]) rfl scp.nd (ji_rg1 rfl z.range_ (je_ix ix_seq (ob1 oj_ix) (je_vb (pv 0) rfl) (je_int (n := 0)))) (blkOk_by (by kernel_rfl)) rfl rfl (fun _ _ _ _ _ => (jg_nm (pg_name scp.nd rfl (by first | exact .inl rfl | exact .inr rfl)) rfl (by decide) rfl)) (fun _ _ _ _ _ => jts_nil) (fun _ _ _ _ _ => (je_ty call_tupN (fj_tuple (n := 0)) boot_tuple_ rfl z.tuple_ (ja_cons (je_r1 (je_b1 (je_sh (je_lc (own := [("other", 2)]) rfl scp.nd (ji_rg1 rfl z.range_ (je_ix ix_seq (ob1 oj_ix) (je_vb (pv 0) rfl) (je_int (n := 0)))) (blkOk_by (by kernel_rfl)) rfl rfl (fun _ _ _ _ _ => (jg_nm (pg_name scp.nd rfl (by first | exact .inl rfl | exact .inr rfl)) rfl (by decide) rfl)) (fun _ _ _ _ _ => jts_nil) (fun _ _ _ _ _ => (je_callK k_meet hr rfl (jc_b (je_vb (pv 0) rfl) (jc_s (je_vs (pv 1) rfl) (jc_s (je_vs (pv 2) rfl) jc_nil))) rfl (by decide))))))) ja_nil))))))) ja_nil)) rfl))
theorem sc_ups : FnScope ["order", "one"] ["order"] (defScope (tp 6)) := ⟨rfl, rfl, rfl, by decide +kernel, rfl, by decide +kernel, by decide +kernel⟩
theorem ok_ups {f : Addr} {fd : FuncData} (D : Df K mg "ups" (tp 6) ["order"] f fd) (z : Bz mg) (k_above : Kn P w K mg base 3 "above" ["order", "one"] 2 [.b1, .b1] 0 f_above) : Kn P w K mg base 4 "ups" ["order"] 2 [.b1] 0 f_ups := by
  have scp := sc_ups
  refine D.kn (jdef D.fn sc_ups rfl rfl (by decide) (fun cdv A outer s H E hr => ?_) (fn := [.b1, .ow 0]) rfl)
  unfold b_ups
  exact (js_one (js_ret (je_sh (je_lc (own := [("one", 1)]) rfl scp.nd (ji_rg1 rfl z.range_ (je_ix ix_seq (ob1 oj_ix) (je_vb (pv 0) rfl) (je_int (n := 0)))) (blkOk_by (by kernel_rfl)) rfl rfl (fun _ _ _ _ _ => (jg_nm (pg_name scp.nd rfl (by first | exact .inl rfl | exact .inr rfl)) rfl (by decide) rfl)) (fun _ _ _ _ _ => jts_nil) (fun _ _ _ _ _ => (je_callK k_above hr rfl (jc_b (je_vb (pv 0) rfl) (jc_b (je_b1 (je_vs (pv 1) rfl)) jc_nil)) rfl (by decide))))) rfl))
theorem sc_pentagon : FnScope ["order", "up", "down", "over", "a", "b", "c"] ["order", "up", "down"] (defScope (tp 18)) := ⟨rfl, rfl, rfl, by decide +kernel, rfl, by decide +kernel, by decide +kernel⟩
theorem ok_pentagon {f : Addr} {fd : FuncData} (D : Df K mg "pentagon" (tp 18) ["order", "up", "down"] f fd) (z : Bz mg) (k_ups : Kn P w K mg base 4 "ups" ["order"] 2 [.b1] 0 f_ups) : Kn P w K mg base 5 "pentagon" ["order", "up", "down"] 7 [.b1, .b1, .b1] 0 f_pentagon := by
  have scp := sc_pentagon
  refine D.kn (jdef D.fn sc_pentagon rfl rfl (by decide) (fun cdv A outer s H E hr => ?_) (fn := [.b1, .b1, .b1, .ow 0, .ow 0, .ow 0, .ow 0]) rfl)
  unfold b_pentagon
  exact (js_cons (js_set (i := 3) (fn := [.b1, .b1, .b1, .ow 0, .ow 0, .ow 0, .ow 0]) scp.nd rfl (by first | exact .inl rfl | exact .inr rfl) (je_callK k_ups hr rfl (jc_b (je_vb (pv 0) rfl) jc_nil) rfl (by decide)) rfl rfl (by decide) rfl)
  (js_cons (js_for (ks := [4, 5, 6]) (f0 := [.b1, .b1, .b1, .ow 0, .ow 0, .ow 0, .ow 0]) (f2 := [.b1, .b1, .b1, .ow 0, .ow 0, .ow 0, .ow 0]) (f1 := [.b1, .b1, .b1, .ow 0, .ow 0, .ow 0, .ow 0]) PassesOwn.never rfl (ji_rg1 rfl z.range_ (je_ix ix_seq (ob1 oj_ix) (je_vb (pv 0) rfl) (je_int (n := 0)))) rfl (jg_nm (pg_name scp.nd rfl (by first | exact .inl rfl | exact .inr rfl)) rfl (by decide) rfl) (js_one (js_for (ks := [5, 6]) (f0 := [.b1, .b1, .b1, .ow 0, .ow 0, .ow 0, .ow 0]) (f2 := [.b1, .b1, .b1, .ow 0, .ow 0, .ow 0, .ow 0]) (f1 := [.b1, .b1, .b1, .ow 0, .ow 0, .ow 0, .ow 0]) PassesOwn.never rfl (ji_seq (je_b1 (je_ix ix_seq (ob1 oj_ix) (je_b1 (je_vs (pv 3) rfl)) (je_vs (pv 4) rfl)))) rfl (jg_nm (pg_name scp.nd rfl (by first | exact .inl rfl | exact .inr rfl)) rfl (by decide) rfl) (js_one (js_for (ks := [6]) (f0 := [.b1, .b1, .b1, .ow 0, .ow 0, .ow 0, .ow 0]) (f2 := [.b1, .b1, .b1, .ow 0, .ow 0, .ow 0, .ow 0]) (f1 := [.b1, .b1, .b1, .ow 0, .ow 0, .ow 0, .ow 0]) PassesOwn.never rfl (ji_rg1 rfl z.range_ (je_ix ix_seq (ob1 oj_ix) (je_vb (pv 0) rfl) (je_int (n := 0)))) rfl (jg_nm (pg_name scp.nd rfl (by first | exact .inl rfl | exact .inr rfl)) rfl (by decide) rfl) (js_one (js_if (fn := [.b1, .b1, .b1, .ow 0, .ow 0, .ow 0, .ow 0]) (jt_w (jw_and (jt_cmp (op_eqD hr.units) oj_eq (je_ix ix_seq (ob1 oj_ix) (je_b1 (je_ix ix_seq (ob1 oj_ix) (je_vb (pv 1) rfl) (je_vs (pv 4) rfl))) (je_vs (pv 6) rfl)) (je_ix ix_seq (ob1 oj_ix) (je_b1 (je_ix ix_seq (ob1 oj_ix) (je_vb (pv 1) rfl) (je_vs (pv 5) rfl))) (je_vs (pv 6) rfl))) (jw_and (jt_cmp (op_eqD hr.units) oj_eq (je_ix ix_seq (ob1 oj_ix) (je_b1 (je_ix ix_seq (ob1 oj_ix) (je_vb (pv 2) rfl) (je_vs (pv 4) rfl))) (je_vs (pv 6) rfl)) (je_ix ix_seq (ob1 oj_ix) (je_b1 (je_ix ix_seq (ob1 oj_ix) (je_vb (pv 2) rfl) (je_vs (pv 5) rfl))) (je_vs (pv 6) rfl))) (jw_and1 (jt_cmp (op_ninLT (hu65 hr)) oj_nin (je_vs (pv 6) rfl) (je_tup (n := 0) (k := 2) (ja_cons (je_vs (pv 4) rfl) (ja_cons (je_vs (pv 5) rfl) ja_nil)))))))) (js_one (js_if (fn := [.b1, .b1, .b1, .ow 0, .ow 0, .ow 0, .ow 0]) (jt_w (jw_and (jt_cmp (op_ninLT (hu65 hr)) oj_nin (je_vs (pv 6) rfl) (je_ix ix_seq (ob1 oj_ix) (je_b1 (je_vs (pv 3) rfl)) (je_vs (pv 4) rfl))) (jw_and (jt_cmp (op_ninLT (hu65 hr)) oj_nin (je_vs (pv 4) rfl) (je_ix ix_seq (ob1 oj_ix) (je_b1 (je_vs (pv 3) rfl)) (je_vs (pv 6) rfl))) (jw_and (jt_cmp (op_ninLT (hu65 hr)) oj_nin (je_vs (pv 6) rfl) (je_ix ix_seq (ob1 oj_ix) (je_b1 (je_vs (pv 3) rfl)) (je_vs (pv 5) rfl))) (jw_and1 (jt_cmp (op_ninLT (hu65 hr)) oj_nin (je_vs (pv 5) rfl) (je_ix ix_seq (ob1 oj_ix) (je_b1 (je_vs (pv 3) rfl)) (je_vs (pv 6) rfl)))))))) (js_one (js_ret (je_tup (n := 0) (k := 6) (ja_cons (je_str (n := 0)) (ja_cons (je_ix ix_seq (ob1 oj_ix) (je_b1 (je_ix ix_seq (ob1 oj_ix) (je_vb (pv 2) rfl) (je_vs (pv 4) rfl))) (je_vs (pv 6) rfl)) (ja_cons (je_vs (pv 4) rfl) (ja_cons (je_vs (pv 5) rfl) (ja_cons (je_vs (pv 6) rfl) (ja_cons (je_ix ix_seq (ob1 oj_ix) (je_b1 (je_ix ix_seq (ob1 oj_ix) (je_vb (pv 1) rfl) (je_vs (pv 4) rfl))) (je_vs (pv 6) rfl)) ja_nil))))))) rfl)) js_nil)) js_nil)) rfl)) rfl)) rfl)
  (js_one (js_ret (je_non (n := 0)) rfl))))
theorem sc_diamond : FnScope ["order", "up", "down", "many", "a", "b", "c", "low", "high"] ["order", "up", "down"] (defScope (tp 19)) := ⟨rfl, rfl, rfl, by decide +kernel, rfl, by decide +kernel, by decide +kernel⟩
theorem ok_diamond {f : Addr} {fd : FuncData} (D : Df K mg "diamond" (tp 19) ["order", "up", "down"] f fd) (z : Bz mg) : Kn P w K mg base 1 "diamond" ["order", "up", "down"] 9 [.b1, .b1, .b1] 0 f_diamond := by
  have scp := sc_diamond
  refine D.kn (jdef D.fn sc_diamond rfl rfl (by decide) (fun cdv A outer s H E hr => ?_) (fn := [.b1, .b1, .b1, .ow 0, .ow 0, .ow 0, .ow 0, .ow 0, .ow 0]) rfl)
  unfold b_diamond
  exact (js_cons (js_set (i := 3) (fn := [.b1, .b1, .b1, .ow 0, .ow 0, .ow 0, .ow 0, .ow 0, .ow 0]) scp.nd rfl (by first | exact .inl rfl | exact .inr rfl) (je_ix ix_seq (ob1 oj_ix) (je_vb (pv 0) rfl) (je_int (n := 0))) rfl rfl (by decide) rfl)
  (js_cons (js_for (ks := [4, 5, 6, 7, 8]) (f0 := [.b1, .b1, .b1, .ow 0, .ow 0, .ow 0, .ow 0, .ow 0, .ow 0]) (f2 := [.b1, .b1, .b1, .ow 0, .ow 0, .ow 0, .ow 0, .ow 0, .ow 0]) (f1 := [.b1, .b1, .b1, .ow 0, .ow 0, .ow 0, .ow 0, .ow 0, .ow 0]) PassesOwn.never rfl (ji_rg1 rfl z.range_ (je_vs (pv 3) rfl)) rfl (jg_nm (pg_name scp.nd rfl (by first | exact .inl rfl | exact .inr rfl)) rfl (by decide) rfl) (js_one (js_for (ks := [5, 6, 7, 8]) (f0 := [.b1, .b1, .b1, .ow 0, .ow 0, .ow 0, .ow 0, .ow 0, .ow 0]) (f2 := [.b1, .b1, .b1, .ow 0, .ow 0, .ow 0, .ow 0, .ow 0, .ow 0]) (f1 := [.b1, .b1, .b1, .ow 0, .ow 0, .ow 0, .ow 0, .ow 0, .ow 0]) PassesOwn.never rfl (ji_rg2 rfl z.range_ (je_sh (je_op op_addAll (ob1 oj_add) (je_b1 (je_vs (pv 4) rfl)) (je_r1 (je_b1 (je_int (n := 0)))))) (je_vs (pv 3) rfl)) rfl (jg_nm (pg_name scp.nd rfl (by first | exact .inl rfl | exact .inr rfl)) rfl (by decide) rfl) (js_one (js_for (ks := [6, 7, 8]) (f0 := [.b1, .b1, .b1, .ow 0, .ow 0, .ow 0, .ow 0, .ow 0, .ow 0]) (f2 := [.b1, .b1, .b1, .ow 0, .ow 0, .ow 0, .ow 0, .ow 0, .ow 0]) (f1 := [.b1, .b1, .b1, .ow 0, .ow 0, .ow 0, .ow 0, .ow 0, .ow 0]) PassesOwn.never rfl (ji_rg2 rfl z.range_ (je_sh (je_op op_addAll (ob1 oj_add) (je_b1 (je_vs (pv 5) rfl)) (je_r1 (je_b1 (je_int (n := 0)))))) (je_vs (pv 3) rfl)) rfl (jg_nm (pg_name scp.nd rfl (by first | exact .inl rfl | exact .inr rfl)) rfl (by decide) rfl) (js_cons (js_par2 (i := 7) (j := 8) (m1 := .own 0) (m2 := .own 0) (fn := [.b1, .b1, .b1, .ow 0, .ow 0, .ow 0, .ow 0, .ow 0, .ow 0]) rfl scp.nd rfl rfl (by decide) rfl rfl (ja_cons (je_ix ix_seq (ob1 oj_ix) (je_b1 (je_ix ix_seq (ob1 oj_ix) (je_vb (pv 2) rfl) (je_vs (pv 4) rfl))) (je_vs (pv 5) rfl)) (ja_cons (je_ix ix_seq (ob1 oj_ix) (je_b1 (je_ix ix_seq (ob1 oj_ix) (je_vb (pv 1) rfl) (je_vs (pv 4) rfl))) (je_vs (pv 5) rfl)) ja_nil)) rfl rfl rfl rfl (by decide) (by decide) rfl)
  (js_one (js_if (fn := [.b1, .b1, .b1, .ow 0, .ow 0, .ow 0, .ow 0, .ow 0, .ow 0]) (jt_cmp (op_eqD hr.units) oj_eq (je_tup (n := 0) (k := 4) (ja_cons (je_ix ix_seq (ob1 oj_ix) (je_b1 (je_ix ix_seq (ob1 oj_ix) (je_vb (pv 2) rfl) (je_vs (pv 4) rfl))) (je_vs (pv 6) rfl)) (ja_cons (je_ix ix_seq (ob1 oj_ix) (je_b1 (je_ix ix_seq (ob1 oj_ix) (je_vb (pv 2) rfl) (je_vs (pv 5) rfl))) (je_vs (pv 6) rfl)) (ja_cons (je_ix ix_seq (ob1 oj_ix) (je_b1 (je_ix ix_seq (ob1 oj_ix) (je_vb (pv 1) rfl) (je_vs (pv 4) rfl))) (je_vs (pv 6) rfl)) (ja_cons (je_ix ix_seq (ob1 oj_ix) (je_b1 (je_ix ix_seq (ob1 oj_ix) (je_vb (pv 1) rfl) (je_vs (pv 5) rfl))) (je_vs (pv 6) rfl)) ja_nil))))) (je_tup (n := 0) (k := 4) (ja_cons (je_vs (pv 7) rfl) (ja_cons (je_vs (pv 7) rfl) (ja_cons (je_vs (pv 8) rfl) (ja_cons (je_vs (pv 8) rfl) ja_nil)))))) (js_one (js_if (fn := [.b1, .b1, .b1, .ow 0, .ow 0, .ow 0, .ow 0, .ow 0, .ow 0]) (jt_w (jw_and (jt_cmp (op_ninLT (hu65 hr)) oj_nin (je_vs (pv 7) rfl) (je_tup (n := 0) (k := 3) (ja_cons (je_vs (pv 4) rfl) (ja_cons (je_vs (pv 5) rfl) (ja_cons (je_vs (pv 6) rfl) ja_nil))))) (jw_and1 (jt_cmp (op_ninLT (hu65 hr)) oj_nin (je_vs (pv 8) rfl) (je_tup (n := 0) (k := 3) (ja_cons (je_vs (pv 4) rfl) (ja_cons (je_vs (pv 5) rfl) (ja_cons (je_vs (pv 6) rfl) ja_nil)))))))) (js_one (js_ret (je_tup (n := 0) (k := 6) (ja_cons (je_str (n := 0)) (ja_cons (je_vs (pv 7) rfl) (ja_cons (je_vs (pv 4) rfl) (ja_cons (je_vs (pv 5) rfl) (ja_cons (je_vs (pv 6) rfl) (ja_cons (je_vs (pv 8) rfl) ja_nil))))))) rfl)) js_nil)) js_nil))) rfl)) rfl)) rfl)
  (js_one (js_ret (je_non (n := 0)) rfl))))
theorem sc_bar_in : FnScope ["order", "up", "down", "told"] ["order", "up", "down"] (defScope (tp 20)) := ⟨rfl, rfl, rfl, by decide +kernel, rfl, by decide +kernel, by decide +kernel⟩
theorem ok_bar_in {f : Addr} {fd : FuncData} (D : Df K mg "bar_in" (tp 20) ["order", "up", "down"] f fd) (z : Bz mg) (k_pentagon : Kn P w K mg base 5 "pentagon" ["order", "up", "down"] 7 [.b1, .b1, .b1] 0 f_pentagon) (k_diamond : Kn P w K mg base 5 "diamond" ["order", "up", "down"] 9 [.b1, .b1, .b1] 0 f_diamond) : Kn P w K mg base 6 "bar_in" ["order", "up", "down"] 4 [.b1, .b1, .b1] 0 f_bar_in := by
  have scp := sc_bar_in
  refine D.kn (jdef D.fn sc_bar_in rfl rfl (by decide) (fun cdv A outer s H E hr => ?_) (fn := [.b1, .b1, .b1, .ow 0]) rfl)
  unfold b_bar_in
  exact (js_cons (js_set (i := 3) (fn := [.b1, .b1, .b1, .ow 0]) scp.nd rfl (by first | exact .inl rfl | exact .inr rfl) (je_callK k_pentagon hr rfl (jc_b (je_vb (pv 0) rfl) (jc_b (je_vb (pv 1) rfl) (jc_b (je_vb (pv 2) rfl) jc_nil))) rfl (by decide)) rfl rfl (by decide) rfl)
  (js_one (js_ret (je_if (jt_cmp op_isnt oj_isnt (je_vs (pv 3) rfl) (je_non (n := 0))) (je_vs (pv 3) rfl) (je_callK k_diamond hr rfl (jc_b (je_vb (pv 0) rfl) (jc_b (je_vb (pv 1) rfl) (jc_b (je_vb (pv 2) rfl) jc_nil))) rfl (by decide))) rfl)))
theorem sc_distributive : FnScope ["order", "up", "down", "many", "a", "b", "c"] ["order"] (defScope (tp 16)) := ⟨rfl, rfl, rfl, by decide +kernel, rfl, by decide +kernel, by decide +kernel⟩
theorem ok_distributive {f : Addr} {fd : FuncData} (D : Df K mg "distributive" (tp 16) ["order"] f fd) (z : Bz mg) (k_meets : Kn P w K mg base 6 "meets" ["order"] 3 [.b1] 0 f_meets) (k_joins : Kn P w K mg base 6 "joins" ["order"] 3 [.b1] 0 f_joins) (k_bar_in : Kn P w K mg base 6 "bar_in" ["order", "up", "down"] 4 [.b1, .b1, .b1] 0 f_bar_in) : Kn P w K mg base 7 "distributive" ["order"] 7 [.b1] 0 f_distributive := by
  have scp := sc_distributive
  refine D.kn (jdef D.fn sc_distributive rfl rfl (by decide) (fun cdv A outer s H E hr => ?_) (fn := [.b1, .ow 0, .ow 0, .ow 0, .ow 0, .ow 0, .ow 0]) rfl)
  unfold b_distributive
  exact (js_cons (js_par2 (i := 1) (j := 2) (m1 := .own 0) (m2 := .own 0) (fn := [.b1, .ow 0, .ow 0, .ow 0, .ow 0, .ow 0, .ow 0]) rfl scp.nd rfl rfl (by decide) rfl rfl (ja_cons (je_callK k_joins hr rfl (jc_b (je_vb (pv 0) rfl) jc_nil) rfl (by decide)) (ja_cons (je_callK k_meets hr rfl (jc_b (je_vb (pv 0) rfl) jc_nil) rfl (by decide)) ja_nil)) rfl rfl rfl rfl (by decide) (by decide) rfl)
  (js_cons (js_setRg (i := 3) (fn := [.b1, .ow 0, .ow 0, .fz, .ow 0, .ow 0, .ow 0]) scp.nd rfl (by first | exact .inl rfl | exact .inr rfl) (je_ix ix_seq (ob1 oj_ix) (je_vb (pv 0) rfl) (je_int (n := 0))) rfl z.range_ boot_range_ rfl (by decide) rfl)
  (js_cons (js_for (ks := [4, 5, 6]) (f0 := [.b1, .ow 0, .ow 0, .fz, .ow 0, .ow 0, .ow 0]) (f2 := [.b1, .ow 0, .ow 0, .fz, .ow 0, .ow 0, .ow 0]) (f1 := [.b1, .ow 0, .ow 0, .fz, .ow 0, .ow 0, .ow 0]) PassesOwn.never rfl (ji_rng (pv 3) rfl) rfl (jg_nm (pg_name scp.nd rfl (by first | exact .inl rfl | exact .inr rfl)) rfl (by decide) rfl) (js_one (js_for (ks := [5, 6]) (f0 := [.b1, .ow 0, .ow 0, .fz, .ow 0, .ow 0, .ow 0]) (f2 := [.b1, .ow 0, .ow 0, .fz, .ow 0, .ow 0, .ow 0]) (f1 := [.b1, .ow 0, .ow 0, .fz, .ow 0, .ow 0, .ow 0]) PassesOwn.never rfl (ji_rng (pv 3) rfl) rfl (jg_nm (pg_name scp.nd rfl (by first | exact .inl rfl | exact .inr rfl)) rfl (by decide) rfl) (js_one (js_for (ks := [6]) (f0 := [.b1, .ow 0, .ow 0, .fz, .ow 0, .ow 0, .ow 0]) (f2 := [.b1, .ow 0, .ow 0, .fz, .ow 0, .ow 0, .ow 0]) (f1 := [.b1, .ow 0, .ow 0, .fz, .ow 0, .ow 0, .ow 0]) PassesOwn.never rfl (ji_rng (pv 3) rfl) rfl (jg_nm (pg_name scp.nd rfl (by first | exact .inl rfl | exact .inr rfl)) rfl (by decide) rfl) (js_one (js_if (fn := [.b1, .ow 0, .ow 0, .fz, .ow 0, .ow 0, .ow 0]) (jt_cmp (op_neD hr.units) oj_ne (je_ix ix_seq (ob1 oj_ix) (je_b1 (je_ix ix_seq (ob1 oj_ix) (je_b1 (je_vs (pv 2) rfl)) (je_vs (pv 4) rfl))) (je_ix ix_seq (ob1 oj_ix) (je_b1 (je_ix ix_seq (ob1 oj_ix) (je_b1 (je_vs (pv 1) rfl)) (je_vs (pv 5) rfl))) (je_vs (pv 6) rfl))) (je_ix ix_seq (ob1 oj_ix) (je_b1 (je_ix ix_seq (ob1 oj_ix) (je_b1 (je_vs (pv 1) rfl)) (je_ix ix_seq (ob1 oj_ix) (je_b1 (je_ix ix_seq (ob1 oj_ix) (je_b1 (je_vs (pv 2) rfl)) (je_vs (pv 4) rfl))) (je_vs (pv 5) rfl)))) (je_ix ix_seq (ob1 oj_ix) (je_b1 (je_ix ix_seq (ob1 oj_ix) (je_b1 (je_vs (pv 2) rfl)) (je_vs (pv 4) rfl))) (je_vs (pv 6) rfl)))) (js_one (js_ret (je_callK k_bar_in hr rfl (jc_b (je_vb (pv 0) rfl) (jc_b (je_b1 (je_vs (pv 1) rfl)) (jc_b (je_b1 (je_vs (pv 2) rfl)) jc_nil))) rfl (by decide)) rfl)) js_nil)) rfl)) rfl)) rfl)
  (js_one (js_ret (je_tup (n := 0) (k := 1) (ja_cons (je_str (n := 0)) ja_nil)) rfl)))))
theorem sc_modular : FnScope ["order", "up", "down", "told"] ["order"] (defScope (tp 17)) := ⟨rfl, rfl, rfl, by decide +kernel, rfl, by decide +kernel, by decide +kernel⟩
theorem ok_modular {f : Addr} {fd : FuncData} (D : Df K mg "modular" (tp 17) ["order"] f fd) (z : Bz mg) (k_meets : Kn P w K mg base 6 "meets" ["order"] 3 [.b1] 0 f_meets) (k_joins : Kn P w K mg base 6 "joins" ["order"] 3 [.b1] 0 f_joins) (k_pentagon : Kn P w K mg base 6 "pentagon" ["order", "up", "down"] 7 [.b1, .b1, .b1] 0 f_pentagon) : Kn P w K mg base 7 "modular" ["order"] 4 [.b1] 0 f_modular := by
  have scp := sc_modular
  refine D.kn (jdef D.fn sc_modular rfl rfl (by decide) (fun cdv A outer s H E hr => ?_) (fn := [.b1, .ow 0, .ow 0, .ow 0]) rfl)
  unfold b_modular
  exact (js_cons (js_par2 (i := 1) (j := 2) (m1 := .own 0) (m2 := .own 0) (fn := [.b1, .ow 0, .ow 0, .ow 0]) rfl scp.nd rfl rfl (by decide) rfl rfl (ja_cons (je_callK k_joins hr rfl (jc_b (je_vb (pv 0) rfl) jc_nil) rfl (by decide)) (ja_cons (je_callK k_meets hr rfl (jc_b (je_vb (pv 0) rfl) jc_nil) rfl (by decide)) ja_nil)) rfl rfl rfl rfl (by decide) (by decide) rfl)
  (js_cons (js_set (i := 3) (fn := [.b1, .ow 0, .ow 0, .ow 0]) scp.nd rfl (by first | exact .inl rfl | exact .inr rfl) (je_callK k_pentagon hr rfl (jc_b (je_vb (pv 0) rfl) (jc_b (je_b1 (je_vs (pv 1) rfl)) (jc_b (je_b1 (je_vs (pv 2) rfl)) jc_nil))) rfl (by decide)) rfl rfl (by decide) rfl)
  (js_one (js_ret (je_if (jt_cmp op_is oj_is (je_vs (pv 3) rfl) (je_non (n := 0))) (je_tup (n := 0) (k := 1) (ja_cons (je_str (n := 0)) ja_nil)) (je_vs (pv 3) rfl)) rfl))))
theorem sc_is_whole : FnScope ["value", "low", "high"] ["value", "low", "high"] (defScope (tp 1)) := ⟨rfl, rfl, rfl, by decide +kernel, rfl, by decide +kernel, by decide +kernel⟩
theorem ok_is_whole {f : Addr} {fd : FuncData} (D : Df K mg "is_whole" (tp 1) ["value", "low", "high"] f fd) (z : Bz mg) : Kn P w K mg base 1 "is_whole" ["value", "low", "high"] 3 [.b1, .b1, .b1] 0 f_is_whole := by
  have scp := sc_is_whole
  refine D.kn (jdef D.fn sc_is_whole rfl rfl (by decide) (fun cdv A outer s H E hr => ?_) (fn := [.b1, .b1, .b1]) rfl)
  unfold b_is_whole
  exact (js_one (js_ret (je_and (je_tb (je_isa (n := 0) (T := "int") (je_vb (pv 0) rfl) rfl rfl z.isinstance_ rfl z.int_ boot_int_)) (je_and (je_not (je_tb (je_isa (n := 0) (T := "bool") (je_vb (pv 0) rfl) rfl rfl z.isinstance_ rfl z.bool_ boot_bool_))) (je_one (je_tb (je_chain op_le oj_le op_le oj_le (je_vb (pv 1) rfl) (je_vb (pv 0) rfl) (je_vb (pv 2) rfl)))))) rfl))
theorem sc_is_bar : FnScope ["order", "value", "up", "down", "low", "a", "b", "c", "high", "pairs", "i", "j", "k"] ["order", "value"] (defScope (tp 21)) := ⟨rfl, rfl, rfl, by decide +kernel, rfl, by decide +kernel, by decide +kernel⟩
theorem ok_is_bar {f : Addr} {fd : FuncData} (D : Df K mg "is_bar" (tp 21) ["order", "value"] f fd) (z : Bz mg) (k_is_whole : Kn P w K mg base 6 "is_whole" ["value", "low", "high"] 3 [.b1, .b1, .b1] 0 f_is_whole) (k_meets : Kn P w K mg base 6 "meets" ["order"] 3 [.b1] 0 f_meets) (k_joins : Kn P w K mg base 6 "joins" ["order"] 3 [.b1] 0 f_joins) (k_above : Kn P w K mg base 6 "above" ["order", "one"] 2 [.b1, .b1] 0 f_above) : Kn P w K mg base 7 "is_bar" ["order", "value"] 13 [.b1, .b1] 0 f_is_bar := by
  have scp := sc_is_bar
  refine D.kn (jdef D.fn sc_is_bar rfl rfl (by decide) (fun cdv A outer s H E hr => ?_) (fn := [.b1, .b1, .ow 0, .ow 0, .ow 0, .ow 0, .ow 0, .ow 0, .ow 0, .ow 0, .ow 0, .ow 0, .ow 0]) rfl)
  unfold b_is_bar
  exact (js_cons (js_if (fn := [.b1, .b1, .ow 0, .ow 0, .ow 0, .ow 0, .ow 0, .ow 0, .ow 0, .ow 0, .ow 0, .ow 0, .ow 0]) (jt_w (jw_or (jt_not (jt_val (je_isa (n := 0) (T := "tuple") (je_vb (pv 1) rfl) rfl rfl z.isinstance_ rfl z.tuple_ boot_tuple_))) (jw_or (jt_cmp (op_neD hr.units) oj_ne (je_fn call_len (fj_len (n := 0)) boot_len_ rfl z.len_ (ja_cons (je_vb (pv 1) rfl) ja_nil)) (je_int (n := 0))) (jw_or1 (jt_cmp (op_ninLT (hu65 hr)) oj_nin (je_ix ix_seq (ob1 oj_ix) (je_vb (pv 1) rfl) (je_int (n := 0))) (je_tup (n := 0) (k := 2) (ja_cons (je_str (n := 0)) (ja_cons (je_str (n := 0)) ja_nil)))))))) (js_one (js_ret (je_bl (n := 0)) rfl)) js_nil)
  (js_cons (js_if (fn := [.b1, .b1, .ow 0, .ow 0, .ow 0, .ow 0, .ow 0, .ow 0, .ow 0, .ow 0, .ow 0, .ow 0, .ow 0]) (jt_w (jw_or (jt_not (jt_val (je_fn (cr_all rfl) (fj_all (n := 0)) boot_all_ rfl z.all_ (ja_cons (je_lc (own := [("k", 12)]) rfl scp.nd (ji_seq (je_b1 (je_sh (je_sl (je_r1 (je_vb (pv 1) rfl)) (jo_some (je_int (n := 0))) jo_none rfl)))) (blkOk_by (by kernel_rfl)) rfl rfl (fun _ _ _ _ _ => (jg_nm (pg_name scp.nd rfl (by first | exact .inl rfl | exact .inr rfl)) rfl (by decide) rfl)) (fun _ _ _ _ _ => jts_nil) (fun _ _ _ _ _ => (je_callK k_is_whole hr rfl (jc_b (je_b1 (je_vs (pv 12) rfl)) (jc_b (je_b1 (je_int (n := 0))) (jc_b (je_b1 (je_op op_sub (oj_sub (n := 0)) (je_ix ix_seq (ob1 oj_ix) (je_vb (pv 0) rfl) (je_int (n := 0))) (je_int (n := 0)))) jc_nil))) rfl (by decide)))) ja_nil)))) (jw_or1 (jt_cmp (op_neD hr.units) oj_ne (je_lenSet (n := 0) (je_sl (je_r1 (je_vb (pv 1) rfl)) (jo_some (je_int (n := 0))) jo_none rfl) rfl rfl z.len_ rfl z.set_) (je_int (n := 0)))))) (js_one (js_ret (je_bl (n := 0)) rfl)) js_nil)
  (js_cons (js_par (ms := [.own 0, .own 0]) (fn := [.b1, .b1, .ow 0, .ow 0, .ow 0, .ow 0, .ow 0, .ow 0, .ow 0, .ow 0, .ow 0, .ow 0, .ow 0]) rfl (ja_cons (je_callK k_joins hr rfl (jc_b (je_vb (pv 0) rfl) jc_nil) rfl (by decide)) (ja_cons (je_callK k_meets hr rfl (jc_b (je_vb (pv 0) rfl) jc_nil) rfl (by decide)) ja_nil)) (jp_cons (pg_name scp.nd rfl (by first | exact .inl rfl | exact .inr rfl)) rfl rfl (by decide) (jp_cons (pg_name scp.nd rfl (by first | exact .inl rfl | exact .inr rfl)) rfl rfl (by decide) jp_nil)))
  (js_cons (js_asg (fn := [.b1, .b1, .ow 0, .ow 0, .ow 0, .ow 0, .ow 0, .ow 0, .ow 0, .ow 0, .ow 0, .ow 0, .ow 0]) (je_sh (je_sl (je_r1 (je_vb (pv 1) rfl)) (jo_some (je_int (n := 0))) jo_none rfl)) (jg_tp rfl (jgs_cons (pg_name scp.nd rfl (by first | exact .inl rfl | exact .inr rfl)) rfl (by decide) (jgs_cons (pg_name scp.nd rfl (by first | exact .inl rfl | exact .inr rfl)) rfl (by decide) (jgs_cons (pg_name scp.nd rfl (by first | exact .inl rfl | exact .inr rfl)) rfl (by decide) (jgs_cons (pg_name scp.nd rfl (by first | exact .inl rfl | exact .inr rfl)) rfl (by decide) (jgs_cons (pg_name scp.nd rfl (by first | exact .inl rfl | exact .inr rfl)) rfl (by decide) jgs_nil)))))))
  (js_cons (js_set (i := 9) (fn := [.b1, .b1, .ow 0, .ow 0, .ow 0, .ow 0, .ow 0, .ow 0, .ow 0, .ow 0, .ow 0, .ow 0, .ow 0]) scp.nd rfl (by first | exact .inl rfl | exact .inr rfl) (je_if (jt_cmp (op_eqD hr.units) oj_eq (je_ix ix_seq (ob1 oj_ix) (je_vb (pv 1) rfl) (je_int (n := 0))) (je_str (n := 0))) (je_sh (je_lst (n := 0) (k := 2) (ja_cons (je_tup (n := 0) (k := 2) (ja_cons (je_vs (pv 5) rfl) (ja_cons (je_vs (pv 7) rfl) ja_nil))) (ja_cons (je_tup (n := 0) (k := 2) (ja_cons (je_vs (pv 6) rfl) (ja_cons (je_vs (pv 7) rfl) ja_nil))) ja_nil)))) (je_sh (je_lst (n := 0) (k := 3) (ja_cons (je_tup (n := 0) (k := 2) (ja_cons (je_vs (pv 5) rfl) (ja_cons (je_vs (pv 6) rfl) ja_nil))) (ja_cons (je_tup (n := 0) (k := 2) (ja_cons (je_vs (pv 5) rfl) (ja_cons (je_vs (pv 7) rfl) ja_nil))) (ja_cons (je_tup (n := 0) (k := 2) (ja_cons (je_vs (pv 6) rfl) (ja_cons (je_vs (pv 7) rfl) ja_nil))) ja_nil)))))) rfl rfl (by decide) rfl)
  (js_cons (js_if (fn := [.b1, .b1, .ow 0, .ow 0, .ow 0, .ow 0, .ow 0, .ow 0, .ow 0, .ow 0, .ow 0, .ow 0, .ow 0]) (jt_not (jt_val (je_fn (cr_all rfl) (fj_all (n := 0)) boot_all_ rfl z.all_ (ja_cons (je_lc (own := [("i", 10), ("j", 11)]) rfl scp.nd (ji_seq (je_b1 (je_vs (pv 9) rfl))) (blkOk_by (by kernel_rfl)) rfl rfl (fun _ _ _ _ _ => (jg_tp rfl (jgs_cons (pg_name scp.nd rfl (by first | exact .inl rfl | exact .inr rfl)) rfl (by decide) (jgs_cons (pg_name scp.nd rfl (by first | exact .inl rfl | exact .inr rfl)) rfl (by decide) jgs_nil)))) (fun _ _ _ _ _ => jts_nil) (fun _ _ _ _ _ => (je_and (je_tb (je_cmp (op_eqD hr.units) (oj_eq (n := 0)) (je_ix ix_seq (ob1 oj_ix) (je_b1 (je_ix ix_seq (ob1 oj_ix) (je_b1 (je_vs (pv 2) rfl)) (je_vs (pv 10) rfl))) (je_vs (pv 11) rfl)) (je_vs (pv 8) rfl))) (je_one (je_tb (je_cmp (op_eqD hr.units) (oj_eq (n := 0)) (je_ix ix_seq (ob1 oj_ix) (je_b1 (je_ix ix_seq (ob1 oj_ix) (je_b1 (je_vs (pv 3) rfl)) (je_vs (pv 10) rfl))) (je_vs (pv 11) rfl)) (je_vs (pv 4) rfl))))))) ja_nil)))) (js_one (js_ret (je_bl (n := 0)) rfl)) js_nil)
  (js_one (js_ret (je_or (je_tb (je_cmp (op_eqD hr.units) (oj_eq (n := 0)) (je_ix ix_seq (ob1 oj_ix) (je_vb (pv 1) rfl) (je_int (n := 0))) (je_str (n := 0)))) (je_one (je_tb (je_cmp (op_inLT (hu65 hr)) (oj_in (n := 0)) (je_vs (pv 6) rfl) (je_callK k_above hr rfl (jc_b (je_vb (pv 0) rfl) (jc_b (je_b1 (je_vs (pv 5) rfl)) jc_nil)) rfl (by decide)))))) rfl))))))))
theorem sc__law_right : FnScope ["order", "value", "k", "joins_v", "meets_v", "low", "a", "b", "c", "high", "pairs", "pair"] ["order", "value"] (defScope (tp 36)) := ⟨rfl, rfl, rfl, by decide +kernel, rfl, by decide +kernel, by decide +kernel⟩
theorem ok__law_right {f : Addr} {fd : FuncData} (D : Df K mg "_law_right" (tp 36) ["order", "value"] f fd) (z : Bz mg) (k__law_tables : Kn P w K mg base 3 "_law_tables" ["order"] 14 [.b1] 0 f__law_tables) (k__law_ups : Kn P w K mg base 3 "_law_ups" ["order"] 1 [.b1] 0 f__law_ups) : Kn P w K mg base 4 "_law_right" ["order", "value"] 12 [.b1, .b1] 0 f__law_right := by
  have scp := sc__law_right
  refine D.kn (jdef D.fn sc__law_right rfl rfl (by decide) (fun cdv A outer s H E hr => ?_) (fn := [.b1, .b1, .ow 0, .ow 0, .ow 0, .ow 0, .ow 0, .ow 0, .ow 0, .ow 0, .ow 0, .ow 0]) rfl)
  unfold b__law_right
  exact (js_cons (js_if (fn := [.b1, .b1, .ow 0, .ow 0, .ow 0, .ow 0, .ow 0, .ow 0, .ow 0, .ow 0, .ow 0, .ow 0]) (jt_w (jw_or (jt_not (jt_val (je_isa (n := 0) (T := "tuple") (je_vb (pv 1) rfl) rfl rfl z.isinstance_ rfl z.tuple_ boot_tuple_))) (jw_or (jt_cmp (op_neD hr.units) oj_ne (je_fn call_len (fj_len (n := 0)) boot_len_ rfl z.len_ (ja_cons (je_vb (pv 1) rfl) ja_nil)) (je_int (n := 0))) (jw_or1 (jt_cmp (op_ninLT (hu65 hr)) oj_nin (je_ix ix_seq (ob1 oj_ix) (je_vb (pv 1) rfl) (je_int (n := 0))) (je_lst (n := 0) (k := 2) (ja_cons (je_str (n := 0)) (ja_cons (je_str (n := 0)) ja_nil)))))))) (js_one (js_ret (je_bl (n := 0)) rfl)) js_nil)
  (js_cons (js_for (ks := [2]) (f0 := [.b1, .b1, .ow 0, .ow 0, .ow 0, .ow 0, .ow 0, .ow 0, .ow 0, .ow 0, .ow 0, .ow 0]) (f2 := [.b1, .b1, .ow 0, .ow 0, .ow 0, .ow 0, .ow 0, .ow 0, .ow 0, .ow 0, .ow 0, .ow 0]) (f1 := [.b1, .b1, .ow 0, .ow 0, .ow 0, .ow 0, .ow 0, .ow 0, .ow 0, .ow 0, .ow 0, .ow 0]) PassesOwn.never rfl (ji_rg2 rfl z.range_ (je_int (n := 0)) (je_int (n := 0))) rfl (jg_nm (pg_name scp.nd rfl (by first | exact .inl rfl | exact .inr rfl)) rfl (by decide) rfl) (js_one (js_if (fn := [.b1, .b1, .ow 0, .ow 0, .ow 0, .ow 0, .ow 0, .ow 0, .ow 0, .ow 0, .ow 0, .ow 0]) (jt_w (jw_or (jt_not (jt_val (je_isa (n := 0) (T := "int") (je_ix ix_seq (ob1 oj_ix) (je_vb (pv 1) rfl) (je_vs (pv 2) rfl)) rfl rfl z.isinstance_ rfl z.int_ boot_int_))) (jw_or (jt_val (je_isa (n := 0) (T := "bool") (je_ix ix_seq (ob1 oj_ix) (je_vb (pv 1) rfl) (je_vs (pv 2) rfl)) rfl rfl z.isinstance_ rfl z.bool_ boot_bool_)) (jw_or (jt_cmp op_lt oj_lt (je_ix ix_seq (ob1 oj_ix) (je_vb (pv 1) rfl) (je_vs (pv 2) rfl)) (je_int (n := 0))) (jw_or (jt_cmp op_ge oj_ge (je_ix ix_seq (ob1 oj_ix) (je_vb (pv 1) rfl) (je_vs (pv 2) rfl)) (je_ix ix_seq (ob1 oj_ix) (je_vb (pv 0) rfl) (je_int (n := 0)))) (jw_or1 (jt_cmp (op_inLT (hu65 hr)) oj_in (je_ix ix_seq (ob1 oj_ix) (je_vb (pv 1) rfl) (je_vs (pv 2) rfl)) (je_sl (je_r1 (je_vb (pv 1) rfl)) (jo_some (je_int (n := 0))) (jo_some (je_vs (pv 2) rfl)) rfl)))))))) (js_one (js_ret (je_bl (n := 0)) rfl)) js_nil)) rfl)
  (js_cons (js_asg (fn := [.b1, .b1, .ow 0, .ow 0, .ow 0, .ow 0, .ow 0, .ow 0, .ow 0, .ow 0, .ow 0, .ow 0]) (je_callK k__law_tables hr rfl (jc_b (je_vb (pv 0) rfl) jc_nil) rfl (by decide)) (jg_tp rfl (jgs_cons (pg_name scp.nd rfl (by first | exact .inl rfl | exact .inr rfl)) rfl (by decide) (jgs_cons (pg_name scp.nd rfl (by first | exact .inl rfl | exact .inr rfl)) rfl (by decide) jgs_nil))))
  (js_cons (js_asg (fn := [.b1, .b1, .ow 0, .ow 0, .ow 0, .ow 0, .ow 0, .ow 0, .ow 0, .ow 0, .ow 0, .ow 0]) (je_sh (je_sl (je_r1 (je_vb (pv 1) rfl)) (jo_some (je_int (n := 0))) jo_none rfl)) (jg_tp rfl (jgs_cons (pg_name scp.nd rfl (by first | exact .inl rfl | exact .inr rfl)) rfl (by decide) (jgs_cons (pg_name scp.nd rfl (by first | exact .inl rfl | exact .inr rfl)) rfl (by decide) (jgs_cons (pg_name scp.nd rfl (by first | exact .inl rfl | exact .inr rfl)) rfl (by decide) (jgs_cons (pg_name scp.nd rfl (by first | exact .inl rfl | exact .inr rfl)) rfl (by decide) (jgs_cons (pg_name scp.nd rfl (by first | exact .inl rfl | exact .inr rfl)) rfl (by decide) jgs_nil)))))))
  (js_cons (js_set (i := 10) (fn := [.b1, .b1, .ow 0, .ow 0, .ow 0, .ow 0, .ow 0, .ow 0, .ow 0, .ow 0, .ow 0, .ow 0]) scp.nd rfl (by first | exact .inl rfl | exact .inr rfl) (je_sh (je_op op_addAll (ob1 oj_add) (je_b1 (je_sh (je_lst (n := 0) (k := 2) (ja_cons (je_tup (n := 0) (k := 2) (ja_cons (je_vs (pv 6) rfl) (ja_cons (je_vs (pv 8) rfl) ja_nil))) (ja_cons (je_tup (n := 0) (k := 2) (ja_cons (je_vs (pv 7) rfl) (ja_cons (je_vs (pv 8) rfl) ja_nil))) ja_nil))))) (je_if (jt_cmp (op_eqD hr.units) oj_eq (je_ix ix_seq (ob1 oj_ix) (je_vb (pv 1) rfl) (je_int (n := 0))) (je_str (n := 0))) (je_r1 (je_b1 (je_sh (je_lst (n := 0) (k := 1) (ja_cons (je_tup (n := 0) (k := 2) (ja_cons (je_vs (pv 6) rfl) (ja_cons (je_vs (pv 7) rfl) ja_nil))) ja_nil))))) (je_r1 (je_b1 (je_sh (je_lst (n := 0) (k := 0) ja_nil))))))) rfl rfl (by decide) rfl)
  (js_cons (js_if (fn := [.b1, .b1, .ow 0, .ow 0, .ow 0, .ow 0, .ow 0, .ow 0, .ow 0, .ow 0, .ow 0, .ow 0]) (jt_cmp op_gt oj_gt (je_fn call_len (fj_len (n := 0)) boot_len_ rfl z.len_ (ja_cons (je_lc (own := [("pair", 11)]) rfl scp.nd (ji_seq (je_b1 (je_vs (pv 10) rfl))) (blkOk_by (by kernel_rfl)) rfl rfl (fun _ _ _ _ _ => (jg_nm (pg_name scp.nd rfl (by first | exact .inl rfl | exact .inr rfl)) rfl (by decide) rfl)) (fun _ _ _ _ _ => (jts_one (jt_w (jw_or (jt_cmp (op_neD hr.units) oj_ne (je_ix ix_seq (ob1 oj_ix) (je_b1 (je_ix ix_seq (ob1 oj_ix) (je_b1 (je_vs (pv 3) rfl)) (je_ix ix_seq (ob1 oj_ix) (je_b1 (je_vs (pv 11) rfl)) (je_int (n := 0))))) (je_ix ix_seq (ob1 oj_ix) (je_b1 (je_vs (pv 11) rfl)) (je_int (n := 0)))) (je_vs (pv 9) rfl)) (jw_or1 (jt_cmp (op_neD hr.units) oj_ne (je_ix ix_seq (ob1 oj_ix) (je_b1 (je_ix ix_seq (ob1 oj_ix) (je_b1 (je_vs (pv 4) rfl)) (je_ix ix_seq (ob1 oj_ix) (je_b1 (je_vs (pv 11) rfl)) (je_int (n := 0))))) (je_ix ix_seq (ob1 oj_ix) (je_b1 (je_vs (pv 11) rfl)) (je_int (n := 0)))) (je_vs (pv 5) rfl))))))) (fun _ _ _ _ _ => (je_vs (pv 11) rfl))) ja_nil)) (je_int (n := 0))) (js_one (js_ret (je_bl (n := 0)) rfl)) js_nil)
  (js_one (js_ret (je_or (je_tb (je_cmp (op_eqD hr.units) (oj_eq (n := 0)) (je_ix ix_seq (ob1 oj_ix) (je_vb (pv 1) rfl) (je_int (n := 0))) (je_str (n := 0)))) (je_one (je_tb (je_cmp (op_inLT (hu65 hr)) (oj_in (n := 0)) (je_vs (pv 7) rfl) (je_ix ix_seq (ob1 oj_ix) (je_b1 (je_callK k__law_ups hr rfl (jc_b (je_vb (pv 0) rfl) jc_nil) rfl (by decide))) (je_vs (pv 6) rfl)))))) rfl))))))))
theorem sc__law_pick : FnScope ["state", "row"] ["state", "row"] (defScope (tp 25)) := ⟨rfl, rfl, rfl, by decide +kernel, rfl, by decide +kernel, by decide +kernel⟩
theorem ok__law_pick {f : Addr} {fd : FuncData} (D : Df K mg "_law_pick" (tp 25) ["state", "row"] f fd) (z : Bz mg) (k__law_take : Kn P w K mg base 1 "_law_take" ["state", "most"] 6 [.io 2, .ow 0] 0 f__law_take) : Kn P w K mg base 2 "_law_pick" ["state", "row"] 2 [.io 2, .b1] 0 f__law_pick := by
  have scp := sc__law_pick
  refine D.kn (jdef D.fn sc__law_pick rfl rfl (by decide) (fun cdv A outer s H E hr => ?_) (fn := [.io 2, .b1]) rfl)
  unfold b__law_pick
  exact (js_one (js_ret (je_ix ix_seq (ob1 oj_ix) (je_vb (pv 1) rfl) (je_callK k__law_take hr rfl (jc_io (pv 0) rfl (jc_s (je_fn call_len (fj_len (n := 0)) boot_len_ rfl z.len_ (ja_cons (je_vb (pv 1) rfl) ja_nil)) jc_nil)) rfl (by decide))) rfl))
theorem sc_law : FnScope ["script", "state", "order", "good", "even", "first", "second", "bars", "bar", "k", "bad", "value", "answer", "turn", "each"] ["script"] (defScope (tp 38)) := ⟨rfl, rfl, rfl, by decide +kernel, rfl, by decide +kernel, by decide +kernel⟩
theorem ok_law {f : Addr} {fd : FuncData} (D : Df K mg "law" (tp 38) ["script"] f fd) (z : Bz mg) (k__law_state : Kn P w K mg base 7 "_law_state" ["script"] 3 [.fz] 2 f__law_state) (k__law_world : Kn P w K mg base 7 "_law_world" ["state"] 11 [.io 2] 0 f__law_world) (k__law_is_lattice : Kn P w K mg base 7 "_law_is_lattice" ["order"] 4 [.b1] 0 f__law_is_lattice) (k__law_kinds : Kn P w K mg base 7 "_law_kinds" ["order"] 10 [.b1] 0 f__law_kinds) (k_modular : Kn P w K mg base 7 "modular" ["order"] 4 [.b1] 0 f_modular) (k_distributive : Kn P w K mg base 7 "distributive" ["order"] 7 [.b1] 0 f_distributive) (k__law_right : Kn P w K mg base 7 "_law_right" ["order", "value"] 12 [.b1, .b1] 0 f__law_right) (k_is_bar : Kn P w K mg base 7 "is_bar" ["order", "value"] 13 [.b1, .b1] 0 f_is_bar) (k__law_take : Kn P w K mg base 7 "_law_take" ["state", "most"] 6 [.io 2, .ow 0] 0 f__law_take) (k__law_pick : Kn P w K mg base 7 "_law_pick" ["state", "row"] 2 [.io 2, .b1] 0 f__law_pick) : FnOk P w K mg base CX0 8 f fd ["script"] (spJ K 15 [.fz] 0 f_law) := by
  have scp := sc_law
  refine jdef D.fn sc_law rfl rfl (by decide) (fun cdv A outer s H E hr => ?_) (fn := [.fz, .ow 0, .ow 0, .ow 0, .ow 0, .ow 0, .ow 0, .ow 0, .ow 0, .ow 0, .ow 0, .ow 0, .ow 0, .ow 0, .ow 0]) rfl
  unfold b_law
  exact (js_cons (js_set (i := 1) (fn := [.fz, .ow 2, .ow 0, .ow 0, .ow 0, .ow 0, .ow 0, .ow 0, .ow 0, .ow 0, .ow 0, .ow 0, .ow 0, .ow 0, .ow 0]) scp.nd rfl (by first | exact .inl rfl | exact .inr rfl) (je_callK k__law_state hr rfl (jc_f (pv 0) rfl jc_nil) rfl (by decide)) rfl rfl (by decide) rfl)
  (js_cons (js_set (i := 2) (fn := [.fz, .ow 2, .ow 0, .ow 0, .ow 0, .ow 0, .ow 0, .ow 0, .ow 0, .ow 0, .ow 0, .ow 0, .ow 0, .ow 0, .ow 0]) scp.nd rfl (by first | exact .inl rfl | exact .inr rfl) (je_callK k__law_world hr rfl (jc_io (pv 1) rfl jc_nil) rfl (by decide)) rfl rfl (by decide) rfl)
  (js_cons (js_if (fn := [.fz, .ow 2, .ow 0, .ow 0, .ow 0, .ow 0, .ow 0, .ow 0, .ow 0, .ow 0, .ow 0, .ow 0, .ow 0, .ow 0, .ow 0]) (jt_not (jt_val (je_callK k__law_is_lattice hr rfl (jc_b (je_b1 (je_vs (pv 2) rfl)) jc_nil) rfl (by decide)))) (js_one (js_ret (je_bl (n := 0)) rfl)) js_nil)
  (js_cons (js_asg (fn := [.fz, .ow 2, .ow 0, .ow 0, .ow 0, .ow 0, .ow 0, .ow 0, .ow 0, .ow 0, .ow 0, .ow 0, .ow 0, .ow 0, .ow 0]) (je_callK k__law_kinds hr rfl (jc_b (je_b1 (je_vs (pv 2) rfl)) jc_nil) rfl (by decide)) (jg_tp rfl (jgs_cons (pg_name scp.nd rfl (by first | exact .inl rfl | exact .inr rfl)) rfl (by decide) (jgs_cons (pg_name scp.nd rfl (by first | exact .inl rfl | exact .inr rfl)) rfl (by decide) jgs_nil))))
  (js_cons (js_par2 (i := 5) (j := 6) (m1 := .own 0) (m2 := .own 0) (fn := [.fz, .ow 2, .ow 0, .ow 0, .ow 0, .ow 0, .ow 0, .ow 0, .ow 0, .ow 0, .ow 0, .ow 0, .ow 0, .ow 0, .ow 0]) rfl scp.nd rfl rfl (by decide) rfl rfl (ja_cons (je_callK k_distributive hr rfl (jc_b (je_b1 (je_vs (pv 2) rfl)) jc_nil) rfl (by decide)) (ja_cons (je_callK k_modular hr rfl (jc_b (je_b1 (je_vs (pv 2) rfl)) jc_nil) rfl (by decide)) ja_nil)) rfl rfl rfl rfl (by decide) (by decide) rfl)
  (js_cons (js_if (fn := [.fz, .ow 2, .ow 0, .ow 0, .ow 0, .ow 0, .ow 0, .ow 0, .ow 0, .ow 0, .ow 0, .ow 0, .ow 0, .ow 0, .ow 0]) (jt_w (jw_or (jt_cmp (op_neD hr.units) oj_ne (je_cmp (op_eqD hr.units) (oj_eq (n := 0)) (je_vs (pv 5) rfl) (je_tup (n := 0) (k := 1) (ja_cons (je_str (n := 0)) ja_nil))) (je_vs (pv 3) rfl)) (jw_or1 (jt_w (jw_and (jt_not (jt_val (je_vs (pv 3) rfl))) (jw_and1 (jt_not (jt_val (je_callK k__law_right hr rfl (jc_b (je_b1 (je_vs (pv 2) rfl)) (jc_b (je_b1 (je_vs (pv 5) rfl)) jc_nil)) rfl (by decide)))))))))) (js_one (js_ret (je_bl (n := 0)) rfl)) js_nil)
  (js_cons (js_if (fn := [.fz, .ow 2, .ow 0, .ow 0, .ow 0, .ow 0, .ow 0, .ow 0, .ow 0, .ow 0, .ow 0, .ow 0, .ow 0, .ow 0, .ow 0]) (jt_w (jw_or (jt_cmp (op_neD hr.units) oj_ne (je_cmp (op_eqD hr.units) (oj_eq (n := 0)) (je_vs (pv 6) rfl) (je_tup (n := 0) (k := 1) (ja_cons (je_str (n := 0)) ja_nil))) (je_vs (pv 4) rfl)) (jw_or1 (jt_w (jw_and (jt_not (jt_val (je_vs (pv 4) rfl))) (jw_and1 (jt_w (jw_or (jt_not (jt_val (je_callK k__law_right hr rfl (jc_b (je_b1 (je_vs (pv 2) rfl)) (jc_b (je_b1 (je_vs (pv 6) rfl)) jc_nil)) rfl (by decide)))) (jw_or1 (jt_cmp (op_neD hr.units) oj_ne (je_ix ix_seq (ob1 oj_ix) (je_b1 (je_vs (pv 6) rfl)) (je_int (n := 0))) (je_str (n := 0)))))))))))) (js_one (js_ret (je_bl (n := 0)) rfl)) js_nil)
  (js_cons (js_setLc (i := 7) (k := 0) (fn := [.fz, .ow 2, .ow 0, .ow 0, .ow 0, .ow 0, .ow 0, .ow 0, .ow 0, .ow 0, .ow 0, .ow 0, .ow 0, .ow 0, .ow 0]) (own := [("each", 14)]) rfl scp.nd rfl rfl (ji_seq (je_b1 (je_tup (n := 0) (k := 2) (ja_cons (je_vs (pv 5) rfl) (ja_cons (je_vs (pv 6) rfl) ja_nil))))) (blkOk_by (by kernel_rfl)) rfl rfl (fun _ _ _ _ _ => (jg_nm (pg_name scp.nd rfl (by first | exact .inl rfl | exact .inr rfl)) rfl (by decide) rfl)) (fun _ _ _ _ _ => (jts_one (jt_cmp (op_eqD hr.units) oj_eq (je_fn call_len (fj_len (n := 0)) boot_len_ rfl z.len_ (ja_cons (je_vs (pv 14) rfl) ja_nil)) (je_int (n := 0))))) (fun _ _ _ _ _ => (je_vs (pv 14) rfl)) (by decide) rfl (by decide) rfl)
  (js_cons (js_for (ks := [8, 9, 10, 11, 12]) (f0 := [.fz, .ow 2, .ow 0, .ow 0, .ow 0, .ow 0, .ow 0, .ow 0, .ow 0, .ow 0, .ow 0, .ow 0, .ow 0, .ow 0, .ow 0]) (f2 := [.fz, .ow 2, .ow 0, .ow 0, .ow 0, .ow 0, .ow 0, .ow 0, .ow 0, .ow 0, .ow 0, .ow 0, .ow 0, .ow 0, .ow 0]) (f1 := [.fz, .ow 2, .ow 0, .ow 0, .ow 0, .ow 0, .ow 0, .ow 0, .ow 0, .ow 0, .ow 0, .ow 0, .ow 0, .ow 0, .ow 0]) PassesOwn.never rfl (ji_seq (je_b1 (je_vs (pv 7) rfl))) rfl (jg_nm (pg_name scp.nd rfl (by first | exact .inl rfl | exact .inr rfl)) rfl (by decide) rfl) (js_cons (js_if (fn := [.fz, .ow 2, .ow 0, .ow 0, .ow 0, .ow 0, .ow 0, .ow 0, .ow 0, .ow 0, .ow 0, .ow 0, .ow 0, .ow 0, .ow 0]) (jt_cmp op_isnt oj_isnt (je_callK k_is_bar hr rfl (jc_b (je_b1 (je_vs (pv 2) rfl)) (jc_b (je_b1 (je_vs (pv 8) rfl)) jc_nil)) rfl (by decide)) (je_bl (n := 0))) (js_one (js_ret (je_bl (n := 0)) rfl)) js_nil)
  (js_cons (js_set (i := 9) (fn := [.fz, .ow 2, .ow 0, .ow 0, .ow 0, .ow 0, .ow 0, .ow 0, .ow 0, .ow 0, .ow 0, .ow 0, .ow 0, .ow 0, .ow 0]) scp.nd rfl (by first | exact .inl rfl | exact .inr rfl) (je_sh (je_op op_addAll (ob1 oj_add) (je_b1 (je_int (n := 0))) (je_r1 (je_b1 (je_callK k__law_take hr rfl (jc_io (pv 1) rfl (jc_s (je_int (n := 0)) jc_nil)) rfl (by decide)))))) rfl rfl (by decide) rfl)
  (js_cons (js_set (i := 10) (fn := [.fz, .ow 2, .ow 0, .ow 0, .ow 0, .ow 0, .ow 0, .ow 0, .ow 0, .ow 0, .ow 0, .ow 0, .ow 0, .ow 0, .ow 0]) scp.nd rfl (by first | exact .inl rfl | exact .inr rfl) (je_sh (je_lst (n := 0) (k := 8) (ja_cons (je_sh (je_op op_addAll (ob1 oj_add) (je_b1 (je_sh (je_op op_addAll (ob1 oj_add) (je_b1 (je_sh (je_sl (je_r1 (je_b1 (je_vs (pv 8) rfl))) jo_none (jo_some (je_vs (pv 9) rfl)) rfl))) (je_r1 (je_b1 (je_tup (n := 0) (k := 1) (ja_cons (je_callK k__law_take hr rfl (jc_io (pv 1) rfl (jc_s (je_ix ix_seq (ob1 oj_ix) (je_b1 (je_vs (pv 2) rfl)) (je_int (n := 0))) jc_nil)) rfl (by decide)) ja_nil))))))) (je_r1 (je_b1 (je_sh (je_sl (je_r1 (je_b1 (je_vs (pv 8) rfl))) (jo_some (je_sh (je_op op_addAll (ob1 oj_add) (je_b1 (je_vs (pv 9) rfl)) (je_r1 (je_b1 (je_int (n := 0))))))) jo_none rfl)))))) (ja_cons (je_sh (je_op op_addAll (ob1 oj_add) (je_b1 (je_tup (n := 0) (k := 1) (ja_cons (je_str (n := 0)) ja_nil))) (je_r1 (je_b1 (je_sh (je_sl (je_r1 (je_b1 (je_vs (pv 8) rfl))) (jo_some (je_int (n := 0))) jo_none rfl)))))) (ja_cons (je_sh (je_op op_addAll (ob1 oj_add) (je_b1 (je_tup (n := 0) (k := 1) (ja_cons (je_str (n := 0)) ja_nil))) (je_r1 (je_b1 (je_sh (je_sl (je_r1 (je_b1 (je_vs (pv 8) rfl))) (jo_some (je_int (n := 0))) jo_none rfl)))))) (ja_cons (je_sh (je_sl (je_r1 (je_b1 (je_vs (pv 8) rfl))) jo_none (jo_some (je_int (n := 0))) rfl)) (ja_cons (je_sh (je_ty call_list_of fj_list boot_list_ rfl z.list_ (ja_cons (je_r1 (je_b1 (je_vs (pv 8) rfl))) ja_nil))) (ja_cons (je_sh (je_op op_addAll (ob1 oj_add) (je_b1 (je_sh (je_op op_addAll (ob1 oj_add) (je_b1 (je_sh (je_sl (je_r1 (je_b1 (je_vs (pv 8) rfl))) jo_none (jo_some (je_vs (pv 9) rfl)) rfl))) (je_r1 (je_b1 (je_tup (n := 0) (k := 1) (ja_cons (je_non (n := 0)) ja_nil))))))) (je_r1 (je_b1 (je_sh (je_sl (je_r1 (je_b1 (je_vs (pv 8) rfl))) (jo_some (je_sh (je_op op_addAll (ob1 oj_add) (je_b1 (je_vs (pv 9) rfl)) (je_r1 (je_b1 (je_int (n := 0))))))) jo_none rfl)))))) (ja_cons (je_sh (je_op op_addAll (ob1 oj_add) (je_b1 (je_sh (je_sl (je_r1 (je_b1 (je_vs (pv 8) rfl))) jo_none (jo_some (je_int (n := 0))) rfl))) (je_r1 (je_b1 (je_sh (je_bk (je_r1 (je_b1 (je_vs (pv 8) rfl))))))))) (ja_cons (je_non (n := 0)) ja_nil)))))))))) rfl rfl (by decide) rfl)
  (js_one (js_for (ks := [11, 12]) (f0 := [.fz, .ow 2, .ow 0, .ow 0, .ow 0, .ow 0, .ow 0, .ow 0, .ow 0, .ow 0, .ow 0, .ow 0, .ow 0, .ow 0, .ow 0]) (f2 := [.fz, .ow 2, .ow 0, .ow 0, .ow 0, .ow 0, .ow 0, .ow 0, .ow 0, .ow 0, .ow 0, .ow 0, .ow 0, .ow 0, .ow 0]) (f1 := [.fz, .ow 2, .ow 0, .ow 0, .ow 0, .ow 0, .ow 0, .ow 0, .ow 0, .ow 0, .ow 0, .ow 0, .ow 0, .ow 0, .ow 0]) PassesOwn.never rfl (ji_seq (je_b1 (je_vs (pv 10) rfl))) rfl (jg_nm (pg_name scp.nd rfl (by first | exact .inl rfl | exact .inr rfl)) rfl (by decide) rfl) (js_cons (js_set (i := 12) (fn := [.fz, .ow 2, .ow 0, .ow 0, .ow 0, .ow 0, .ow 0, .ow 0, .ow 0, .ow 0, .ow 0, .ow 0, .ow 0, .ow 0, .ow 0]) scp.nd rfl (by first | exact .inl rfl | exact .inr rfl) (je_callK k_is_bar hr rfl (jc_b (je_b1 (je_vs (pv 2) rfl)) (jc_b (je_b1 (je_vs (pv 11) rfl)) jc_nil)) rfl (by decide)) rfl rfl (by decide) rfl)
  (js_one (js_if (fn := [.fz, .ow 2, .ow 0, .ow 0, .ow 0, .ow 0, .ow 0, .ow 0, .ow 0, .ow 0, .ow 0, .ow 0, .ow 0, .ow 0, .ow 0]) (jt_w (jw_or (jt_not (jt_val (je_isa (n := 0) (T := "bool") (je_vs (pv 12) rfl) rfl rfl z.isinstance_ rfl z.bool_ boot_bool_))) (jw_or1 (jt_cmp (op_neD hr.units) oj_ne (je_vs (pv 12) rfl) (je_callK k__law_right hr rfl (jc_b (je_b1 (je_vs (pv 2) rfl)) (jc_b (je_b1 (je_vs (pv 11) rfl)) jc_nil)) rfl (by decide)))))) (js_one (js_ret (je_bl (n := 0)) rfl)) js_nil))) rfl))))) rfl)
  (js_cons (js_for (ks := [13, 11]) (f0 := [.fz, .ow 2, .ow 0, .ow 0, .ow 0, .ow 0, .ow 0, .ow 0, .ow 0, .ow 0, .ow 0, .ow 0, .ow 0, .ow 0, .ow 0]) (f2 := [.fz, .ow 2, .ow 0, .ow 0, .ow 0, .ow 0, .ow 0, .ow 0, .ow 0, .ow 0, .ow 0, .ow 0, .ow 0, .ow 0, .ow 0]) (f1 := [.fz, .ow 2, .ow 0, .ow 0, .ow 0, .ow 0, .ow 0, .ow 0, .ow 0, .ow 0, .ow 0, .ow 0, .ow 0, .ow 0, .ow 0]) PassesOwn.never rfl (ji_rg1 rfl z.range_ (je_int (n := 0))) rfl (jg_nm (pg_name scp.nd rfl (by first | exact .inl rfl | exact .inr rfl)) rfl (by decide) rfl) (js_cons (js_set (i := 11) (fn := [.fz, .ow 2, .ow 0, .ow 0, .ow 0, .ow 0, .ow 0, .ow 0, .ow 0, .ow 0, .ow 0, .ow 0, .ow 0, .ow 0, .ow 0]) scp.nd rfl (by first | exact .inl rfl | exact .inr rfl) (je_sh (je_op op_addAll (ob1 oj_add) (je_b1 (je_tup (n := 0) (k := 1) (ja_cons (je_callK k__law_pick hr rfl (jc_io (pv 1) rfl (jc_b (je_b1 (je_sh (je_lst (n := 0) (k := 2) (ja_cons (je_str (n := 0)) (ja_cons (je_str (n := 0)) ja_nil))))) jc_nil)) rfl (by decide)) ja_nil))) (je_r1 (je_b1 (je_ty call_tupN (fj_tuple (n := 0)) boot_tuple_ rfl z.tuple_ (ja_cons (je_r1 (je_b1 (je_sh (je_lc (own := [("k", 9)]) rfl scp.nd (ji_rg1 rfl z.range_ (je_int (n := 0))) (blkOk_by (by kernel_rfl)) rfl rfl (fun _ _ _ _ _ => (jg_nm (pg_name scp.nd rfl (by first | exact .inl rfl | exact .inr rfl)) rfl (by decide) rfl)) (fun _ _ _ _ _ => jts_nil) (fun _ _ _ _ _ => (je_callK k__law_take hr rfl (jc_io (pv 1) rfl (jc_s (je_ix ix_seq (ob1 oj_ix) (je_b1 (je_vs (pv 2) rfl)) (je_int (n := 0))) jc_nil)) rfl (by decide))))))) ja_nil)))))) rfl rfl (by decide) rfl)
  (js_one (js_if (fn := [.fz, .ow 2, .ow 0, .ow 0, .ow 0, .ow 0, .ow 0, .ow 0, .ow 0, .ow 0, .ow 0, .ow 0, .ow 0, .ow 0, .ow 0]) (jt_cmp (op_neD hr.units) oj_ne (je_callK k_is_bar hr rfl (jc_b (je_b1 (je_vs (pv 2) rfl)) (jc_b (je_b1 (je_vs (pv 11) rfl)) jc_nil)) rfl (by decide)) (je_callK k__law_right hr rfl (jc_b (je_b1 (je_vs (pv 2) rfl)) (jc_b (je_b1 (je_vs (pv 11) rfl)) jc_nil)) rfl (by decide))) (js_one (js_ret (je_bl (n := 0)) rfl)) js_nil))) rfl)
  (js_one (js_ret (je_bl (n := 0)) rfl))))))))))))
/-- all defs together -/
theorem all_kn {a__law_state : Addr} {d__law_state : FuncData} (D__law_state : Df K mg "_law_state" (tp 23) ["script"] a__law_state d__law_state) {a__law_take : Addr} {d__law_take : FuncData} (D__law_take : Df K mg "_law_take" (tp 24) ["state", "most"] a__law_take d__law_take) {a__law_up : Addr} {d__law_up : FuncData} (D__law_up : Df K mg "_law_up" (tp 26) ["many", "pairs"] a__law_up d__law_up) {a__law_order_of : Addr} {d__law_order_of : FuncData} (D__law_order_of : Df K mg "_law_order_of" (tp 27) ["many", "pairs"] a__law_order_of d__law_order_of) {a__law_family : Addr} {d__law_family : FuncData} (D__law_family : Df K mg "_law_family" (tp 34) ["state"] a__law_family d__law_family) {a__law_world : Addr} {d__law_world : FuncData} (D__law_world : Df K mg "_law_world" (tp 35) ["state"] a__law_world d__law_world) {a__law_ups : Addr} {d__law_ups : FuncData} (D__law_ups : Df K mg "_law_ups" (tp 29) ["order"] a__law_ups d__law_ups) {a__law_low : Addr} {d__law_low : FuncData} (D__law_low : Df K mg "_law_low" (tp 30) ["up", "lot"] a__law_low d__law_low) {a__law_high : Addr} {d__law_high : FuncData} (D__law_high : Df K mg "_law_high" (tp 31) ["up", "lot"] a__law_high d__law_high) {a__law_tables : Addr} {d__law_tables : FuncData} (D__law_tables : Df K mg "_law_tables" (tp 32) ["order"] a__law_tables d__law_tables) {a__law_kinds : Addr} {d__law_kinds : FuncData} (D__law_kinds : Df K mg "_law_kinds" (tp 37) ["order"] a__law_kinds d__law_kinds) {a__law_is_lattice : Addr} {d__law_is_lattice : FuncData} (D__law_is_lattice : Df K mg "_law_is_lattice" (tp 33) ["order"] a__law_is_lattice d__law_is_lattice) {a_goals : Addr} {d_goals : FuncData} (D_goals : Df K mg "goals" (tp 2) ["pairs", "one"] a_goals d_goals) {a_reached : Addr} {d_reached : FuncData} (D_reached : Df K mg "reached" (tp 3) ["pairs", "one"] a_reached d_reached) {a_below : Addr} {d_below : FuncData} (D_below : Df K mg "below" (tp 5) ["order", "one"] a_below d_below) {a_least_of : Addr} {d_least_of : FuncData} (D_least_of : Df K mg "least_of" (tp 10) ["order", "lot"] a_least_of d_least_of) {a_above : Addr} {d_above : FuncData} (D_above : Df K mg "above" (tp 4) ["order", "one"] a_above d_above) {a_upper : Addr} {d_upper : FuncData} (D_upper : Df K mg "upper" (tp 8) ["order", "one", "other"] a_upper d_upper) {a_join : Addr} {d_join : FuncData} (D_join : Df K mg "join" (tp 12) ["order", "one", "other"] a_join d_join) {a_joins : Addr} {d_joins : FuncData} (D_joins : Df K mg "joins" (tp 14) ["order"] a_joins d_joins) {a_greatest_of : Addr} {d_greatest_of : FuncData} (D_greatest_of : Df K mg "greatest_of" (tp 11) ["order", "lot"] a_greatest_of d_greatest_of) {a_lower : Addr} {d_lower : FuncData} (D_lower : Df K mg "lower" (tp 9) ["order", "one", "other"] a_lower d_lower) {a_meet : Addr} {d_meet : FuncData} (D_meet : Df K mg "meet" (tp 13) ["order", "one", "other"] a_meet d_meet) {a_meets : Addr} {d_meets : FuncData} (D_meets : Df K mg "meets" (tp 15) ["order"] a_meets d_meets) {a_ups : Addr} {d_ups : FuncData} (D_ups : Df K mg "ups" (tp 6) ["order"] a_ups d_ups) {a_pentagon : Addr} {d_pentagon : FuncData} (D_pentagon : Df K mg "pentagon" (tp 18) ["order", "up", "down"] a_pentagon d_pentagon) {a_diamond : Addr} {d_diamond : FuncData} (D_diamond : Df K mg "diamond" (tp 19) ["order", "up", "down"] a_diamond d_diamond) {a_bar_in : Addr} {d_bar_in : FuncData} (D_bar_in : Df K mg "bar_in" (tp 20) ["order", "up", "down"] a_bar_in d_bar_in) {a_distributive : Addr} {d_distributive : FuncData} (D_distributive : Df K mg "distributive" (tp 16) ["order"] a_distributive d_distributive) {a_modular : Addr} {d_modular : FuncData} (D_modular : Df K mg "modular" (tp 17) ["order"] a_modular d_modular) {a_is_whole : Addr} {d_is_whole : FuncData} (D_is_whole : Df K mg "is_whole" (tp 1) ["value", "low", "high"] a_is_whole d_is_whole) {a_is_bar : Addr} {d_is_bar : FuncData} (D_is_bar : Df K mg "is_bar" (tp 21) ["order", "value"] a_is_bar d_is_bar) {a__law_right : Addr} {d__law_right : FuncData} (D__law_right : Df K mg "_law_right" (tp 36) ["order", "value"] a__law_right d__law_right) {a__law_pick : Addr} {d__law_pick : FuncData} (D__law_pick : Df K mg "_law_pick" (tp 25) ["state", "row"] a__law_pick d__law_pick) {a_law : Addr} {d_law : FuncData} (D_law : Df K mg "law" (tp 38) ["script"] a_law d_law) (z : Bz mg) : FnOk P w K mg base CX0 8 a_law d_law ["script"] (spJ K 15 [.fz] 0 f_law) := by
  have k__law_state := ok__law_state (P := P) (w := w) (base := base) D__law_state z
  have k__law_take := ok__law_take (P := P) (w := w) (base := base) D__law_take z
  have k__law_up := ok__law_up (P := P) (w := w) (base := base) D__law_up z
  have k__law_order_of := ok__law_order_of (P := P) (w := w) (base := base) D__law_order_of z (k__law_up.up)
  have k__law_family := ok__law_family (P := P) (w := w) (base := base) D__law_family z (k__law_take.up) (k__law_order_of.up)
  have k__law_world := ok__law_world (P := P) (w := w) (base := base) D__law_world z (k__law_take.up) (k__law_family.up) (k__law_order_of.up)
  have k__law_ups := ok__law_ups (P := P) (w := w) (base := base) D__law_ups z (k__law_up.up)
  have k__law_low := ok__law_low (P := P) (w := w) (base := base) D__law_low z
  have k__law_high := ok__law_high (P := P) (w := w) (base := base) D__law_high z
  have k__law_tables := ok__law_tables (P := P) (w := w) (base := base) D__law_tables z (k__law_ups.up) (k__law_high.up) (k__law_low.up)
  have k__law_kinds := ok__law_kinds (P := P) (w := w) (base := base) D__law_kinds z (k__law_tables.up) (k__law_ups.up)
  have k__law_is_lattice := ok__law_is_lattice (P := P) (w := w) (base := base) D__law_is_lattice z (k__law_tables.up)
  have k_goals := ok_goals (P := P) (w := w) (base := base) D_goals z
  have k_reached := ok_reached (P := P) (w := w) (base := base) D_reached z (k_goals.up)
  have k_below := ok_below (P := P) (w := w) (base := base) D_below z (k_reached.up)
  have k_least_of := ok_least_of (P := P) (w := w) (base := base) D_least_of z (k_below.up)
  have k_above := ok_above (P := P) (w := w) (base := base) D_above z (k_reached.up)
  have k_upper := ok_upper (P := P) (w := w) (base := base) D_upper z (k_above.up)
  have k_join := ok_join (P := P) (w := w) (base := base) D_join z (k_upper.up) (k_least_of.up)
  have k_joins := ok_joins (P := P) (w := w) (base := base) D_joins z (k_join.up)
  have k_greatest_of := ok_greatest_of (P := P) (w := w) (base := base) D_greatest_of z (k_above.up)
  have k_lower := ok_lower (P := P) (w := w) (base := base) D_lower z (k_below.up)
  have k_meet := ok_meet (P := P) (w := w) (base := base) D_meet z (k_lower.up) (k_greatest_of.up)
  have k_meets := ok_meets (P := P) (w := w) (base := base) D_meets z (k_meet.up)
  have k_ups := ok_ups (P := P) (w := w) (base := base) D_ups z (k_above.up)
  have k_pentagon := ok_pentagon (P := P) (w := w) (base := base) D_pentagon z (k_ups.up)
  have k_diamond := ok_diamond (P := P) (w := w) (base := base) D_diamond z
  have k_bar_in := ok_bar_in (P := P) (w := w) (base := base) D_bar_in z (k_pentagon.up) (k_diamond.up)
  have k_distributive := ok_distributive (P := P) (w := w) (base := base) D_distributive z (k_meets.up) (k_joins.up) (k_bar_in.up)
  have k_modular := ok_modular (P := P) (w := w) (base := base) D_modular z (k_meets.up) (k_joins.up) (k_pentagon.up)
  have k_is_whole := ok_is_whole (P := P) (w := w) (base := base) D_is_whole z
  have k_is_bar := ok_is_bar (P := P) (w := w) (base := base) D_is_bar z (k_is_whole.up) (k_meets.up) (k_joins.up) (k_above.up)
  have k__law_right := ok__law_right (P := P) (w := w) (base := base) D__law_right z (k__law_tables.up) (k__law_ups.up)
  have k__law_pick := ok__law_pick (P := P) (w := w) (base := base) D__law_pick z (k__law_take.up)
  have k_law := ok_law (P := P) (w := w) (base := base) D_law z (k__law_state.up) (k__law_world.up) (k__law_is_lattice.up) (k__law_kinds.up) (k_modular.up) (k_distributive.up) (k__law_right.up) (k_is_bar.up) (k__law_take.up) (k__law_pick.up)
  exact k_law
end
theorem df_mk {K : PySem.W.Frag} {h : Heap} {mg : PySem.Str → Option Value} {x : PySem.Str} {st : PySem.Stmt} {ps : List PySem.Str} {f : Addr} {od an : Option Addr} {sl : Array (Option Value)} {oc kV dc pm cd ct : Value} (X : K.In h) (G : h.Ns mainGlobals mg) (a : PySem.W.nsIn K mainGlobals x = some (some (.ref f))) (l : K.lookup f = some ⟨oc, od, .func (PySem.W.fnOf x x (defArgs st) (defBody st) (defScope st) .none kV dc pm an cd ct), sl⟩) (c : PySem.W.codeIn K cd x = true) (k : PySem.W.keepIn K (.ref f) = true)
    (hb : ∀ (kV doc pm : Value) (an : Option Addr) (cdv ct : Value) (us : List Value), us.length = ps.length → bindArgs (PySem.W.fnOf x x (defArgs st) (defBody st) (defScope st) .none kV doc pm an cdv ct) ⟨us, []⟩ = pure (ps.zip us)) : Df K mg x st ps f (PySem.W.fnOf x x (defArgs st) (defBody st) (defScope st) .none kV dc pm an cd ct) :=
  ⟨fun_mk l c k, PySem.W.mg_of X G a, (fun_mk l c k).binds hb⟩
theorem all_mk {l : PySem.W.OpenLaw} {w : World} {K : PySem.W.Frag} {h : Heap} {mg : PySem.Str → Option Value} {fa : Addr} (X : K.In h) (G : h.Ns mainGlobals mg) (hfa : mg "law" = some (.ref fa))
    {od0 an0 : Option Addr} {sl0 : Array (Option Value)} {oc0 kV0 dc0 pm0 cd0 ct0 : Value} {f0 : Addr} (a0 : PySem.W.nsIn K mainGlobals "_law_state" = some (some (.ref f0))) (l0 : K.lookup f0 = some ⟨oc0, od0, .func (PySem.W.fnOf "_law_state" "_law_state" (defArgs (tp 23)) (defBody (tp 23)) (defScope (tp 23)) .none kV0 dc0 pm0 an0 cd0 ct0), sl0⟩) (c0 : PySem.W.codeIn K cd0 "_law_state" = true) (k0 : PySem.W.keepIn K (.ref f0) = true)
    {od1 an1 : Option Addr} {sl1 : Array (Option Value)} {oc1 kV1 dc1 pm1 cd1 ct1 : Value} {f1 : Addr} (a1 : PySem.W.nsIn K mainGlobals "_law_take" = some (some (.ref f1))) (l1 : K.lookup f1 = some ⟨oc1, od1, .func (PySem.W.fnOf "_law_take" "_law_take" (defArgs (tp 24)) (defBody (tp 24)) (defScope (tp 24)) .none kV1 dc1 pm1 an1 cd1 ct1), sl1⟩) (c1 : PySem.W.codeIn K cd1 "_law_take" = true) (k1 : PySem.W.keepIn K (.ref f1) = true)
    {od2 an2 : Option Addr} {sl2 : Array (Option Value)} {oc2 kV2 dc2 pm2 cd2 ct2 : Value} {f2 : Addr} (a2 : PySem.W.nsIn K mainGlobals "_law_up" = some (some (.ref f2))) (l2 : K.lookup f2 = some ⟨oc2, od2, .func (PySem.W.fnOf "_law_up" "_law_up" (defArgs (tp 26)) (defBody (tp 26)) (defScope (tp 26)) .none kV2 dc2 pm2 an2 cd2 ct2), sl2⟩) (c2 : PySem.W.codeIn K cd2 "_law_up" = true) (k2 : PySem.W.keepIn K (.ref f2) = true)
    {od3 an3 : Option Addr} {sl3 : Array (Option Value)} {oc3 kV3 dc3 pm3 cd3 ct3 : Value} {f3 : Addr} (a3 : PySem.W.nsIn K mainGlobals "_law_order_of" = some (some (.ref f3))) (l3 : K.lookup f3 = some ⟨oc3, od3, .func (PySem.W.fnOf "_law_order_of" "_law_order_of" (defArgs (tp 27)) (defBody (tp 27)) (defScope (tp 27)) .none kV3 dc3 pm3 an3 cd3 ct3), sl3⟩) (c3 : PySem.W.codeIn K cd3 "_law_order_of" = true) (k3 : PySem.W.keepIn K (.ref f3) = true)
    {od4 an4 : Option Addr} {sl4 : Array (Option Value)} {oc4 kV4 dc4 pm4 cd4 ct4 : Value} {f4 : Addr} (a4 : PySem.W.nsIn K mainGlobals "_law_family" = some (some (.ref f4))) (l4 : K.lookup f4 = some ⟨oc4, od4, .func (PySem.W.fnOf "_law_family" "_law_family" (defArgs (tp 34)) (defBody (tp 34)) (defScope (tp 34)) .none kV4 dc4 pm4 an4 cd4 ct4), sl4⟩) (c4 : PySem.W.codeIn K cd4 "_law_family" = true) (k4 : PySem.W.keepIn K (.ref f4) = true)
    {od5 an5 : Option Addr} {sl5 : Array (Option Value)} {oc5 kV5 dc5 pm5 cd5 ct5 : Value} {f5 : Addr} (a5 : PySem.W.nsIn K mainGlobals "_law_world" = some (some (.ref f5))) (l5 : K.lookup f5 = some ⟨oc5, od5, .func (PySem.W.fnOf "_law_world" "_law_world" (defArgs (tp 35)) (defBody (tp 35)) (defScope (tp 35)) .none kV5 dc5 pm5 an5 cd5 ct5), sl5⟩) (c5 : PySem.W.codeIn K cd5 "_law_world" = true) (k5 : PySem.W.keepIn K (.ref f5) = true)
    {od6 an6 : Option Addr} {sl6 : Array (Option Value)} {oc6 kV6 dc6 pm6 cd6 ct6 : Value} {f6 : Addr} (a6 : PySem.W.nsIn K mainGlobals "_law_ups" = some (some (.ref f6))) (l6 : K.lookup f6 = some ⟨oc6, od6, .func (PySem.W.fnOf "_law_ups" "_law_ups" (defArgs (tp 29)) (defBody (tp 29)) (defScope (tp 29)) .none kV6 dc6 pm6 an6 cd6 ct6), sl6⟩) (c6 : PySem.W.codeIn K cd6 "_law_ups" = true) (k6 : PySem.W.keepIn K (.ref f6) = true)
    {od7 an7 : Option Addr} {sl7 : Array (Option Value)} {oc7 kV7 dc7 pm7 cd7 ct7 : Value} {f7 : Addr} (a7 : PySem.W.nsIn K mainGlobals "_law_low" = some (some (.ref f7))) (l7 : K.lookup f7 = some ⟨oc7, od7, .func (PySem.W.fnOf "_law_low" "_law_low" (defArgs (tp 30)) (defBody (tp 30)) (defScope (tp 30)) .none kV7 dc7 pm7 an7 cd7 ct7), sl7⟩) (c7 : PySem.W.codeIn K cd7 "_law_low" = true) (k7 : PySem.W.keepIn K (.ref f7) = true)
    {od8 an8 : Option Addr} {sl8 : Array (Option Value)} {oc8 kV8 dc8 pm8 cd8 ct8 : Value} {f8 : Addr} (a8 : PySem.W.nsIn K mainGlobals "_law_high" = some (some (.ref f8))) (l8 : K.lookup f8 = some ⟨oc8, od8, .func (PySem.W.fnOf "_law_high" "_law_high" (defArgs (tp 31)) (defBody (tp 31)) (defScope (tp 31)) .none kV8 dc8 pm8 an8 cd8 ct8), sl8⟩) (c8 : PySem.W.codeIn K cd8 "_law_high" = true) (k8 : PySem.W.keepIn K (.ref f8) = true)
    {od9 an9 : Option Addr} {sl9 : Array (Option Value)} {oc9 kV9 dc9 pm9 cd9 ct9 : Value} {f9 : Addr} (a9 : PySem.W.nsIn K mainGlobals "_law_tables" = some (some (.ref f9))) (l9 : K.lookup f9 = some ⟨oc9, od9, .func (PySem.W.fnOf "_law_tables" "_law_tables" (defArgs (tp 32)) (defBody (tp 32)) (defScope (tp 32)) .none kV9 dc9 pm9 an9 cd9 ct9), sl9⟩) (c9 : PySem.W.codeIn K cd9 "_law_tables" = true) (k9 : PySem.W.keepIn K (.ref f9) = true)
    {od10 an10 : Option Addr} {sl10 : Array (Option Value)} {oc10 kV10 dc10 pm10 cd10 ct10 : Value} {f10 : Addr} (a10 : PySem.W.nsIn K mainGlobals "_law_kinds" = some (some (.ref f10))) (l10 : K.lookup f10 = some ⟨oc10, od10, .func (PySem.W.fnOf "_law_kinds" "_law_kinds" (defArgs (tp 37)) (defBody (tp 37)) (defScope (tp 37)) .none kV10 dc10 pm10 an10 cd10 ct10), sl10⟩) (c10 : PySem.W.codeIn K cd10 "_law_kinds" = true) (k10 : PySem.W.keepIn K (.ref f10) = true)
    {od11 an11 : Option Addr} {sl11 : Array (Option Value)} {oc11 kV11 dc11 pm11 cd11 ct11 : Value} {f11 : Addr} (a11 : PySem.W.nsIn K mainGlobals "_law_is_lattice" = some (some (.ref f11))) (l11 : K.lookup f11 = some ⟨oc11, od11, .func (PySem.W.fnOf "_law_is_lattice" "_law_is_lattice" (defArgs (tp 33)) (defBody (tp 33)) (defScope (tp 33)) .none kV11 dc11 pm11 an11 cd11 ct11), sl11⟩) (c11 : PySem.W.codeIn K cd11 "_law_is_lattice" = true) (k11 : PySem.W.keepIn K (.ref f11) = true)
    {od12 an12 : Option Addr} {sl12 : Array (Option Value)} {oc12 kV12 dc12 pm12 cd12 ct12 : Value} {f12 : Addr} (a12 : PySem.W.nsIn K mainGlobals "goals" = some (some (.ref f12))) (l12 : K.lookup f12 = some ⟨oc12, od12, .func (PySem.W.fnOf "goals" "goals" (defArgs (tp 2)) (defBody (tp 2)) (defScope (tp 2)) .none kV12 dc12 pm12 an12 cd12 ct12), sl12⟩) (c12 : PySem.W.codeIn K cd12 "goals" = true) (k12 : PySem.W.keepIn K (.ref f12) = true)
    {od13 an13 : Option Addr} {sl13 : Array (Option Value)} {oc13 kV13 dc13 pm13 cd13 ct13 : Value} {f13 : Addr} (a13 : PySem.W.nsIn K mainGlobals "reached" = some (some (.ref f13))) (l13 : K.lookup f13 = some ⟨oc13, od13, .func (PySem.W.fnOf "reached" "reached" (defArgs (tp 3)) (defBody (tp 3)) (defScope (tp 3)) .none kV13 dc13 pm13 an13 cd13 ct13), sl13⟩) (c13 : PySem.W.codeIn K cd13 "reached" = true) (k13 : PySem.W.keepIn K (.ref f13) = true)
    {od14 an14 : Option Addr} {sl14 : Array (Option Value)} {oc14 kV14 dc14 pm14 cd14 ct14 : Value} {f14 : Addr} (a14 : PySem.W.nsIn K mainGlobals "below" = some (some (.ref f14))) (l14 : K.lookup f14 = some ⟨oc14, od14, .func (PySem.W.fnOf "below" "below" (defArgs (tp 5)) (defBody (tp 5)) (defScope (tp 5)) .none kV14 dc14 pm14 an14 cd14 ct14), sl14⟩) (c14 : PySem.W.codeIn K cd14 "below" = true) (k14 : PySem.W.keepIn K (.ref f14) = true)
    {od15 an15 : Option Addr} {sl15 : Array (Option Value)} {oc15 kV15 dc15 pm15 cd15 ct15 : Value} {f15 : Addr} (a15 : PySem.W.nsIn K mainGlobals "least_of" = some (some (.ref f15))) (l15 : K.lookup f15 = some ⟨oc15, od15, .func (PySem.W.fnOf "least_of" "least_of" (defArgs (tp 10)) (defBody (tp 10)) (defScope (tp 10)) .none kV15 dc15 pm15 an15 cd15 ct15), sl15⟩) (c15 : PySem.W.codeIn K cd15 "least_of" = true) (k15 : PySem.W.keepIn K (.ref f15) = true)
    {od16 an16 : Option Addr} {sl16 : Array (Option Value)} {oc16 kV16 dc16 pm16 cd16 ct16 : Value} {f16 : Addr} (a16 : PySem.W.nsIn K mainGlobals "above" = some (some (.ref f16))) (l16 : K.lookup f16 = some ⟨oc16, od16, .func (PySem.W.fnOf "above" "above" (defArgs (tp 4)) (defBody (tp 4)) (defScope (tp 4)) .none kV16 dc16 pm16 an16 cd16 ct16), sl16⟩) (c16 : PySem.W.codeIn K cd16 "above" = true) (k16 : PySem.W.keepIn K (.ref f16) = true)
    {od17 an17 : Option Addr} {sl17 : Array (Option Value)} {oc17 kV17 dc17 pm17 cd17 ct17 : Value} {f17 : Addr} (a17 : PySem.W.nsIn K mainGlobals "upper" = some (some (.ref f17))) (l17 : K.lookup f17 = some ⟨oc17, od17, .func (PySem.W.fnOf "upper" "upper" (defArgs (tp 8)) (defBody (tp 8)) (defScope (tp 8)) .none kV17 dc17 pm17 an17 cd17 ct17), sl17⟩) (c17 : PySem.W.codeIn K cd17 "upper" = true) (k17 : PySem.W.keepIn K (.ref f17) = true)
    {od18 an18 : Option Addr} {sl18 : Array (Option Value)} {oc18 kV18 dc18 pm18 cd18 ct18 : Value} {f18 : Addr} (a18 : PySem.W.nsIn K mainGlobals "join" = some (some (.ref f18))) (l18 : K.lookup f18 = some ⟨oc18, od18, .func (PySem.W.fnOf "join" "join" (defArgs (tp 12)) (defBody (tp 12)) (defScope (tp 12)) .none kV18 dc18 pm18 an18 cd18 ct18), sl18⟩) (c18 : PySem.W.codeIn K cd18 "join" = true) (k18 : PySem.W.keepIn K (.ref f18) = true)
    {od19 an19 : Option Addr} {sl19 : Array (Option Value)} {oc19 kV19 dc19 pm19 cd19 ct19 : Value} {f19 : Addr} (a19 : PySem.W.nsIn K mainGlobals "joins" = some (some (.ref f19))) (l19 : K.lookup f19 = some ⟨oc19, od19, .func (PySem.W.fnOf "joins" "joins" (defArgs (tp 14)) (defBody (tp 14)) (defScope (tp 14)) .none kV19 dc19 pm19 an19 cd19 ct19), sl19⟩) (c19 : PySem.W.codeIn K cd19 "joins" = true) (k19 : PySem.W.keepIn K (.ref f19) = true)
    {od20 an20 : Option Addr} {sl20 : Array (Option Value)} {oc20 kV20 dc20 pm20 cd20 ct20 : Value} {f20 : Addr} (a20 : PySem.W.nsIn K mainGlobals "greatest_of" = some (some (.ref f20))) (l20 : K.lookup f20 = some ⟨oc20, od20, .func (PySem.W.fnOf "greatest_of" "greatest_of" (defArgs (tp 11)) (defBody (tp 11)) (defScope (tp 11)) .none kV20 dc20 pm20 an20 cd20 ct20), sl20⟩) (c20 : PySem.W.codeIn K cd20 "greatest_of" = true) (k20 : PySem.W.keepIn K (.ref f20) = true)
    {od21 an21 : Option Addr} {sl21 : Array (Option Value)} {oc21 kV21 dc21 pm21 cd21 ct21 : Value} {f21 : Addr} (a21 : PySem.W.nsIn K mainGlobals "lower" = some (some (.ref f21))) (l21 : K.lookup f21 = some ⟨oc21, od21, .func (PySem.W.fnOf "lower" "lower" (defArgs (tp 9)) (defBody (tp 9)) (defScope (tp 9)) .none kV21 dc21 pm21 an21 cd21 ct21), sl21⟩) (c21 : PySem.W.codeIn K cd21 "lower" = true) (k21 : PySem.W.keepIn K (.ref f21) = true)
    {od22 an22 : Option Addr} {sl22 : Array (Option Value)} {oc22 kV22 dc22 pm22 cd22 ct22 : Value} {f22 : Addr} (a22 : PySem.W.nsIn K mainGlobals "meet" = some (some (.ref f22))) (l22 : K.lookup f22 = some ⟨oc22, od22, .func (PySem.W.fnOf "meet" "meet" (defArgs (tp 13)) (defBody (tp 13)) (defScope (tp 13)) .none kV22 dc22 pm22 an22 cd22 ct22), sl22⟩) (c22 : PySem.W.codeIn K cd22 "meet" = true) (k22 : PySem.W.keepIn K (.ref f22) = true)
    {od23 an23 : Option Addr} {sl23 : Array (Option Value)} {oc23 kV23 dc23 pm23 cd23 ct23 : Value} {f23 : Addr} (a23 : PySem.W.nsIn K mainGlobals "meets" = some (some (.ref f23))) (l23 : K.lookup f23 = some ⟨oc23, od23, .func (PySem.W.fnOf "meets" "meets" (defArgs (tp 15)) (defBody (tp 15)) (defScope (tp 15)) .none kV23 dc23 pm23 an23 cd23 ct23), sl23⟩) (c23 : PySem.W.codeIn K cd23 "meets" = true) (k23 : PySem.W.keepIn K (.ref f23) = true)
    {od24 an24 : Option Addr} {sl24 : Array (Option Value)} {oc24 kV24 dc24 pm24 cd24 ct24 : Value} {f24 : Addr} (a24 : PySem.W.nsIn K mainGlobals "ups" = some (some (.ref f24))) (l24 : K.lookup f24 = some ⟨oc24, od24, .func (PySem.W.fnOf "ups" "ups" (defArgs (tp 6)) (defBody (tp 6)) (defScope (tp 6)) .none kV24 dc24 pm24 an24 cd24 ct24), sl24⟩) (c24 : PySem.W.codeIn K cd24 "ups" = true) (k24 : PySem.W.keepIn K (.ref f24) = true)
    {od25 an25 : Option Addr} {sl25 : Array (Option Value)} {oc25 kV25 dc25 pm25 cd25 ct25 : Value} {f25 : Addr} (a25 : PySem.W.nsIn K mainGlobals "pentagon" = some (some (.ref f25))) (l25 : K.lookup f25 = some ⟨oc25, od25, .func (PySem.W.fnOf "pentagon" "pentagon" (defArgs (tp 18)) (defBody (tp 18)) (defScope (tp 18)) .none kV25 dc25 pm25 an25 cd25 ct25), sl25⟩) (c25 : PySem.W.codeIn K cd25 "pentagon" = true) (k25 : PySem.W.keepIn K (.ref f25) = true)
    {od26 an26 : Option Addr} {sl26 : Array (Option Value)} {oc26 kV26 dc26 pm26 cd26 ct26 : Value} {f26 : Addr} (a26 : PySem.W.nsIn K mainGlobals "diamond" = some (some (.ref f26))) (l26 : K.lookup f26 = some ⟨oc26, od26, .func (PySem.W.fnOf "diamond" "diamond" (defArgs (tp 19)) (defBody (tp 19)) (defScope (tp 19)) .none kV26 dc26 pm26 an26 cd26 ct26), sl26⟩) (c26 : PySem.W.codeIn K cd26 "diamond" = true) (k26 : PySem.W.keepIn K (.ref f26) = true)
    {od27 an27 : Option Addr} {sl27 : Array (Option Value)} {oc27 kV27 dc27 pm27 cd27 ct27 : Value} {f27 : Addr} (a27 : PySem.W.nsIn K mainGlobals "bar_in" = some (some (.ref f27))) (l27 : K.lookup f27 = some ⟨oc27, od27, .func (PySem.W.fnOf "bar_in" "bar_in" (defArgs (tp 20)) (defBody (tp 20)) (defScope (tp 20)) .none kV27 dc27 pm27 an27 cd27 ct27), sl27⟩) (c27 : PySem.W.codeIn K cd27 "bar_in" = true) (k27 : PySem.W.keepIn K (.ref f27) = true)
    {od28 an28 : Option Addr} {sl28 : Array (Option Value)} {oc28 kV28 dc28 pm28 cd28 ct28 : Value} {f28 : Addr} (a28 : PySem.W.nsIn K mainGlobals "distributive" = some (some (.ref f28))) (l28 : K.lookup f28 = some ⟨oc28, od28, .func (PySem.W.fnOf "distributive" "distributive" (defArgs (tp 16)) (defBody (tp 16)) (defScope (tp 16)) .none kV28 dc28 pm28 an28 cd28 ct28), sl28⟩) (c28 : PySem.W.codeIn K cd28 "distributive" = true) (k28 : PySem.W.keepIn K (.ref f28) = true)
    {od29 an29 : Option Addr} {sl29 : Array (Option Value)} {oc29 kV29 dc29 pm29 cd29 ct29 : Value} {f29 : Addr} (a29 : PySem.W.nsIn K mainGlobals "modular" = some (some (.ref f29))) (l29 : K.lookup f29 = some ⟨oc29, od29, .func (PySem.W.fnOf "modular" "modular" (defArgs (tp 17)) (defBody (tp 17)) (defScope (tp 17)) .none kV29 dc29 pm29 an29 cd29 ct29), sl29⟩) (c29 : PySem.W.codeIn K cd29 "modular" = true) (k29 : PySem.W.keepIn K (.ref f29) = true)
    {od30 an30 : Option Addr} {sl30 : Array (Option Value)} {oc30 kV30 dc30 pm30 cd30 ct30 : Value} {f30 : Addr} (a30 : PySem.W.nsIn K mainGlobals "is_whole" = some (some (.ref f30))) (l30 : K.lookup f30 = some ⟨oc30, od30, .func (PySem.W.fnOf "is_whole" "is_whole" (defArgs (tp 1)) (defBody (tp 1)) (defScope (tp 1)) .none kV30 dc30 pm30 an30 cd30 ct30), sl30⟩) (c30 : PySem.W.codeIn K cd30 "is_whole" = true) (k30 : PySem.W.keepIn K (.ref f30) = true)
    {od31 an31 : Option Addr} {sl31 : Array (Option Value)} {oc31 kV31 dc31 pm31 cd31 ct31 : Value} {f31 : Addr} (a31 : PySem.W.nsIn K mainGlobals "is_bar" = some (some (.ref f31))) (l31 : K.lookup f31 = some ⟨oc31, od31, .func (PySem.W.fnOf "is_bar" "is_bar" (defArgs (tp 21)) (defBody (tp 21)) (defScope (tp 21)) .none kV31 dc31 pm31 an31 cd31 ct31), sl31⟩) (c31 : PySem.W.codeIn K cd31 "is_bar" = true) (k31 : PySem.W.keepIn K (.ref f31) = true)
    {od32 an32 : Option Addr} {sl32 : Array (Option Value)} {oc32 kV32 dc32 pm32 cd32 ct32 : Value} {f32 : Addr} (a32 : PySem.W.nsIn K mainGlobals "_law_right" = some (some (.ref f32))) (l32 : K.lookup f32 = some ⟨oc32, od32, .func (PySem.W.fnOf "_law_right" "_law_right" (defArgs (tp 36)) (defBody (tp 36)) (defScope (tp 36)) .none kV32 dc32 pm32 an32 cd32 ct32), sl32⟩) (c32 : PySem.W.codeIn K cd32 "_law_right" = true) (k32 : PySem.W.keepIn K (.ref f32) = true)
    {od33 an33 : Option Addr} {sl33 : Array (Option Value)} {oc33 kV33 dc33 pm33 cd33 ct33 : Value} {f33 : Addr} (a33 : PySem.W.nsIn K mainGlobals "_law_pick" = some (some (.ref f33))) (l33 : K.lookup f33 = some ⟨oc33, od33, .func (PySem.W.fnOf "_law_pick" "_law_pick" (defArgs (tp 25)) (defBody (tp 25)) (defScope (tp 25)) .none kV33 dc33 pm33 an33 cd33 ct33), sl33⟩) (c33 : PySem.W.codeIn K cd33 "_law_pick" = true) (k33 : PySem.W.keepIn K (.ref f33) = true)
    {od34 an34 : Option Addr} {sl34 : Array (Option Value)} {oc34 kV34 dc34 pm34 cd34 ct34 : Value} {f34 : Addr} (a34 : PySem.W.nsIn K mainGlobals "law" = some (some (.ref f34))) (l34 : K.lookup f34 = some ⟨oc34, od34, .func (PySem.W.fnOf "law" "law" (defArgs (tp 38)) (defBody (tp 38)) (defScope (tp 38)) .none kV34 dc34 pm34 an34 cd34 ct34), sl34⟩) (c34 : PySem.W.codeIn K cd34 "law" = true) (k34 : PySem.W.keepIn K (.ref f34) = true) (z0 : PySem.W.nsIn K mainGlobals "abs" = some none) (z1 : PySem.W.nsIn K mainGlobals "all" = some none) (z2 : PySem.W.nsIn K mainGlobals "any" = some none) (z3 : PySem.W.nsIn K mainGlobals "bool" = some none) (z4 : PySem.W.nsIn K mainGlobals "int" = some none) (z5 : PySem.W.nsIn K mainGlobals "isinstance" = some none) (z6 : PySem.W.nsIn K mainGlobals "len" = some none) (z7 : PySem.W.nsIn K mainGlobals "list" = some none) (z8 : PySem.W.nsIn K mainGlobals "range" = some none) (z9 : PySem.W.nsIn K mainGlobals "set" = some none) (z10 : PySem.W.nsIn K mainGlobals "sorted" = some none) (z11 : PySem.W.nsIn K mainGlobals "tuple" = some none) :
    ∃ fd : FuncData, (∀ (s : Shared) (v : Value), BindsTo s fd ⟨[v], []⟩ [("script", v)]) ∧ ∀ base : Heap, K.In base → base.Ns mainGlobals mg → FnOk l.prog w K mg base CX0 8 fa fd ["script"] (spJ K 15 [.fz] 0 f_law) := by
  have D0 := df_mk (ps := ["script"]) X G a0 l0 c0 k0 fun _ _ _ _ _ _ us hl => match us, hl with | [_], _ => rfl
  have D1 := df_mk (ps := ["state", "most"]) X G a1 l1 c1 k1 fun _ _ _ _ _ _ us hl => match us, hl with | [_, _], _ => rfl
  have D2 := df_mk (ps := ["many", "pairs"]) X G a2 l2 c2 k2 fun _ _ _ _ _ _ us hl => match us, hl with | [_, _], _ => rfl
  have D3 := df_mk (ps := ["many", "pairs"]) X G a3 l3 c3 k3 fun _ _ _ _ _ _ us hl => match us, hl with | [_, _], _ => rfl
  have D4 := df_mk (ps := ["state"]) X G a4 l4 c4 k4 fun _ _ _ _ _ _ us hl => match us, hl with | [_], _ => rfl
  have D5 := df_mk (ps := ["state"]) X G a5 l5 c5 k5 fun _ _ _ _ _ _ us hl => match us, hl with | [_], _ => rfl
  have D6 := df_mk (ps := ["order"]) X G a6 l6 c6 k6 fun _ _ _ _ _ _ us hl => match us, hl with | [_], _ => rfl
  have D7 := df_mk (ps := ["up", "lot"]) X G a7 l7 c7 k7 fun _ _ _ _ _ _ us hl => match us, hl with | [_, _], _ => rfl
  have D8 := df_mk (ps := ["up", "lot"]) X G a8 l8 c8 k8 fun _ _ _ _ _ _ us hl => match us, hl with | [_, _], _ => rfl
  have D9 := df_mk (ps := ["order"]) X G a9 l9 c9 k9 fun _ _ _ _ _ _ us hl => match us, hl with | [_], _ => rfl
  have D10 := df_mk (ps := ["order"]) X G a10 l10 c10 k10 fun _ _ _ _ _ _ us hl => match us, hl with | [_], _ => rfl
  have D11 := df_mk (ps := ["order"]) X G a11 l11 c11 k11 fun _ _ _ _ _ _ us hl => match us, hl with | [_], _ => rfl
  have D12 := df_mk (ps := ["pairs", "one"]) X G a12 l12 c12 k12 fun _ _ _ _ _ _ us hl => match us, hl with | [_, _], _ => rfl
  have D13 := df_mk (ps := ["pairs", "one"]) X G a13 l13 c13 k13 fun _ _ _ _ _ _ us hl => match us, hl with | [_, _], _ => rfl
  have D14 := df_mk (ps := ["order", "one"]) X G a14 l14 c14 k14 fun _ _ _ _ _ _ us hl => match us, hl with | [_, _], _ => rfl
  have D15 := df_mk (ps := ["order", "lot"]) X G a15 l15 c15 k15 fun _ _ _ _ _ _ us hl => match us, hl with | [_, _], _ => rfl
  have D16 := df_mk (ps := ["order", "one"]) X G a16 l16 c16 k16 fun _ _ _ _ _ _ us hl => match us, hl with | [_, _], _ => rfl
  have D17 := df_mk (ps := ["order", "one", "other"]) X G a17 l17 c17 k17 fun _ _ _ _ _ _ us hl => match us, hl with | [_, _, _], _ => rfl
  have D18 := df_mk (ps := ["order", "one", "other"]) X G a18 l18 c18 k18 fun _ _ _ _ _ _ us hl => match us, hl with | [_, _, _], _ => rfl
  have D19 := df_mk (ps := ["order"]) X G a19 l19 c19 k19 fun _ _ _ _ _ _ us hl => match us, hl with | [_], _ => rfl
  have D20 := df_mk (ps := ["order", "lot"]) X G a20 l20 c20 k20 fun _ _ _ _ _ _ us hl => match us, hl with | [_, _], _ => rfl
  have D21 := df_mk (ps := ["order", "one", "other"]) X G a21 l21 c21 k21 fun _ _ _ _ _ _ us hl => match us, hl with | [_, _, _], _ => rfl
  have D22 := df_mk (ps := ["order", "one", "other"]) X G a22 l22 c22 k22 fun _ _ _ _ _ _ us hl => match us, hl with | [_, _, _], _ => rfl
  have D23 := df_mk (ps := ["order"]) X G a23 l23 c23 k23 fun _ _ _ _ _ _ us hl => match us, hl with | [_], _ => rfl
  have D24 := df_mk (ps := ["order"]) X G a24 l24 c24 k24 fun _ _ _ _ _ _ us hl => match us, hl with | [_], _ => rfl
  have D25 := df_mk (ps := ["order", "up", "down"]) X G a25 l25 c25 k25 fun _ _ _ _ _ _ us hl => match us, hl with | [_, _, _], _ => rfl
  have D26 := df_mk (ps := ["order", "up", "down"]) X G a26 l26 c26 k26 fun _ _ _ _ _ _ us hl => match us, hl with | [_, _, _], _ => rfl
  have D27 := df_mk (ps := ["order", "up", "down"]) X G a27 l27 c27 k27 fun _ _ _ _ _ _ us hl => match us, hl with | [_, _, _], _ => rfl
  have D28 := df_mk (ps := ["order"]) X G a28 l28 c28 k28 fun _ _ _ _ _ _ us hl => match us, hl with | [_], _ => rfl
  have D29 := df_mk (ps := ["order"]) X G a29 l29 c29 k29 fun _ _ _ _ _ _ us hl => match us, hl with | [_], _ => rfl
  have D30 := df_mk (ps := ["value", "low", "high"]) X G a30 l30 c30 k30 fun _ _ _ _ _ _ us hl => match us, hl with | [_, _, _], _ => rfl
  have D31 := df_mk (ps := ["order", "value"]) X G a31 l31 c31 k31 fun _ _ _ _ _ _ us hl => match us, hl with | [_, _], _ => rfl
  have D32 := df_mk (ps := ["order", "value"]) X G a32 l32 c32 k32 fun _ _ _ _ _ _ us hl => match us, hl with | [_, _], _ => rfl
  have D33 := df_mk (ps := ["state", "row"]) X G a33 l33 c33 k33 fun _ _ _ _ _ _ us hl => match us, hl with | [_, _], _ => rfl
  have D34 := df_mk (ps := ["script"]) X G a34 l34 c34 k34 fun _ _ _ _ _ _ us hl => match us, hl with | [_], _ => rfl
  have z : Bz mg := ⟨PySem.W.mg_none_of X G z0, PySem.W.mg_none_of X G z1, PySem.W.mg_none_of X G z2, PySem.W.mg_none_of X G z3, PySem.W.mg_none_of X G z4, PySem.W.mg_none_of X G z5, PySem.W.mg_none_of X G z6, PySem.W.mg_none_of X G z7, PySem.W.mg_none_of X G z8, PySem.W.mg_none_of X G z9, PySem.W.mg_none_of X G z10, PySem.W.mg_none_of X G z11⟩
  have e := hfa.symm.trans (PySem.W.mg_of X G a34)
  cases e
  exact ⟨PySem.W.fnOf "law" "law" (defArgs (tp 38)) (defBody (tp 38)) (defScope (tp 38)) .none kV34 dc34 pm34 an34 cd34 ct34, fun s v => .of_eq rfl, fun base _ _ => all_kn (P := l.prog) (w := w) (base := base) D0 D1 D2 D3 D4 D5 D6 D7 D8 D9 D10 D11 D12 D13 D14 D15 D16 D17 D18 D19 D20 D21 D22 D23 D24 D25 D26 D27 D28 D29 D30 D31 D32 D33 D34 z⟩
end K51

set_option Elab.async false
set_option linter.all false
set_option maxRecDepth 100000
namespace K51
open J
open PySem (PyData)
variable {n : Nat} {cs : Ps}
theorem dIx_tab {f : Nat → Nat → Option Nat} {a : Nat} (ha : a < n) : dIx (tab n f) (nD a) = some (oT ((List.range n).map (f a))) := by
  unfold tab
  rw [dIx_mapT (f := oT) [] (by simpa using ha)]
  simp [List.getD_eq_getElem?_getD, ha]
theorem dIx_oT {f : Nat → Option Nat} {b : Nat} (hb : b < n) : dIx (oT ((List.range n).map f)) (nD b) = some (oD (f b)) := by
  unfold oT
  rw [dIx_mapT (f := oD) none (by simpa using hb)]
  simp [List.getD_eq_getElem?_getD, hb]
theorem ixJ (L : IsLat n cs) {i a b : Nat} {ea eb : SE} {r : Env} (hi : getS r i = some (tab n (jn n cs))) (h1 : ea r = .ok (nD a) r) (h2 : eb r = .ok (nD b) r) (ha : a < n) (hb : b < n) : (sBin dIx (sBin dIx (sV i) ea) eb) r = .ok (nD (jN n cs a b)) r :=
  bin_eq (bin_eq (nm_eq hi) h1 (dIx_tab ha)) h2 (by rw [dIx_oT hb, L.j ha hb]; rfl)
theorem ixM (L : IsLat n cs) {i a b : Nat} {ea eb : SE} {r : Env} (hi : getS r i = some (tab n (mt n cs))) (h1 : ea r = .ok (nD a) r) (h2 : eb r = .ok (nD b) r) (ha : a < n) (hb : b < n) : (sBin dIx (sBin dIx (sV i) ea) eb) r = .ok (nD (mN n cs a b)) r :=
  bin_eq (bin_eq (nm_eq hi) h1 (dIx_tab ha)) h2 (by rw [dIx_oT hb, L.m ha hb]; rfl)
theorem jlt (h : Ord n cs) (L : IsLat n cs) {a b : Nat} (ha : a < n) (hb : b < n) : jN n cs a b < n := (jn_spec h (L.j ha hb)).1
theorem mlt (h : Ord n cs) (L : IsLat n cs) {a b : Nat} (ha : a < n) (hb : b < n) : mN n cs a b < n := (mt_spec h (L.m ha hb)).1
/-! ### the kinds -/
noncomputable def dstB (n : Nat) (cs : Ps) (a b c : Nat) : Bool := decide (mN n cs a (jN n cs b c) = jN n cs (mN n cs a b) (mN n cs a c))
noncomputable def evB (n : Nat) (cs : Ps) (a b c : Nat) : Bool := !decide (c ∈ upl n cs a) || decide (jN n cs a (mN n cs b c) = mN n cs (jN n cs a b) c)
def all3 (n : Nat) (p : Nat → Nat → Nat → Bool) : Bool := (List.range n).all fun a => (List.range n).all fun b => (List.range n).all (p a b)
theorem all_succ (p : Nat → Bool) (m : Nat) : (List.range (m + 1)).all p = ((List.range m).all p && p m) := by
  rw [List.range_succ, List.all_append]
  simp
theorem all3_iff {p : Nat → Nat → Nat → Bool} : all3 n p = true ↔ ∀ a, a < n → ∀ b, b < n → ∀ c, c < n → p a b c = true := by
  unfold all3
  simp only [List.all_eq_true, List.mem_range]
theorem kinds_ok (h : Ord n cs) (L : IsLat n cs) (hn : n ≤ 60) : f__law_kinds [ordD n cs] = .ok (.tuple [.bool (all3 n (dstB n cs)), .bool (all3 n (evB n cs))]) [] := by
  refine run_v ?_
  show Ok (b__law_kinds [some (ordD n cs), none, none, none, none, none, none, none, none, none]) _
  unfold b__law_kinds
  rw [ok_Seq, ok_Asg]
  refine ok_of (call_eq1 (nm_eq rfl) (show f__law_tables _ = _ from ltables_ok h hn)) ⟨_, rfl, ?_⟩
  simp only [setAll_cons, setAll_nil, List.set_cons_zero, List.set_cons_succ]
  rw [ok_Seq, ok_ParN]
  refine ok_of (cons_eq (call_eq1 (nm_eq rfl) (show f__law_ups _ = _ from jlups_ok h hn)) (cons_eq (un_eq (order_n rfl) (dListRg1_nD n (by omega))) nil_eq)) ⟨_, rfl, ?_⟩
  simp only [setAll_cons, setAll_nil, List.set_cons_zero, List.set_cons_succ]
  rw [ok_Seq, ok_Asg]
  refine ok_of (tup_eq (cons_eq c_eq (cons_eq c_eq nil_eq))) ⟨_, rfl, ?_⟩
  simp only [setAll_cons, setAll_nil, List.set_cons_zero, List.set_cons_succ]
  refine seq_th (for_ok (itSeq_of (nm_eq rfl) rfl) ?_)
  simp only [kill_cons, kill_nil, List.set_cons_zero, List.set_cons_succ]
  refine forL_rg (Inv := fun k e => e = [some (ordD n cs), some (tab n (jn n cs)), some (tab n (mt n cs)), some (upsD n cs), some (nL (List.range n)), some (.bool ((List.range k).all fun a => (List.range n).all fun b => (List.range n).all (dstB n cs a b))), some (.bool ((List.range k).all fun a => (List.range n).all fun b => (List.range n).all (evB n cs a b))), none, none, none]) rfl (fun a ha e ee => ?_) (fun e ee => ?_)
  · subst ee
    simp only [List.set_cons_zero, List.set_cons_succ]
    generalize hg : ((List.range a).all fun a => (List.range n).all fun b => (List.range n).all (dstB n cs a b)) = g1
    generalize hg2 : ((List.range a).all fun a => (List.range n).all fun b => (List.range n).all (evB n cs a b)) = g2
    refine for_ok (itSeq_of (nm_eq rfl) rfl) ?_
    simp only [kill_cons, kill_nil, List.set_cons_zero, List.set_cons_succ]
    refine forL_rg (Inv := fun k e => e = [some (ordD n cs), some (tab n (jn n cs)), some (tab n (mt n cs)), some (upsD n cs), some (nL (List.range n)), some (.bool (g1 && (List.range k).all fun b => (List.range n).all (dstB n cs a b))), some (.bool (g2 && (List.range k).all fun b => (List.range n).all (evB n cs a b))), some (nD a), none, none]) (by simp) (fun b hb e ee => ?_) (fun e ee => ?_)
    · subst ee
      simp only [List.set_cons_zero, List.set_cons_succ]
      generalize hg3 : (g1 && (List.range b).all fun b => (List.range n).all (dstB n cs a b)) = g3
      generalize hg4 : (g2 && (List.range b).all fun b => (List.range n).all (evB n cs a b)) = g4
      refine for_ok (itSeq_of (nm_eq rfl) rfl) ?_
      simp only [kill_cons, kill_nil, List.set_cons_zero, List.set_cons_succ]
      refine forL_rg (Inv := fun k e => e = [some (ordD n cs), some (tab n (jn n cs)), some (tab n (mt n cs)), some (upsD n cs), some (nL (List.range n)), some (.bool (g3 && (List.range k).all (dstB n cs a b))), some (.bool (g4 && (List.range k).all (evB n cs a b))), some (nD a), some (nD b), none]) (by simp) (fun c hc e ee => ?_) (fun e ee => ?_)
      · subst ee
        simp only [List.set_cons_zero, List.set_cons_succ]
        refine seqset_ok (ofB_eq (and_eq (t_eq (nm_eq rfl)) (t_eq (bin_eq (ixM L rfl (nm_eq rfl) (ixJ L rfl (nm_eq rfl) (nm_eq rfl) hb hc) ha (jlt h L hb hc)) (ixJ L rfl (ixM L rfl (nm_eq rfl) (nm_eq rfl) ha hb) (ixM L rfl (nm_eq rfl) (nm_eq rfl) ha hc) (mlt h L ha hb) (mlt h L ha hc)) (dEq_nD _ _))))) ?_
        simp only [List.set_cons_zero, List.set_cons_succ]
        have e1 : (g3 && (List.range c).all (dstB n cs a b) && decide (mN n cs a (jN n cs b c) = jN n cs (mN n cs a b) (mN n cs a c))) = (g3 && (List.range (c + 1)).all (dstB n cs a b)) := by
          rw [all_succ, Bool.and_assoc]
          rfl
        rw [e1]
        refine if_ok (p := decide (c ∈ upl n cs a)) (t_eq (bin_eq (nm_eq rfl) (bin_eq (nm_eq rfl) (nm_eq rfl) (dIx_ups ha)) (dIn_nL _ _))) (fun hm => ?_) (fun hm => ?_)
        · refine set_ok (ofB_eq (and_eq (t_eq (nm_eq rfl)) (t_eq (bin_eq (ixJ L rfl (nm_eq rfl) (ixM L rfl (nm_eq rfl) (nm_eq rfl) hb hc) ha (mlt h L hb hc)) (ixM L rfl (ixJ L rfl (nm_eq rfl) (nm_eq rfl) ha hb) (nm_eq rfl) (jlt h L ha hb) hc) (dEq_nD _ _))))) (turn_nx ?_)
          simp only [kill_cons, kill_nil, List.set_cons_zero, List.set_cons_succ]
          rw [all_succ (evB n cs a b), ← Bool.and_assoc]
          unfold evB
          rw [hm]
          rfl
        · rw [ok_Pass]
          refine turn_nx ?_
          simp only [kill_cons, kill_nil, List.set_cons_zero, List.set_cons_succ]
          rw [all_succ (evB n cs a b)]
          have : evB n cs a b c = true := by unfold evB; rw [hm]; rfl
          rw [this, Bool.and_true]
      · subst ee
        refine turn_nx ?_
        simp only [kill_cons, kill_nil, List.set_cons_zero, List.set_cons_succ]
        rw [all_succ (fun b => (List.range n).all (dstB n cs a b)), all_succ (fun b => (List.range n).all (evB n cs a b)), ← Bool.and_assoc, ← Bool.and_assoc, hg3, hg4]
    · subst ee
      refine turn_nx ?_
      simp only [kill_cons, kill_nil, List.set_cons_zero, List.set_cons_succ]
      rw [all_succ (fun a => (List.range n).all fun b => (List.range n).all (dstB n cs a b)), all_succ (fun a => (List.range n).all fun b => (List.range n).all (evB n cs a b)), hg, hg2]
  · subst ee
    exact then_nx (ret_ok (tup_eq (cons_eq (nm_eq rfl) (cons_eq (nm_eq rfl) nil_eq))) (ends_rt0 rfl))
/-! ### pentagons -/
structure PenC (n : Nat) (cs : Ps) (a b c : Nat) : Prop where
  tc : Tc cs a b
  lt : c < n
  j : jN n cs a c = jN n cs b c
  m : mN n cs a c = mN n cs b c
  ac : ¬ Le cs a c
  ca : ¬ Le cs c a
  bc : ¬ Le cs b c
  cb : ¬ Le cs c b
def wd (w : Bool) : PySem.Str := if w then "diamond" else "pentagon"
def barD (w : Bool) (xs : List Nat) : D := .tuple (.str (wd w) :: xs.map nD)
theorem pentagon_ok (h : Ord n cs) (L : IsLat n cs) (hn : n ≤ 60) : ∃ d, f_pentagon [ordD n cs, tab n (jn n cs), tab n (mt n cs)] = .ok d [] ∧ ((d = .none ∧ ∀ a b c, ¬ PenC n cs a b c) ∨ ∃ a b c, PenC n cs a b c ∧ d = barD false [mN n cs a c, a, b, c, jN n cs a c]) := by
  have key : ∃ d outs, f_pentagon [ordD n cs, tab n (jn n cs), tab n (mt n cs)] = .ok d outs ∧ outs = [] ∧ ((d = .none ∧ ∀ a b c, ¬ PenC n cs a b c) ∨ ∃ a b c, PenC n cs a b c ∧ d = barD false [mN n cs a c, a, b, c, jN n cs a c]) := by
    refine run_e ?_
    show Ok (b_pentagon [some (ordD n cs), some (tab n (jn n cs)), some (tab n (mt n cs)), none, none, none, none]) _
    unfold b_pentagon
    refine seqset_ok (call_eq1 (nm_eq rfl) (show f_ups _ = _ from jups_ok h hn)) ?_
    simp only [List.set_cons_zero, List.set_cons_succ]
    refine seq_th (for_ok (rg1_eq (n := n) (order_n rfl) (by omega)) ?_)
    simp only [kill_cons, kill_nil, List.set_cons_zero, List.set_cons_succ]
    refine forL_rg (Inv := fun k e => e = [some (ordD n cs), some (tab n (jn n cs)), some (tab n (mt n cs)), some (upsD n cs), none, none, none] ∧ ∀ a b c, a < k → ¬ PenC n cs a b c) ⟨rfl, fun a b c q => absurd q (Nat.not_lt_zero _)⟩ (fun a ha e ⟨ee, hp⟩ => ?_) (fun e ⟨ee, hp⟩ => ?_)
    · subst ee
      simp only [List.set_cons_zero, List.set_cons_succ]
      refine for_ok (itSeq_of (bin_eq (nm_eq rfl) (nm_eq rfl) (dIx_ups ha)) rfl) ?_
      simp only [kill_cons, kill_nil, List.set_cons_zero, List.set_cons_succ]
      refine forL_map (f := nD) (Inv := fun k e => e = [some (ordD n cs), some (tab n (jn n cs)), some (tab n (mt n cs)), some (upsD n cs), some (nD a), none, none] ∧ ∀ b ∈ (upl n cs a).take k, ∀ c, ¬ PenC n cs a b c) ⟨rfl, fun b q => absurd q List.not_mem_nil⟩ (fun k b hb e ⟨ee, hp2⟩ => ?_) (fun e ⟨ee, hp2⟩ => ?_)
      · subst ee
        simp only [List.set_cons_zero, List.set_cons_succ]
        obtain ⟨hbn, hab⟩ := mem_upl.mp (List.mem_of_getElem? hb)
        refine for_ok (rg1_eq (n := n) (order_n rfl) (by omega)) ?_
        simp only [kill_cons, kill_nil, List.set_cons_zero, List.set_cons_succ]
        refine forL_rg (Inv := fun k e => e = [some (ordD n cs), some (tab n (jn n cs)), some (tab n (mt n cs)), some (upsD n cs), some (nD a), some (nD b), none] ∧ ∀ c, c < k → ¬ PenC n cs a b c) ⟨rfl, fun c q => absurd q (Nat.not_lt_zero _)⟩ (fun c hc e ⟨ee, hp3⟩ => ?_) (fun e ⟨ee, hp3⟩ => ?_)
        · subst ee
          simp only [List.set_cons_zero, List.set_cons_succ]
          have go : ∀ q : Bool, (q = true → PenC n cs a b c) → (q = false → ¬ PenC n cs a b c) → True := fun _ _ _ => trivial
          have nxt : ¬ PenC n cs a b c → ∀ c', c' < c + 1 → ¬ PenC n cs a b c' := fun q c' hc' => by
            rcases Nat.lt_or_ge c' c with z | z
            · exact hp3 c' z
            · have : c' = c := by omega
              exact this ▸ q
          refine if_ok (and_eq (t_eq (bin_eq (ixJ L rfl (nm_eq rfl) (nm_eq rfl) ha hc) (ixJ L rfl (nm_eq rfl) (nm_eq rfl) hbn hc) (dEq_nD _ _))) (and_eq (t_eq (bin_eq (ixM L rfl (nm_eq rfl) (nm_eq rfl) ha hc) (ixM L rfl (nm_eq rfl) (nm_eq rfl) hbn hc) (dEq_nD _ _))) (t_eq (bin_eq (nm_eq rfl) (tup_eq (cons_eq (nm_eq rfl) (cons_eq (nm_eq rfl) nil_eq))) (dNin_nT c [a, b]))))) (fun h1 => ?_) (fun h1 => ?_)
          · rw [Bool.and_eq_true, Bool.and_eq_true, decide_eq_true_eq, decide_eq_true_eq, Bool.not_eq_true', decide_eq_false_iff_not] at h1
            obtain ⟨e1, e2, e3⟩ := h1
            simp only [List.mem_cons, List.not_mem_nil, or_false, not_or] at e3
            refine if_ok (and_eq (t_eq (bin_eq (nm_eq rfl) (bin_eq (nm_eq rfl) (nm_eq rfl) (dIx_ups ha)) (dNin_nL _ _))) (and_eq (t_eq (bin_eq (nm_eq rfl) (bin_eq (nm_eq rfl) (nm_eq rfl) (dIx_ups hc)) (dNin_nL _ _))) (and_eq (t_eq (bin_eq (nm_eq rfl) (bin_eq (nm_eq rfl) (nm_eq rfl) (dIx_ups hbn)) (dNin_nL _ _))) (t_eq (bin_eq (nm_eq rfl) (bin_eq (nm_eq rfl) (nm_eq rfl) (dIx_ups hc)) (dNin_nL _ _)))))) (fun h2 => ?_) (fun h2 => ?_)
            · rw [Bool.and_eq_true, Bool.and_eq_true, Bool.and_eq_true, Bool.not_eq_true', Bool.not_eq_true', Bool.not_eq_true', Bool.not_eq_true', decide_eq_false_iff_not, decide_eq_false_iff_not, decide_eq_false_iff_not, decide_eq_false_iff_not, mem_upl' h.rng, mem_upl' h.rng, mem_upl' h.rng, mem_upl' h.rng] at h2
              obtain ⟨q1, q2, q3, q4⟩ := h2
              refine ret_ok (tup_eq (cons_eq c_eq (cons_eq (ixM L rfl (nm_eq rfl) (nm_eq rfl) ha hc) (cons_eq (nm_eq rfl) (cons_eq (nm_eq rfl) (cons_eq (nm_eq rfl) (cons_eq (ixJ L rfl (nm_eq rfl) (nm_eq rfl) ha hc) nil_eq))))))) (turn_rt (turn_rt (turn_rt (ends_rt0 ⟨rfl, .inr ⟨a, b, c, ⟨hab, hc, e1, e2, ?_, ?_, ?_, ?_⟩, rfl⟩⟩))))
              · rintro (z | z)
                · exact e3.1 z.symm
                · exact q1 z
              · rintro (z | z)
                · exact e3.1 z
                · exact q2 z
              · rintro (z | z)
                · exact e3.2 z.symm
                · exact q3 z
              · rintro (z | z)
                · exact e3.2 z
                · exact q4 z
            · rw [ok_Pass]
              refine turn_nx ⟨rfl, nxt fun p => ?_⟩
              have : (!decide (c ∈ upl n cs a) && (!decide (a ∈ upl n cs c) && (!decide (c ∈ upl n cs b) && !decide (b ∈ upl n cs c)))) = true := by
                rw [Bool.and_eq_true, Bool.and_eq_true, Bool.and_eq_true, Bool.not_eq_true', Bool.not_eq_true', Bool.not_eq_true', Bool.not_eq_true', decide_eq_false_iff_not, decide_eq_false_iff_not, decide_eq_false_iff_not, decide_eq_false_iff_not, mem_upl' h.rng, mem_upl' h.rng, mem_upl' h.rng, mem_upl' h.rng]
                exact ⟨fun z => p.ac (.inr z), fun z => p.ca (.inr z), fun z => p.bc (.inr z), fun z => p.cb (.inr z)⟩
              rw [this] at h2
              cases h2
          · rw [ok_Pass]
            refine turn_nx ⟨rfl, nxt fun p => ?_⟩
            have : (decide (jN n cs a c = jN n cs b c) && (decide (mN n cs a c = mN n cs b c) && !decide (c ∈ [a, b]))) = true := by
              rw [Bool.and_eq_true, Bool.and_eq_true, decide_eq_true_eq, decide_eq_true_eq, Bool.not_eq_true', decide_eq_false_iff_not]
              refine ⟨p.j, p.m, fun z => ?_⟩
              simp only [List.mem_cons, List.not_mem_nil, or_false] at z
              rcases z with z | z
              · exact p.ac (.inl z.symm)
              · exact p.bc (.inl z.symm)
            rw [this] at h1
            cases h1
        · subst ee
          refine turn_nx ⟨rfl, fun b' hb' c p => ?_⟩
          rw [List.take_succ, hb] at hb'
          rcases List.mem_append.mp hb' with z | z
          · exact hp2 b' z c p
          · cases List.mem_singleton.mp (by simpa using z)
            exact hp3 c p.lt p
      · subst ee
        refine turn_nx ⟨rfl, fun a' b c hlt p => ?_⟩
        rw [List.take_length] at hp2
        rcases Nat.lt_or_ge a' a with z | z
        · exact hp a' b c z p
        · have : a' = a := by omega
          subst this
          exact hp2 b ((mem_upl' h.rng).mpr p.tc) c p
    · subst ee
      exact then_nx (ret_ok c_eq (ends_rt0 ⟨rfl, .inl ⟨rfl, fun a b c p => hp a b c (p.tc.lt h.rng).1 p⟩⟩))
  obtain ⟨d, outs, e, rfl, q⟩ := key
  exact ⟨d, e, q⟩
/-! ### diamonds -/
structure DiaC (n : Nat) (cs : Ps) (a b c : Nat) : Prop where
  ab : a < b
  bc : b < c
  cn : c < n
  m1 : mN n cs a c = mN n cs a b
  m2 : mN n cs b c = mN n cs a b
  j1 : jN n cs a c = jN n cs a b
  j2 : jN n cs b c = jN n cs a b
  lo : mN n cs a b ∉ [a, b, c]
  hi : jN n cs a b ∉ [a, b, c]
theorem diamond_ok (h : Ord n cs) (L : IsLat n cs) (hn : n ≤ 60) : ∃ d, f_diamond [ordD n cs, tab n (jn n cs), tab n (mt n cs)] = .ok d [] ∧ ((d = .none ∧ ∀ a b c, ¬ DiaC n cs a b c) ∨ ∃ a b c, DiaC n cs a b c ∧ d = barD true [mN n cs a b, a, b, c, jN n cs a b]) := by
  have key : ∃ d outs, f_diamond [ordD n cs, tab n (jn n cs), tab n (mt n cs)] = .ok d outs ∧ outs = [] ∧ ((d = .none ∧ ∀ a b c, ¬ DiaC n cs a b c) ∨ ∃ a b c, DiaC n cs a b c ∧ d = barD true [mN n cs a b, a, b, c, jN n cs a b]) := by
    refine run_e ?_
    show Ok (b_diamond [some (ordD n cs), some (tab n (jn n cs)), some (tab n (mt n cs)), none, none, none, none, none, none]) _
    unfold b_diamond
    refine seqset_ok (order_n rfl) ?_
    simp only [List.set_cons_zero, List.set_cons_succ]
    refine seq_th (for_ok (rg1_eq (n := n) (nm_eq rfl) (by omega)) ?_)
    simp only [kill_cons, kill_nil, List.set_cons_zero, List.set_cons_succ]
    refine forL_rg (Inv := fun k e => e = [some (ordD n cs), some (tab n (jn n cs)), some (tab n (mt n cs)), some (nD n), none, none, none, none, none] ∧ ∀ a b c, a < k → ¬ DiaC n cs a b c) ⟨rfl, fun a b c q => absurd q (Nat.not_lt_zero _)⟩ (fun a ha e ⟨ee, hp⟩ => ?_) (fun e ⟨ee, hp⟩ => ?_)
    · subst ee
      simp only [List.set_cons_zero, List.set_cons_succ]
      refine for_ok (rg2_eq (i := a + 1) (j := n) (add1_eq (nm_eq rfl)) (nm_eq rfl) (by omega) (by omega)) ?_
      simp only [kill_cons, kill_nil, List.set_cons_zero, List.set_cons_succ]
      refine forL_rg2 (Inv := fun k e => e = [some (ordD n cs), some (tab n (jn n cs)), some (tab n (mt n cs)), some (nD n), some (nD a), none, none, none, none] ∧ ∀ b c, b < k → ¬ DiaC n cs a b c) ⟨rfl, fun b c q p => by have := p.ab; omega⟩ (fun b hb1 hb2 e ⟨ee, hp2⟩ => ?_) (fun e ⟨ee, hp2⟩ => ?_)
      · subst ee
        simp only [List.set_cons_zero, List.set_cons_succ]
        have hbn : b < n := by omega
        refine for_ok (rg2_eq (i := b + 1) (j := n) (add1_eq (nm_eq rfl)) (nm_eq rfl) (by omega) (by omega)) ?_
        simp only [kill_cons, kill_nil, List.set_cons_zero, List.set_cons_succ]
        refine forL_rg2 (Inv := fun k e => e = [some (ordD n cs), some (tab n (jn n cs)), some (tab n (mt n cs)), some (nD n), some (nD a), some (nD b), none, none, none] ∧ ∀ c, c < k → ¬ DiaC n cs a b c) ⟨rfl, fun c q p => by have := p.bc; omega⟩ (fun c hc1 hc2 e ⟨ee, hp3⟩ => ?_) (fun e ⟨ee, hp3⟩ => ?_)
        · subst ee
          simp only [List.set_cons_zero, List.set_cons_succ]
          have hc : c < n := by omega
          have nxt : ¬ DiaC n cs a b c → ∀ c', c' < c + 1 → ¬ DiaC n cs a b c' := fun q c' hc' => by
            rcases Nat.lt_or_ge c' c with z | z
            · exact hp3 c' z
            · have : c' = c := by omega
              exact this ▸ q
          rw [ok_Seq, ok_ParN]
          refine ok_of (cons_eq (ixM L rfl (nm_eq rfl) (nm_eq rfl) ha hbn) (cons_eq (ixJ L rfl (nm_eq rfl) (nm_eq rfl) ha hbn) nil_eq)) ⟨_, rfl, ?_⟩
          simp only [setAll_cons, setAll_nil, List.set_cons_zero, List.set_cons_succ]
          refine if_ok (p := decide ([mN n cs a c, mN n cs b c, jN n cs a c, jN n cs b c] = [mN n cs a b, mN n cs a b, jN n cs a b, jN n cs a b])) (t_eq (bin_eq (tup_eq (cons_eq (ixM L rfl (nm_eq rfl) (nm_eq rfl) ha hc) (cons_eq (ixM L rfl (nm_eq rfl) (nm_eq rfl) hbn hc) (cons_eq (ixJ L rfl (nm_eq rfl) (nm_eq rfl) ha hc) (cons_eq (ixJ L rfl (nm_eq rfl) (nm_eq rfl) hbn hc) nil_eq))))) (tup_eq (cons_eq (nm_eq rfl) (cons_eq (nm_eq rfl) (cons_eq (nm_eq rfl) (cons_eq (nm_eq rfl) nil_eq))))) (dEq_nT [mN n cs a c, mN n cs b c, jN n cs a c, jN n cs b c] [mN n cs a b, mN n cs a b, jN n cs a b, jN n cs a b]))) (fun h1 => ?_) (fun h1 => ?_)
          · have h1 := of_decide_eq_true h1
            simp only [List.cons.injEq, and_true] at h1
            obtain ⟨e1, e2, e3, e4⟩ := h1
            refine if_ok (and_eq (t_eq (bin_eq (nm_eq rfl) (tup_eq (cons_eq (nm_eq rfl) (cons_eq (nm_eq rfl) (cons_eq (nm_eq rfl) nil_eq)))) (dNin_nT _ [a, b, c]))) (t_eq (bin_eq (nm_eq rfl) (tup_eq (cons_eq (nm_eq rfl) (cons_eq (nm_eq rfl) (cons_eq (nm_eq rfl) nil_eq)))) (dNin_nT _ [a, b, c])))) (fun h2 => ?_) (fun h2 => ?_)
            · rw [Bool.and_eq_true, Bool.not_eq_true', Bool.not_eq_true', decide_eq_false_iff_not, decide_eq_false_iff_not] at h2
              exact ret_ok (tup_eq (cons_eq c_eq (cons_eq (nm_eq rfl) (cons_eq (nm_eq rfl) (cons_eq (nm_eq rfl) (cons_eq (nm_eq rfl) (cons_eq (nm_eq rfl) nil_eq))))))) (turn_rt (turn_rt (turn_rt (ends_rt0 ⟨rfl, .inr ⟨a, b, c, ⟨by omega, by omega, hc, e1, e2, e3, e4, h2.1, h2.2⟩, rfl⟩⟩))))
            · rw [ok_Pass]
              refine turn_nx ⟨rfl, nxt fun p => ?_⟩
              have : (!decide (mN n cs a b ∈ [a, b, c]) && !decide (jN n cs a b ∈ [a, b, c])) = true := by
                rw [Bool.and_eq_true, Bool.not_eq_true', Bool.not_eq_true', decide_eq_false_iff_not, decide_eq_false_iff_not]
                exact ⟨p.lo, p.hi⟩
              rw [this] at h2
              cases h2
          · rw [ok_Pass]
            refine turn_nx ⟨rfl, nxt fun p => ?_⟩
            rw [decide_eq_false_iff_not] at h1
            exact h1 (by rw [p.m1, p.m2, p.j1, p.j2])
        · subst ee
          refine turn_nx ⟨rfl, fun b' c hlt p => ?_⟩
          rcases Nat.lt_or_ge b' b with z | z
          · exact hp2 b' c z p
          · have : b' = b := by omega
            subst this
            have := p.cn
            exact hp3 c (by omega) p
      · subst ee
        refine turn_nx ⟨rfl, fun a' b c hlt p => ?_⟩
        rcases Nat.lt_or_ge a' a with z | z
        · exact hp a' b c z p
        · have : a' = a := by omega
          subst this
          have := p.cn
          have := p.bc
          exact hp2 b c (by omega) p
    · subst ee
      exact then_nx (ret_ok c_eq (ends_rt0 ⟨rfl, .inl ⟨rfl, fun a b c p => hp a b c (by have := p.ab; have := p.bc; have := p.cn; omega) p⟩⟩))
  obtain ⟨d, outs, e, rfl, q⟩ := key
  exact ⟨d, e, q⟩
end K51

set_option Elab.async false
set_option linter.all false
set_option maxRecDepth 100000
namespace K51
open J
open PySem (PyData)
variable {n : Nat} {cs : Ps}
structure BarC (n : Nat) (cs : Ps) (w : Bool) (lo a b c hi : Nat) : Prop where
  jac : jN n cs a c = hi
  mac : mN n cs a c = lo
  jbc : jN n cs b c = hi
  mbc : mN n cs b c = lo
  ab : w = true → jN n cs a b = hi ∧ mN n cs a b = lo
  end_ : w = true ∨ Tc cs a b
def BarOk (n : Nat) (cs : Ps) (w : Bool) (xs : List Nat) : Prop := (∀ x ∈ xs, x < n) ∧ xs.Nodup ∧ ∃ lo a b c hi, xs = [lo, a, b, c, hi] ∧ BarC n cs w lo a b c hi
theorem nodup5 {lo a b c hi : Nat} (h1 : lo ≠ a) (h2 : lo ≠ b) (h3 : lo ≠ c) (h4 : lo ≠ hi) (h5 : a ≠ b) (h6 : a ≠ c) (h7 : a ≠ hi) (h8 : b ≠ c) (h9 : b ≠ hi) (h10 : c ≠ hi) : [lo, a, b, c, hi].Nodup := by
  simp [h1, h2, h3, h4, h5, h6, h7, h8, h9, h10]
theorem lt5 {lo a b c hi : Nat} (h1 : lo < n) (h2 : a < n) (h3 : b < n) (h4 : c < n) (h5 : hi < n) : ∀ x ∈ [lo, a, b, c, hi], x < n := by
  intro x hx
  simp only [List.mem_cons, List.not_mem_nil, or_false] at hx
  rcases hx with rfl | rfl | rfl | rfl | rfl <;> assumption
theorem pen_bar (h : Ord n cs) (L : IsLat n cs) {a b c : Nat} (p : PenC n cs a b c) : BarOk n cs false [mN n cs a c, a, b, c, jN n cs a c] := by
  obtain ⟨ha, hb⟩ := p.tc.lt h.rng
  obtain ⟨_, j1, j2, _⟩ := jn_spec h (L.j ha p.lt)
  obtain ⟨_, m1, m2, _⟩ := mt_spec h (L.m ha p.lt)
  obtain ⟨_, j3, j4, _⟩ := jn_spec h (L.j hb p.lt)
  obtain ⟨_, m3, m4, _⟩ := mt_spec h (L.m hb p.lt)
  rw [← p.j] at j3
  rw [← p.m] at m3
  refine ⟨lt5 (mlt h L ha p.lt) ha hb p.lt (jlt h L ha p.lt), nodup5 (fun e => ?_) (fun e => ?_) (fun e => ?_) (fun e => ?_) (fun e => ?_) (fun e => ?_) (fun e => ?_) (fun e => ?_) (fun e => ?_) (fun e => ?_), _, _, _, _, _, rfl, rfl, rfl, p.j.symm, p.m.symm, fun e => by (cases e), .inr p.tc⟩
  · exact p.ac (e ▸ m2)
  · exact p.bc (e ▸ m2)
  · exact p.ca (e ▸ m1)
  · exact p.ac (j1.trans (e ▸ m2))
  · exact h.irr (e ▸ p.tc)
  · exact p.ac (.inl e)
  · exact p.ca (e ▸ j2)
  · exact p.bc (.inl e)
  · exact p.cb (e ▸ j2)
  · exact p.ac (e ▸ j1)
theorem dia_bar (h : Ord n cs) (L : IsLat n cs) {a b c : Nat} (p : DiaC n cs a b c) : BarOk n cs true [mN n cs a b, a, b, c, jN n cs a b] := by
  have hc := p.cn
  have hb : b < n := Nat.lt_trans p.bc hc
  have ha : a < n := Nat.lt_trans p.ab hb
  have ab := p.ab
  have bc := p.bc
  obtain ⟨_, j1, j2, _⟩ := jn_spec h (L.j ha hb)
  obtain ⟨_, m1, m2, _⟩ := mt_spec h (L.m ha hb)
  have lo := p.lo
  have hi := p.hi
  simp only [List.mem_cons, List.not_mem_nil, or_false, not_or] at lo hi
  refine ⟨lt5 (mlt h L ha hb) ha hb hc (jlt h L ha hb), nodup5 lo.1 lo.2.1 lo.2.2 (fun e => ?_) (by omega) (by omega) (fun e => hi.1 e.symm) (by omega) (fun e => hi.2.1 e.symm) (fun e => hi.2.2 e.symm), _, _, _, _, _, rfl, p.j1, p.m1, p.j2, p.m2, fun _ => ⟨rfl, rfl⟩, .inl rfl⟩
  exact lo.1 (Le.anti h m1 (e ▸ j1))
/-! ### what the lattice tells -/
theorem no_pen (h : Ord n cs) (L : IsLat n cs) (hp : ∀ a b c, ¬ PenC n cs a b c) : ∀ a b c, ¬ (ltt h L).Pen a b c := by
  intro a b c p
  obtain ⟨q1, q2, q3, q4⟩ := p.ac
  obtain ⟨p1, p2, p3, p4⟩ := p
  have t : Tc cs a.1 b.1 := by
    rcases p1 with z | z
    · exact absurd (Fin.ext z) p2
    · exact z
  exact hp a.1 b.1 c.1 ⟨t, c.2, congrArg Fin.val p3, congrArg Fin.val p4, q1, q2, q3, q4⟩
theorem pen_of (h : Ord n cs) (L : IsLat n cs) {a b c : Nat} (p : PenC n cs a b c) : ∃ a b c, (ltt h L).Pen a b c := by
  obtain ⟨ha, hb⟩ := p.tc.lt h.rng
  exact ⟨⟨a, ha⟩, ⟨b, hb⟩, ⟨c, p.lt⟩, .inr p.tc, fun e => by
    have e : a = b := congrArg Fin.val e
    have t := p.tc
    rw [e] at t
    exact h.irr t, Fin.ext p.j, Fin.ext p.m⟩
theorem dia_sort {L : Ltt (Fin n)} {a b c d e : Fin n} (p : L.Dia a b c d e) : ∃ x y z, L.Dia x y z d e ∧ x.1 < y.1 ∧ y.1 < z.1 := by
  have h1 : a.1 ≠ b.1 := fun q => p.ab (Fin.ext q)
  have h2 : a.1 ≠ c.1 := fun q => p.cb.ab (Fin.ext q)
  have h3 : b.1 ≠ c.1 := fun q => p.ba.cb.ab (Fin.ext q)
  rcases Nat.lt_or_gt_of_ne h1 with c1 | c1 <;> rcases Nat.lt_or_gt_of_ne h2 with c2 | c2 <;> rcases Nat.lt_or_gt_of_ne h3 with c3 | c3
  · exact ⟨a, b, c, p, c1, c3⟩
  · exact ⟨a, c, b, p.cb, c2, c3⟩
  · omega
  · exact ⟨c, a, b, p.cb.ba, c2, c1⟩
  · exact ⟨b, a, c, p.ba, c1, c2⟩
  · omega
  · exact ⟨b, c, a, p.ba.cb, c3, c2⟩
  · exact ⟨c, b, a, p.cb.ba.cb, c3, c1⟩
theorem dia_C (h : Ord n cs) (L : IsLat n cs) {a b c d e : Fin n} (p : (ltt h L).Dia a b c d e) : ∃ a b c, DiaC n cs a b c := by
  obtain ⟨x, y, z, q, h1, h2⟩ := dia_sort p
  have eab : mN n cs x.1 y.1 = d.1 := congrArg Fin.val q.mab
  have eac : mN n cs x.1 z.1 = d.1 := congrArg Fin.val q.mac
  have ebc : mN n cs y.1 z.1 = d.1 := congrArg Fin.val q.mbc
  have jab : jN n cs x.1 y.1 = e.1 := congrArg Fin.val q.jab
  have jac : jN n cs x.1 z.1 = e.1 := congrArg Fin.val q.jac
  have jbc : jN n cs y.1 z.1 = e.1 := congrArg Fin.val q.jbc
  refine ⟨x.1, y.1, z.1, h1, h2, z.2, by rw [eac, eab], by rw [ebc, eab], by rw [jac, jab], by rw [jbc, jab], ?_, ?_⟩
  · rw [eab]
    simp only [List.mem_cons, List.not_mem_nil, or_false, not_or]
    exact ⟨fun z => q.da (Fin.ext z), fun z => q.ba.da (Fin.ext z), fun z => q.cb.ba.da (Fin.ext z)⟩
  · rw [jab]
    simp only [List.mem_cons, List.not_mem_nil, or_false, not_or]
    exact ⟨fun z => q.ea (Fin.ext z), fun z => q.ba.ea (Fin.ext z), fun z => q.cb.ba.ea (Fin.ext z)⟩
theorem not_dst (h : Ord n cs) (L : IsLat n cs) {a b c : Nat} (ha : a < n) (hb : b < n) (hc : c < n) (q : dstB n cs a b c = false) : ¬ (ltt h L).Dst ⟨a, ha⟩ ⟨b, hb⟩ ⟨c, hc⟩ := fun z => by
  have e : mN n cs a (jN n cs b c) = jN n cs (mN n cs a b) (mN n cs a c) := congrArg Fin.val z
  unfold dstB at q
  rw [decide_eq_false_iff_not] at q
  exact q e
theorem even_iff (h : Ord n cs) (L : IsLat n cs) : all3 n (evB n cs) = true ↔ ∀ a b c, ¬ PenC n cs a b c := by
  constructor
  · intro q a b c p
    obtain ⟨x, y, z, p⟩ := pen_of h L p
    refine Ltt.no_pen (L := ltt h L) (fun a b c hac => ?_) p
    have := all3_iff.mp q a.1 a.2 b.1 b.2 c.1 c.2
    unfold evB at this
    rcases hac with e | t
    · have e := Fin.ext e
      subst e
      have e1 : (ltt h L).j a ((ltt h L).m b a) = a := by
        rw [Ltt.jc]
        exact Ltt.j_of ((ltt h L).mr b a)
      have e2 : (ltt h L).m ((ltt h L).j a b) a = a := by
        rw [Ltt.mc]
        exact Ltt.m_of ((ltt h L).jl a b)
      rw [e1, e2]
    · rw [decide_eq_true ((mem_upl' h.rng).mpr t)] at this
      simp only [Bool.not_true, Bool.false_or, decide_eq_true_eq] at this
      exact Fin.ext this
  · intro hp
    rw [all3_iff]
    intro a ha b hb c hc
    unfold evB
    rw [Bool.or_eq_true, Bool.not_eq_true', decide_eq_false_iff_not, decide_eq_true_eq, mem_upl' h.rng]
    refine (Classical.em (Tc cs a c)).symm.imp id fun t => ?_
    exact congrArg Fin.val (Ltt.mod_of (no_pen h L hp) ⟨a, ha⟩ ⟨b, hb⟩ ⟨c, hc⟩ (.inr t))
/-! ### distributive, modular -/
theorem dRng_nD (n : Nat) (h : n ≤ 1000) : dRng (nD n) = some (rngD n) := by
  have h1 : fits (n : Int) := ⟨by omega, by omega⟩
  have h2 : (n : Int).toNat ≤ line := by rw [show line = 16777216 from rfl]; omega
  show (if fits (n : Int) ∧ (n : Int).toNat ≤ line then some (rngD n) else none) = _
  rw [if_pos ⟨h1, h2⟩]
theorem itRng_eq {i : Nat} {r : Env} {n : Nat} (h : getS r i = some (rngD n)) (hn : n ≤ 1000 := by omega) : itRng i r = .ok ((List.range n).map nD) r := by
  have h1 : fits (n : Int) := ⟨by omega, by omega⟩
  have h2 : (n : Int).toNat ≤ line := by rw [show line = 16777216 from rfl]; omega
  have e : itRng i r = match getS r i with
    | some (.dict [(.int n, .none)]) => if fits n ∧ n.toNat ≤ line then .ok (upTo 0 n.toNat) r else .no
    | _ => .no := rfl
  rw [e, h]
  have h3 : n ≤ line := by rw [show line = 16777216 from rfl]; omega
  simp only [rngD, h1, h3, and_self, if_true, Int.toNat_natCast, upTo_nat]
theorem barin_ok (h : Ord n cs) (L : IsLat n cs) (hn : n ≤ 60) {a b c : Nat} (ha : a < n) (hb : b < n) (hc : c < n) (q : dstB n cs a b c = false) : ∃ w xs, f_bar_in [ordD n cs, tab n (jn n cs), tab n (mt n cs)] = .ok (barD w xs) [] ∧ BarOk n cs w xs := by
  have key : ∃ d outs, f_bar_in [ordD n cs, tab n (jn n cs), tab n (mt n cs)] = .ok d outs ∧ outs = [] ∧ ∃ w xs, d = barD w xs ∧ BarOk n cs w xs := by
    refine run_e ?_
    show Ok (b_bar_in [some (ordD n cs), some (tab n (jn n cs)), some (tab n (mt n cs)), none]) _
    unfold b_bar_in
    obtain ⟨d, e, r⟩ := pentagon_ok h L hn
    refine seqset_ok (call_eq3 (nm_eq rfl) (nm_eq rfl) (nm_eq rfl) e) ?_
    simp only [List.set_cons_zero, List.set_cons_succ]
    rcases r with ⟨rfl, hp⟩ | ⟨a', b', c', p, rfl⟩
    · obtain ⟨d2, e2, r2⟩ := diamond_ok h L hn
      refine ret_ok (ife_eq (p := false) (t_eq (bin_eq (nm_eq rfl) c_eq rfl)) (fun z => by cases z) (fun _ => call_eq3 (nm_eq rfl) (nm_eq rfl) (nm_eq rfl) e2)) (ends_rt0 ⟨rfl, ?_⟩)
      rcases r2 with ⟨_, hd⟩ | ⟨a', b', c', p, rfl⟩
      · obtain ⟨_, _, _, _, _, p⟩ := Ltt.pen_or_dia (not_dst h L ha hb hc q) (no_pen h L hp)
        obtain ⟨x, y, z, p⟩ := dia_C h L p
        exact absurd p (hd x y z)
      · exact ⟨_, _, rfl, dia_bar h L p⟩
    · exact ret_ok (ife_eq (p := true) (t_eq (bin_eq (nm_eq rfl) c_eq rfl)) (fun _ => nm_eq rfl) (fun z => by cases z)) (ends_rt0 ⟨rfl, _, _, rfl, pen_bar h L p⟩)
  obtain ⟨d, outs, e, rfl, w, xs, rfl, q⟩ := key
  exact ⟨w, xs, e, q⟩
theorem distributive_ok (h : Ord n cs) (L : IsLat n cs) (hn : n ≤ 60) : ∃ d, f_distributive [ordD n cs] = .ok d [] ∧ ((all3 n (dstB n cs) = true ∧ d = .tuple [.str "distributive"]) ∨ (all3 n (dstB n cs) = false ∧ ∃ w xs, d = barD w xs ∧ BarOk n cs w xs)) := by
  have key : ∃ d outs, f_distributive [ordD n cs] = .ok d outs ∧ outs = [] ∧ ((all3 n (dstB n cs) = true ∧ d = .tuple [.str "distributive"]) ∨ (all3 n (dstB n cs) = false ∧ ∃ w xs, d = barD w xs ∧ BarOk n cs w xs)) := by
    refine run_e ?_
    show Ok (b_distributive [some (ordD n cs), none, none, none, none, none, none]) _
    unfold b_distributive
    rw [ok_Seq, ok_ParN]
    refine ok_of (cons_eq (call_eq1 (nm_eq rfl) (show f_joins _ = _ from joins_ok h hn)) (cons_eq (call_eq1 (nm_eq rfl) (show f_meets _ = _ from meets_ok h hn)) nil_eq)) ⟨_, rfl, ?_⟩
    simp only [setAll_cons, setAll_nil, List.set_cons_zero, List.set_cons_succ]
    refine seqset_ok (un_eq (order_n rfl) (dRng_nD n (by omega))) ?_
    simp only [List.set_cons_zero, List.set_cons_succ]
    refine seq_th (for_ok (itRng_eq (n := n) rfl) ?_)
    simp only [kill_cons, kill_nil, List.set_cons_zero, List.set_cons_succ]
    refine forL_rg (Inv := fun k e => e = [some (ordD n cs), some (tab n (jn n cs)), some (tab n (mt n cs)), some (rngD n), none, none, none] ∧ ∀ a, a < k → ∀ b, b < n → ∀ c, c < n → dstB n cs a b c = true) ⟨rfl, fun a q => absurd q (Nat.not_lt_zero _)⟩ (fun a ha e ⟨ee, hp⟩ => ?_) (fun e ⟨ee, hp⟩ => ?_)
    · subst ee
      simp only [List.set_cons_zero, List.set_cons_succ]
      refine for_ok (itRng_eq (n := n) rfl) ?_
      simp only [kill_cons, kill_nil, List.set_cons_zero, List.set_cons_succ]
      refine forL_rg (Inv := fun k e => e = [some (ordD n cs), some (tab n (jn n cs)), some (tab n (mt n cs)), some (rngD n), some (nD a), none, none] ∧ ∀ b, b < k → ∀ c, c < n → dstB n cs a b c = true) ⟨rfl, fun b q => absurd q (Nat.not_lt_zero _)⟩ (fun b hb e ⟨ee, hp2⟩ => ?_) (fun e ⟨ee, hp2⟩ => ?_)
      · subst ee
        simp only [List.set_cons_zero, List.set_cons_succ]
        refine for_ok (itRng_eq (n := n) rfl) ?_
        simp only [kill_cons, kill_nil, List.set_cons_zero, List.set_cons_succ]
        refine forL_rg (Inv := fun k e => e = [some (ordD n cs), some (tab n (jn n cs)), some (tab n (mt n cs)), some (rngD n), some (nD a), some (nD b), none] ∧ ∀ c, c < k → dstB n cs a b c = true) ⟨rfl, fun c q => absurd q (Nat.not_lt_zero _)⟩ (fun c hc e ⟨ee, hp3⟩ => ?_) (fun e ⟨ee, hp3⟩ => ?_)
        · subst ee
          simp only [List.set_cons_zero, List.set_cons_succ]
          refine if_ok (t_eq (bin_eq (ixM L rfl (nm_eq rfl) (ixJ L rfl (nm_eq rfl) (nm_eq rfl) hb hc) ha (jlt h L hb hc)) (ixJ L rfl (ixM L rfl (nm_eq rfl) (nm_eq rfl) ha hb) (ixM L rfl (nm_eq rfl) (nm_eq rfl) ha hc) (mlt h L ha hb) (mlt h L ha hc)) (dNe_nD _ _))) (fun h1 => ?_) (fun h1 => ?_)
          · have hq : dstB n cs a b c = false := by
              unfold dstB
              rw [Bool.not_eq_true'] at h1
              exact h1
            obtain ⟨w, xs, e, q⟩ := barin_ok h L hn ha hb hc hq
            refine ret_ok (call_eq3 (nm_eq rfl) (nm_eq rfl) (nm_eq rfl) e) (turn_rt (turn_rt (turn_rt (ends_rt0 ⟨rfl, .inr ⟨?_, w, xs, rfl, q⟩⟩))))
            rw [← Bool.not_eq_true, all3_iff]
            intro z
            rw [z a ha b hb c hc] at hq
            cases hq
          · rw [ok_Pass]
            refine turn_nx ⟨rfl, fun c' hc' => ?_⟩
            rcases Nat.lt_or_ge c' c with z | z
            · exact hp3 c' z
            · have : c' = c := by omega
              subst this
              unfold dstB
              rw [Bool.not_eq_false'] at h1
              exact h1
        · subst ee
          refine turn_nx ⟨rfl, fun b' hb' => ?_⟩
          rcases Nat.lt_or_ge b' b with z | z
          · exact hp2 b' z
          · have : b' = b := by omega
            subst this
            exact hp3
      · subst ee
        refine turn_nx ⟨rfl, fun a' ha' => ?_⟩
        rcases Nat.lt_or_ge a' a with z | z
        · exact hp a' z
        · have : a' = a := by omega
          subst this
          exact hp2
    · subst ee
      exact then_nx (ret_ok (tup_eq (cons_eq c_eq nil_eq)) (ends_rt0 ⟨rfl, .inl ⟨all3_iff.mpr hp, rfl⟩⟩))
  obtain ⟨d, outs, e, rfl, q⟩ := key
  exact ⟨d, e, q⟩
theorem modular_ok (h : Ord n cs) (L : IsLat n cs) (hn : n ≤ 60) : ∃ d, f_modular [ordD n cs] = .ok d [] ∧ ((all3 n (evB n cs) = true ∧ d = .tuple [.str "modular"]) ∨ (all3 n (evB n cs) = false ∧ ∃ xs, d = barD false xs ∧ BarOk n cs false xs)) := by
  have key : ∃ d outs, f_modular [ordD n cs] = .ok d outs ∧ outs = [] ∧ ((all3 n (evB n cs) = true ∧ d = .tuple [.str "modular"]) ∨ (all3 n (evB n cs) = false ∧ ∃ xs, d = barD false xs ∧ BarOk n cs false xs)) := by
    refine run_e ?_
    show Ok (b_modular [some (ordD n cs), none, none, none]) _
    unfold b_modular
    rw [ok_Seq, ok_ParN]
    refine ok_of (cons_eq (call_eq1 (nm_eq rfl) (show f_joins _ = _ from joins_ok h hn)) (cons_eq (call_eq1 (nm_eq rfl) (show f_meets _ = _ from meets_ok h hn)) nil_eq)) ⟨_, rfl, ?_⟩
    simp only [setAll_cons, setAll_nil, List.set_cons_zero, List.set_cons_succ]
    obtain ⟨d, e, r⟩ := pentagon_ok h L hn
    refine seqset_ok (call_eq3 (nm_eq rfl) (nm_eq rfl) (nm_eq rfl) e) ?_
    simp only [List.set_cons_zero, List.set_cons_succ]
    rcases r with ⟨rfl, hp⟩ | ⟨a', b', c', p, rfl⟩
    · exact ret_ok (ife_eq (p := true) (t_eq (bin_eq (nm_eq rfl) c_eq rfl)) (fun _ => tup_eq (cons_eq c_eq nil_eq)) (fun z => by cases z)) (ends_rt0 ⟨rfl, .inl ⟨(even_iff h L).mpr hp, rfl⟩⟩)
    · refine ret_ok (ife_eq (p := false) (t_eq (bin_eq (nm_eq rfl) c_eq rfl)) (fun z => by cases z) (fun _ => nm_eq rfl)) (ends_rt0 ⟨rfl, .inr ⟨?_, _, rfl, pen_bar h L p⟩⟩)
      rw [← Bool.not_eq_true, even_iff h L]
      exact fun z => z _ _ _ p
  obtain ⟨d, outs, e, rfl, q⟩ := key
  exact ⟨d, e, q⟩
end K51

set_option Elab.async false
set_option linter.all false
set_option maxRecDepth 100000
namespace K51
open J
open PySem (PyData)
variable {n : Nat} {cs : Ps}
/-! ### words -/
theorem shp_pe : shp (.str "pentagon") = true := by decide +kernel
theorem shp_di : shp (.str "diamond") = true := by decide +kernel
theorem shp_w (w : Bool) : shp (.str (wd w)) = true := by cases w <;> decide +kernel
theorem w_pe (w : Bool) : (wd w == "pentagon") = !w := by cases w <;> decide +kernel
theorem w_di (w : Bool) : (wd w == "diamond") = w := by cases w <;> decide +kernel
theorem eq_pe (w : Bool) : dEq (.str (wd w)) (.str "pentagon") = some (.bool (!w)) := eqs (shp_w w) shp_pe (w_pe w)
theorem eq_di (w : Bool) : dEq (.str (wd w)) (.str "diamond") = some (.bool w) := eqs (shp_w w) shp_di (w_di w)
theorem shp_two : shp (.list [.str "pentagon", .str "diamond"]) = true := by decide +kernel
theorem word_T (w : Bool) : dNin (.str (wd w)) (.tuple [.str "pentagon", .str "diamond"]) = some (.bool false) := by
  show (if shp (.str (wd w)) = true ∧ shp (.list [.str "pentagon", .str "diamond"]) = true then _ else _) = _
  rw [if_pos ⟨shp_w w, shp_two⟩]
  simp only [List.any_cons, List.any_nil, Bool.or_false]
  rw [PyData.eqv, PyData.eqv]
  cases w <;> rfl
theorem word_L (w : Bool) : dNin (.str (wd w)) (.list [.str "pentagon", .str "diamond"]) = some (.bool false) := word_T w
/-! ### values -/
def vD (w : Bool) (vs : List (Option Nat)) : D := .tuple (.str (wd w) :: vs.map oD)
theorem barD_v (w : Bool) (xs : List Nat) : barD w xs = vD w (xs.map some) := by
  unfold barD vD
  rw [List.map_map]
  rfl
def okv (n : Nat) : Option Nat → Bool
  | some x => decide (x < n)
  | none => false
theorem whole_o (v : Option Nat) : f_is_whole [oD v, .int 0, .int ((n : Int) - 1)] = .ok (.bool (okv n v)) [] := by
  refine run_v ?_
  show Ok (b_is_whole [some (oD v), some (.int 0), some (.int ((n : Int) - 1))]) _
  unfold b_is_whole
  cases v with
  | none => exact ret_ok (ofB_eq (and_eq' (q := true) (t_eq (un_eq (nm_eq rfl) rfl)) (fun h => by cases h))) (ends_rt0 rfl)
  | some x =>
    refine ret_ok (ofB_eq (and_eq (t_eq (un_eq (nm_eq rfl) (isa_int _))) (and_eq (not_eq (t_eq (un_eq (nm_eq rfl) (isa_bool _)))) (t_eq (chain_eq (nm_eq rfl) (nm_eq rfl) (nm_eq rfl) (leq_int _ _) (leq_int _ _)))))) (ends_rt0 ?_)
    congr 1
    rw [Bool.eq_iff_iff]
    simp only [Bool.and_eq_true, Bool.not_false, decide_eq_true_eq, true_and, okv]
    omega
def BarV (n : Nat) (cs : Ps) (w : Bool) (vs : List (Option Nat)) : Prop := ∃ xs, vs = xs.map some ∧ BarOk n cs w xs
noncomputable instance (n : Nat) (cs : Ps) (w : Bool) (vs : List (Option Nat)) : Decidable (BarV n cs w vs) := Classical.propDecidable _
noncomputable instance (n : Nat) (cs : Ps) (w : Bool) (lo a b c hi : Nat) : Decidable (BarC n cs w lo a b c hi) := Classical.propDecidable _
theorem some_inj : ∀ {a b : List Nat}, a.map some = b.map some → a = b
  | [], [], _ => rfl
  | x :: a, y :: b, h => by
    rw [List.map_cons, List.map_cons] at h
    obtain ⟨h1, h2⟩ := List.cons.inj h
    rw [Option.some.inj h1, some_inj h2]
  | [], _ :: _, h => by cases h
  | _ :: _, [], h => by cases h
theorem barV_iff {w : Bool} {lo a b c hi : Nat} (h1 : ∀ x ∈ [lo, a, b, c, hi], x < n) (h2 : [lo, a, b, c, hi].Nodup) : BarV n cs w [some lo, some a, some b, some c, some hi] ↔ BarC n cs w lo a b c hi := by
  constructor
  · rintro ⟨xs, e, _, _, lo', a', b', c', hi', rfl, C⟩
    have e := some_inj (a := [lo, a, b, c, hi]) (b := [lo', a', b', c', hi']) e
    simp only [List.cons.injEq, and_true] at e
    obtain ⟨rfl, rfl, rfl, rfl, rfl⟩ := e
    exact C
  · intro C
    exact ⟨[lo, a, b, c, hi], rfl, h1, h2, lo, a, b, c, hi, rfl, C⟩
theorem barV_no {w : Bool} {vs : List (Option Nat)} (h : vs.all (okv n) = false) : ¬ BarV n cs w vs := by
  rintro ⟨xs, rfl, h1, _⟩
  rw [List.all_eq_false] at h
  obtain ⟨v, hv, q⟩ := h
  obtain ⟨x, hx, rfl⟩ := List.mem_map.mp hv
  exact q (decide_eq_true (h1 x hx))
theorem barV_nd {w : Bool} {xs : List Nat} (h : ¬ xs.Nodup) : ¬ BarV n cs w (xs.map some) := by
  rintro ⟨ys, e, _, h2, _⟩
  exact h (some_inj e ▸ h2)
theorem okv_some {v : Option Nat} (h : okv n v = true) : ∃ x, v = some x ∧ x < n := by
  cases v with
  | none => cases h
  | some x => exact ⟨x, rfl, of_decide_eq_true h⟩
theorem len5 {vs : List (Option Nat)} (h : vs.length = 5) : ∃ a b c d e, vs = [a, b, c, d, e] := by
  match vs, h with
  | [a, b, c, d, e], _ => exact ⟨a, b, c, d, e, rfl⟩
theorem lenset5 (xs : List Nat) (h : xs.length = 5) : dLenSet (nT xs) = some (nD (sortU (xs.map Int.ofNat)).length) := dLenSet_nT xs (by omega)
theorem set5_iff {xs : List Nat} (h : xs.length = 5) : (sortU (xs.map Int.ofNat)).length = 5 ↔ xs.Nodup := by
  rw [← nodup_ofNat, ← sortU_nodup_iff, List.length_map, h]
theorem top_eq {i : Nat} {r : Env} (h : getS r i = some (ordD n cs)) : (sBin dSub (sBin dIx (sV i) (sC (.int 1))) (sC (.int 1))) r = .ok (.int ((n : Int) - 1)) r := bin_eq (order_n h) c_eq (sub_int _ _)
/-- what is asked of the pairs -/
noncomputable def prB (n : Nat) (cs : Ps) (lo hi : Nat) (p : Nat × Nat) : Bool := decide (jN n cs p.1 p.2 = hi) && decide (mN n cs p.1 p.2 = lo)
def prs (w : Bool) (a b c : Nat) : Ps := if w then [(a, b), (a, c), (b, c)] else [(a, c), (b, c)]
theorem prs_iff (h : Ord n cs) {w : Bool} {lo a b c hi : Nat} : (((prs w a b c).all (prB n cs lo hi)) && (w || decide (b ∈ upl n cs a))) = decide (BarC n cs w lo a b c hi) := by
  rw [Bool.eq_iff_iff, Bool.and_eq_true, Bool.or_eq_true, decide_eq_true_eq, decide_eq_true_eq, mem_upl' h.rng]
  unfold prs prB
  cases w with
  | true =>
    simp only [if_true, List.all_cons, List.all_nil, Bool.and_true, Bool.and_eq_true, decide_eq_true_eq, true_or, and_true]
    constructor
    · rintro ⟨⟨h1, h2⟩, ⟨h3, h4⟩, h5, h6⟩
      exact ⟨h3, h4, h5, h6, fun _ => ⟨h1, h2⟩, .inl rfl⟩
    · intro C
      exact ⟨C.ab rfl, ⟨C.jac, C.mac⟩, C.jbc, C.mbc⟩
  | false =>
    simp only [Bool.false_eq_true, if_false, List.all_cons, List.all_nil, Bool.and_true, Bool.and_eq_true, decide_eq_true_eq, false_or]
    constructor
    · rintro ⟨⟨⟨h3, h4⟩, h5, h6⟩, t⟩
      exact ⟨h3, h4, h5, h6, fun e => (by cases e), .inr t⟩
    · intro C
      refine ⟨⟨⟨C.jac, C.mac⟩, C.jbc, C.mbc⟩, ?_⟩
      rcases C.end_ with z | z
      · cases z
      · exact z
theorem prs_lt {w : Bool} {a b c : Nat} (ha : a < n) (hb : b < n) (hc : c < n) : ∀ p ∈ prs w a b c, p.1 < n ∧ p.2 < n := by
  intro p hp
  unfold prs at hp
  split at hp
  · simp only [List.mem_cons, List.not_mem_nil, or_false] at hp
    rcases hp with rfl | rfl | rfl
    · exact ⟨ha, hb⟩
    · exact ⟨ha, hc⟩
    · exact ⟨hb, hc⟩
  · simp only [List.mem_cons, List.not_mem_nil, or_false] at hp
    rcases hp with rfl | rfl
    · exact ⟨ha, hc⟩
    · exact ⟨hb, hc⟩
theorem isbar_ok (h : Ord n cs) (L : IsLat n cs) (hn : n ≤ 60) {w : Bool} {vs : List (Option Nat)} (hv : vs.length = 5) : f_is_bar [ordD n cs, vD w vs] = .ok (.bool (decide (BarV n cs w vs))) [] := by
  obtain ⟨v1, v2, v3, v4, v5, rfl⟩ := len5 hv
  refine run_v ?_
  show Ok (b_is_bar [some (ordD n cs), some (.tuple [.str (wd w), oD v1, oD v2, oD v3, oD v4, oD v5]), none, none, none, none, none, none, none, none, none, none, none]) _
  unfold b_is_bar
  refine seqif_ok (p := false) (or_eq (p := false) (q := false) (not_eq (p := true) (t_eq (un_eq (nm_eq rfl) (isa_tup _)))) (or_eq (p := false) (q := false) (t_eq (bin_eq (len_T rfl) c_eq (dNe_nD 6 6))) (t_eq (bin_eq (bin_eq (nm_eq rfl) c_eq rfl) (tup_eq (cons_eq c_eq (cons_eq c_eq nil_eq))) (word_T w))))) (fun h => by cases h) (fun _ => ?_)
  have hallE : ∀ {r : Env}, getS r 1 = some (.tuple [.str (wd w), oD v1, oD v2, oD v3, oD v4, oD v5]) → getS r 0 = some (ordD n cs) → r.length = 13 → (sFn dAll (sCons (sLc (.nm 12) (itSeq (sSl (sV 1) (sPart (sC (.int 1))) sNoPart)) sYes (lcE (sCall f_is_whole [.e (sV 12), .e (sC (.int 0)), .e (sBin dSub (sBin dIx (sV 0) (sC (.int 1))) (sC (.int 1)))])) [12]) sNil)) r = .ok (.bool ([v1, v2, v3, v4, v5].all (okv n))) r := fun {r} h1 h0 hl => by
    refine fn1_eq (lc_map0 (f := oD) (xs := [v1, v2, v3, v4, v5]) (p := fun _ => true) (g := fun v => .bool (okv n v)) (itSeq_of (sl_eq (nm_eq h1) (part_eq (n := 1) c_eq) nopart_eq rfl) rfl) (fun _ _ => rfl) (fun v _ _ => ?_)) (by rw [filt_true]; exact dAll_map _ _)
    match r, hl with
    | [r0, r1, r2, r3, r4, r5, r6, r7, r8, r9, r10, r11, r12], _ =>
      exact call_eq3 (nm_eq rfl) c_eq (top_eq (by simpa using h0)) (whole_o v)
  by_cases hall : [v1, v2, v3, v4, v5].all (okv n) = true
  · have hv' := List.all_eq_true.mp hall
    obtain ⟨lo, rfl, l1⟩ := okv_some (hv' v1 (by simp))
    obtain ⟨a, rfl, l2⟩ := okv_some (hv' v2 (by simp))
    obtain ⟨b, rfl, l3⟩ := okv_some (hv' v3 (by simp))
    obtain ⟨c, rfl, l4⟩ := okv_some (hv' v4 (by simp))
    obtain ⟨hi, rfl, l5⟩ := okv_some (hv' v5 (by simp))
    refine seqif_ok (p := !decide ((sortU (([lo, a, b, c, hi] : List Nat).map Int.ofNat)).length = 5)) (or_eq (p := false) (not_eq (p := true) (t_eq (by rw [hallE rfl rfl rfl, hall]))) (t_eq (bin_eq (un_eq (sl_eq (nm_eq rfl) (part_eq (n := 1) c_eq) nopart_eq (d := nT [lo, a, b, c, hi]) rfl) (lenset5 [lo, a, b, c, hi] rfl)) c_eq (dNe_nD _ 5)))) (fun hf => ?_) (fun hf => ?_)
    · refine ok_of c_eq (ends_rt0 ?_)
      rw [Bool.not_eq_true', decide_eq_false_iff_not, set5_iff rfl] at hf
      have hno : ¬ BarV n cs w [some lo, some a, some b, some c, some hi] := barV_nd (xs := [lo, a, b, c, hi]) hf
      rw [decide_eq_false hno]
    · rw [Bool.not_eq_false', decide_eq_true_eq, set5_iff rfl] at hf
      have hlt := lt5 l1 l2 l3 l4 l5
      have hiff := barV_iff (cs := cs) (w := w) hlt hf
      have hdec : decide (BarV n cs w [some lo, some a, some b, some c, some hi]) = (((prs w a b c).all (prB n cs lo hi)) && (w || decide (b ∈ upl n cs a))) := by
        rw [prs_iff h]
        exact decide_eq_decide.mpr hiff
      rw [ok_Seq, ok_ParN]
      refine ok_of (cons_eq (call_eq1 (nm_eq rfl) (show f_joins _ = _ from joins_ok h hn)) (cons_eq (call_eq1 (nm_eq rfl) (show f_meets _ = _ from meets_ok h hn)) nil_eq)) ⟨_, rfl, ?_⟩
      simp only [setAll_cons, setAll_nil, List.set_cons_zero, List.set_cons_succ]
      rw [ok_Seq, ok_Asg]
      refine ok_of (sl_eq (nm_eq rfl) (part_eq (n := 1) c_eq) nopart_eq (d := .tuple [nD lo, nD a, nD b, nD c, nD hi]) rfl) ⟨_, rfl, ?_⟩
      simp only [setAll_cons, setAll_nil, List.set_cons_zero, List.set_cons_succ]
      refine seqset_ok (d := .list ((prs w a b c).map pD)) (ife_eq (t_eq (bin_eq (bin_eq (nm_eq rfl) c_eq rfl) c_eq (eq_pe w))) (fun hw => ?_) (fun hw => ?_)) ?_
      · have hw : w = false := by simpa using hw
        subst hw
        exact lst_eq (cons_eq (tup_eq (cons_eq (nm_eq rfl) (cons_eq (nm_eq rfl) nil_eq))) (cons_eq (tup_eq (cons_eq (nm_eq rfl) (cons_eq (nm_eq rfl) nil_eq))) nil_eq))
      · have hw : w = true := by simpa using hw
        subst hw
        exact lst_eq (cons_eq (tup_eq (cons_eq (nm_eq rfl) (cons_eq (nm_eq rfl) nil_eq))) (cons_eq (tup_eq (cons_eq (nm_eq rfl) (cons_eq (nm_eq rfl) nil_eq))) (cons_eq (tup_eq (cons_eq (nm_eq rfl) (cons_eq (nm_eq rfl) nil_eq))) nil_eq)))
      simp only [List.set_cons_zero, List.set_cons_succ]
      refine seqif_ok (p := !(prs w a b c).all (prB n cs lo hi)) (not_eq (t_eq (fn1_eq (lc_gen (f := pD) (xs := prs w a b c) (p := fun _ => true) (g := fun p => .bool (prB n cs lo hi p)) (E := fun p => [some (ordD n cs), some (.tuple [.str (wd w), nD lo, nD a, nD b, nD c, nD hi]), some (tab n (jn n cs)), some (tab n (mt n cs)), some (nD lo), some (nD a), some (nD b), some (nD c), some (nD hi), some (.list ((prs w a b c).map pD)), some (nD p.1), some (nD p.2), none]) (itSeq_of (nm_eq rfl) rfl) (fun p _ => rfl) (fun p _ => rfl) (fun p _ => rfl) (fun p hp _ => ?_)) (by rw [filt_true]; exact dAll_map _ _)))) (fun hq => ?_) (fun hq => ?_)
      · obtain ⟨p1, p2⟩ := prs_lt l2 l3 l4 p hp
        exact ofB_eq (and_eq (t_eq (bin_eq (ixJ L rfl (nm_eq rfl) (nm_eq rfl) p1 p2) (nm_eq rfl) (dEq_nD _ _))) (t_eq (bin_eq (ixM L rfl (nm_eq rfl) (nm_eq rfl) p1 p2) (nm_eq rfl) (dEq_nD _ _))))
      · refine ok_of c_eq (ends_rt0 ?_)
        rw [Bool.not_eq_true'] at hq
        rw [hdec, hq]
        rfl
      · rw [Bool.not_eq_false'] at hq
        rw [hdec, hq, Bool.true_and]
        exact ret_ok (ofB_eq (or_eq (t_eq (bin_eq (bin_eq (nm_eq rfl) c_eq rfl) c_eq (eq_di w))) (t_eq (bin_eq (nm_eq rfl) (call_eq2 (nm_eq rfl) (nm_eq rfl) (show f_above _ = _ from jabove_ok h hn a)) (dIn_nL _ _))))) (ends_rt0 rfl)
  · have hall : [v1, v2, v3, v4, v5].all (okv n) = false := by simpa using hall
    refine seqif_ok (p := true) (or_eq' (p := true) (q := true) (not_eq (p := false) (t_eq (by rw [hallE rfl rfl rfl, hall]))) (fun h => by cases h)) (fun _ => ok_of c_eq (ends_rt0 ?_)) (fun h => by cases h)
    rw [decide_eq_false (barV_no hall)]
theorem isbar_not {d : D} (hd : dIsa "tuple" d = some (.bool false)) : f_is_bar [ordD n cs, d] = .ok (.bool false) [] := by
  refine run_v ?_
  show Ok (b_is_bar [some (ordD n cs), some d, none, none, none, none, none, none, none, none, none, none, none]) _
  unfold b_is_bar
  exact seqif_ok (p := true) (or_eq' (p := true) (q := true) (not_eq (p := false) (t_eq (un_eq (nm_eq rfl) hd))) (fun h => by cases h)) (fun _ => ok_of c_eq (ends_rt0 rfl)) (fun h => by cases h)
theorem isbar_len {ds : List D} (hd : ds.length = 5) : f_is_bar [ordD n cs, .tuple ds] = .ok (.bool false) [] := by
  refine run_v ?_
  show Ok (b_is_bar [some (ordD n cs), some (.tuple ds), none, none, none, none, none, none, none, none, none, none, none]) _
  unfold b_is_bar
  exact seqif_ok (p := true) (or_eq (p := false) (q := true) (not_eq (p := true) (t_eq (un_eq (nm_eq rfl) (isa_tup _)))) (or_eq' (p := true) (q := true) (t_eq (bin_eq (len_T rfl) c_eq (by rw [hd]; exact dNe_nD 5 6))) (fun h => by cases h))) (fun _ => ok_of c_eq (ends_rt0 rfl)) (fun h => by cases h)
/-! ### the law's judge -/
theorem right_not {d : D} (hd : dIsa "tuple" d = some (.bool false)) : f__law_right [ordD n cs, d] = .ok (.bool false) [] := by
  refine run_v ?_
  show Ok (b__law_right [some (ordD n cs), some d, none, none, none, none, none, none, none, none, none, none]) _
  unfold b__law_right
  exact seqif_ok (p := true) (or_eq' (p := true) (q := true) (not_eq (p := false) (t_eq (un_eq (nm_eq rfl) hd))) (fun h => by cases h)) (fun _ => ok_of c_eq (ends_rt0 rfl)) (fun h => by cases h)
theorem right_len {ds : List D} (hd : ds.length = 5) : f__law_right [ordD n cs, .tuple ds] = .ok (.bool false) [] := by
  refine run_v ?_
  show Ok (b__law_right [some (ordD n cs), some (.tuple ds), none, none, none, none, none, none, none, none, none, none]) _
  unfold b__law_right
  exact seqif_ok (p := true) (or_eq (p := false) (q := true) (not_eq (p := true) (t_eq (un_eq (nm_eq rfl) (isa_tup _)))) (or_eq' (p := true) (q := true) (t_eq (bin_eq (len_T rfl) c_eq (by rw [hd]; exact dNe_nD 5 6))) (fun h => by cases h))) (fun _ => ok_of c_eq (ends_rt0 rfl)) (fun h => by cases h)
theorem right_ok (h : Ord n cs) (L : IsLat n cs) (hn : n ≤ 60) {w : Bool} {vs : List (Option Nat)} (hv : vs.length = 5) : f__law_right [ordD n cs, vD w vs] = .ok (.bool (decide (BarV n cs w vs))) [] := by
  obtain ⟨v1, v2, v3, v4, v5, e5⟩ := len5 hv
  refine run_v ?_
  show Ok (b__law_right [some (ordD n cs), some (vD w vs), none, none, none, none, none, none, none, none, none, none]) _
  unfold b__law_right
  refine seqif_ok (p := false) (or_eq (p := false) (q := false) (not_eq (p := true) (t_eq (un_eq (nm_eq rfl) (isa_tup _)))) (or_eq (p := false) (q := false) (t_eq (bin_eq (len_T rfl) c_eq (by rw [List.length_cons, List.length_map, hv]; exact dNe_nD 6 6))) (t_eq (bin_eq (bin_eq (nm_eq rfl) c_eq (dIx_natT (g := 0) rfl)) (lst_eq (cons_eq c_eq (cons_eq c_eq nil_eq))) (word_L w))))) (fun h => by cases h) (fun _ => ?_)
  refine seq_th (for_ok (rg2_eq (i := 1) (j := 6) c_eq c_eq (by omega) (by omega)) ?_)
  simp only [kill_cons, kill_nil, List.set_cons_zero, List.set_cons_succ]
  refine forL_rg2 (i := 1) (n := 5) (Inv := fun k e => e = [some (ordD n cs), some (vD w vs), none, none, none, none, none, none, none, none, none, none] ∧ ∃ xs : List Nat, vs.take (k - 1) = xs.map some ∧ (∀ x ∈ xs, x < n) ∧ xs.Nodup) ⟨rfl, [], by simp, fun x hx => absurd hx List.not_mem_nil, List.nodup_nil⟩ (fun k hk1 hk2 e ⟨ee, xs, hx1, hx2, hx3⟩ => ?_) (fun e ⟨ee, xs, hx1, hx2, hx3⟩ => ?_)
  · subst ee
    simp only [List.set_cons_zero, List.set_cons_succ]
    obtain ⟨k, rfl⟩ : ∃ m, k = m + 1 := ⟨k - 1, by omega⟩
    rw [Nat.add_sub_cancel] at hx1
    have hkv : k < vs.length := by omega
    have hixD : dIx (vD w vs) (nD (k + 1)) = some (oD vs[k]) := dIx_natT (by rw [List.getElem?_cons_succ, List.getElem?_map, List.getElem?_eq_getElem hkv]; rfl)
    have hsl : dSl (some ((1 : Nat) : Int)) (some ((k + 1 : Nat) : Int)) (vD w vs) = some (nT xs) := by
      have := dSlT_mid (f := fun d : D => d) (.str (wd w) :: vs.map oD) 1 (k + 1)
      rw [List.map_id'] at this
      unfold vD
      rw [this, List.map_id', List.drop_succ_cons, List.drop_zero, Nat.add_sub_cancel, ← List.map_take, hx1, List.map_map]
      rfl
    cases ev : vs[k] with
    | none =>
      rw [ev] at hixD
      refine if_ok (p := true) (or_eq' (p := true) (q := true) (not_eq (p := false) (t_eq (un_eq (bin_eq (nm_eq rfl) (nm_eq rfl) hixD) rfl))) (fun h => by cases h)) (fun _ => ret_ok c_eq (turn_rt (ends_rt0 ?_))) (fun h => by cases h)
      rw [decide_eq_false]
      rintro ⟨ys, rfl, _⟩
      rw [List.getElem_map] at ev
      cases ev
    | some x =>
      rw [ev] at hixD
      refine if_ok (p := decide (n ≤ x) || decide (x ∈ xs)) (or_eq (p := false) (not_eq (p := true) (t_eq (un_eq (bin_eq (nm_eq rfl) (nm_eq rfl) hixD) (isa_int _)))) (or_eq (p := false) (t_eq (un_eq (bin_eq (nm_eq rfl) (nm_eq rfl) hixD) (isa_bool _))) (or_eq (p := false) (t_eq (bin_eq (bin_eq (nm_eq rfl) (nm_eq rfl) hixD) c_eq (by rw [show oD (some x) = nD x from rfl, nD0, dLt_nD]; simp))) (or_eq (t_eq (bin_eq (bin_eq (nm_eq rfl) (nm_eq rfl) hixD) (order_n rfl) (dGe_nD _ _))) (t_eq (bin_eq (bin_eq (nm_eq rfl) (nm_eq rfl) hixD) (sl_eq (nm_eq rfl) (part_eq (n := 1) c_eq) (part_eq (nm_eq rfl)) hsl) (dIn_nT _ _))))))) (fun hf => ret_ok c_eq (turn_rt (ends_rt0 ?_))) (fun hf => ?_)
      · rw [decide_eq_false]
        rintro ⟨ys, rfl, q1, q2, _⟩
        rw [List.length_map] at hkv
        rw [List.getElem_map] at ev
        have ev := Option.some.inj ev
        rw [← List.map_take] at hx1
        have hx1 := some_inj hx1
        rw [Bool.or_eq_true, decide_eq_true_eq, decide_eq_true_eq] at hf
        rcases hf with hf | hf
        · have := q1 _ (List.getElem_mem hkv)
          omega
        · rw [← hx1] at hf
          obtain ⟨j, hj, ej⟩ := List.mem_iff_getElem.mp hf
          rw [List.length_take] at hj
          rw [List.getElem_take] at ej
          have := (List.pairwise_iff_getElem.mp q2) j k (by omega) hkv (by omega)
          exact this (ej.trans ev.symm)
      · rw [ok_Pass]
        rw [Bool.or_eq_false_iff, decide_eq_false_iff_not, decide_eq_false_iff_not] at hf
        refine turn_nx ⟨rfl, xs ++ [x], ?_, fun y hy => ?_, ?_⟩
        · rw [Nat.add_sub_cancel, List.take_succ, hx1, List.getElem?_eq_getElem hkv, ev, List.map_append]
          rfl
        · rcases List.mem_append.mp hy with hy | hy
          · exact hx2 y hy
          · rw [List.mem_singleton.mp hy]
            omega
        · rw [List.nodup_append]
          refine ⟨hx3, by simp, fun y hy z hz e => ?_⟩
          rw [List.mem_singleton.mp hz] at e
          exact hf.2 (e ▸ hy)
  · subst ee
    refine then_nx ?_
    simp only [kill_cons, kill_nil, List.set_cons_zero, List.set_cons_succ]
    have hx1' : vs = xs.map some := by
      rw [← hx1, List.take_of_length_le (by omega)]
    clear hx1
    have hxl : xs.length = 5 := by
      have := congrArg List.length hx1'
      rw [List.length_map] at this
      omega
    obtain ⟨lo, a, b, c, hi, rfl⟩ : ∃ lo a b c hi, xs = [lo, a, b, c, hi] := by
      match xs, hxl with
      | [a, b, c, d, e], _ => exact ⟨a, b, c, d, e, rfl⟩
    rw [hx1']
    have l2 := hx2 a (by simp)
    have l3 := hx2 b (by simp)
    have l4 := hx2 c (by simp)
    have hiff := barV_iff (cs := cs) (w := w) hx2 hx3
    have hdec : decide (BarV n cs w [some lo, some a, some b, some c, some hi]) = (((prs w a b c).all (prB n cs lo hi)) && (w || decide (b ∈ upl n cs a))) := by
      rw [prs_iff h]
      exact decide_eq_decide.mpr hiff
    rw [ok_Seq, ok_Asg]
    refine ok_of (call_eq1 (nm_eq rfl) (show f__law_tables _ = _ from ltables_ok h hn)) ⟨_, rfl, ?_⟩
    simp only [setAll_cons, setAll_nil, List.set_cons_zero, List.set_cons_succ]
    rw [ok_Seq, ok_Asg]
    refine ok_of (sl_eq (nm_eq rfl) (part_eq (n := 1) c_eq) nopart_eq (d := .tuple [nD lo, nD a, nD b, nD c, nD hi]) rfl) ⟨_, rfl, ?_⟩
    simp only [setAll_cons, setAll_nil, List.set_cons_zero, List.set_cons_succ]
    -- the law's pairs
    refine seqset_ok (d := .list (([(a, c), (b, c)] ++ (if w then [(a, b)] else [])).map pD)) (bin_eq (lst_eq (cons_eq (tup_eq (cons_eq (nm_eq rfl) (cons_eq (nm_eq rfl) nil_eq))) (cons_eq (tup_eq (cons_eq (nm_eq rfl) (cons_eq (nm_eq rfl) nil_eq))) nil_eq))) (ife_eq (d := .list ((if w then [(a, b)] else []).map pD)) (t_eq (bin_eq (bin_eq (nm_eq rfl) c_eq rfl) c_eq (eq_di w))) (fun hw => ?_) (fun hw => ?_)) (dAdd_mapL (f := pD) [(a, c), (b, c)] (by rw [show line = 16777216 from rfl]; split <;> simp))) ?_
    · subst hw
      exact lst_eq (cons_eq (tup_eq (cons_eq (nm_eq rfl) (cons_eq (nm_eq rfl) nil_eq))) nil_eq)
    · subst hw
      exact lst_eq nil_eq
    simp only [List.set_cons_zero, List.set_cons_succ]
    have hpl : ∀ p ∈ [(a, c), (b, c)] ++ (if w then [(a, b)] else []), p.1 < n ∧ p.2 < n := fun p hp => by
      rcases List.mem_append.mp hp with hp | hp
      · simp only [List.mem_cons, List.not_mem_nil, or_false] at hp
        rcases hp with rfl | rfl
        · exact ⟨l2, l4⟩
        · exact ⟨l3, l4⟩
      · split at hp
        · cases List.mem_singleton.mp hp
          exact ⟨l2, l3⟩
        · cases hp
    have hany : (([(a, c), (b, c)] ++ (if w then [(a, b)] else [])).any fun p => !decide (jN n cs p.1 p.2 = hi) || !decide (mN n cs p.1 p.2 = lo)) = !(prs w a b c).all (prB n cs lo hi) := by
      unfold prs prB
      cases w <;> simp [Bool.not_and] <;> cases decide (jN n cs a c = hi) <;> cases decide (mN n cs a c = lo) <;> cases decide (jN n cs b c = hi) <;> cases decide (mN n cs b c = lo) <;> simp
    have lenP : ∀ (l : Ps) (p : Nat × Nat → Bool), decide (0 < (l.filter p).length) = l.any p := fun l p => by
      rw [Bool.eq_iff_iff, decide_eq_true_eq, List.length_pos_iff, List.any_eq_true]
      constructor
      · intro q
        obtain ⟨x, hx⟩ := List.exists_mem_of_ne_nil _ q
        rw [List.mem_filter] at hx
        exact ⟨x, hx⟩
      · rintro ⟨x, hx⟩ e
        have := List.mem_filter.mpr hx
        rw [e] at this
        cases this
    refine seqif_ok (p := !(prs w a b c).all (prB n cs lo hi)) (t_eq (bin_eq (fn1_eq (lc_map0 (f := pD) (xs := [(a, c), (b, c)] ++ (if w then [(a, b)] else [])) (p := fun p => !decide (jN n cs p.1 p.2 = hi) || !decide (mN n cs p.1 p.2 = lo)) (g := pD) (itSeq_of (nm_eq rfl) rfl) (fun p hp => ?_) (fun p _ _ => nm_eq rfl)) (dLen_L _)) c_eq (by rw [nD0, dGt_nD, List.length_map, lenP, hany]))) (fun hq => ?_) (fun hq => ?_)
    · obtain ⟨p1, p2⟩ := hpl p hp
      exact or_eq (t_eq (bin_eq (ixJ L rfl (bin_eq (nm_eq rfl) c_eq rfl) (bin_eq (nm_eq rfl) c_eq rfl) p1 p2) (nm_eq rfl) (dNe_nD _ _))) (t_eq (bin_eq (ixM L rfl (bin_eq (nm_eq rfl) c_eq rfl) (bin_eq (nm_eq rfl) c_eq rfl) p1 p2) (nm_eq rfl) (dNe_nD _ _)))
    · refine ok_of c_eq (ends_rt0 ?_)
      rw [Bool.not_eq_true'] at hq
      show PyData.bool false = .bool (decide (BarV n cs w [some lo, some a, some b, some c, some hi]))
      rw [hdec, hq]
      rfl
    · rw [Bool.not_eq_false'] at hq
      refine ret_ok (ofB_eq (or_eq (t_eq (bin_eq (bin_eq (nm_eq rfl) c_eq rfl) c_eq (eq_di w))) (t_eq (bin_eq (nm_eq rfl) (bin_eq (call_eq1 (nm_eq rfl) (show f__law_ups _ = _ from jlups_ok h hn)) (nm_eq rfl) (dIx_ups l2)) (dIn_nL _ _))))) (ends_rt0 ?_)
      show _ = PyData.bool (decide (BarV n cs w [some lo, some a, some b, some c, some hi]))
      rw [hdec, hq, Bool.true_and]
end K51

set_option Elab.async false
set_option linter.all false
set_option maxRecDepth 100000
namespace K51
open J
open PySem (PyData)
theorem callE2 {F : Fn} {e1 e2 : SE} {r : Env} {Q : D → Env → Prop} (h : Ok (e1 r) fun x r1 => Ok (e2 r1) fun y r2 => ∃ d, F [x, y] = .ok d [] ∧ Q d r2) : Ok (sCall F [.e e1, .e e2] r) Q := by
  rw [ok_Call, ok_argL_e]
  refine h.imp fun x r1 h => ?_
  rw [ok_argL_e]
  refine h.imp fun y r2 ⟨d, e, q⟩ => ?_
  rw [ok_argL_nil]
  exact ⟨[x, y], rfl, d, [], e, r2, rfl, q⟩
theorem tk_eq : f__law_take = fTake := rfl
/-- what is in both -/
theorem both_eq {r : Env} {i j v : Nat} {a b : List Nat} (h1 : getS r i = some (nT a)) (h2 : ∀ x : D, getS (r.set v (some x)) j = some (nT b)) (h3 : ∀ x : D, getS (r.set v (some x)) v = some x) : (sFn dTuple (sCons (sLc (.nm v) (itSeq (sV i)) (sT (sBin dIn (sV v) (sV j))) (lcE (sV v)) [v]) sNil)) r = .ok (nT (a.filter fun x => decide (x ∈ b))) r :=
  fn1_eq (lc_map0 (f := nD) (xs := a) (p := fun x => decide (x ∈ b)) (g := nD) (itSeq_of (nm_eq h1) rfl) (fun x _ => t_eq (bin_eq (nm_eq (h3 _)) (nm_eq (h2 _)) (dIn_nT _ _))) (fun x _ _ => nm_eq (h3 _))) rfl
def memL (a : List Nat) (xs : List (List Nat)) : Bool := @decide (a ∈ xs) (@List.instDecidableMemOfLawfulBEq (List Nat) instBEqOfDecidableEq _ a xs)
theorem memL_no {a : List Nat} {xs : List (List Nat)} : memL a xs = false ↔ a ∉ xs := by
  unfold memL
  rw [decide_eq_false_iff_not]
theorem nin_lots (a : List Nat) (xs : List (List Nat)) : dNin (nT a) (.list (xs.map nT)) = some (.bool (!memL a xs)) := dNin_map (n := 1) eqv_nT (fun _ => sm_nT) a xs
theorem pow4 {m : Nat} (h : m ≤ 4) : 2 ^ m ≤ 16 := Nat.pow_le_pow_right (by decide) h
theorem family_ok {t : D} (ht : StOk t) : ∃ n cs t', f__law_family [t] = .ok (ordD n cs) [t'] ∧ StOk t' ∧ Ord n cs ∧ n ≤ 40 := by
  have key : ∃ d outs, f__law_family [t] = .ok d outs ∧ ∃ n cs t', d = ordD n cs ∧ outs = [t'] ∧ StOk t' ∧ Ord n cs ∧ n ≤ 40 := by
    refine run_e ?_
    show Ok (b__law_family [some t, none, none, none, none, none, none, none, none, none, none]) _
    unfold b__law_family
    rw [ok_Seq, ok_Set, ok_Bin, ok_C]
    refine ok_take (m := 3) rfl ht (by omega) c_eq fun v t1 hv ht1 => ?_
    simp only [List.set_cons_zero, List.set_cons_succ, nD2, dAdd_nD, Option.some.injEq, exists_eq_left']
    have hm4 : 2 + v ≤ 4 := by omega
    generalize 2 + v = m at hm4
    refine seqset_ok (d := .list ([List.range m].map nT)) (lst_eq (cons_eq (un_eq (nm_eq rfl) (dTupleRg1_nD m (by omega))) nil_eq)) ?_
    simp only [List.set_cons_zero, List.set_cons_succ]
    refine seq_th ?_
    rw [ok_For]
    refine rg1_ok ?_
    rw [ok_Bin, ok_C]
    refine ok_take (m := 5) rfl ht1 (by omega) c_eq fun u t2 hu ht2 => ⟨_, dAdd_nD 1 u, 1 + u, rfl, by omega, ?_⟩
    simp only [kill_cons, kill_nil, List.set_cons_zero, List.set_cons_succ]
    refine forL_rg (Inv := fun _ e => ∃ t lots, e = [some t, some (nD m), some (.list (lots.map nT)), none, none, none, none, none, none, none, none] ∧ StOk t ∧ Lots m lots) ⟨t2, [List.range m], rfl, ht2, by simp, fun l hl => by rw [List.mem_singleton.mp hl]; exact List.Sublist.refl _⟩ (fun k _ e ⟨t, lots, ee, ht, hL⟩ => ?_) (fun e ⟨t, lots, ee, ht, hL⟩ => ?_)
    · subst ee
      simp only [List.set_cons_zero, List.set_cons_succ]
      rw [ok_Seq, ok_Set, ok_Fn, ok_Cons]
      refine ok_LcT (i := 0) (T := StOk) (f := nD) (g := nD) (P := fun b y => y = b) (xs := List.range m) (by decide) (rg1_eq (n := m) (nm_eq rfl) (by omega)) ht rfl (fun b hb t ht => ?_) (fun t3 zs ht3 sl al => ?_)
      · simp only [List.set_cons_zero, List.set_cons_succ]
        rw [ok_T, ok_Bin]
        refine ok_take (m := 2) rfl ht (by omega) c_eq fun x t3 hx ht3 => ?_
        simp only [List.set_cons_zero, List.set_cons_succ]
        exact ok_of c_eq ⟨_, dEq_nD _ 0, _, rfl, t3, ht3, rfl, fun _ => ok_of (nm_eq rfl) ⟨t3, b, ht3, rfl, rfl, rfl⟩⟩
      rw [ok_Nil]
      have elot : (zs.map fun z => nD z.2) = (zs.map (·.1)).map nD := by
        rw [List.map_map]
        exact List.map_congr_left fun z hz => by rw [al z hz]; rfl
      rw [elot]
      generalize zs.map (·.1) = lot at sl
      refine ⟨nT lot, rfl, ?_⟩
      simp only [List.set_cons_zero, List.set_cons_succ]
      refine for_ok (itSeq_of (fn1_eq (nm_eq rfl) rfl) rfl) ?_
      simp only [kill_cons, kill_nil, List.set_cons_zero, List.set_cons_succ]
      refine forL_map (f := nT) (xs := lots) (Inv := fun _ e => ∃ lots, e = [some t3, some (nD m), some (.list (lots.map nT)), some (nD k), some (nT lot), none, none, none, none, none, none] ∧ Lots m lots) ⟨lots, rfl, hL⟩ (fun i other hi e ⟨lots', ee, hL'⟩ => ?_) (fun e ⟨lots', ee, hL'⟩ => ?_)
      · subst ee
        simp only [List.set_cons_zero, List.set_cons_succ]
        refine seqset_ok (both_eq rfl (fun _ => rfl) (fun _ => rfl)) ?_
        simp only [List.set_cons_zero, List.set_cons_succ]
        have hll := Nat.le_trans hL'.len (pow4 hm4)
        refine if_ok (and_eq (t_eq (bin_eq (nm_eq rfl) (nm_eq rfl) (nin_lots _ _))) (t_eq (bin_eq (len_L rfl) c_eq (dLt_nD _ 14)))) (fun hf => ?_) (fun hf => ?_)
        · rw [Bool.and_eq_true, Bool.not_eq_true', memL_no] at hf
          refine app_ok rfl (nm_eq rfl) (by rw [List.length_map]; omega) (turn_nx ⟨lots' ++ [lot.filter fun x => decide (x ∈ other)], ?_, hL'.add (List.filter_sublist.trans sl) hf.1⟩)
          simp only [kill_cons, kill_nil, List.set_cons_zero, List.set_cons_succ, List.map_append, List.map_cons, List.map_nil]
        · rw [ok_Pass]
          exact turn_nx ⟨lots', rfl, hL'⟩
      · subst ee
        exact turn_nx ⟨t3, lots', rfl, ht3, hL'⟩
    · subst ee
      refine then_nx ?_
      simp only [kill_cons, kill_nil, List.set_cons_zero, List.set_cons_succ]
      -- closed under what is in both
      refine seq_th (for_ok (rg1_eq (n := 3) c_eq (by omega)) ?_)
      simp only [kill_cons, kill_nil, List.set_cons_zero, List.set_cons_succ]
      refine forL_rg (Inv := fun _ e => ∃ lots, e = [some t, some (nD m), some (.list (lots.map nT)), none, none, none, none, none, none, none, none] ∧ Lots m lots) ⟨lots, rfl, hL⟩ (fun k _ e ⟨lots, ee, hL⟩ => ?_) (fun e ⟨lots, ee, hL⟩ => ?_)
      · subst ee
        simp only [List.set_cons_zero, List.set_cons_succ]
        refine for_ok (itSeq_of (fn1_eq (nm_eq rfl) rfl) rfl) ?_
        simp only [kill_cons, kill_nil, List.set_cons_zero, List.set_cons_succ]
        refine forL_map (f := nT) (xs := lots) (Inv := fun _ e => ∃ lots, e = [some t, some (nD m), some (.list (lots.map nT)), some (nD k), none, none, none, none, none, none, none] ∧ Lots m lots) ⟨lots, rfl, hL⟩ (fun i one hi e ⟨lots', ee, hL'⟩ => ?_) (fun e ⟨lots', ee, hL'⟩ => ?_)
        · subst ee
          have hone := hL.sub one (List.mem_of_getElem? hi)
          simp only [List.set_cons_zero, List.set_cons_succ]
          refine for_ok (itSeq_of (fn1_eq (nm_eq rfl) rfl) rfl) ?_
          simp only [kill_cons, kill_nil, List.set_cons_zero, List.set_cons_succ]
          refine forL_map (f := nT) (xs := lots') (Inv := fun _ e => ∃ lots, e = [some t, some (nD m), some (.list (lots.map nT)), some (nD k), none, none, none, some (nT one), none, none, none] ∧ Lots m lots) ⟨lots', rfl, hL'⟩ (fun i other hi e ⟨lots2, ee, hL2⟩ => ?_) (fun e ⟨lots2, ee, hL2⟩ => ?_)
          · subst ee
            simp only [List.set_cons_zero, List.set_cons_succ]
            refine seqset_ok (both_eq rfl (fun _ => rfl) (fun _ => rfl)) ?_
            simp only [List.set_cons_zero, List.set_cons_succ]
            have hll := Nat.le_trans hL2.len (pow4 hm4)
            refine if_ok (t_eq (bin_eq (nm_eq rfl) (nm_eq rfl) (nin_lots _ _))) (fun hf => ?_) (fun hf => ?_)
            · rw [Bool.not_eq_true', memL_no] at hf
              refine app_ok rfl (nm_eq rfl) (by rw [List.length_map]; omega) (turn_nx ⟨lots2 ++ [one.filter fun x => decide (x ∈ other)], ?_, hL2.add (List.filter_sublist.trans hone) hf⟩)
              simp only [kill_cons, kill_nil, List.set_cons_zero, List.set_cons_succ, List.map_append, List.map_cons, List.map_nil]
            · rw [ok_Pass]
              exact turn_nx ⟨lots2, rfl, hL2⟩
          · subst ee
            exact turn_nx ⟨lots2, rfl, hL2⟩
        · subst ee
          exact turn_nx ⟨lots', rfl, hL'⟩
      · subst ee
        refine then_nx ?_
        simp only [kill_cons, kill_nil, List.set_cons_zero, List.set_cons_succ]
        have hll := Nat.le_trans hL.len (pow4 hm4)
        refine seqset_ok (lst_eq nil_eq) ?_
        simp only [List.set_cons_zero, List.set_cons_succ]
        have ln : ∀ r : Env, getS r 2 = some (.list (lots.map nT)) → (sFn dLen (sCons (sV 2) sNil)) r = .ok (nD lots.length) r := fun r h => by
          have := len_L h
          rwa [List.length_map] at this
        refine seq_th (for_ok (rg1_eq (n := lots.length) (ln _ rfl) (by omega)) ?_)
        simp only [kill_cons, kill_nil, List.set_cons_zero, List.set_cons_succ]
        refine forL_rg (Inv := fun k e => e = [some t, some (nD m), some (.list (lots.map nT)), none, none, none, none, none, some (.list ((relK lots.length (lotB lots) k).map pD)), none, none]) rfl (fun k hk e ee => ?_) (fun e ee => ?_)
        · subst ee
          simp only [List.set_cons_zero, List.set_cons_succ]
          refine set_ok (bin_eq (nm_eq rfl) (lc_map0 (f := nD) (xs := List.range lots.length) (p := lotB lots k) (g := fun j => pD (k, j)) (rg1_eq (n := lots.length) (ln _ rfl) (by omega)) (fun j hj => ?_) (fun j _ _ => tup_eq (cons_eq (nm_eq rfl) (cons_eq (nm_eq rfl) nil_eq)))) (rel_add (Nat.le_of_lt hk) (by omega))) (turn_nx rfl)
          have hj := List.mem_range.mp hj
          exact and_eq (t_eq (bin_eq (nm_eq rfl) (nm_eq rfl) (dNe_nD _ _))) (t_eq (bin_eq (fn1_eq (lc_map0 (f := nD) (xs := lots.getD k []) (p := fun x => !decide (x ∈ lots.getD j [])) (g := nD) (itSeq_of (bin_eq (nm_eq rfl) (nm_eq rfl) (dIx_mapL (f := nT) [] hk)) rfl) (fun x _ => t_eq (bin_eq (nm_eq rfl) (bin_eq (nm_eq rfl) (nm_eq rfl) (dIx_mapL (f := nT) [] hj)) (dNin_nT _ _))) (fun x _ _ => nm_eq rfl)) (dLen_L _)) c_eq (by rw [nD0, dEq_nD, List.length_map])))
        · subst ee
          refine then_nx ?_
          obtain ⟨e1, e2⟩ := relord_ok (lotB_lt hL) (show lots.length ≤ 60 by omega)
          exact ret_ok (call_eq2 (ln _ rfl) (nm_eq rfl) (show f__law_order_of _ = _ from e1)) (ends_rt (outs := [t]) rfl ⟨_, _, t, rfl, rfl, ht, e2, by omega⟩)
  obtain ⟨d, outs, e, n, cs, t', rfl, rfl, h⟩ := key
  exact ⟨n, cs, t', e, h⟩
/-! ### cells -/
abbrev Cl := List (Nat × Nat)
def cellB (cells : Cl) (k j : Nat) : Bool := !decide (j = k) && (decide ((cells.getD k (0, 0)).1 ≤ (cells.getD j (0, 0)).1) && decide ((cells.getD k (0, 0)).2 ≤ (cells.getD j (0, 0)).2))
theorem cellB_lt {cells : Cl} (nd : cells.Nodup) : ∀ a b, a < cells.length → b < cells.length → cellB cells a b = true → (cells.getD a (0, 0)).1 + (cells.getD a (0, 0)).2 < (cells.getD b (0, 0)).1 + (cells.getD b (0, 0)).2 := by
  intro a b ha hb q
  unfold cellB at q
  rw [Bool.and_eq_true, Bool.and_eq_true, Bool.not_eq_true', decide_eq_false_iff_not, decide_eq_true_eq, decide_eq_true_eq] at q
  have ne : cells.getD a (0, 0) ≠ cells.getD b (0, 0) := fun e => by
    rw [List.getD_eq_getElem?_getD, List.getD_eq_getElem?_getD, List.getElem?_eq_getElem ha, List.getElem?_eq_getElem hb] at e
    have nd := List.pairwise_iff_getElem.mp nd
    rcases Nat.lt_trichotomy a b with c | c | c
    · exact nd a b ha hb c e
    · exact q.1 c.symm
    · exact nd b a hb ha c e.symm
  have : ¬ ((cells.getD a (0, 0)).1 = (cells.getD b (0, 0)).1 ∧ (cells.getD a (0, 0)).2 = (cells.getD b (0, 0)).2) := fun z => ne (Prod.ext z.1 z.2)
  omega
theorem world_ok {t : D} (ht : StOk t) : ∃ n cs t', f__law_world [t] = .ok (ordD n cs) [t'] ∧ StOk t' ∧ Ord n cs ∧ n ≤ 40 := by
  have key : ∃ d outs, f__law_world [t] = .ok d outs ∧ ∃ n cs t', d = ordD n cs ∧ outs = [t'] ∧ StOk t' ∧ Ord n cs ∧ n ≤ 40 := by
    refine run_e ?_
    show Ok (b__law_world [some t, none, none, none, none, none, none, none, none, none, none]) _
    unfold b__law_world
    rw [ok_Seq, ok_Set]
    refine ok_take (m := 4) rfl ht (by omega) c_eq fun kind t1 hk ht1 => ?_
    simp only [List.set_cons_zero, List.set_cons_succ]
    refine seqif_ok (p := decide (kind = 0)) (t_eq (bin_eq (nm_eq rfl) c_eq (dEq_nD _ 0))) (fun _ => ?_) (fun _ => ?_)
    · obtain ⟨n, cs, t2, e, ht2, h, hn⟩ := family_ok ht1
      rw [ok_Call]
      simp only [ok_argL_io, ok_argL_nil, getS_zero, Option.some.injEq, exists_eq_left', argF_io, argF_nil, Option.bind_some, Option.map_some, e, RF.ok.injEq, and_assoc, argB_io, argB_nil, exists_and_left, List.set_cons_zero]
      exact ends_rt (outs := [t2]) rfl ⟨n, cs, rfl, t2, rfl, ht2, h, hn⟩
    refine seqif_ok (p := decide (kind = 1)) (t_eq (bin_eq (nm_eq rfl) c_eq (dEq_nD _ 1))) (fun _ => ?_) (fun _ => ?_)
    · refine callE2 (ok_of c_eq ?_)
      rw [ok_IfE, ok_T, ok_Bin]
      refine ok_take (m := 2) rfl ht1 (by omega) c_eq fun w t2 hw ht2 => ?_
      simp only [List.set_cons_zero, List.set_cons_succ]
      refine ok_of c_eq ⟨_, dEq_nD _ 0, _, rfl, ?_⟩
      have fin : ∀ (ps : Ps) (r : Nat → Nat), InR 5 ps → Rk 5 ps r → ps.Nodup → ∃ d, f__law_order_of [.int 5, .list (ps.map pD)] = .ok d [] ∧ ∃ n cs t', d = ordD n cs ∧ [t2] = [t'] ∧ StOk t' ∧ Ord n cs ∧ n ≤ 40 := fun ps r h1 h2 h3 => ⟨_, (show f__law_order_of _ = _ from lorderof_ok (n := 5) (d := .list (ps.map pD)) rfl h1 h2 h3 (by omega)), 5, _, t2, rfl, rfl, ht2, covL_ord h1 h2, by omega⟩
      split
      · obtain ⟨d, e, q⟩ := fin [(0, 1), (1, 2), (2, 4), (0, 3), (3, 4)] id (by unfold InR; decide) (by unfold Rk; decide) (by decide)
        exact ok_of (lst_eq (cons_eq (tup_eq (cons_eq c_eq (cons_eq c_eq nil_eq))) (cons_eq (tup_eq (cons_eq c_eq (cons_eq c_eq nil_eq))) (cons_eq (tup_eq (cons_eq c_eq (cons_eq c_eq nil_eq))) (cons_eq (tup_eq (cons_eq c_eq (cons_eq c_eq nil_eq))) (cons_eq (tup_eq (cons_eq c_eq (cons_eq c_eq nil_eq))) nil_eq)))))) ⟨d, e, ends_rt (outs := [t2]) rfl q⟩
      · obtain ⟨d, e, q⟩ := fin [(0, 1), (0, 2), (0, 3), (1, 4), (2, 4), (3, 4)] id (by unfold InR; decide) (by unfold Rk; decide) (by decide)
        exact ok_of (lst_eq (cons_eq (tup_eq (cons_eq c_eq (cons_eq c_eq nil_eq))) (cons_eq (tup_eq (cons_eq c_eq (cons_eq c_eq nil_eq))) (cons_eq (tup_eq (cons_eq c_eq (cons_eq c_eq nil_eq))) (cons_eq (tup_eq (cons_eq c_eq (cons_eq c_eq nil_eq))) (cons_eq (tup_eq (cons_eq c_eq (cons_eq c_eq nil_eq))) (cons_eq (tup_eq (cons_eq c_eq (cons_eq c_eq nil_eq))) nil_eq))))))) ⟨d, e, ends_rt (outs := [t2]) rfl q⟩
    rw [ok_Seq, ok_ParN, ok_Cons, ok_Bin, ok_C]
    refine ok_take (m := 3) rfl ht1 (by omega) c_eq fun u t2 hu ht2 => ⟨_, dAdd_nD 2 u, ?_⟩
    simp only [List.set_cons_zero, List.set_cons_succ]
    rw [ok_Cons, ok_Bin, ok_C]
    refine ok_take (m := 3) rfl ht2 (by omega) c_eq fun v t3 hv ht3 => ⟨_, dAdd_nD 1 v, ?_⟩
    simp only [List.set_cons_zero, List.set_cons_succ]
    rw [ok_Nil]
    refine ⟨_, rfl, ?_⟩
    simp only [setAll_cons, setAll_nil, List.set_cons_zero, List.set_cons_succ]
    have hA : 2 + u ≤ 4 := by omega
    have hB : 1 + v ≤ 3 := by omega
    have hA1 : 1 ≤ 2 + u := by omega
    have hB1 : 1 ≤ 1 + v := by omega
    generalize 2 + u = A at hA hA1
    generalize 1 + v = B at hB hB1
    refine seqset_ok (lst_eq nil_eq) ?_
    simp only [List.set_cons_zero, List.set_cons_succ]
    refine seq_th (for_ok (rg1_eq (n := A) (nm_eq rfl) (by omega)) ?_)
    simp only [kill_cons, kill_nil, List.set_cons_zero, List.set_cons_succ]
    refine forL_rg (Inv := fun k e => e = [some t3, some (nD kind), some (nD A), some (nD B), some (.list ((relK B (fun _ _ => true) k).map pD)), none, none, none, none, none, none]) rfl (fun a ha e ee => ?_) (fun e ee => ?_)
    · subst ee
      simp only [List.set_cons_zero, List.set_cons_succ]
      have l1 := relK_len (n := B) (p := fun _ _ => true) (k := a)
      have l2 : a * B ≤ 4 * 3 := Nat.mul_le_mul (by omega) hB
      refine set_ok (d := .list ((relK B (fun _ _ => true) (a + 1)).map pD)) (bin_eq (nm_eq rfl) (lc_map0 (f := nD) (xs := List.range B) (p := fun _ => true) (g := fun b => pD (a, b)) (rg1_eq (n := B) (nm_eq rfl) (by omega)) (fun _ _ => rfl) (fun b _ _ => tup_eq (cons_eq (nm_eq rfl) (cons_eq (nm_eq rfl) nil_eq)))) ?_) (turn_nx rfl)
      rw [show (((List.range B).filter fun _ => true).map fun b => pD (a, b)) = (((List.range B).filter fun _ => true).map fun b => (a, b)).map pD by rw [List.map_map]; rfl, dAdd_mapL _ (by rw [show line = 16777216 from rfl, List.length_map, filt_true, List.length_range]; omega), relK_succ]
    subst ee
    refine then_nx ?_
    simp only [kill_cons, kill_nil, List.set_cons_zero, List.set_cons_succ]
    have nd0 := relK_nd (n := B) (p := fun _ _ => true) (k := A)
    have len0 : (relK B (fun _ _ => true) A).length ≤ 12 := by
      have l1 := relK_len (n := B) (p := fun _ _ => true) (k := A)
      have l2 : A * B ≤ 4 * 3 := Nat.mul_le_mul hA hB
      omega
    generalize relK B (fun _ _ => true) A = cells0 at nd0 len0
    -- what comes after the cells are there
    have rest : ∀ (t : D) (cells : Cl), StOk t → cells.Nodup → cells.length ≤ 12 → Ok ((sSeq (sSet 6 (sLst sNil)) (sSeq (sFor (.nm 7) (itRg1 (sFn dLen (sCons (sV 4) sNil))) (sSet 6 (sBin dAdd (sV 6) (sLc (.nm 10) (itRg1 (sFn dLen (sCons (sV 4) sNil))) (sAnd (sT (sBin dNe (sV 10) (sV 7))) (sAnd (sT (sBin dLe (sBin dIx (sBin dIx (sV 4) (sV 7)) (sC (.int 0))) (sBin dIx (sBin dIx (sV 4) (sV 10)) (sC (.int 0))))) (sT (sBin dLe (sBin dIx (sBin dIx (sV 4) (sV 7)) (sC (.int 1))) (sBin dIx (sBin dIx (sV 4) (sV 10)) (sC (.int 1))))))) (lcE (sTup (sCons (sV 7) (sCons (sV 10) sNil)))) [10]))) [7]) (sRet (sCall f__law_order_of [.e (sFn dLen (sCons (sV 4) sNil)), .e (sV 6)])))) [some t, some (nD kind), some (nD A), some (nD B), some (.list (cells.map pD)), none, none, none, none, none, none]) (Ends [0] fun d outs => ∃ n cs t', d = ordD n cs ∧ outs = [t'] ∧ StOk t' ∧ Ord n cs ∧ n ≤ 40) := fun t cells ht nd hlen => by
      refine seqset_ok (lst_eq nil_eq) ?_
      simp only [List.set_cons_zero, List.set_cons_succ]
      have ln : ∀ r : Env, getS r 4 = some (.list (cells.map pD)) → (sFn dLen (sCons (sV 4) sNil)) r = .ok (nD cells.length) r := fun r h => by
        have := len_L h
        rwa [List.length_map] at this
      refine seq_th (for_ok (rg1_eq (n := cells.length) (ln _ rfl) (by omega)) ?_)
      simp only [kill_cons, kill_nil, List.set_cons_zero, List.set_cons_succ]
      refine forL_rg (Inv := fun k e => e = [some t, some (nD kind), some (nD A), some (nD B), some (.list (cells.map pD)), none, some (.list ((relK cells.length (cellB cells) k).map pD)), none, none, none, none]) rfl (fun k hk e ee => ?_) (fun e ee => ?_)
      · subst ee
        simp only [List.set_cons_zero, List.set_cons_succ]
        refine set_ok (bin_eq (nm_eq rfl) (lc_map0 (f := nD) (xs := List.range cells.length) (p := cellB cells k) (g := fun j => pD (k, j)) (rg1_eq (n := cells.length) (ln _ rfl) (by omega)) (fun j hj => ?_) (fun j _ _ => tup_eq (cons_eq (nm_eq rfl) (cons_eq (nm_eq rfl) nil_eq)))) (rel_add (Nat.le_of_lt hk) (by omega))) (turn_nx rfl)
        have hj := List.mem_range.mp hj
        exact and_eq (t_eq (bin_eq (nm_eq rfl) (nm_eq rfl) (dNe_nD _ _))) (and_eq (t_eq (bin_eq (bin_eq (bin_eq (nm_eq rfl) (nm_eq rfl) (dIx_mapL (f := pD) (0, 0) hk)) c_eq rfl) (bin_eq (bin_eq (nm_eq rfl) (nm_eq rfl) (dIx_mapL (f := pD) (0, 0) hj)) c_eq rfl) (dLe_nD _ _))) (t_eq (bin_eq (bin_eq (bin_eq (nm_eq rfl) (nm_eq rfl) (dIx_mapL (f := pD) (0, 0) hk)) c_eq rfl) (bin_eq (bin_eq (nm_eq rfl) (nm_eq rfl) (dIx_mapL (f := pD) (0, 0) hj)) c_eq rfl) (dLe_nD _ _))))
      · subst ee
        refine then_nx ?_
        obtain ⟨e1, e2⟩ := relord_ok (cellB_lt nd) (show cells.length ≤ 60 by omega)
        exact ret_ok (call_eq2 (ln _ rfl) (nm_eq rfl) (show f__law_order_of _ = _ from e1)) (ends_rt (outs := [t]) rfl ⟨_, _, t, rfl, rfl, ht, e2, by omega⟩)
    refine seq_th ?_
    refine if_ok (p := decide (kind = 2)) (t_eq (bin_eq (nm_eq rfl) c_eq (dEq_nD _ 2))) (fun _ => ?_) (fun _ => ?_)
    · rw [ok_Set]
      refine ok_LcT (i := 0) (T := StOk) (f := pD) (g := pD) (P := fun b y => y = b) (xs := cells0) (by decide) (itSeq_of (nm_eq rfl) rfl) ht3 rfl (fun b hb t ht => ?_) (fun t4 zs ht4 sl al => ?_)
      · simp only [List.set_cons_zero, List.set_cons_succ]
        rw [ok_Or]
        refine ok_of (t_eq (bin_eq (nm_eq rfl) (lst_eq (cons_eq (tup_eq (cons_eq c_eq (cons_eq c_eq nil_eq))) (cons_eq (tup_eq (cons_eq (bin_eq (nm_eq rfl) c_eq (dSub_nD (b := 1) hA1)) (cons_eq (bin_eq (nm_eq rfl) c_eq (dSub_nD (b := 1) hB1)) nil_eq))) nil_eq))) (dIn_map (n := 1) eqv_pD sm_pD b [(0, 0), (A - 1, B - 1)]))) ?_
        split
        · exact ⟨t, ht, rfl, fun _ => ok_of (nm_eq rfl) ⟨t, b, ht, rfl, rfl, rfl⟩⟩
        · rw [ok_T, ok_Bin]
          refine ok_take (m := 4) rfl ht (by omega) c_eq fun x t4 hx ht4 => ?_
          simp only [List.set_cons_zero, List.set_cons_succ]
          exact ok_of c_eq ⟨_, dGt_nD _ 0, _, rfl, t4, ht4, rfl, fun _ => ok_of (nm_eq rfl) ⟨t4, b, ht4, rfl, rfl, rfl⟩⟩
      · have elot : (zs.map fun z => pD z.2) = (zs.map (·.1)).map pD := by
          rw [List.map_map]
          exact List.map_congr_left fun z hz => by rw [al z hz]; rfl
        rw [elot]
        simp only [List.set_cons_zero, List.set_cons_succ]
        exact then_nx (rest t4 _ ht4 (List.Pairwise.sublist sl nd0) (Nat.le_trans sl.length_le len0))
    · rw [ok_Pass]
      exact then_nx (rest t3 _ ht3 nd0 len0)
  obtain ⟨d, outs, e, n, cs, t', rfl, rfl, h⟩ := key
  exact ⟨n, cs, t', e, h⟩
end K51

set_option Elab.async false
set_option linter.all false
set_option maxRecDepth 100000
namespace K51
open J
open PySem (PyData)
variable {n : Nat} {cs : Ps}
/-! ### what was told first -/
theorem sm_str {m : Nat} {s : PySem.Str} (h : shp (.str s) = true) : Sm m (.str s) := by
  unfold shp at h
  rw [Bool.and_eq_true] at h
  exact ⟨h.1, by simp [PyData.depth]⟩
theorem sm_barD (w : Bool) (xs : List Nat) : Sm 1 (barD w xs) := sm_tup fun x hx => by
  rcases List.mem_cons.mp hx with rfl | hx
  · exact sm_str (shp_w w)
  · obtain ⟨y, _, rfl⟩ := List.mem_map.mp hx
    exact sm_nD
theorem sm_one {s : PySem.Str} (h : shp (.str s) = true) : Sm 1 (.tuple [.str s]) := sm_tup fun x hx => by
  rw [List.mem_singleton.mp hx]
  exact sm_str h
theorem eq_one {s : PySem.Str} (h : shp (.str s) = true) : dEq (.tuple [.str s]) (.tuple [.str s]) = some (.bool true) := by
  unfold dEq
  rw [if_pos ⟨(sm_one h).shp, (sm_one h).shp⟩, eqv_tt]
  have : PyData.eqvAll [.str s] [.str s] = true := by
    rw [PyData.eqvAll, PyData.eqvAll, PyData.eqv]
    simp
  rw [this]
theorem ne_one (w : Bool) (xs : List Nat) {s : PySem.Str} (hs : shp (.str s) = true) (h : xs ≠ []) : dEq (barD w xs) (.tuple [.str s]) = some (.bool false) := by
  unfold dEq
  rw [if_pos ⟨(sm_barD w xs).shp, (sm_one hs).shp⟩]
  unfold barD
  rw [eqv_tt]
  have : PyData.eqvAll (.str (wd w) :: xs.map nD) [.str s] = false := by
    cases xs with
    | nil => exact absurd rfl h
    | cons x xs =>
      rw [List.map_cons, PyData.eqvAll, PyData.eqvAll]
      simp
  rw [this]
/-- a word alone, or a bar -/
def Tld (n : Nat) (cs : Ps) (P : Bool → Prop) (G : Bool) (s : PySem.Str) (d : D) : Prop := (G = true ∧ d = .tuple [.str s]) ∨ (G = false ∧ ∃ w xs, d = barD w xs ∧ BarOk n cs w xs ∧ P w)
theorem bar_ne {w : Bool} {xs : List Nat} (h : BarOk n cs w xs) : xs ≠ [] ∧ xs.length = 5 := by
  obtain ⟨_, _, _, _, _, _, _, rfl, _⟩ := h
  exact ⟨by simp, rfl⟩
theorem shp_dv : shp (.str "distributive") = true := by decide +kernel
theorem shp_mo : shp (.str "modular") = true := by decide +kernel
theorem tld_eq {P : Bool → Prop} {G : Bool} {s : PySem.Str} {d : D} (hs : shp (.str s) = true) (h : Tld n cs P G s d) : dEq d (.tuple [.str s]) = some (.bool G) := by
  rcases h with ⟨rfl, rfl⟩ | ⟨rfl, w, xs, rfl, b, _⟩
  · exact eq_one hs
  · exact ne_one w xs hs (bar_ne b).1
theorem bar_v {w : Bool} {xs : List Nat} (h : BarOk n cs w xs) : BarV n cs w (xs.map some) := ⟨xs, rfl, h⟩
theorem isbar_bar (h : Ord n cs) (L : IsLat n cs) (hn : n ≤ 60) {w : Bool} {xs : List Nat} (b : BarOk n cs w xs) : f_is_bar [ordD n cs, barD w xs] = .ok (.bool true) [] := by
  rw [barD_v, isbar_ok h L hn (by rw [List.length_map]; exact (bar_ne b).2), decide_eq_true (bar_v b)]
theorem right_bar (h : Ord n cs) (L : IsLat n cs) (hn : n ≤ 60) {w : Bool} {xs : List Nat} (b : BarOk n cs w xs) : f__law_right [ordD n cs, barD w xs] = .ok (.bool true) [] := by
  rw [barD_v, right_ok h L hn (by rw [List.length_map]; exact (bar_ne b).2), decide_eq_true (bar_v b)]
def six : D → Bool
  | .tuple xs => decide (xs.length = 6)
  | _ => false
theorem tld_len {P : Bool → Prop} {G : Bool} {s : PySem.Str} {d : D} (h : Tld n cs P G s d) : ∃ m, dLen [d] = some (nD m) ∧ decide (m = 6) = six d := by
  rcases h with ⟨rfl, rfl⟩ | ⟨rfl, w, xs, rfl, b, _⟩
  · exact ⟨1, rfl, rfl⟩
  · exact ⟨(PyData.str (wd w) :: xs.map nD).length, dLen_T _, rfl⟩
theorem tld_six {P : Bool → Prop} {G : Bool} {s : PySem.Str} {d : D} (h : Tld n cs P G s d) (q : six d = true) : ∃ w xs, d = barD w xs ∧ BarOk n cs w xs := by
  rcases h with ⟨rfl, rfl⟩ | ⟨rfl, w, xs, rfl, b, _⟩
  · cases q
  · exact ⟨w, xs, rfl, b⟩
/-! ### both judges say the same -/
def Same (n : Nat) (cs : Ps) (v : D) : Prop := ∃ B : Bool, f_is_bar [ordD n cs, v] = .ok (.bool B) [] ∧ f__law_right [ordD n cs, v] = .ok (.bool B) []
theorem same_v (h : Ord n cs) (L : IsLat n cs) (hn : n ≤ 60) (w : Bool) {vs : List (Option Nat)} (hv : vs.length = 5) : Same n cs (vD w vs) := ⟨_, isbar_ok h L hn hv, right_ok h L hn hv⟩
theorem same_not {d : D} (hd : dIsa "tuple" d = some (.bool false)) : Same n cs d := ⟨_, isbar_not hd, right_not hd⟩
theorem same_len {ds : List D} (hd : ds.length = 5) : Same n cs (.tuple ds) := ⟨_, isbar_len hd, right_len hd⟩
theorem put_v (w : Bool) {vs : List (Option Nat)} (hv : vs.length = 5) {k : Nat} (h1 : 1 ≤ k) (h2 : k ≤ 5) (v : Option Nat) : (.tuple ((.str (wd w) :: vs.map oD).take k ++ [oD v] ++ (.str (wd w) :: vs.map oD).drop (k + 1)) : D) = vD w (vs.set (k - 1) v) := by
  obtain ⟨k, rfl⟩ : ∃ m, k = m + 1 := ⟨k - 1, by omega⟩
  have hk : k + 1 < (PyData.str (wd w) :: vs.map oD).length := by
    rw [List.length_cons, List.length_map]
    omega
  have e : (PyData.str (wd w) :: vs.map oD).take (k + 1) ++ [oD v] ++ (PyData.str (wd w) :: vs.map oD).drop (k + 1 + 1) = (PyData.str (wd w) :: vs.map oD).set (k + 1) (oD v) := by
    rw [List.set_eq_take_append_cons_drop, if_pos hk, List.append_assoc]
    rfl
  rw [e, List.set_cons_succ, map_setD]
  rfl
theorem slTo (xs : List D) (k : Nat) : dSl none (some (k : Int)) (.tuple xs) = some (.tuple (xs.take k)) := by
  have := dSlT_lo (f := fun d : D => d) xs k
  rwa [List.map_id', List.map_id'] at this
theorem slFrom (xs : List D) (k : Nat) : dSl (some (k : Int)) none (.tuple xs) = some (.tuple (xs.drop k)) := by
  have := dSlT_hi (f := fun d : D => d) xs k
  rwa [List.map_id', List.map_id'] at this
theorem addTT (xs ys : List D) (h : xs.length + ys.length ≤ 1000) : dAdd (.tuple xs) (.tuple ys) = some (.tuple (xs ++ ys)) := by
  have h2 : xs.length + ys.length ≤ line := by rw [show line = 16777216 from rfl]; omega
  simp only [dAdd, if_pos h2]
theorem law_true (ns : List Int) (hns : ns.length ≤ 63) : f_law [.list (ns.map .int)] = .ok (.bool true) [] := by
  refine run_v ?_
  show Ok (b_law [some (.list (ns.map .int)), none, none, none, none, none, none, none, none, none, none, none, none, none, none]) _
  unfold b_law
  obtain ⟨t0, hs, ht0⟩ := state_new ns hns
  rw [ok_Seq, ok_Set]
  refine okCall (ods := [none]) (ds := [.list (ns.map .int)]) rfl rfl hs rfl ?_
  simp only [List.set_cons_zero, List.set_cons_succ]
  generalize PyData.list (ns.map .int) = s
  obtain ⟨n, cs, t1, hw, ht1, h, hn40⟩ := world_ok ht0
  have hn : n ≤ 60 := by omega
  rw [ok_Seq, ok_Set]
  refine okCall (ods := [none]) (ds := [t0]) rfl rfl hw rfl ?_
  simp only [List.set_cons_zero, List.set_cons_succ]
  refine seqif_ok (p := !decide (IsLat n cs)) (not_eq (t_eq (call_eq1 (nm_eq rfl) (show f__law_is_lattice _ = _ from llattice_ok h hn)))) (fun _ => ok_of c_eq (ends_rt0 rfl)) (fun hL => ?_)
  have L : IsLat n cs := by
    rw [Bool.not_eq_false', decide_eq_true_eq] at hL
    exact hL
  rw [ok_Seq, ok_Asg]
  refine ok_of (call_eq1 (nm_eq rfl) (kinds_ok h L hn)) ⟨_, rfl, ?_⟩
  simp only [setAll_cons, setAll_nil, List.set_cons_zero, List.set_cons_succ]
  obtain ⟨d5, e5, r5⟩ := distributive_ok h L hn
  obtain ⟨d6, e6, r6⟩ := modular_ok h L hn
  rw [ok_Seq, ok_ParN]
  refine ok_of (cons_eq (call_eq1 (nm_eq rfl) e5) (cons_eq (call_eq1 (nm_eq rfl) e6) nil_eq)) ⟨_, rfl, ?_⟩
  simp only [setAll_cons, setAll_nil, List.set_cons_zero, List.set_cons_succ]
  generalize all3 n (dstB n cs) = G at r5
  generalize all3 n (evB n cs) = E at r6
  have T5 : Tld n cs (fun _ => True) G "distributive" d5 := by
    rcases r5 with ⟨a, b⟩ | ⟨a, w, xs, b, c⟩
    · exact .inl ⟨a, b⟩
    · exact .inr ⟨a, w, xs, b, c, trivial⟩
  have T6 : Tld n cs (fun w => w = false) E "modular" d6 := by
    rcases r6 with ⟨a, b⟩ | ⟨a, xs, b, c⟩
    · exact .inl ⟨a, b⟩
    · exact .inr ⟨a, false, xs, b, c, rfl⟩
  clear r5 r6
  refine seqif_ok (p := false) (or_eq (p := false) (q := false) (t_eq (bin_eq (bin_eq (nm_eq rfl) (tup_eq (cons_eq c_eq nil_eq)) (tld_eq shp_dv T5)) (nm_eq rfl) (by rw [dNe_bool]; simp))) ((and_eq' (p := !G) (q := false) (not_eq (t_eq (nm_eq rfl))) (fun hG => ?_)).trans (by rw [Bool.and_false]))) (fun h => by cases h) (fun _ => ?_)
  · rcases T5 with ⟨a, _⟩ | ⟨_, w, xs, rfl, b, _⟩
    · rw [a] at hG
      cases hG
    · exact not_eq (p := true) (t_eq (call_eq2 (nm_eq rfl) (nm_eq rfl) (right_bar h L hn b)))
  refine seqif_ok (p := false) (or_eq (p := false) (q := false) (t_eq (bin_eq (bin_eq (nm_eq rfl) (tup_eq (cons_eq c_eq nil_eq)) (tld_eq shp_mo T6)) (nm_eq rfl) (by rw [dNe_bool]; simp))) ((and_eq' (p := !E) (q := false) (not_eq (t_eq (nm_eq rfl))) (fun hG => ?_)).trans (by rw [Bool.and_false]))) (fun h => by cases h) (fun _ => ?_)
  · rcases T6 with ⟨a, _⟩ | ⟨_, w, xs, rfl, b, rfl⟩
    · rw [a] at hG
      cases hG
    · exact or_eq (p := false) (q := false) (not_eq (p := true) (t_eq (call_eq2 (nm_eq rfl) (nm_eq rfl) (right_bar h L hn b)))) (t_eq (bin_eq (bin_eq (nm_eq rfl) c_eq (dIx_natT (g := 0) rfl)) c_eq (nes (b := true) (shp_w false) shp_pe (w_pe false))))
  -- the bars
  refine seqset_ok (lc_map0 (f := id) (xs := [d5, d6]) (p := six) (g := id) (itSeq_of (tup_eq (cons_eq (nm_eq rfl) (cons_eq (nm_eq rfl) nil_eq))) rfl) (fun d hd => ?_) (fun d _ _ => nm_eq rfl)) ?_
  · have : ∃ m, dLen [d] = some (nD m) ∧ decide (m = 6) = six d := by
      rcases List.mem_cons.mp hd with rfl | hd
      · exact tld_len T5
      · rw [List.mem_singleton.mp hd]
        exact tld_len T6
    obtain ⟨m, e, q⟩ := this
    rw [← q]
    exact t_eq (bin_eq (fn1_eq (nm_eq rfl) e) c_eq (dEq_nD m 6))
  simp only [List.set_cons_zero, List.set_cons_succ]
  rw [List.map_id]
  have hbars : ∀ b ∈ [d5, d6].filter six, ∃ w xs, b = barD w xs ∧ BarOk n cs w xs := fun b hb => by
    rw [List.mem_filter] at hb
    rcases List.mem_cons.mp hb.1 with e | e
    · rw [e] at hb ⊢
      exact tld_six T5 hb.2
    · rw [List.mem_singleton.mp e] at hb ⊢
      exact tld_six T6 hb.2
  generalize [d5, d6].filter six = bars at hbars
  refine seq_th (for_ok (itSeq_of (nm_eq rfl) rfl) ?_)
  simp only [kill_cons, kill_nil, List.set_cons_zero, List.set_cons_succ]
  refine forL_inv (Inv := fun _ e => ∃ t, e = [some s, some t, some (ordD n cs), some (.bool G), some (.bool E), some d5, some d6, some (.list bars), none, none, none, none, none, none, none] ∧ StOk t) ⟨t1, rfl, ht1⟩ (fun i x hx e ⟨t, ee, ht⟩ => ?_) (fun e ⟨t, ee, ht⟩ => ?_)
  · subst ee
    obtain ⟨w, xs, rfl, b⟩ := hbars x (List.mem_of_getElem? hx)
    have hxl := (bar_ne b).2
    refine ⟨_, rfl, ?_⟩
    simp only [List.set_cons_zero, List.set_cons_succ]
    refine seqif_ok (p := false) (t_eq (bin_eq (call_eq2 (nm_eq rfl) (nm_eq rfl) (isbar_bar h L hn b)) c_eq rfl)) (fun h => by cases h) (fun _ => ?_)
    rw [ok_Seq, ok_Set, ok_Bin, ok_C]
    refine ok_take (m := 5) rfl ht (by omega) c_eq fun v t2 hv ht2 => ⟨_, dAdd_nD 1 v, ?_⟩
    simp only [List.set_cons_zero, List.set_cons_succ]
    have hk1 : 1 ≤ 1 + v := by omega
    have hk5 : 1 + v ≤ 5 := by omega
    generalize 1 + v = k at hk1 hk5
    rw [barD_v]
    have hvl : (xs.map some).length = 5 := by rw [List.length_map]; exact hxl
    generalize xs.map some = vs at hvl
    rw [ok_Seq, ok_Set, ok_Lst, ok_Cons, ok_Bin, ok_Bin]
    refine ok_of (sl_eq (nm_eq rfl) nopart_eq (part_eq (nm_eq rfl)) (slTo _ k)) ?_
    rw [ok_Tup, ok_Cons]
    refine ok_take (m := n) rfl ht2 (by omega) (order_n rfl) fun x t3 hx ht3 => ?_
    simp only [List.set_cons_zero, List.set_cons_succ]
    rw [ok_Nil]
    have hll : (PyData.str (wd w) :: vs.map oD).length = 6 := by rw [List.length_cons, List.length_map, hvl]
    have e1 : ∀ y : D, dAdd (.tuple ((PyData.str (wd w) :: vs.map oD).take k)) (.tuple [y]) = some (.tuple ((PyData.str (wd w) :: vs.map oD).take k ++ [y])) := fun y => addTT _ _ (by rw [List.length_take, hll]; simp; omega)
    have e2 : ∀ o : Option Nat, dAdd (.tuple ((PyData.str (wd w) :: vs.map oD).take k ++ [oD o])) (.tuple ((PyData.str (wd w) :: vs.map oD).drop (k + 1))) = some (vD w (vs.set (k - 1) o)) := fun o => by
      rw [addTT _ _ (by rw [List.length_append, List.length_take, List.length_drop, hll]; simp; omega), put_v w hvl hk1 hk5]
    refine ⟨_, e1 _, ?_⟩
    refine ok_of (sl_eq (nm_eq rfl) (part_eq (add1_eq (nm_eq rfl))) nopart_eq (slFrom _ (k + 1))) ⟨_, e2 (some x), ?_⟩
    obtain ⟨v1, v2, v3, v4, v5, rfl⟩ := len5 hvl
    refine ok_of (cons_eq (x := vD true [v1, v2, v3, v4, v5]) (bin_eq (tup_eq (cons_eq c_eq nil_eq)) (sl_eq (nm_eq rfl) (part_eq (n := 1) c_eq) nopart_eq (slFrom _ 1)) rfl) (cons_eq (x := vD false [v1, v2, v3, v4, v5]) (bin_eq (tup_eq (cons_eq c_eq nil_eq)) (sl_eq (nm_eq rfl) (part_eq (n := 1) c_eq) nopart_eq (slFrom _ 1)) rfl) (cons_eq (sl_eq (nm_eq rfl) nopart_eq (part_eq (n := 5) c_eq) (slTo _ 5)) (cons_eq (fn1_eq (nm_eq rfl) rfl) (cons_eq (bin_eq (bin_eq (sl_eq (nm_eq rfl) nopart_eq (part_eq (nm_eq rfl)) (slTo _ k)) (tup_eq (cons_eq c_eq nil_eq)) (e1 _)) (sl_eq (nm_eq rfl) (part_eq (add1_eq (nm_eq rfl))) nopart_eq (slFrom _ (k + 1))) (e2 none)) (cons_eq (x := vD w [v5, v4, v3, v2, v1]) (bin_eq (sl_eq (nm_eq rfl) nopart_eq (part_eq (n := 1) c_eq) (slTo _ 1)) (un_eq (nm_eq rfl) rfl) rfl) (cons_eq c_eq nil_eq))))))) ?_
    simp only [List.set_cons_zero, List.set_cons_succ]
    refine for_ok (itSeq_of (nm_eq rfl) rfl) ?_
    simp only [kill_cons, kill_nil, List.set_cons_zero, List.set_cons_succ]
    refine forL_inv (Inv := fun _ e => e = [some s, some t3, some (ordD n cs), some (.bool G), some (.bool E), some d5, some d6, some (.list bars), some (vD w [v1, v2, v3, v4, v5]), some (nD k), _, none, none, none, none]) rfl (fun i x hx e ee => ?_) (fun e ee => ?_)
    · subst ee
      have hx := List.mem_of_getElem? hx
      have same : Same n cs x := by
        simp only [List.mem_cons, List.not_mem_nil, or_false] at hx
        rcases hx with rfl | rfl | rfl | rfl | rfl | rfl | rfl | rfl
        · exact same_v h L hn w (by rw [List.length_set]; rfl)
        · exact same_v h L hn true rfl
        · exact same_v h L hn false rfl
        · exact same_len rfl
        · exact same_not rfl
        · exact same_v h L hn w (by rw [List.length_set]; rfl)
        · exact same_v h L hn w rfl
        · exact same_not rfl
      obtain ⟨B, b1, b2⟩ := same
      refine ⟨_, rfl, ?_⟩
      simp only [List.set_cons_zero, List.set_cons_succ]
      refine seqset_ok (call_eq2 (nm_eq rfl) (nm_eq rfl) b1) ?_
      simp only [List.set_cons_zero, List.set_cons_succ]
      refine if_ok (p := false) (or_eq (p := false) (q := false) (not_eq (p := true) (t_eq (un_eq (nm_eq rfl) (isa_bool_b _)))) (t_eq (bin_eq (nm_eq rfl) (call_eq2 (nm_eq rfl) (nm_eq rfl) b2) (by rw [dNe_bool]; simp)))) (fun h => by cases h) (fun _ => ?_)
      rw [ok_Pass]
      exact turn_nx rfl
    · subst ee
      exact turn_nx ⟨t3, rfl, ht3⟩
  · subst ee
    refine then_nx ?_
    simp only [kill_cons, kill_nil, List.set_cons_zero, List.set_cons_succ]
    refine seq_th (for_ok (rg1_eq (n := 4) c_eq (by omega)) ?_)
    simp only [kill_cons, kill_nil, List.set_cons_zero, List.set_cons_succ]
    refine forL_rg (Inv := fun _ e => ∃ t, e = [some s, some t, some (ordD n cs), some (.bool G), some (.bool E), some d5, some d6, some (.list bars), none, none, none, none, none, none, none] ∧ StOk t) ⟨t, rfl, ht⟩ (fun i hi e ⟨t, ee, ht⟩ => ?_) (fun e ⟨t, ee, ht⟩ => ?_)
    · subst ee
      simp only [List.set_cons_zero, List.set_cons_succ]
      rw [ok_Seq, ok_Set, ok_Bin, ok_Tup, ok_Cons]
      obtain ⟨w, t2, _, ep, ht2⟩ := (ok_pickF ht (f := fun w => PyData.str (wd w)) [false, true] (by simp) (by decide)).1
      refine ok_call1 rfl (lst_eq (cons_eq c_eq (cons_eq c_eq nil_eq))) (show f__law_pick [t, _] = _ from ep) ?_
      simp only [List.set_cons_zero, List.set_cons_succ]
      rw [ok_Nil, ok_Fn, ok_Cons]
      refine ok_LcA (i := 1) (T := StOk) (f := nD) (g := nD) (P := fun _ _ => True) (xs := List.range 5) (by decide) (rg1_eq (n := 5) c_eq (by omega)) ht2 rfl (fun b hb t ht => ?_) (fun t3 zs ht3 ez _ => ?_)
      · simp only [List.set_cons_zero, List.set_cons_succ]
        exact ok_take (m := n) rfl ht (by omega) (order_n rfl) fun x t3 hx ht3 => ⟨t3, x, ht3, rfl, rfl, trivial⟩
      rw [ok_Nil]
      have hzl : (zs.map fun z => some z.2).length = 5 := by
        have := congrArg List.length ez
        simpa using this
      refine ⟨.tuple (zs.map fun z => nD z.2), rfl, vD w (zs.map fun z => some z.2), ?_, ?_⟩
      · rw [addTT _ _ (by rw [List.length_map] at hzl ⊢; simp; omega)]
        unfold vD
        rw [List.map_map]
        rfl
      simp only [List.set_cons_zero, List.set_cons_succ]
      obtain ⟨B, b1, b2⟩ := same_v h L hn w hzl
      refine if_ok (p := false) (t_eq (bin_eq (call_eq2 (nm_eq rfl) (nm_eq rfl) b1) (call_eq2 (nm_eq rfl) (nm_eq rfl) b2) (by rw [dNe_bool]; simp))) (fun h => by cases h) (fun _ => ?_)
      rw [ok_Pass]
      exact turn_nx ⟨t3, rfl, ht3⟩
    · subst ee
      exact then_nx (ret_ok c_eq (ends_rt0 rfl))
end K51

set_option Elab.async false
set_option linter.all false
set_option maxRecDepth 100000
namespace K51
open J PySem L2 PyProof.Rows
theorem walk {l : PySem.W.OpenLaw} {q : Program} {loose : List PySem.Str} {XP : (PySem.Str → Option Value) → Heap → Prop} {YP : World → Heap → Prop} {d : DefRec} {K : Params → PySem.W.Frag} (hn : l.most = some 63) (hdf : d.params.defaults = [])
    (hY : ∀ (w : World) (h : Heap), YP w h → (K w.params).In h)
    (F : ∀ (w : World) (mg : PySem.Str → Option Value) (fa : Addr) (h : Heap), (K w.params).In h → h.Ns mainGlobals mg → mg d.name = some (.ref fa) →
      ∃ fd : FuncData, (∀ (s : Shared) (u : Value), BindsTo s fd ⟨[u], []⟩ [("script", u)]) ∧ ∀ base : Heap, (K w.params).In base → base.Ns mainGlobals mg → FnOk l.prog w (K w.params) mg base CX0 8 fa fd ["script"] (spJ (K w.params) 15 [.fz] 0 f_law)) :
    PySem.W.WalkO q loose XP YP l.row.toRowW d [] (fun f vs => PySem.call f vs) :=
  L2.walk_of (n := 63) (k := 8) (x := "script") (CX := fun _ => CX0) (sp := fun w => spJ (K w.params) 15 [.fz] 0 f_law) hn (by decide) hdf ⟨rfl, by decide, by decide⟩ hY F (fun w H a ns hl hO hS => law_sp hO hS (law_true ns hl)) fun _ _ _ _ _ z => z
end K51
open PySem PySem.W PyProof.Rows
set_option maxRecDepth 100000 in
set_option maxHeartbeats 0 in
theorem PySem.Challenge.cw_abovebelow_k51_whole_kinds_of_lattices_holds : PySem.Challenge.rw_abovebelow_k51_whole_kinds_of_lattices.Holds := by
  w_on; o_law; k_head; (case hw => w_witness2)
  k_fill
  refine K51.walk (l := PySem.Challenge.rw_abovebelow_k51_whole_kinds_of_lattices) rfl rfl (fun w h Y => PySem.W.kIn_of Y) ?F
  case F =>
    intro w mg fa h KX G hmg
    refine' K51.all_mk KX G hmg ?a0 ?l0 ?c0 ?k0 ?a1 ?l1 ?c1 ?k1 ?a2 ?l2 ?c2 ?k2 ?a3 ?l3 ?c3 ?k3 ?a4 ?l4 ?c4 ?k4 ?a5 ?l5 ?c5 ?k5 ?a6 ?l6 ?c6 ?k6 ?a7 ?l7 ?c7 ?k7 ?a8 ?l8 ?c8 ?k8 ?a9 ?l9 ?c9 ?k9 ?a10 ?l10 ?c10 ?k10 ?a11 ?l11 ?c11 ?k11 ?a12 ?l12 ?c12 ?k12 ?a13 ?l13 ?c13 ?k13 ?a14 ?l14 ?c14 ?k14 ?a15 ?l15 ?c15 ?k15 ?a16 ?l16 ?c16 ?k16 ?a17 ?l17 ?c17 ?k17 ?a18 ?l18 ?c18 ?k18 ?a19 ?l19 ?c19 ?k19 ?a20 ?l20 ?c20 ?k20 ?a21 ?l21 ?c21 ?k21 ?a22 ?l22 ?c22 ?k22 ?a23 ?l23 ?c23 ?k23 ?a24 ?l24 ?c24 ?k24 ?a25 ?l25 ?c25 ?k25 ?a26 ?l26 ?c26 ?k26 ?a27 ?l27 ?c27 ?k27 ?a28 ?l28 ?c28 ?k28 ?a29 ?l29 ?c29 ?k29 ?a30 ?l30 ?c30 ?k30 ?a31 ?l31 ?c31 ?k31 ?a32 ?l32 ?c32 ?k32 ?a33 ?l33 ?c33 ?k33 ?a34 ?l34 ?c34 ?k34 ?z0 ?z1 ?z2 ?z3 ?z4 ?z5 ?z6 ?z7 ?z8 ?z9 ?z10 ?z11
    (case a0 => k_is); (case l0 => k_is); (case c0 => k_is); (case k0 => k_is)
    (case a1 => k_is); (case l1 => k_is); (case c1 => k_is); (case k1 => k_is)
    (case a2 => k_is); (case l2 => k_is); (case c2 => k_is); (case k2 => k_is)
    (case a3 => k_is); (case l3 => k_is); (case c3 => k_is); (case k3 => k_is)
    (case a4 => k_is); (case l4 => k_is); (case c4 => k_is); (case k4 => k_is)
    (case a5 => k_is); (case l5 => k_is); (case c5 => k_is); (case k5 => k_is)
    (case a6 => k_is); (case l6 => k_is); (case c6 => k_is); (case k6 => k_is)
    (case a7 => k_is); (case l7 => k_is); (case c7 => k_is); (case k7 => k_is)
    (case a8 => k_is); (case l8 => k_is); (case c8 => k_is); (case k8 => k_is)
    (case a9 => k_is); (case l9 => k_is); (case c9 => k_is); (case k9 => k_is)
    (case a10 => k_is); (case l10 => k_is); (case c10 => k_is); (case k10 => k_is)
    (case a11 => k_is); (case l11 => k_is); (case c11 => k_is); (case k11 => k_is)
    (case a12 => k_is); (case l12 => k_is); (case c12 => k_is); (case k12 => k_is)
    (case a13 => k_is); (case l13 => k_is); (case c13 => k_is); (case k13 => k_is)
    (case a14 => k_is); (case l14 => k_is); (case c14 => k_is); (case k14 => k_is)
    (case a15 => k_is); (case l15 => k_is); (case c15 => k_is); (case k15 => k_is)
    (case a16 => k_is); (case l16 => k_is); (case c16 => k_is); (case k16 => k_is)
    (case a17 => k_is); (case l17 => k_is); (case c17 => k_is); (case k17 => k_is)
    (case a18 => k_is); (case l18 => k_is); (case c18 => k_is); (case k18 => k_is)
    (case a19 => k_is); (case l19 => k_is); (case c19 => k_is); (case k19 => k_is)
    (case a20 => k_is); (case l20 => k_is); (case c20 => k_is); (case k20 => k_is)
    (case a21 => k_is); (case l21 => k_is); (case c21 => k_is); (case k21 => k_is)
    (case a22 => k_is); (case l22 => k_is); (case c22 => k_is); (case k22 => k_is)
    (case a23 => k_is); (case l23 => k_is); (case c23 => k_is); (case k23 => k_is)
    (case a24 => k_is); (case l24 => k_is); (case c24 => k_is); (case k24 => k_is)
    (case a25 => k_is); (case l25 => k_is); (case c25 => k_is); (case k25 => k_is)
    (case a26 => k_is); (case l26 => k_is); (case c26 => k_is); (case k26 => k_is)
    (case a27 => k_is); (case l27 => k_is); (case c27 => k_is); (case k27 => k_is)
    (case a28 => k_is); (case l28 => k_is); (case c28 => k_is); (case k28 => k_is)
    (case a29 => k_is); (case l29 => k_is); (case c29 => k_is); (case k29 => k_is)
    (case a30 => k_is); (case l30 => k_is); (case c30 => k_is); (case k30 => k_is)
    (case a31 => k_is); (case l31 => k_is); (case c31 => k_is); (case k31 => k_is)
    (case a32 => k_is); (case l32 => k_is); (case c32 => k_is); (case k32 => k_is)
    (case a33 => k_is); (case l33 => k_is); (case c33 => k_is); (case k33 => k_is)
    (case a34 => k_is); (case l34 => k_is); (case c34 => k_is); (case k34 => k_is)
    (case z0 => k_is)
    (case z1 => k_is)
    (case z2 => k_is)
    (case z3 => k_is)
    (case z4 => k_is)
    (case z5 => k_is)
    (case z6 => k_is)
    (case z7 => k_is)
    (case z8 => k_is)
    (case z9 => k_is)
    (case z10 => k_is)
    (case z11 => k_is)
#print axioms PySem.Challenge.cw_abovebelow_k51_whole_kinds_of_lattices_holds

