import PyProof.Rows.All
import Wide.All
import OpenK.AllK
import Wide.FinOn
import HandS.ForMost
import HandS.ForExc
import HandS.Wide
import KE.DataEq
import KE.DataCmp
import KE.DataMinMax
import KE.DataAny
import KE.DataIsa
import KE.SortData
import KE.DataFind
import HandS.AnyAll
import HandS.Style
import HandS.TupAny
import HandS.TupMul
import HandS.Flow
import HandS.Exc
import HandS.More
import HandS.WordsExc
import HandS.Iter
import HandS.Zip
import HandS.Rev
import HandS.Walk
import HandS.Comp
import KE.GoesEnum
import HandS.TryOnly
import HandS.NoneIn
import HandS.GenList
import HandS.SetBool
import HandS.SetFor
import HandS.Strs
import HandS.ExcCtx
import HandS.HotCalls
import HandS.ExcIs
import HandS.Words
import HandS.Codes
import HandS.HeadWalk
import HandS.HeadHook4
import PyProof.Rows.FactsN_isinstance
import PySem.Challenge.RW_sawheld_k55_whole_chairs_on_floors
import HandS.Head0
import HandS.Head1
import HandS.Head2
import HandS.HeadEnd
set_option Elab.async false
set_option linter.all false
set_option maxRecDepth 100000
set_option maxHeartbeats 0
/-! DL1: data that a value stands for in the hand layer's abstract heap, apart from the addresses that someone else may write. -/
namespace DL
open PySem PySem.Spec PyProof.Rows L2
abbrev D := PyData
abbrev AP := Addr → Prop
/-- a tuple of the written part -/
def KT (K : PySem.W.Frag) (a : Addr) (xs : List V) : Prop :=
  ∃ (o : Obj) (its : Array Value) (n : Nat), K.lookup a = some o ∧ o.cls = .type "tuple" ∧ o.data = .seq its n ∧ its.size ≤ sizeLine ∧ Vals xs its.toList
/-- a list of the written part -/
def KL (K : PySem.W.Frag) (a : Addr) (xs : List V) : Prop :=
  ∃ (its : Array Value) (n : Nat), K.lookup a = some { cls := .type "list", data := .seq its n } ∧ its.size ≤ sizeLine ∧ Vals xs its.toList
/-- a readable list -/
def SL (K : PySem.W.Frag) (H : Hp) (a : Addr) (xs : List V) : Prop := Rd H a (.lst xs) ∨ KL K a xs
theorem SL.sq {K : PySem.W.Frag} {H : Hp} {a : Addr} {xs : List V} (h : SL K H a xs) : SqL K H a xs := h.imp id fun ⟨its, n, h1, h2, h3⟩ => ⟨_, its, n, h1, rfl, rfl, rfl, h2, h3⟩
def LsA (A : AP) (K : PySem.W.Frag) (H : Hp) (a : Addr) (xs : List V) : Prop := (¬ A a ∧ Rd H a (.lst xs)) ∨ KL K a xs
def TpA (A : AP) (K : PySem.W.Frag) (H : Hp) (a : Addr) (xs : List V) : Prop := (¬ A a ∧ Rd H a (.tup xs)) ∨ KT K a xs
theorem LsA.sq {A : AP} {K : PySem.W.Frag} {H : Hp} {a : Addr} {xs : List V} (h : LsA A K H a xs) : SL K H a xs := h.imp (fun x => x.2) id
theorem TpA.sq {A : AP} {K : PySem.W.Frag} {H : Hp} {a : Addr} {xs : List V} (h : TpA A K H a xs) : SqT K H a xs := h.imp (fun x => x.2) id
mutual
/-- v stands for the data, by objects apart from A -/
inductive Rp (A : AP) (K : PySem.W.Frag) (H : Hp) : V → PyData → Prop
  | non : Rp A K H .non .none
  | bl (b : Bool) : Rp A K H (.bl b) (.bool b)
  | int (i : Int) : Rp A K H (.int i) (.int i)
  | str (x : Str) : Rp A K H (.str x) (.str x)
  | lst {a : Addr} {xs : List V} {ds : List PyData} : LsA A K H a xs → RpAll A K H xs ds → Rp A K H (.ref a) (.list ds)
  | tup {a : Addr} {xs : List V} {ds : List PyData} : TpA A K H a xs → RpAll A K H xs ds → Rp A K H (.ref a) (.tuple ds)
inductive RpAll (A : AP) (K : PySem.W.Frag) (H : Hp) : List V → List PyData → Prop
  | nil : RpAll A K H [] []
  | cons {v : V} {vs : List V} {d : PyData} {ds : List PyData} : Rp A K H v d → RpAll A K H vs ds → RpAll A K H (v :: vs) (d :: ds)
end
/-- what a piece of code does to the tracked objects: all stand, but the tape's list and the tables -/
structure Frame (tp : Option Addr) (H H' : Hp) : Prop where
  keep : ∀ a o, H a = some o → tp ≠ some a → (∀ ps, o ≠ .tbl ps) → H' a = some o
  there : ∀ a, H a ≠ none → H' a ≠ none
theorem Frame.refl {tp : Option Addr} {H : Hp} : Frame tp H H := ⟨fun _ _ h _ _ => h, fun _ h => h⟩
theorem Frame.trans {tp : Option Addr} {H H1 H2 : Hp} (a : Frame tp H H1) (b : Frame tp H1 H2) : Frame tp H H2 :=
  ⟨fun x o h ht hn => b.keep x o (a.keep x o h ht hn) ht hn, fun x h => b.there x (a.there x h)⟩
theorem Frame.upd {tp : Option Addr} {H : Hp} {p : Addr} {o : HO} (hp : H p = none) : Frame tp H (upd H p o) :=
  ⟨fun a u h _ _ => by rw [upd_ne (ne_of_none h hp)]; exact h, fun a h => by
    by_cases e : a = p
    · subst e; rw [upd_same]; simp
    · rw [upd_ne e]; exact h⟩
theorem Frame.free {tp : Option Addr} {H H' : Hp} (f : Frame tp H H') {a : Addr} (h : H' a = none) : H a = none := by
  cases q : H a with
  | none => rfl
  | some o => exact absurd h (f.there a (by rw [q]; simp))
/-- what Rp leans on -/
def Moves (A A' : AP) (H H' : Hp) : Prop := ∀ a o, ¬ A a → H a = some o → (∀ ps, o ≠ .tbl ps) → H' a = some o ∧ ¬ A' a
theorem Moves.refl {A : AP} {H : Hp} : Moves A A H H := fun _ _ n h _ => ⟨h, n⟩
theorem Moves.sub {A A' : AP} {H : Hp} (h : ∀ a, A' a → A a) : Moves A A' H H := fun _ _ n q _ => ⟨q, fun z => n (h _ z)⟩
theorem Moves.frame {A : AP} {tp : Option Addr} {H H' : Hp} (f : Frame tp H H') (ht : ∀ a, tp = some a → A a) : Moves A A H H' := fun a o n h k => ⟨f.keep a o h (fun e => n (ht a e)) k, n⟩
theorem Moves.trans {A A1 A2 : AP} {H H1 H2 : Hp} (a : Moves A A1 H H1) (b : Moves A1 A2 H1 H2) : Moves A A2 H H2 := fun x o n h k =>
  let ⟨h1, n1⟩ := a x o n h k
  b x o n1 h1 k
theorem Moves.rd {A A' : AP} {H H' : Hp} (m : Moves A A' H H') {a : Addr} {u : HO} (n : ¬ A a) (hu : ∀ ps, u ≠ .tbl ps) (h : Rd H a u) : Rd H' a u ∧ ¬ A' a := by
  rcases h with h | ⟨o, h⟩
  · obtain ⟨h1, h2⟩ := m a _ n h hu
    exact ⟨.inl h1, h2⟩
  · obtain ⟨h1, h2⟩ := m a _ n h (fun _ e => by cases e)
    exact ⟨.inr ⟨o, h1⟩, h2⟩
theorem Moves.ls {A A' : AP} {K : PySem.W.Frag} {H H' : Hp} (m : Moves A A' H H') {a : Addr} {xs : List V} (h : LsA A K H a xs) : LsA A' K H' a xs := by
  rcases h with ⟨n, h⟩ | h
  · obtain ⟨h1, h2⟩ := m.rd n (fun _ e => by cases e) h
    exact .inl ⟨h2, h1⟩
  · exact .inr h
theorem Moves.tp {A A' : AP} {K : PySem.W.Frag} {H H' : Hp} (m : Moves A A' H H') {a : Addr} {xs : List V} (h : TpA A K H a xs) : TpA A' K H' a xs := by
  rcases h with ⟨n, h⟩ | h
  · obtain ⟨h1, h2⟩ := m.rd n (fun _ e => by cases e) h
    exact .inl ⟨h2, h1⟩
  · exact .inr h
section
variable {A A' : AP} {K : PySem.W.Frag} {H H' : Hp}
mutual
theorem Rp.moves (m : Moves A A' H H') : ∀ (d : PyData) (v : V), Rp A K H v d → Rp A' K H' v d
  | .none, _, h => by cases h; exact .non
  | .bool b, _, h => by cases h; exact .bl b
  | .int i, _, h => by cases h; exact .int i
  | .str x, _, h => by cases h; exact .str x
  | .list ds, _, h => by
    cases h with
    | lst h1 h2 => exact .lst (m.ls h1) (RpAll.moves m ds _ h2)
  | .tuple ds, _, h => by
    cases h with
    | tup h1 h2 => exact .tup (m.tp h1) (RpAll.moves m ds _ h2)
  | .dict _, _, h => by cases h
theorem RpAll.moves (m : Moves A A' H H') : ∀ (ds : List PyData) (vs : List V), RpAll A K H vs ds → RpAll A' K H' vs ds
  | [], _, h => by cases h; exact .nil
  | d :: ds, _, h => by
    cases h with
    | cons h1 h2 => exact .cons (Rp.moves m d _ h1) (RpAll.moves m ds _ h2)
end
mutual
theorem Rp.dp : ∀ (d : PyData) (v : V), Rp A K H v d → Dp K H v d
  | .none, _, h => by cases h; exact .non
  | .bool b, _, h => by cases h; exact .bl b
  | .int i, _, h => by cases h; exact .int i
  | .str x, _, h => by cases h; exact .str x
  | .list ds, _, h => by
    cases h with
    | lst h1 h2 => exact .lst h1.sq.sq (RpAll.dp ds _ h2)
  | .tuple ds, _, h => by
    cases h with
    | tup h1 h2 => exact .tup h1.sq (RpAll.dp ds _ h2)
  | .dict _, _, h => by cases h
theorem RpAll.dp : ∀ (ds : List PyData) (vs : List V), RpAll A K H vs ds → DpAll K H vs ds
  | [], _, h => by cases h; exact .nil
  | d :: ds, _, h => by
    cases h with
    | cons h1 h2 => exact .cons (Rp.dp d _ h1) (RpAll.dp ds _ h2)
end
mutual
theorem Rp.plain : ∀ (d : PyData) (v : V), Rp A K H v d → d.plain = true
  | .none, _, _ => rfl
  | .bool _, _, _ => rfl
  | .int _, _, _ => rfl
  | .str _, _, _ => rfl
  | .list ds, _, h => by
    cases h with
    | lst h1 h2 => simp only [PyData.plain]; exact RpAll.plain ds _ h2
  | .tuple ds, _, h => by
    cases h with
    | tup h1 h2 => simp only [PyData.plain]; exact RpAll.plain ds _ h2
  | .dict _, _, h => by cases h
theorem RpAll.plain : ∀ (ds : List PyData) (vs : List V), RpAll A K H vs ds → PyData.plainAll ds = true
  | [], _, _ => rfl
  | d :: ds, _, h => by
    cases h with
    | cons h1 h2 => simp only [PyData.plainAll, Rp.plain d _ h1, RpAll.plain ds _ h2, Bool.and_self]
end
theorem RpAll.length : ∀ {vs : List V} {ds : List PyData}, RpAll A K H vs ds → vs.length = ds.length
  | _, _, .nil => rfl
  | _, _, .cons _ h => by rw [List.length_cons, List.length_cons, RpAll.length h]
theorem RpAll.get : ∀ {vs : List V} {ds : List PyData} {i : Nat} {d : PyData}, RpAll A K H vs ds → ds[i]? = some d → ∃ v, vs[i]? = some v ∧ Rp A K H v d
  | _, _, _, _, .nil, e => by simp at e
  | _, _, 0, _, .cons h _, e => by
    simp only [List.getElem?_cons_zero, Option.some.injEq] at e
    subst e; exact ⟨_, rfl, h⟩
  | _, _, i + 1, d, .cons _ t, e => by
    obtain ⟨v, h1, h2⟩ := RpAll.get (i := i) (d := d) t (by simpa using e)
    exact ⟨v, by simpa using h1, h2⟩
theorem RpAll.get' : ∀ {vs : List V} {ds : List PyData} {i : Nat} {v : V}, RpAll A K H vs ds → vs[i]? = some v → ∃ d, ds[i]? = some d ∧ Rp A K H v d
  | _, _, _, _, .nil, e => by simp at e
  | _, _, 0, _, .cons h _, e => by
    simp only [List.getElem?_cons_zero, Option.some.injEq] at e
    subst e; exact ⟨_, rfl, h⟩
  | _, _, i + 1, v, .cons _ t, e => by
    obtain ⟨d, h1, h2⟩ := RpAll.get' (i := i) (v := v) t (by simpa using e)
    exact ⟨d, by simpa using h1, h2⟩
theorem RpAll.append : ∀ {vs ws : List V} {ds es : List PyData}, RpAll A K H vs ds → RpAll A K H ws es → RpAll A K H (vs ++ ws) (ds ++ es)
  | _, _, _, _, .nil, s => s
  | _, _, _, _, .cons r t, s => .cons r (RpAll.append t s)
theorem RpAll.take : ∀ {vs : List V} {ds : List PyData} (n : Nat), RpAll A K H vs ds → RpAll A K H (vs.take n) (ds.take n)
  | _, _, 0, _ => .nil
  | _, _, _ + 1, .nil => .nil
  | _, _, n + 1, .cons r t => .cons r (RpAll.take n t)
theorem RpAll.drop : ∀ {vs : List V} {ds : List PyData} (n : Nat), RpAll A K H vs ds → RpAll A K H (vs.drop n) (ds.drop n)
  | _, _, 0, r => r
  | _, _, _ + 1, .nil => .nil
  | _, _, n + 1, .cons _ t => RpAll.drop n t
theorem RpAll.set {v : V} {d : PyData} (r : Rp A K H v d) : ∀ {vs : List V} {ds : List PyData} (i : Nat), RpAll A K H vs ds → RpAll A K H (vs.set i v) (ds.set i d)
  | _, _, _, .nil => .nil
  | _, _, 0, .cons _ t => .cons r t
  | _, _, i + 1, .cons q t => .cons q (RpAll.set r i t)
theorem RpAll.reverse : ∀ {vs : List V} {ds : List PyData}, RpAll A K H vs ds → RpAll A K H vs.reverse ds.reverse
  | _, _, .nil => .nil
  | _, _, .cons r t => by
    rw [List.reverse_cons, List.reverse_cons]
    exact (RpAll.reverse t).append (.cons r .nil)
theorem RpAll.ints : ∀ ns : List Int, RpAll A K H (ns.map V.int) (ns.map PyData.int)
  | [] => .nil
  | n :: ns => .cons (.int n) (RpAll.ints ns)
theorem RpAll.of_ints : ∀ {ns : List Int} {vs : List V}, RpAll A K H vs (ns.map PyData.int) → vs = ns.map V.int
  | [], _, h => by cases h; rfl
  | n :: ns, _, h => by
    cases h with
    | cons h1 h2 =>
      cases h1
      rw [List.map_cons, RpAll.of_ints h2]
end
/-- the machine's own reading -/
theorem Rp.reads {X : Cx} {pins : List (Addr × Obj)} {σ : L2.St} {H : Hp} {s : Shared} {A : AP} (I : Inv X pins σ H s) {d : PyData} {v : V} {u : Value} (h : Rp A X.K H v d) (r : RelV v u) : ∃ as, Reads s.heap u d as :=
  Dp.reads I d v u (Rp.dp d v h) r
theorem RpAll.reads {X : Cx} {pins : List (Addr × Obj)} {σ : L2.St} {H : Hp} {s : Shared} {A : AP} (I : Inv X pins σ H s) {ds : List PyData} {vs : List V} {us : List Value} (h : RpAll A X.K H vs ds) (r : Vals vs us) : ∃ as, ReadsAll s.heap us ds as :=
  Dp.readsAll I ds vs us (RpAll.dp ds vs h) r
/-- two data of one value are one -/
theorem Rp.unique {X : Cx} {pins : List (Addr × Obj)} {σ : L2.St} {H : Hp} {s : Shared} {A : AP} (I : Inv X pins σ H s) {d e : PyData} {v : V} {u : Value} (h : Rp A X.K H v d) (r : RelV v u) {as : List Addr} (q : Reads s.heap u e as) : d = e := by
  obtain ⟨bs, r'⟩ := h.reads I r
  exact SeqAt.plain_unique d e u bs as (Rp.plain d v h) r' q
end DL
/-! DL2: the core language and what it says (plain Lean). -/
namespace DL
open PySem
/-- the tape: what the list of draws holds -/
abbrev T := List PyData
inductive R (α : Type) where
  | ok (a : α) (t : T) | err (k : Nat) (t : T) | bad
def R.bind {α β : Type} (r : R α) (f : α → T → R β) : R β := match r with
  | .ok a t => f a t
  | .err k t => .err k t
  | .bad => .bad
/-- an error is not allowed here -/
def R.calm {α : Type} (r : R α) : R α := match r with
  | .ok a t => .ok a t
  | _ => .bad
/-- what a slot holds, what an expression gives -/
inductive W where
  | un | d (x : PyData) | own (xs : List PyData) | tape | fresh (xs : List PyData)
def W.dat : W → Option PyData
  | .d x => some x
  | .own xs => some (.list xs)
  | _ => none
/-- may be handed to a def -/
def W.arg : W → Bool
  | .d _ => true
  | .tape => true
  | _ => false
abbrev Ev := List W
def optR {α : Type} (o : Option α) (t : T) : R α := match o with
  | some a => .ok a t
  | none => .bad
inductive Bop where
  | add | sub | mul | fdiv | mod | pow | band | bor | bxor | shl | shr
  deriving DecidableEq
inductive Cop where
  | eq | ne | lt | le | gt | ge | is | isnot | isin | notin
  deriving DecidableEq
inductive Ty where
  | int | bool | str | tuple | list
  deriving DecidableEq
inductive Blt where
  | len | abs | int | sum | min | max | tuple | list | sorted | any | all | min2 | max2
  deriving DecidableEq
def lenOk (n : Nat) : Bool := decide (n ≤ 16777216)
def mulOk (a b : Int) : Bool := decide (-18446744073709551616 < a ∧ a < 18446744073709551616) || decide (-18446744073709551616 < b ∧ b < 18446744073709551616) || decide (a.natAbs.log2 + b.natAbs.log2 < 1000000)
def divOk (b : Int) : Bool := decide (0 < b) && (decide (b < 1073741824) || decide (b.natAbs.log2 < 9000))
def powOk (a b : Int) : Bool := decide (0 ≤ b) && decide (b ≤ 1000000) && decide (a.natAbs < 18446744073709551616)
def opInt : Bop → Int → Int → Option Int
  | .add, a, b => some (a + b)
  | .sub, a, b => some (a - b)
  | .mul, a, b => if mulOk a b then some (a * b) else none
  | .fdiv, a, b => if divOk b then some (a / b) else none
  | .mod, a, b => if decide (0 < b) then some (a % b) else none
  | .pow, a, b => if powOk a b then some (a ^ b.toNat) else none
  | .band, a, b => some (Builtin.bitAnd a b)
  | .bor, a, b => some (Builtin.bitOr a b)
  | .bxor, a, b => some (Builtin.bitXor a b)
  | .shl, a, b => if powOk a b then some (a * 2 ^ b.toNat) else none
  | .shr, a, b => if decide (0 ≤ b) then some (a / 2 ^ b.toNat) else none
def binD (o : Bop) (x y : PyData) : Option PyData := match x, y with
  | .int a, .int b => (opInt o a b).map .int
  | .tuple a, .tuple b => match o with
    | .add => if lenOk (a.length + b.length) then some (.tuple (a ++ b)) else none
    | _ => none
  | .list a, .list b => match o with
    | .add => if lenOk (a.length + b.length) then some (.list (a ++ b)) else none
    | _ => none
  | .tuple a, .int n => match o with
    | .mul => if decide (2 ≤ n) && decide (n ≤ 1000) && decide (a.length ≤ 1000) && !a.isEmpty then some (.tuple (List.replicate n.toNat a).flatten) else none
    | _ => none
  | .list a, .int n => match o with
    | .mul => if lenOk (a.length * n.toNat) && decide (-1000000 < n) && decide (n < 1000000) then some (.list (List.replicate n.toNat a).flatten) else none
    | _ => none
  | _, _ => none
def isNoneD : PyData → Bool
  | .none => true
  | _ => false
def shal (a b : PyData) : Bool := decide (min a.depth b.depth ≤ 40)
def eqD (a b : PyData) : Option Bool := if shal a b then some (PyData.eqv a b) else none
def ltD (a b : PyData) : Option Bool := if PySem.W.alike a b && !isNoneD a && shal a b then some (PySem.W.dataLt a b) else none
def isD : PyData → PyData → Option Bool
  | a, .none => some (isNoneD a)
  | .bool a, .bool b => some (a == b)
  | .none, .bool _ => some false
  | .int _, .bool _ => some false
  | .str _, .bool _ => some false
  | .list _, .bool _ => some false
  | .tuple _, .bool _ => some false
  | _, _ => none
def inD (x : PyData) : PyData → Option Bool
  | .list ys => if decide (min (PyData.depthAll ys) x.depth ≤ 40) then some (ys.any fun y => PyData.eqv y x) else none
  | .tuple ys => if decide (min (PyData.depthAll ys) x.depth ≤ 40) then some (ys.any fun y => PyData.eqv y x) else none
  | _ => none
def cmpD : Cop → PyData → PyData → Option Bool
  | .eq, a, b => eqD a b
  | .ne, a, b => (eqD a b).map (!·)
  | .lt, a, b => ltD a b
  | .gt, a, b => if PySem.W.alike a b && !isNoneD a && shal a b then some (PySem.W.dataLt b a) else none
  | .le, a, b => if PySem.W.alike a b && !isNoneD a && shal a b then some (!PySem.W.dataLt b a) else none
  | .ge, a, b => (ltD a b).map (!·)
  | .is, a, b => isD a b
  | .isnot, a, b => (isD a b).map (!·)
  | .isin, a, b => inD a b
  | .notin, a, b => (inD a b).map (!·)
def tyD : Ty → PyData → Bool
  | .int, x => x.isInt
  | .bool, x => x.isBool
  | .str, x => x.isStr
  | .tuple, x => x.isTuple
  | .list, x => x.isList
def intsOf : List PyData → Option (List Int)
  | [] => some []
  | .int i :: r => (intsOf r).map (i :: ·)
  | _ :: _ => none
def seqOf : PyData → Option (List PyData)
  | .list xs => some xs
  | .tuple xs => some xs
  | _ => none
def allAlike (xs : List PyData) : Bool := xs.all fun a => !isNoneD a && xs.all fun b => PySem.W.alike a b
def consTup : PyData → Bool
  | .tuple (_ :: _) => true
  | _ => false
def plainKey : PyData → Bool
  | .none => false
  | .tuple _ => false
  | _ => true
def sortable (xs : List PyData) : Bool := xs.all consTup || xs.all plainKey
def sortD (xs : List PyData) : Option (List PyData) :=
  if allAlike xs && sortable xs && decide (PyData.depthAll xs ≤ 40) then some (xs.mergeSort (PySem.W.dataLe false id)) else none
def minOfD : List PyData → Option PyData
  | [] => none
  | x :: xs => if allAlike (x :: xs) && decide (PyData.depthAll (x :: xs) ≤ 40) then some (PySem.W.minD x xs) else none
def maxOfD : List PyData → Option PyData
  | [] => none
  | x :: xs => if allAlike (x :: xs) && decide (PyData.depthAll (x :: xs) ≤ 40) then some (PySem.W.maxD x xs) else none
def lenD : PyData → Option PyData
  | .list xs => some (.int xs.length)
  | .tuple xs => some (.int xs.length)
  | .str x => if lenOk x.length then some (.int x.length) else none
  | _ => none
def absD : PyData → Option PyData
  | .int i => some (.int i.natAbs)
  | _ => none
def intD : PyData → Option PyData
  | .int i => some (.int i)
  | .bool b => some (.int (if b then 1 else 0))
  | _ => none
def sumD (x : PyData) : Option PyData := (seqOf x).bind fun xs => (intsOf xs).map fun ns => .int ns.sum
def boolsOf (xs : List PyData) : Bool := xs.all PyData.isBool
def sortedD : PyData → Option PyData
  | .list xs => (sortD xs).map .list
  | _ => none
def b1 : Blt → PyData → Option PyData
  | .len, x => lenD x
  | .abs, x => absD x
  | .int, x => intD x
  | .sum, x => sumD x
  | .min, x => (seqOf x).bind minOfD
  | .max, x => (seqOf x).bind maxOfD
  | .tuple, x => (seqOf x).map .tuple
  | .list, x => (seqOf x).map .list
  | .sorted, x => sortedD x
  | .any, x => (seqOf x).bind fun xs => if boolsOf xs then some (.bool (xs.any PyData.truthy)) else none
  | .all, x => (seqOf x).bind fun xs => if boolsOf xs then some (.bool (xs.all PyData.truthy)) else none
  | _, _ => none
def b2i (b : Blt) (i j : Int) : Option PyData := match b with
  | .min2 => some (.int (min i j))
  | .max2 => some (.int (max i j))
  | _ => none
def b2 (b : Blt) (x y : PyData) : Option PyData := match x, y with
  | .int i, .int j => b2i b i j
  | _, _ => none
def bltD (b : Blt) (xs : List PyData) : Option PyData := match xs with
  | [x] => b1 b x
  | [x, y] => b2 b x y
  | _ => none
/-- an item of a list, a tuple, by an index of any sign -/
def ixD (x i : PyData) : Option PyData := match i with
  | .int k => (seqOf x).bind fun xs => L2.atI xs k
  | _ => none
/-- what is walked: range(lo, hi) -/
def rngD (lo hi : Int) : List PyData := (List.range (hi - lo).toNat).map fun (k : Nat) => .int (lo + (k : Int))
def rngOk (lo hi : Int) : Bool := decide (-4611686018427387904 ≤ lo) && decide (lo < 4611686018427387904) && decide (-4611686018427387904 ≤ hi) && decide (hi < 4611686018427387904)
def cutD (xs : List PyData) (lo hi : Option Int) : List PyData := (xs.drop (HT.sIx xs.length 0 lo)).take (HT.sIx xs.length xs.length hi - HT.sIx xs.length 0 lo)
inductive Tg where
  | nm (i : Nat) | tup (ts : List Tg)
mutual
inductive E where
  | var (i : Nat)
  | lit (x : PyData)
  | glob (x : PyData)
  | omit
  | tup (es : List E)
  | lst (es : List E)
  | bin (o : Bop) (a b : E)
  | neg (a : E)
  | not (a : E)
  | and (a b : E)
  | or (a b : E)
  | ite (c a b : E)
  | cmp (o : Cop) (a b : E)
  | chain (o o' : Cop) (a b c : E)
  | idx (a i : E)
  | slc (a lo hi : E)
  | isa (a : E) (ty : Ty)
  | call (f : Nat) (es : List E)
  | callF (f : Nat) (es : List E)
  | blt (b : Blt) (es : List E)
  | comp (elt : E) (tg : Tg) (it : It) (ifs : List E) (own : List Nat)
  | gen (b : Blt) (elt : E) (tg : Tg) (it : It) (ifs : List E) (own : List Nat)
  | sset (elt : E) (tg : Tg) (it : It) (ifs : List E) (own : List Nat)
  | tlen (i : Nat)
  | tpop (i : Nat)
  | revl (a : E)
inductive It where
  | seq (e : E)
  | rng (a b : E)
  | rng1 (b : E)
  | enum (e : E)
  | zip (a b : E)
  | rev (e : E)
  | dk (e : E)
end
inductive S where
  | asg (tg : Tg) (e : E)
  | own (i : Nat) (e : E)
  | app (i : Nat) (e : E)
  | aug (i : Nat) (o : Bop) (e : E)
  | seti (i : Nat) (k e : E)
  | ret (e : E)
  | retF (e : E)
  | retN
  | ifs (c : E) (a b : List S)
  | forr (tg : Tg) (it : It) (body : List S)
  | whil (c : E) (body : List S)
  | expr (e : E)
  | raise (k : Nat)
  | brk | cnt | pass
  | ext (i : Nat) (e : E)
  | frz (i : Nat)
  | par (ts : List (Nat × Bool)) (es : List E)
  | tun (tg : Tg) (i : Nat)
  | tset (i : Nat) (k e : E)
  | retO (i : Nat)
  | tryr (body : List S) (hs : List (Nat × PyData))
mutual
def bindT : Tg → PyData → Ev → Option Ev
  | .nm i, x, e => some (e.set i (.d x))
  | .tup ts, x, e => match x with
    | .tuple xs => if xs.length = ts.length then bindTs ts xs e else none
    | .list xs => if xs.length = ts.length then bindTs ts xs e else none
    | _ => none
def bindTs : List Tg → List PyData → Ev → Option Ev
  | t :: ts, x :: xs, e => (bindT t x e).bind fun e' => bindTs ts xs e'
  | [], _, e => some e
  | _ :: _, [], _ => none
end
def wipeE (e : Ev) : List Nat → Ev
  | [] => e
  | i :: is => (wipeE e is).set i .un
def compRun (bnd : PyData → Ev → Option Ev) (cond : Ev → T → R Bool) (elt : Ev → T → R W) (e0 : Ev) : List PyData → T → R (List PyData)
  | [], t => .ok [] t
  | x :: xs, t => match bnd x e0 with
    | none => .bad
    | some e => (cond e t).bind fun b t1 => if b then (elt e t1).bind fun w t2 => match w with
        | .d y => (compRun bnd cond elt e0 xs t2).bind fun ys t3 => .ok (y :: ys) t3
        | _ => .bad
      else compRun bnd cond elt e0 xs t1
/-- all(..), any(..): as far as is looked -/
def quantRun (stop : Bool) (bnd : PyData → Ev → Option Ev) (cond : Ev → T → R Bool) (elt : Ev → T → R W) (e0 : Ev) : List PyData → T → R Bool
  | [], t => .ok (!stop) t
  | x :: xs, t => match bnd x e0 with
    | none => .bad
    | some e => (cond e t).bind fun b t1 => if b then (elt e t1).bind fun w t2 => match w with
        | .d (.bool c) => if c = stop then .ok stop t2 else quantRun stop bnd cond elt e0 xs t2
        | _ => .bad
      else quantRun stop bnd cond elt e0 xs t1
def isOmit : E → Bool
  | .omit => true
  | _ => false
/-- a bool, as tests want it -/
def W.truth : W → Option Bool
  | .d (.bool b) => some b
  | .d (.int i) => some (decide (i ≠ 0))
  | .d (.list xs) => some (!xs.isEmpty)
  | .d (.tuple xs) => some (!xs.isEmpty)
  | .d .none => some false
  | .own xs => some (!xs.isEmpty)
  | _ => none
def asInt (w : W) : Option Int := match w with
  | .d (.int i) => some i
  | _ => none
def allDat : List W → Option (List PyData)
  | [] => some []
  | w :: ws => w.dat.bind fun x => (allDat ws).map (x :: ·)
/-- the values that a display keeps: shared ones -/
def allD : List W → Option (List PyData)
  | [] => some []
  | .d x :: ws => (allD ws).map (x :: ·)
  | _ :: _ => none
def dedupD : List PyData → List PyData
  | [] => []
  | x :: xs => x :: (dedupD xs).filter fun y => !PyData.eqv x y
/-- the items of a value that is walked -/
def W.seqO (o : Bool) : W → Option (List PyData)
  | .d x => seqOf x
  | .own xs => if o then some xs else none
  | _ => none
def W.lstO (o : Bool) : W → Option (List PyData)
  | .d (.list xs) => some xs
  | .own xs => if o then some xs else none
  | _ => none
def W.tupO : W → Option (List PyData)
  | .d (.tuple xs) => some xs
  | _ => none
/-- two lists, or two tuples -/
def W.zipO (o : Bool) (x y : W) : Option (List (PyData × PyData)) := match x.lstO o, y.lstO o with
  | some xs, some ys => some (xs.zip ys)
  | _, _ => match x.tupO, y.tupO with
    | some xs, some ys => some (xs.zip ys)
    | _, _ => none
/-- as a test -/
def tr (r : R W) : R Bool := r.bind fun x t1 => optR x.truth t1
/-- sorted({..}) of ints, fewer than 64 -/
def setD (ys : List PyData) : Option (List PyData) := (intsOf ys).bind fun _ => if decide ((dedupD ys).length < 64) then sortD (dedupD ys) else none
/-- the keys of dict([(k, v), ..]), k ints -/
def keysOf : List PyData → Option (List PyData)
  | [] => some []
  | .tuple [.int k, _] :: r => (keysOf r).map (.int k :: ·)
  | _ :: _ => none
def dkD : PyData → Option (List PyData)
  | .list xs => (keysOf xs).map dedupD
  | _ => none
section
variable (F : Nat → List W → T → R W)
mutual
def ev : E → Ev → T → R W
  | .var i, e, t => match e.getD i .un with
    | .d x => .ok (.d x) t
    | .own xs => .ok (.own xs) t
    | .tape => .ok .tape t
    | _ => .bad
  | .lit x, _, t => .ok (.d x) t
  | .glob x, _, t => .ok (.d x) t
  | .omit, _, _ => .bad
  | .tup es, e, t => (evs es e t).bind fun ws t1 => (optR (allD ws) t1).bind fun xs t2 => .ok (.d (.tuple xs)) t2
  | .lst es, e, t => (evs es e t).bind fun ws t1 => (optR (allD ws) t1).bind fun xs t2 => .ok (.d (.list xs)) t2
  | .bin o a b, e, t => (ev a e t).bind fun x t1 => (ev b e t1).bind fun y t2 =>
      (optR (x.dat.bind fun p => y.dat.bind fun q => binD o p q) t2).bind fun r t3 => .ok (.d r) t3
  | .neg a, e, t => (ev a e t).bind fun x t1 => (optR (asInt x) t1).bind fun i t2 => .ok (.d (.int (-i))) t2
  | .not a, e, t => (tr (ev a e t)).bind fun b t1 => .ok (.d (.bool (!b))) t1
  | .and a b, e, t => (ev a e t).bind fun x t1 => (optR x.truth t1).bind fun c t2 => if c then ev b e t2 else .ok x t2
  | .or a b, e, t => (ev a e t).bind fun x t1 => (optR x.truth t1).bind fun c t2 => if c then .ok x t2 else ev b e t2
  | .ite c a b, e, t => (tr (ev c e t)).bind fun k t1 => if k then ev a e t1 else ev b e t1
  | .cmp o a b, e, t => (ev a e t).bind fun x t1 => (ev b e t1).bind fun y t2 =>
      (optR (x.dat.bind fun p => y.dat.bind fun q => cmpD o p q) t2).bind fun r t3 => .ok (.d (.bool r)) t3
  | .chain o o' a b c, e, t => (ev a e t).bind fun x t1 => (ev b e t1).bind fun y t2 =>
      (optR (x.dat.bind fun p => y.dat.bind fun q => cmpD o p q) t2).bind fun r t3 =>
        if r then (ev c e t3).bind fun z t4 => (optR (y.dat.bind fun p => z.dat.bind fun q => cmpD o' p q) t4).bind fun r' t5 => .ok (.d (.bool r')) t5
        else .ok (.d (.bool false)) t3
  | .idx a i, e, t => (ev a e t).bind fun x t1 => (ev i e t1).bind fun y t2 =>
      (optR (x.dat.bind fun p => y.dat.bind fun q => ixD p q) t2).bind fun r t3 => .ok (.d r) t3
  | .slc a lo hi, e, t => (ev a e t).bind fun x t1 =>
      (if isOmit lo then R.ok none t1 else (ev lo e t1).bind fun l t2 => (optR (asInt l) t2).bind fun i t3 => .ok (some i) t3).bind fun lo' t4 =>
      (if isOmit hi then R.ok none t4 else (ev hi e t4).bind fun l t5 => (optR (asInt l) t5).bind fun i t6 => .ok (some i) t6).bind fun hi' t7 =>
      match x.dat with
      | some (.tuple xs) => .ok (.d (.tuple (cutD xs lo' hi'))) t7
      | some (.list xs) => .ok (.d (.list (cutD xs lo' hi'))) t7
      | _ => .bad
  | .isa a ty, e, t => (ev a e t).bind fun x t1 => (optR x.dat t1).bind fun p t2 => .ok (.d (.bool (tyD ty p))) t2
  | .call f es, e, t => (evs es e t).bind fun ws t1 => if ws.all W.arg then (F f ws t1).bind fun w t2 => match w with
      | .d x => .ok (.d x) t2
      | .fresh xs => .ok (.d (.list xs)) t2
      | _ => .bad
    else .bad
  | .callF f es, e, t => (evs es e t).bind fun ws t1 => if ws.all W.arg then (F f ws t1).bind fun w t2 => match w with
      | .fresh xs => .ok (.d (.list xs)) t2
      | _ => .bad
    else .bad
  | .blt b es, e, t => (evs es e t).bind fun ws t1 => (optR ((allDat ws).bind fun xs => bltD b xs) t1).bind fun r t2 => .ok (.d r) t2
  | .comp elt tg it ifs own, e, t => (evI true it e t).bind fun xs t1 => (compRun (bindT tg) (evTs ifs) (ev elt) (wipeE e own) xs t1).calm.bind fun ys t2 => if lenOk ys.length then .ok (.d (.list ys)) t2 else .bad
  | .gen b elt tg it ifs own, e, t => (evI true it e t).bind fun xs t1 => match b with
      | .all => (quantRun false (bindT tg) (evTs ifs) (ev elt) (wipeE e own) xs t1).calm.bind fun c t2 => .ok (.d (.bool c)) t2
      | .any => (quantRun true (bindT tg) (evTs ifs) (ev elt) (wipeE e own) xs t1).calm.bind fun c t2 => .ok (.d (.bool c)) t2
      | b => (compRun (bindT tg) (evTs ifs) (ev elt) (wipeE e own) xs t1).calm.bind fun ys t2 => (optR (bltD b [.list ys]) t2).bind fun r t3 => .ok (.d r) t3
  | .sset elt tg it ifs own, e, t => (evI true it e t).bind fun xs t1 => (compRun (bindT tg) (evTs ifs) (ev elt) (wipeE e own) xs t1).calm.bind fun ys t2 =>
      (optR (setD ys) t2).bind fun r t3 => .ok (.d (.list r)) t3
  | .tlen i, e, t => match e.getD i .un with
    | .tape => .ok (.d (.int t.length)) t
    | _ => .bad
  | .tpop i, e, t => match e.getD i .un with
    | .tape => match t.getLast? with
      | some x => .ok (.d x) t.dropLast
      | none => .bad
    | _ => .bad
  | .revl a, e, t => (ev a e t).bind fun x t1 => (optR (x.dat.bind seqOf) t1).bind fun xs t2 => .ok (.d (.list xs.reverse)) t2
def evs : List E → Ev → T → R (List W)
  | [], _, t => .ok [] t
  | a :: as, e, t => (ev a e t).bind fun x t1 => (evs as e t1).bind fun xs t2 => .ok (x :: xs) t2
def evTs : List E → Ev → T → R Bool
  | [], _, t => .ok true t
  | c :: cs, e, t => (tr (ev c e t)).bind fun b t1 => if b then evTs cs e t1 else .ok false t1
/-- what is walked; o: a list of one's own may be, too (nothing changes it meanwhile) -/
def evI (o : Bool) : It → Ev → T → R (List PyData)
  | .seq a, e, t => (ev a e t).bind fun x t1 => optR (x.seqO o) t1
  | .rng a b, e, t => (ev a e t).bind fun x t1 => (ev b e t1).bind fun y t2 =>
      (optR (asInt x) t2).bind fun i t3 => (optR (asInt y) t3).bind fun j t4 => if rngOk i j then .ok (rngD i j) t4 else .bad
  | .rng1 b, e, t => (ev b e t).bind fun y t2 => (optR (asInt y) t2).bind fun j t4 => if rngOk 0 j then .ok (rngD 0 j) t4 else .bad
  | .enum a, e, t => (ev a e t).bind fun x t1 => (optR (x.seqO o) t1).bind fun xs t2 => .ok (xs.zipIdx.map fun p => .tuple [.int p.2, p.1]) t2
  | .zip a b, e, t => (ev a e t).bind fun x t1 => (ev b e t1).bind fun y t2 =>
      (optR (x.zipO o y) t2).bind fun ps t3 => .ok (ps.map fun p => .tuple [p.1, p.2]) t3
  | .rev a, e, t => (ev a e t).bind fun x t1 => (optR (x.seqO o) t1).bind fun xs t2 => .ok xs.reverse t2
  | .dk a, e, t => (ev a e t).bind fun x t1 => (optR (x.dat.bind dkD) t1).bind fun xs t2 => .ok xs t2
end
end
/-! ### statements -/
/-- names get values; true: a new list, one's own from now on -/
def parE : List (Nat × Bool) → List PyData → Ev → Option Ev
  | [], [], e => some e
  | (i, true) :: ts, .list xs :: ds, e => parE ts ds (e.set i (.own xs))
  | (i, false) :: ts, x :: ds, e => parE ts ds (e.set i (.d x))
  | _, _, _ => none
inductive Out where
  | nx (e : Ev) (t : T) | ret (w : W) (t : T) | brk (e : Ev) (t : T) | cnt (e : Ev) (t : T) | err (k : Nat) (t : T) | bad
def R.out {α : Type} (r : R α) (f : α → T → Out) : Out := match r with
  | .ok a t => f a t
  | .err k t => .err k t
  | .bad => .bad
def Out.andThen (o : Out) (f : Ev → T → Out) : Out := match o with
  | .nx e t => f e t
  | o => o
def forRun (bnd : PyData → Ev → Option Ev) (body : Ev → T → Out) : List PyData → Ev → T → Out
  | [], e, t => .nx e t
  | x :: xs, e, t => match bnd x e with
    | none => .bad
    | some e1 => match body e1 t with
      | .nx e2 t2 => forRun bnd body xs e2 t2
      | .cnt e2 t2 => forRun bnd body xs e2 t2
      | .brk e2 t2 => .nx e2 t2
      | o => o
def whileRun (cond : Ev → T → R Bool) (body : Ev → T → Out) : Nat → Ev → T → Out
  | 0, _, _ => .bad
  | n + 1, e, t => (cond e t).out fun b t1 => if b then match body e t1 with
      | .nx e2 t2 => whileRun cond body n e2 t2
      | .cnt e2 t2 => whileRun cond body n e2 t2
      | .brk e2 t2 => .nx e2 t2
      | o => o
    else .nx e t1
/-- the flag: a new list is wanted -/
def W.flag : Bool → W → Option PyData
  | true, .d (.list xs) => some (.list xs)
  | false, .d x => some x
  | _, _ => none
section
variable (F : Nat → List W → T → R W) (n : Nat)
def evP : List Bool → List E → Ev → T → R (List PyData)
  | f :: fl, a :: as, e, t => (ev F a e t).bind fun w t1 => (optR (w.flag f) t1).bind fun d t2 => (evP fl as e t2).bind fun ds t3 => .ok (d :: ds) t3
  | [], [], _, t => .ok [] t
  | _, _, _, _ => .bad
mutual
def run : S → Ev → T → Out
  | .asg tg a, e, t => (ev F a e t).out fun w t1 => match w with
    | .d x => match bindT tg x e with
      | some e' => .nx e' t1
      | none => .bad
    | _ => .bad
  | .own i a, e, t => (ev F a e t).out fun w t1 => match w with
    | .d (.list xs) => .nx (e.set i (.own xs)) t1
    | _ => .bad
  | .app i a, e, t => match e.getD i .un with
    | .own xs => (ev F a e t).out fun w t1 => match w with
      | .d x => if lenOk (xs.length + 1) then .nx (e.set i (.own (xs ++ [x]))) t1 else .bad
      | _ => .bad
    | _ => .bad
  | .aug i o a, e, t => match e.getD i .un with
    | .d x => (ev F a e t).out fun w t1 => match w with
      | .d y => match x, y with
        | .int p, .int q => match opInt o p q with
          | some r => .nx (e.set i (.d (.int r))) t1
          | none => .bad
        | _, _ => .bad
      | _ => .bad
    | _ => .bad
  | .ext i a, e, t => match e.getD i .un with
    | .own xs => (ev F a e t).out fun w t1 => match w with
      | .d (.list ys) => if lenOk (xs.length + ys.length) then .nx (e.set i (.own (xs ++ ys))) t1 else .bad
      | _ => .bad
    | _ => .bad
  | .seti i k a, e, t => match e.getD i .un with
    | .own xs => (ev F a e t).out fun w t1 => (ev F k e t1).out fun j t2 => match w, asInt j with
      | .d x, some z => match L2.ixN xs.length z with
        | some p => .nx (e.set i (.own (xs.set p x))) t2
        | none => .bad
      | _, _ => .bad
    | _ => .bad
  | .ret a, e, t => (ev F a e t).out fun w t1 => match w with
    | .d x => .ret (.d x) t1
    | .own xs => .ret (.d (.list xs)) t1
    | _ => .bad
  | .retF a, e, t => (ev F a e t).out fun w t1 => match w with
    | .d (.list xs) => .ret (.fresh xs) t1
    | _ => .bad
  | .retN, _, t => .ret (.d .none) t
  | .ifs c a b, e, t => (tr (ev F c e t)).out fun k t1 => if k then runs a e t1 else runs b e t1
  | .forr tg it body, e, t => (evI F false it e t).out fun xs t1 => forRun (bindT tg) (runs body) xs e t1
  | .whil c body, e, t => whileRun (fun e t => tr (ev F c e t)) (runs body) n e t
  | .expr a, e, t => (ev F a e t).out fun _ t1 => .nx e t1
  | .raise k, _, t => .err k t
  | .brk, e, t => .brk e t
  | .cnt, e, t => .cnt e t
  | .pass, e, t => .nx e t
  | .frz i, e, t => match e.getD i .un with
    | .own xs => .nx (e.set i (.d (.list xs))) t
    | _ => .bad
  | .par ts es, e, t => (evP F (ts.map (·.2)) es e t).out fun xs t1 => match parE ts xs e with
    | some e' => .nx e' t1
    | none => .bad
  | .tun tg i, e, t => match e.getD i .un with
    | .tape => match bindT tg (.list t) e with
      | some e' => .nx e' t
      | none => .bad
    | _ => .bad
  | .tset i k a, e, t => match e.getD i .un with
    | .tape => (ev F a e t).out fun w t1 => (ev F k e t1).out fun j t2 => match w, asInt j with
      | .d x, some z => match L2.ixN t2.length z with
        | some p => .nx e (t2.set p x)
        | none => .bad
      | _, _ => .bad
    | _ => .bad
  | .retO i, e, t => match e.getD i .un with
    | .own xs => .ret (.fresh xs) t
    | _ => .bad
  | .tryr body hs, e, t => match runs body e t with
    | .err k t' => match hs.lookup k with
      | some v => .ret (.d v) t'
      | none => .bad
    | o => o
def runs : List S → Ev → T → Out
  | [], e, t => .nx e t
  | s :: ss, e, t => (run s e t).andThen (runs ss)
end
/-- a def's answer: m parameters, l slots -/
def Out.answer : Out → R W
  | .nx _ t => .ok (.d .none) t
  | .ret w t => .ok w t
  | .err k t => .err k t
  | _ => .bad
def callRun (l : Nat) (body : List S) (ws : List W) (t : T) : R W := (runs F n body (ws ++ List.replicate (l - ws.length) .un) t).answer
end
example (F : Nat → List W → T → R W) (x : Int) (t : T) : ev F (.bin .add (.lit (.int 1)) (.var 0)) [.d (.int x)] t = .ok (.d (.int (1 + x))) t := rfl
example (F : Nat → List W → T → R W) (n : Nat) (x : Int) (t : T) : callRun F n 2 [.asg (.nm 1) (.bin .add (.lit (.int 1)) (.var 0)), .ifs (.cmp .eq (.var 1) (.lit (.int 5))) [.ret (.lit .none)] [], .ret (.var 1)] [.d (.int x)] t = .ok (if 1 + x = 5 then .d .none else .d (.int (1 + x))) t := by
  simp [callRun, runs, run, ev, evs, tr, bindT, R.out, R.bind, Out.andThen, Out.answer, optR, W.dat, binD, opInt, cmpD, eqD, shal, PyData.depth, PyData.eqv, W.truth]
  by_cases h : 1 + x = 5 <;> simp [h]
end DL
/-! DL3: the judgements over data, and the expressions. -/
namespace DL
open PySem PySem.Spec PyProof.Rows L2
def TabsG (tabs : List Addr) (H : Hp) : Prop := ∀ P ∈ tabs, GxR.TabG H P
/-- what is fixed through a def's run -/
structure Cfg where
  K : PySem.W.Frag
  O : AP
  tp : Option Addr
  tabs : List Addr
  H0 : Hp
  E : XK
  ec : Nat → Value
def Ow (env : Ev) (σ : L2.St) (a : Addr) : Prop := ∃ (i : Nat) (xs : List PyData), env[i]? = some (.own xs) ∧ σ[i]? = some (some (.ref a))
def Av (Γ : Cfg) (σ : L2.St) (env : Ev) : AP := fun a => Γ.O a ∨ Γ.tp = some a ∨ Ow env σ a
structure Good (Γ : Cfg) (σ : L2.St) (H : Hp) (env : Ev) (t : T) : Prop where
  len : env.length = σ.length
  fr : Frame Γ.tp Γ.H0 H
  oh : ∀ a, Γ.O a → H a ≠ none
  tabs : TabsG Γ.tabs H
  tape : ∀ a, Γ.tp = some a → ∃ xs, H a = some (.lst xs) ∧ RpAll (Av Γ σ env) Γ.K H xs t
  dat : ∀ (i : Nat) x, env[i]? = some (.d x) → ∃ v, σ[i]? = some (some v) ∧ Rp (Av Γ σ env) Γ.K H v x
  own : ∀ (i : Nat) xs, env[i]? = some (.own xs) → ∃ a vs, σ[i]? = some (some (.ref a)) ∧ H a = some (.lst vs) ∧ RpAll (Av Γ σ env) Γ.K H vs xs ∧ Γ.H0 a = none ∧ ¬ Γ.O a ∧ Γ.tp ≠ some a
  two : ∀ (i j : Nat) xs ys a, env[i]? = some (.own xs) → env[j]? = some (.own ys) → σ[i]? = some (some (.ref a)) → σ[j]? = some (some (.ref a)) → i = j
  tpe : ∀ (i : Nat), env[i]? = some .tape → ∃ a, Γ.tp = some a ∧ σ[i]? = some (some (.ref a))
section
variable {Γ : Cfg} {σ : L2.St} {H H' : Hp} {env : Ev} {t t' : T}
theorem Good.avHas (G : Good Γ σ H env t) : ∀ a, Av Γ σ env a → H a ≠ none := fun a h => by
  rcases h with h | h | ⟨i, xs, h1, h2⟩
  · exact G.oh a h
  · obtain ⟨xs, e, _⟩ := G.tape a h
    rw [e]; simp
  · obtain ⟨b, vs, e1, e2, _⟩ := G.own i xs h1
    rw [h2] at e1; cases e1
    rw [e2]; simp
theorem Good.free (G : Good Γ σ H env t) {p : Addr} (h : H p = none) : ¬ Av Γ σ env p := fun z => G.avHas p z h
theorem avTape {a : Addr} (h : Γ.tp = some a) : Av Γ σ env a := .inr (.inl h)
theorem same_frame {tp : Option Addr} (s : Same H H') : Frame tp H H' := ⟨fun a o h _ _ => s a o h, fun a h => by
  cases q : H a with
  | none => exact absurd q h
  | some o => rw [s a o q]; simp⟩
theorem TabsG.same (s : Same H H') {tabs : List Addr} (h : TabsG tabs H) : TabsG tabs H' := fun P hP => by
  obtain ⟨ps, e, k⟩ := h P hP
  exact ⟨ps, s _ _ e, k⟩
theorem moves_same {A : AP} (s : Same H H') : Moves A A H H' := fun a o n h _ => ⟨s a o h, n⟩
/-- nothing that was tracked has changed -/
theorem Good.same (G : Good Γ σ H env t) (s : Same H H') : Good Γ σ H' env t where
  len := G.len
  fr := G.fr.trans (same_frame s)
  oh := fun a h => by
    cases q : H a with
    | none => exact absurd q (G.oh a h)
    | some o => rw [s a o q]; simp
  tabs := G.tabs.same s
  tape := fun a h => by
    obtain ⟨xs, e, r⟩ := G.tape a h
    exact ⟨xs, s _ _ e, RpAll.moves (moves_same s) _ _ r⟩
  dat := fun i x h => by
    obtain ⟨v, e, r⟩ := G.dat i x h
    exact ⟨v, e, Rp.moves (moves_same s) _ _ r⟩
  own := fun i xs h => by
    obtain ⟨a, vs, e1, e2, r, q⟩ := G.own i xs h
    exact ⟨a, vs, e1, s _ _ e2, RpAll.moves (moves_same s) _ _ r, q⟩
  two := G.two
  tpe := G.tpe
/-- behind a call: the tape, the tables told anew -/
theorem Good.frame (G : Good Γ σ H env t) (f : Frame Γ.tp H H') (ht : TabsG Γ.tabs H') (hp : ∀ a, Γ.tp = some a → ∃ xs, H' a = some (.lst xs) ∧ RpAll (Av Γ σ env) Γ.K H' xs t') : Good Γ σ H' env t' := by
  have mv : Moves (Av Γ σ env) (Av Γ σ env) H H' := Moves.frame f fun a h => avTape h
  refine ⟨G.len, G.fr.trans f, fun a h => f.there a (G.oh a h), ht, hp, fun i x h => ?_, fun i xs h => ?_, G.two, G.tpe⟩
  · obtain ⟨v, e, r⟩ := G.dat i x h
    exact ⟨v, e, Rp.moves mv _ _ r⟩
  · obtain ⟨a, vs, e1, e2, r, q1, q2, q3⟩ := G.own i xs h
    exact ⟨a, vs, e1, f.keep a _ e2 q3 (fun _ z => by cases z), RpAll.moves mv _ _ r, q1, q2, q3⟩
end
/-- the tape holds t, apart from A -/
def TapeR (A : AP) (tp : Option Addr) (K : PySem.W.Frag) (H : Hp) (t : T) : Prop := ∀ a, tp = some a → ∃ xs, H a = some (.lst xs) ∧ RpAll A K H xs t
theorem TapeR.moves {A A' : AP} {tp : Option Addr} {K : PySem.W.Frag} {H H' : Hp} {t : T} (h : TapeR A tp K H t) (m : Moves A A' H H') (ht : ∀ a, tp = some a → H' a = H a) : TapeR A' tp K H' t := fun a e => by
  obtain ⟨xs, e1, r⟩ := h a e
  exact ⟨xs, (ht a e).trans e1, RpAll.moves m _ _ r⟩
/-- what an expression's value is -/
def RpW (Γ : Cfg) (σ : L2.St) (env : Ev) (H : Hp) (v : V) : W → Prop
  | .d x => Rp (Av Γ σ env) Γ.K H v x
  | .own xs => ∃ (i : Nat) (a : Addr), env[i]? = some (.own xs) ∧ σ[i]? = some (some (.ref a)) ∧ v = .ref a
  | .tape => ∃ a, Γ.tp = some a ∧ v = .ref a
  | _ => False
inductive RpWs (Γ : Cfg) (σ : L2.St) (env : Ev) (H : Hp) : List V → List W → Prop
  | nil : RpWs Γ σ env H [] []
  | cons {v : V} {vs : List V} {w : W} {ws : List W} : RpW Γ σ env H v w → RpWs Γ σ env H vs ws → RpWs Γ σ env H (v :: vs) (w :: ws)
/-- what may be read: good data, or a list of one's own -/
def Rb (A : AP) (K : PySem.W.Frag) (H : Hp) (v : V) (x : PyData) : Prop := Rp A K H v x ∨ ∃ a vs xs, v = .ref a ∧ x = .list xs ∧ H a = some (.lst vs) ∧ RpAll A K H vs xs
section
variable {Γ : Cfg} {σ : L2.St} {H H' : Hp} {env : Ev} {t t' : T} {v : V} {w : W} {A : AP} {K : PySem.W.Frag} {x : PyData}
theorem RpW.frame (f : Frame Γ.tp H H') (h : RpW Γ σ env H v w) : RpW Γ σ env H' v w := by
  cases w with
  | d x => exact Rp.moves (Moves.frame f fun a h => avTape h) _ _ h
  | own xs => exact h
  | tape => exact h
  | un => exact h
  | fresh _ => exact h
theorem RpWs.frame (f : Frame Γ.tp H H') : ∀ {vs : List V} {ws : List W}, RpWs Γ σ env H vs ws → RpWs Γ σ env H' vs ws
  | _, _, .nil => .nil
  | _, _, .cons a b => .cons (a.frame f) (RpWs.frame f b)
theorem Good.rb (G : Good Γ σ H env t) (h : RpW Γ σ env H v w) (e : w.dat = some x) : Rb (Av Γ σ env) Γ.K H v x := by
  cases w with
  | d y => cases e; exact .inl h
  | own xs =>
    cases e
    obtain ⟨i, a, h1, h2, rfl⟩ := h
    obtain ⟨b, vs, e1, e2, r, _⟩ := G.own i xs h1
    rw [h2] at e1; cases e1
    exact .inr ⟨a, vs, xs, rfl, rfl, e2, r⟩
  | _ => cases e
theorem Rb.dp (h : Rb A K H v x) : Dp K H v x := by
  rcases h with h | ⟨a, vs, xs, rfl, rfl, e, r⟩
  · exact Rp.dp _ _ h
  · exact .lst (.inl (.inl e)) (RpAll.dp _ _ r)
theorem Rb.plain (h : Rb A K H v x) : x.plain = true := by
  rcases h with h | ⟨a, vs, xs, rfl, rfl, e, r⟩
  · exact Rp.plain _ _ h
  · simp only [PyData.plain]; exact RpAll.plain _ _ r
theorem Rb.list {xs : List PyData} (h : Rb A K H v (.list xs)) : ∃ a vs, v = .ref a ∧ SL K H a vs ∧ RpAll A K H vs xs := by
  rcases h with h | ⟨a, vs, xs', rfl, e', e, r⟩
  · cases h with
    | lst h1 h2 => exact ⟨_, _, rfl, h1.sq, h2⟩
  · cases e'
    exact ⟨a, vs, rfl, .inl (.inl e), r⟩
theorem Rb.tuple {xs : List PyData} (h : Rb A K H v (.tuple xs)) : ∃ a vs, v = .ref a ∧ SqT K H a vs ∧ RpAll A K H vs xs := by
  rcases h with h | ⟨a, vs, xs', rfl, e', e, r⟩
  · cases h with
    | tup h1 h2 => exact ⟨_, _, rfl, h1.sq, h2⟩
  · cases e'
theorem Rb.int {i : Int} (h : Rb A K H v (.int i)) : v = .int i := by
  rcases h with h | ⟨a, vs, xs', rfl, e', e, r⟩
  · cases h; rfl
  · cases e'
theorem Rb.bool {b : Bool} (h : Rb A K H v (.bool b)) : v = .bl b := by
  rcases h with h | ⟨a, vs, xs', rfl, e', e, r⟩
  · cases h; rfl
  · cases e'
theorem Rb.str {b : Str} (h : Rb A K H v (.str b)) : v = .str b := by
  rcases h with h | ⟨a, vs, xs', rfl, e', e, r⟩
  · cases h; rfl
  · cases e'
theorem Rb.none (h : Rb A K H v .none) : v = .non := by
  rcases h with h | ⟨a, vs, xs', rfl, e', e, r⟩
  · cases h; rfl
  · cases e'
theorem Rb.seq {xs : List PyData} (h : Rb A K H v x) (e : seqOf x = some xs) : ∃ a vs, v = .ref a ∧ ((x = .list xs ∧ SL K H a vs) ∨ (x = .tuple xs ∧ SqT K H a vs)) ∧ RpAll A K H vs xs := by
  cases x with
  | list ys =>
    cases e
    obtain ⟨a, vs, e1, e2, e3⟩ := h.list
    exact ⟨a, vs, e1, .inl ⟨rfl, e2⟩, e3⟩
  | tuple ys =>
    cases e
    obtain ⟨a, vs, e1, e2, e3⟩ := h.tuple
    exact ⟨a, vs, e1, .inr ⟨rfl, e2⟩, e3⟩
  | _ => cases e
end
/-! ### what is asked behind an expression -/
def postE {α β : Type} (Γ : Cfg) (σ : L2.St) (H : Hp) (env : Ev) (P : Hp → β → α → Prop) (Q : β → Hp → Prop) : R α → Prop
  | .ok w t' => ∀ v H', Frame Γ.tp H H' → Good Γ σ H' env t' → P H' v w → Q v H'
  | .err k t' => ∀ H', Frame Γ.tp H H' → Good Γ σ H' env t' → Γ.E (Γ.ec k) none H'
  | .bad => False
/-- a value, a bool, a row of values -/
def PW1 (Γ : Cfg) (σ : L2.St) (env : Ev) : Hp → V → W → Prop := fun H v w => RpW Γ σ env H v w
def PB1 : Hp → Bool → Bool → Prop := fun _ b c => b = c
def PWs (Γ : Cfg) (σ : L2.St) (env : Ev) : Hp → List V → List W → Prop := fun H v w => RpWs Γ σ env H v w
abbrev Fn := Nat → List W → T → R W
def tE (Γ : Cfg) (F : Fn) (c : E) : TE := fun σ H Q => ∃ env t, Good Γ σ H env t ∧ postE Γ σ H env (PW1 Γ σ env) Q (ev F c env t)
def tT (Γ : Cfg) (F : Fn) (c : E) : TT := fun σ H Q => ∃ env t, Good Γ σ H env t ∧ postE Γ σ H env PB1 Q (tr (ev F c env t))
def tA (Γ : Cfg) (F : Fn) (cs : List E) : TA := fun σ H Q => ∃ env t, Good Γ σ H env t ∧ postE Γ σ H env (PWs Γ σ env) Q (evs F cs env t)
abbrev DE (X : Cx) (Γ : Cfg) (F : Fn) (e : Expr) (c : E) : Prop := PE X e (tE Γ F c)
abbrev DT (X : Cx) (Γ : Cfg) (F : Fn) (e : Expr) (c : E) : Prop := PT X e (tT Γ F c)
abbrev DA (X : Cx) (Γ : Cfg) (F : Fn) (es : List Expr) (cs : List E) : Prop := PA X es (tA Γ F cs)
section
variable {Γ : Cfg} {σ : L2.St} {H H1 : Hp} {env : Ev} {t : T}
theorem postE.mono {α β : Type} {P : Hp → β → α → Prop} {Q Q' : β → Hp → Prop} {r : R α} (h : postE Γ σ H env P Q r) (f : Frame Γ.tp H H1) (hq : ∀ v H', Q v H' → Q' v H') : postE Γ σ H1 env P Q' r := by
  cases r with
  | ok a t' => exact fun v H' f' g p => hq v H' (h v H' (f.trans f') g p)
  | err k t' => exact fun H' f' g => h H' (f.trans f') g
  | bad => exact h
/-- one thing after another -/
theorem postE.seq {α α' β β' : Type} {P : Hp → β → α → Prop} {P' : Hp → β' → α' → Prop} {Q : β' → Hp → Prop} {r : R α} {k : α → T → R α'} (h : postE Γ σ H env P' Q (r.bind k)) :
    postE Γ σ H env P (fun v H' => ∃ a t', Frame Γ.tp H H' ∧ Good Γ σ H' env t' ∧ P H' v a ∧ postE Γ σ H' env P' Q (k a t')) r := by
  cases r with
  | ok a t' => exact fun v H' f g p => ⟨a, t', f, g, p, h.mono f fun _ _ z => z⟩
  | err k t' => exact h
  | bad => exact h
theorem postE.opt {α α' β : Type} {P : Hp → β → α' → Prop} {Q : β → Hp → Prop} {o : Option α} {k : α → T → R α'} (h : postE Γ σ H env P Q ((optR o t).bind k)) : ∃ a, o = some a ∧ postE Γ σ H env P Q (k a t) := by
  cases o with
  | none => exact h.elim
  | some a => exact ⟨a, rfl, h⟩
theorem tE.of {F : Fn} {c : E} {Q : VK} {α β : Type} {P : Hp → β → α → Prop} {Q' : β → Hp → Prop} {k : W → T → R α} (G : Good Γ σ H env t) (h : postE Γ σ H env P Q' ((ev F c env t).bind k))
    (hq : ∀ v H' w t', Frame Γ.tp H H' → Good Γ σ H' env t' → RpW Γ σ env H' v w → postE Γ σ H' env P Q' (k w t') → Q v H') : tE Γ F c σ H Q :=
  ⟨env, t, G, (postE.seq (P := PW1 Γ σ env) h).mono Frame.refl fun v H' ⟨w, t', f, g, p, q⟩ => hq v H' w t' f g p q⟩
theorem tT.of {F : Fn} {c : E} {Q : Bool → Hp → Prop} {α β : Type} {P : Hp → β → α → Prop} {Q' : β → Hp → Prop} {k : Bool → T → R α} (G : Good Γ σ H env t) (h : postE Γ σ H env P Q' ((tr (ev F c env t)).bind k))
    (hq : ∀ b H' t', Frame Γ.tp H H' → Good Γ σ H' env t' → postE Γ σ H' env P Q' (k b t') → Q b H') : tT Γ F c σ H Q :=
  ⟨env, t, G, (postE.seq (P := PB1) h).mono Frame.refl fun v H' ⟨w, t', f, g, p, q⟩ => by
    have p' : v = w := p
    subst p'
    exact hq v H' t' f g q⟩
theorem tA.of {F : Fn} {cs : List E} {Q : List V → Hp → Prop} {α β : Type} {P : Hp → β → α → Prop} {Q' : β → Hp → Prop} {k : List W → T → R α} (G : Good Γ σ H env t) (h : postE Γ σ H env P Q' ((evs F cs env t).bind k))
    (hq : ∀ v H' w t', Frame Γ.tp H H' → Good Γ σ H' env t' → RpWs Γ σ env H' v w → postE Γ σ H' env P Q' (k w t') → Q v H') : tA Γ F cs σ H Q :=
  ⟨env, t, G, (postE.seq (P := PWs Γ σ env) h).mono Frame.refl fun v H' ⟨w, t', f, g, p, q⟩ => hq v H' w t' f g p q⟩
end
theorem _root_.L2.PE.to {X : Cx} {e : Expr} {t t' : TE} (h : PE X e t) (k : ∀ σ H Q, t' σ H Q → t σ H Q) : PE X e t' := ⟨fun pins s σ H Q I q => h.run pins s σ H Q I (k σ H Q q)⟩
theorem _root_.L2.PT.to {X : Cx} {e : Expr} {t t' : TT} (h : PT X e t) (k : ∀ σ H Q, t' σ H Q → t σ H Q) : PT X e t' := ⟨fun pins s σ H Q I q => h.run pins s σ H Q I (k σ H Q q)⟩
theorem _root_.L2.PA.to {X : Cx} {e : List Expr} {t t' : TA} (h : PA X e t) (k : ∀ σ H Q, t' σ H Q → t σ H Q) : PA X e t' := ⟨fun pos pins s σ H Q I q => h.run pos pins s σ H Q I (k σ H Q q)⟩
/-! ### names, constants -/
section
variable {X : Cx} {Γ : Cfg} {F : Fn} {pos : Pos}
theorem de_var {i : Nat} {x : Str} (hN : X.N[i]? = some x) (hv : Vis X.env.scope x) (hd : (x == ("__debug__" : Str)) = false) (hcd : (x == ("__classdict__" : Str)) = false) : DE X Γ F (.Name x pos) (.var i) :=
  (pe_var hN hv hd hcd).to fun σ H Q ⟨env, t, G, q⟩ => by
    show ∃ v, σ[i]? = some (some v) ∧ Q v H
    have q' : postE Γ σ H env (PW1 Γ σ env) Q (match env.getD i .un with
      | .d x => .ok (.d x) t
      | .own xs => .ok (.own xs) t
      | .tape => .ok .tape t
      | _ => .bad) := q
    have hg : ∀ w, env.getD i .un = w → w ≠ .un → env[i]? = some w := fun w e n => by
      rw [List.getD_eq_getElem?_getD] at e
      cases q : env[i]? with
      | none => rw [q] at e; exact absurd e.symm n
      | some u => rw [q] at e; simp only [Option.getD_some] at e; rw [e]
    cases hw : env.getD i .un with
    | un => rw [hw] at q'; exact q'.elim
    | d x =>
      rw [hw] at q'
      obtain ⟨v, e, r⟩ := G.dat i x (hg _ hw (by intro z; cases z))
      exact ⟨v, e, q' v H Frame.refl G r⟩
    | own xs =>
      rw [hw] at q'
      have h1 := hg _ hw (by intro z; cases z)
      obtain ⟨a, vs, e, _⟩ := G.own i xs h1
      exact ⟨_, e, q' _ H Frame.refl G ⟨i, a, h1, e, rfl⟩⟩
    | tape =>
      rw [hw] at q'
      obtain ⟨a, e1, e2⟩ := G.tpe i (hg _ hw (by intro z; cases z))
      exact ⟨_, e2, q' _ H Frame.refl G ⟨a, e1, rfl⟩⟩
    | fresh xs => rw [hw] at q'; exact q'.elim
end
end DL
/-! DL4: operators and comparisons over data. -/
namespace DL
open PySem PySem.Spec PyProof.Rows L2
/-- an operation on values that tells data of data -/
def OpD (X : Cx) (f : Value → Value → Sem Value) (g : PyData → PyData → Option PyData) : Prop :=
  ∀ (A : AP) (pins : List (Addr × Obj)) (s : Shared) (σ : L2.St) (H : Hp) (x y : V) (v u : Value) (Q : VK) (a b c : PyData), Inv X pins σ H s → (∀ p, A p → H p ≠ none) → RelV x v → RelV y u → Rb A X.K H x a → Rb A X.K H y b →
    g a b = some c → (∀ z H', Same H H' → Rp A X.K H' z c → Q z H') → wpAny (model X.prog X.w) X.A (f v u) (EP X pins σ Q) X.xe s
section
variable {X : Cx} {pins : List (Addr × Obj)} {σ : L2.St} {H : Hp} {s : Shared} {a : Addr} {xs : List V}
theorem lstRd (I : Inv X pins σ H s) (h : SL X.K H a xs) : ∃ (its : List Value) (n : Nat), Vals xs its ∧ s.heap.get? a = some { cls := .type "list", data := .seq its.toArray n } ∧ xs.length ≤ sizeLine := by
  rcases h with h | ⟨its, n, hk, hz, r⟩
  · obtain ⟨z, its, n, r, e⟩ := h.ok I.hok
    exact ⟨its, n, r, e, z⟩
  · refine ⟨its.toList, n, r, I.kIn a _ hk, ?_⟩
    have e := r.length
    simp only [Array.length_toList] at e
    omega
theorem same_upd' {p : Addr} {o : HO} (hp : H p = none) : Same H (upd H p o) := fun b u h => by rw [upd_ne (ne_of_none h hp)]; exact h
theorem rp_new_lst {A : AP} {K : PySem.W.Frag} {p : Addr} {vs : List V} {ds : List PyData} (hp : H p = none) (hA : ∀ p, A p → H p ≠ none) (r : RpAll A K H vs ds) : Rp A K (upd H p (.lst vs)) (.ref p) (.list ds) :=
  .lst (.inl ⟨fun z => hA p z hp, .inl upd_same⟩) (RpAll.moves (moves_same (same_upd' hp)) _ _ r)
theorem rp_new_tup {A : AP} {K : PySem.W.Frag} {p : Addr} {vs : List V} {ds : List PyData} (hp : H p = none) (hA : ∀ p, A p → H p ≠ none) (r : RpAll A K H vs ds) : Rp A K (upd H p (.tup vs)) (.ref p) (.tuple ds) :=
  .tup (.inl ⟨fun z => hA p z hp, .inl upd_same⟩) (RpAll.moves (moves_same (same_upd' hp)) _ _ r)
theorem inv_new_lst {p : Addr} {its : List Value} {n : Nat} {o : Obj} (I : Inv X pins σ H s) (e : o = { cls := .type "list", data := .seq its.toArray n }) (r : Vals xs its) (hz : xs.length ≤ sizeLine) (hp : p = s.heap.objs.size) (t : Nat) :
    Inv X pins σ (upd H p (.lst xs)) { s with heap := s.heap.push o, toks := t } := by
  subst hp
  subst e
  exact I.laid (fun b o q => Heap.get?_push_of_some _ q) (Nat.le_refl _) ⟨hz, its, n, r, Heap.get?_push_size _ rfl⟩
end
theorem lenOk_line {n : Nat} (h : lenOk n = true) : n ≤ sizeLine := by
  rw [sizeLine_eq]; exact of_decide_eq_true h
theorem mulOk_ok {i j : Int} (h : mulOk i j = true) : IntMulOk i j := by
  unfold mulOk at h
  rw [Bool.or_eq_true, Bool.or_eq_true] at h
  rcases h with (h | h) | h
  · exact CMul.ok (.inl (by have := of_decide_eq_true h; constructor <;> omega))
  · exact CMul.ok (.inr (by have := of_decide_eq_true h; constructor <;> omega))
  · exact CMulW.ok (show i.natAbs.log2 + j.natAbs.log2 < 1000000 from of_decide_eq_true h)
section
variable {X : Cx}
theorem od_int {op : Operator} {o : Bop} (h : ∀ i j k, opInt o i j = some k → ∀ (pins : List (Addr × Obj)) (s : Shared) (σ : L2.St) (H : Hp) (v u : Value) (Q : VK), Inv X pins σ H s → RelV (.int i) v → RelV (.int j) u → Q (.int k) H → wpAny (model X.prog X.w) X.A (binaryOp op v u) (EP X pins σ Q) X.xe s)
    (ho : ∀ x y, (∀ i j, ¬ (x = .int i ∧ y = .int j)) → binD o x y = none) : OpD X (binaryOp op) (binD o) := by
  intro A pins s σ H x y v u Q a b c I hA rx ry ra rb hg q
  by_cases hx : ∃ i j, a = .int i ∧ b = .int j
  · obtain ⟨i, j, rfl, rfl⟩ := hx
    obtain rfl := ra.int
    obtain rfl := rb.int
    have hg' : (opInt o i j).map PyData.int = some c := hg
    cases e : opInt o i j with
    | none => rw [e] at hg'; cases hg'
    | some k =>
      rw [e] at hg'
      cases hg'
      exact h i j k e pins s σ H v u Q I rx ry (q _ H (Same.refl H) (.int k))
  · rw [ho a b fun i j z => hx ⟨i, j, z⟩] at hg
    cases hg
theorem ints_only {o : Bop} (h1 : o ≠ .add) (h2 : o ≠ .mul) (x y : PyData) (hx : ∀ i j, ¬ (x = .int i ∧ y = .int j)) : binD o x y = none := by
  cases x <;> cases y <;> first | rfl | (cases o <;> first | rfl | exact absurd rfl h1 | exact absurd rfl h2) | (exact absurd ⟨rfl, rfl⟩ (hx _ _))
theorem od_sub : OpD X (binaryOp .Sub) (binD .sub) := od_int (fun i j k e pins s σ H v u Q I rx ry q => by
  cases e
  exact op_sub pins s σ H _ _ v u Q I rx ry ⟨i, j, rfl, rfl, q⟩) (ints_only (by decide) (by decide))
theorem od_fdiv : OpD X (binaryOp .FloorDiv) (binD .fdiv) := od_int (fun i j k e pins s σ H v u Q I rx ry q => by
  have e : (if divOk j = true then some (i / j) else none) = some k := e
  split at e
  · rename_i hd
    cases e
    unfold divOk at hd
    rw [Bool.and_eq_true, Bool.or_eq_true] at hd
    rcases hd.2 with h | h
    · exact op_fdiv pins s σ H _ _ v u Q I rx ry ⟨i, j, rfl, rfl, ⟨of_decide_eq_true hd.1, of_decide_eq_true h⟩, q⟩
    · exact op_fdivW pins s σ H _ _ v u Q I rx ry ⟨i, j, rfl, rfl, ⟨of_decide_eq_true hd.1, of_decide_eq_true h⟩, q⟩
  · cases e) (ints_only (by decide) (by decide))
theorem od_mod : OpD X (binaryOp .Mod) (binD .mod) := od_int (fun i j k e pins s σ H v u Q I rx ry q => by
  have e : (if decide (0 < j) = true then some (i % j) else none) = some k := e
  split at e
  · rename_i hd
    cases e
    exact op_mod pins s σ H _ _ v u Q I rx ry ⟨i, j, rfl, rfl, of_decide_eq_true hd, q⟩
  · cases e) (ints_only (by decide) (by decide))
theorem powOk_c {i j : Int} (h : powOk i j = true) : CPow i j := by
  unfold powOk at h
  rw [Bool.and_eq_true, Bool.and_eq_true] at h
  exact ⟨of_decide_eq_true h.1.1, of_decide_eq_true h.1.2, by have := of_decide_eq_true h.2; omega⟩
theorem od_pow : OpD X (binaryOp .Pow) (binD .pow) := od_int (fun i j k e pins s σ H v u Q I rx ry q => by
  have e : (if powOk i j = true then some (i ^ j.toNat) else none) = some k := e
  split at e
  · rename_i hd
    cases e
    exact op_pow pins s σ H _ _ v u Q I rx ry ⟨i, j, rfl, rfl, powOk_c hd, q⟩
  · cases e) (ints_only (by decide) (by decide))
theorem od_shl : OpD X (binaryOp .LShift) (binD .shl) := od_int (fun i j k e pins s σ H v u Q I rx ry q => by
  have e : (if powOk i j = true then some (i * 2 ^ j.toNat) else none) = some k := e
  split at e
  · rename_i hd
    cases e
    exact op_shl pins s σ H _ _ v u Q I rx ry ⟨i, j, rfl, rfl, powOk_c hd, q⟩
  · cases e) (ints_only (by decide) (by decide))
theorem od_shr : OpD X (binaryOp .RShift) (binD .shr) := od_int (fun i j k e pins s σ H v u Q I rx ry q => by
  have e : (if decide (0 ≤ j) = true then some (i / 2 ^ j.toNat) else none) = some k := e
  split at e
  · rename_i hd
    cases e
    exact op_shr pins s σ H _ _ v u Q I rx ry ⟨i, j, rfl, rfl, of_decide_eq_true hd, q⟩
  · cases e) (ints_only (by decide) (by decide))
theorem od_and : OpD X (binaryOp .BitAnd) (binD .band) := od_int (fun i j k e pins s σ H v u Q I rx ry q => by
  cases e
  exact op_and pins s σ H _ _ v u Q I rx ry ⟨i, j, rfl, rfl, q⟩) (ints_only (by decide) (by decide))
theorem od_or : OpD X (binaryOp .BitOr) (binD .bor) := od_int (fun i j k e pins s σ H v u Q I rx ry q => by
  cases e
  exact op_or pins s σ H _ _ v u Q I rx ry ⟨i, j, rfl, rfl, q⟩) (ints_only (by decide) (by decide))
theorem od_xor : OpD X (binaryOp .BitXor) (binD .bxor) := od_int (fun i j k e pins s σ H v u Q I rx ry q => by
  cases e
  exact op_xor pins s σ H _ _ v u Q I rx ry ⟨i, j, rfl, rfl, q⟩) (ints_only (by decide) (by decide))
theorem od_add : OpD X (binaryOp .Add) (binD .add) := by
  intro A pins s σ H x y v u Q a b c I hA rx ry ra rb hg q
  cases a with
  | int i =>
    cases b with
    | int j =>
      obtain rfl := ra.int
      obtain rfl := rb.int
      cases hg
      exact op_add pins s σ H _ _ v u Q I rx ry ⟨i, j, rfl, rfl, q _ H (Same.refl H) (.int _)⟩
    | _ => cases hg
  | tuple xs =>
    cases b with
    | tuple ys =>
      have hg' : (if lenOk (xs.length + ys.length) then some (PyData.tuple (xs ++ ys)) else none) = some c := hg
      split at hg'
      · rename_i hl
        cases hg'
        obtain ⟨p1, vs, rfl, s1, r1⟩ := ra.tuple
        obtain ⟨p2, ws, rfl, s2, r2⟩ := rb.tuple
        have h1 := r1.length
        have h2 := r2.length
        refine op_catA pins s σ H _ _ v u Q I rx ry ⟨p1, p2, vs, ws, rfl, rfl, s1, s2, by rw [h1, h2]; exact lenOk_line hl, fun e => ?_, fun e e2 => ?_, fun _ _ p hp => ?_⟩
        · subst e
          have e0 : xs = [] := List.eq_nil_of_length_eq_zero h1.symm
          subst e0
          refine q _ H (Same.refl H) ?_
          rw [List.nil_append]
          rcases rb with rb | ⟨_, _, _, _, z, _⟩
          · exact rb
          · cases z
        · subst e2
          have e0 : ys = [] := List.eq_nil_of_length_eq_zero h2.symm
          subst e0
          refine q _ H (Same.refl H) ?_
          rw [List.append_nil]
          rcases ra with ra | ⟨_, _, _, _, z, _⟩
          · exact ra
          · cases z
        · exact q _ _ (same_upd' hp) (rp_new_tup hp hA (r1.append r2))
      · cases hg'
    | _ => cases hg
  | list xs =>
    cases b with
    | list ys =>
      have hg' : (if lenOk (xs.length + ys.length) then some (PyData.list (xs ++ ys)) else none) = some c := hg
      split at hg'
      · rename_i hl
        cases hg'
        obtain ⟨p1, vs, rfl, s1, r1⟩ := ra.list
        obtain ⟨p2, ws, rfl, s2, r2⟩ := rb.list
        have h1 := r1.length
        have h2 := r2.length
        cases rx
        cases ry
        obtain ⟨its, n, rv, e, _⟩ := lstRd I s1
        obtain ⟨its2, n2, rv2, e2, _⟩ := lstRd I s2
        have l1 := rv.length
        have l2 := rv2.length
        have hz := lenOk_line hl
        refine PySem.P.add_list e e2 ?_ (by rw [List.size_toArray, List.size_toArray]; omega)
        have ea : its.toArray ++ its2.toArray = (its ++ its2).toArray := by simp
        rw [ea]
        refine ⟨.ref s.heap.objs.size, _, inv_new_lst (n := 0) I rfl (rv.append rv2) (by rw [List.length_append]; omega) rfl s.toks, rfl, ?_⟩
        exact q _ _ (same_upd' (I.hok.fresh (Nat.le_refl _))) (rp_new_lst (I.hok.fresh (Nat.le_refl _)) hA (r1.append r2))
      · cases hg'
    | _ => cases hg
  | _ => cases hg
theorem RpAll.flatRep {A : AP} {K : PySem.W.Frag} {H : Hp} {vs : List V} {ds : List PyData} (r : RpAll A K H vs ds) : ∀ n : Nat, RpAll A K H (List.replicate n vs).flatten (List.replicate n ds).flatten
  | 0 => .nil
  | n + 1 => by
    rw [List.replicate_succ, List.replicate_succ, List.flatten_cons, List.flatten_cons]
    exact r.append (RpAll.flatRep r n)
theorem od_mul : OpD X (binaryOp .Mult) (binD .mul) := by
  intro A pins s σ H x y v u Q a b c I hA rx ry ra rb hg q
  cases a with
  | int i =>
    cases b with
    | int j =>
      obtain rfl := ra.int
      obtain rfl := rb.int
      have hg' : (if mulOk i j then some (i * j) else none).map PyData.int = some c := hg
      split at hg'
      · rename_i hm
        cases hg'
        obtain ⟨t, rfl⟩ := rx
        obtain ⟨t', rfl⟩ := ry
        exact mul_int ⟨.int (i * j), H, I.tok _, ⟨_, rfl⟩, q _ H (Same.refl H) (.int _)⟩ (mulOk_ok hm)
      · cases hg'
    | _ => cases hg
  | tuple xs =>
    cases b with
    | int k =>
      have hg' : (if decide (2 ≤ k) && decide (k ≤ 1000) && decide (xs.length ≤ 1000) && !xs.isEmpty then some (PyData.tuple (List.replicate k.toNat xs).flatten) else none) = some c := hg
      split at hg'
      · rename_i hc
        cases hg'
        obtain ⟨p1, vs, rfl, s1, r1⟩ := ra.tuple
        obtain rfl := rb.int
        have h1 := r1.length
        rw [Bool.and_eq_true, Bool.and_eq_true, Bool.and_eq_true, decide_eq_true_eq, decide_eq_true_eq, decide_eq_true_eq, Bool.not_eq_true'] at hc
        refine op_repT pins s σ H _ _ v u Q I rx ry ⟨p1, k, vs, rfl, rfl, s1, fun e => ?_, hc.1.1.1, hc.1.1.2, by rw [h1]; exact hc.1.2, fun p hp => ?_⟩
        · subst e
          have e0 : xs = [] := List.eq_nil_of_length_eq_zero h1.symm
          rw [e0] at hc
          exact absurd hc.2 (by decide)
        · exact q _ _ (same_upd' hp) (rp_new_tup hp hA (r1.flatRep _))
      · cases hg'
    | _ => cases hg
  | list xs =>
    cases b with
    | int k =>
      have hg' : (if lenOk (xs.length * k.toNat) && decide (-1000000 < k) && decide (k < 1000000) then some (PyData.list (List.replicate k.toNat xs).flatten) else none) = some c := hg
      split at hg'
      · rename_i hc
        cases hg'
        obtain ⟨l, vs, rfl, s1, r1⟩ := ra.list
        obtain rfl := rb.int
        have h1 := r1.length
        rw [Bool.and_eq_true, Bool.and_eq_true, decide_eq_true_eq, decide_eq_true_eq] at hc
        have hz := lenOk_line hc.1.1
        cases rx
        obtain ⟨t, rfl⟩ := ry
        obtain ⟨its, n, rv, e, _⟩ := lstRd I s1
        have hl := rv.length
        have hlen : its.toArray.size * k.toNat ≤ sizeLine := by rw [List.size_toArray, ← hl, h1]; exact hz
        have hcap : ¬ its.toArray.size * k.toNat > (2 ^ 63 - 1) / 8 := by
          have : (sizeLine : Nat) ≤ (2 ^ 63 - 1) / 8 := by decide
          omega
        have hfit : ¬ (!Builtin.List.listFitsIndex k) = true := by
          rw [fitsIndex_both (by omega) (by omega)]
          exact Bool.false_ne_true
        have hlong : ¬ Builtin.List.listTooLong (its.toArray.size * k.toNat) = true := by
          rw [notLongL hlen]
          exact Bool.false_ne_true
        have hnew : List.foldl (fun x1 x2 => x1 ++ x2) #[] (List.replicate (if its.toArray.isEmpty = true then 0 else k.toNat) its.toArray) = (List.replicate k.toNat its).flatten.toArray := by
          have f0 : ∀ m : Nat, List.foldl (fun x1 x2 => x1 ++ x2) #[] (List.replicate m its.toArray) = (List.replicate m its).flatten.toArray := fun m => by
            have := foldl_rep its m []
            rw [List.nil_append] at this
            exact this
          rw [f0]
          cases its with
          | nil => simp
          | cons a r' => rw [if_neg (by simp)]
        refine wpAny_binaryOp_repeat_ref (T := "list") (U := "int") (by decide) ⟨_, e, rfl⟩ (fun s' => typeIs_int s' k t) noFill_list_mul F.fills_int_mul F.slot_int_rmul repeat_list F.slot_int_index.lookup
          (call_meets F.slot_int_rmul (typeIs_int s k t) F.entry_int_rmul (F.args_int_rmul_2 _ _) (int___rmul___int_list k t l its.toArray n)
            ⟨e, rfl, ⟨_, e, rfl⟩, call_meets F.slot_list_mul ⟨_, e, rfl⟩ F.entry_list_mul (F.args_list_mul_2 _ _) (AutoListH.list___mul___list_int_3 l its.toArray n k t hfit hcap hlong) ⟨e, ?_⟩⟩)
        rw [hnew]
        refine ⟨.ref s.heap.objs.size, _, inv_new_lst (n := 0) I rfl (rv.rep k.toNat) (by rw [PyProof.Rows.lm_len_rep_flat, Nat.mul_comm, h1]; exact hz) rfl s.toks, rfl, ?_⟩
        exact q _ _ (same_upd' (I.hok.fresh (Nat.le_refl _))) (rp_new_lst (I.hok.fresh (Nat.le_refl _)) hA (r1.flatRep _))
      · cases hg'
    | _ => cases hg
  | _ => cases hg
/-! ### comparisons -/
/-- there is room for the machine's own calls -/
abbrev Rm (X : Cx) : Prop := X.A.units + 128 < cLine
theorem shal_le {a b : PyData} (h : shal a b = true) : min a.depth b.depth ≤ 40 := of_decide_eq_true h
/-- a comparison of data -/
def CmpOk (X : Cx) (op : CmpOp) (o : Cop) : Prop :=
  ∀ (A : AP) (pins : List (Addr × Obj)) (s : Shared) (σ : L2.St) (H : Hp) (x y : V) (v u : Value) (Q : VK) (a b : PyData) (c : Bool), Inv X pins σ H s → RelV x v → RelV y u → Rb A X.K H x a → Rb A X.K H y b →
    cmpD o a b = some c → Q (.bl c) H → wpAny (model X.prog X.w) X.A (compareOp op v u) (EP X pins σ Q) X.xe s
theorem rb_reads {A : AP} {pins : List (Addr × Obj)} {σ : L2.St} {H : Hp} {s : Shared} {x : V} {v : Value} {a : PyData} (I : Inv X pins σ H s) (h : Rb A X.K H x a) (r : RelV x v) : ∃ as, Reads s.heap v a as := Dp.reads I a x v h.dp r
theorem some_map_not {o : Option Bool} {c : Bool} (h : o.map (!·) = some c) : o = some (!c) := by
  cases o with
  | none => cases h
  | some d => cases h; simp
theorem eqD_of {a b : PyData} {c : Bool} (h : eqD a b = some c) : min a.depth b.depth ≤ 40 ∧ PyData.eqv a b = c := by
  unfold eqD at h
  split at h
  · rename_i hs
    cases h
    exact ⟨shal_le hs, rfl⟩
  · cases h
theorem co_eq (hu : Rm X) : CmpOk X .Eq .eq := fun A pins s σ H x y v u Q a b c I rx ry ra rb hg q => by
  obtain ⟨h1, rfl⟩ := eqD_of hg
  obtain ⟨as, r1⟩ := rb_reads I ra rx
  obtain ⟨bs, r2⟩ := rb_reads I rb ry
  exact SeqAt.eq_plain r1 r2 ra.plain rb.plain (by have := hu; omega) ⟨.bl _, H, I, rfl, q⟩
theorem co_ne (hu : Rm X) : CmpOk X .NotEq .ne := fun A pins s σ H x y v u Q a b c I rx ry ra rb hg q => by
  obtain ⟨h1, h2⟩ := eqD_of (some_map_not hg)
  obtain ⟨as, r1⟩ := rb_reads I ra rx
  obtain ⟨bs, r2⟩ := rb_reads I rb ry
  refine SeqAt.ne_plain r1 r2 ra.plain rb.plain (by have := hu; omega) ⟨.bl _, H, I, rfl, ?_⟩
  rw [h2, Bool.not_not]
  exact q
theorem alike_cond {a b : PyData} (h : (PySem.W.alike a b && !isNoneD a && shal a b) = true) : PySem.W.alike a b = true ∧ a ≠ .none ∧ min a.depth b.depth ≤ 40 := by
  rw [Bool.and_eq_true, Bool.and_eq_true] at h
  refine ⟨h.1.1, fun e => ?_, shal_le h.2⟩
  rw [e] at h
  exact absurd h.1.2 (by decide)
theorem ltD_of {a b : PyData} {c : Bool} (h : ltD a b = some c) : (PySem.W.alike a b = true ∧ a ≠ .none ∧ min a.depth b.depth ≤ 40) ∧ PySem.W.dataLt a b = c := by
  unfold ltD at h
  split at h
  · rename_i hs
    cases h
    exact ⟨alike_cond hs, rfl⟩
  · cases h
theorem co_lt (hu : Rm X) : CmpOk X .Lt .lt := fun A pins s σ H x y v u Q a b c I rx ry ra rb hg q => by
  obtain ⟨⟨h1, h2, h3⟩, rfl⟩ := ltD_of hg
  obtain ⟨as, r1⟩ := rb_reads I ra rx
  obtain ⟨bs, r2⟩ := rb_reads I rb ry
  exact PySem.W.lt_data r1 r2 h1 h2 (by have := hu; omega) ⟨.bl _, H, I, rfl, q⟩
theorem co_ge (hu : Rm X) : CmpOk X .GtE .ge := fun A pins s σ H x y v u Q a b c I rx ry ra rb hg q => by
  obtain ⟨⟨h1, h2, h3⟩, h4⟩ := ltD_of (some_map_not hg)
  obtain ⟨as, r1⟩ := rb_reads I ra rx
  obtain ⟨bs, r2⟩ := rb_reads I rb ry
  refine PySem.W.ge_data r1 r2 h1 h2 (by have := hu; omega) ⟨.bl _, H, I, rfl, ?_⟩
  rw [h4, Bool.not_not]
  exact q
theorem co_gt (hu : Rm X) : CmpOk X .Gt .gt := fun A pins s σ H x y v u Q a b c I rx ry ra rb hg q => by
  have hg' : (if PySem.W.alike a b && !isNoneD a && shal a b then some (PySem.W.dataLt b a) else none) = some c := hg
  split at hg'
  · rename_i hs
    cases hg'
    obtain ⟨h1, h2, h3⟩ := alike_cond hs
    obtain ⟨as, r1⟩ := rb_reads I ra rx
    obtain ⟨bs, r2⟩ := rb_reads I rb ry
    exact PySem.W.gt_data r1 r2 h1 h2 (by have := hu; omega) ⟨.bl _, H, I, rfl, q⟩
  · cases hg'
theorem co_le (hu : Rm X) : CmpOk X .LtE .le := fun A pins s σ H x y v u Q a b c I rx ry ra rb hg q => by
  have hg' : (if PySem.W.alike a b && !isNoneD a && shal a b then some (!PySem.W.dataLt b a) else none) = some c := hg
  split at hg'
  · rename_i hs
    cases hg'
    obtain ⟨h1, h2, h3⟩ := alike_cond hs
    obtain ⟨as, r1⟩ := rb_reads I ra rx
    obtain ⟨bs, r2⟩ := rb_reads I rb ry
    exact PySem.W.le_data r1 r2 h1 h2 (by have := hu; omega) ⟨.bl _, H, I, rfl, q⟩
  · cases hg'
theorem inD_of {x y : PyData} {c : Bool} (h : inD x y = some c) : ∃ ys, (y = .list ys ∨ y = .tuple ys) ∧ min (PyData.depthAll ys) x.depth ≤ 40 ∧ (ys.any fun z => PyData.eqv z x) = c := by
  cases y with
  | list ys =>
    have h' : (if decide (min (PyData.depthAll ys) x.depth ≤ 40) then some (ys.any fun z => PyData.eqv z x) else none) = some c := h
    split at h'
    · rename_i hd
      cases h'
      exact ⟨ys, .inl rfl, of_decide_eq_true hd, rfl⟩
    · cases h'
  | tuple ys =>
    have h' : (if decide (min (PyData.depthAll ys) x.depth ≤ 40) then some (ys.any fun z => PyData.eqv z x) else none) = some c := h
    split at h'
    · rename_i hd
      cases h'
      exact ⟨ys, .inr rfl, of_decide_eq_true hd, rfl⟩
    · cases h'
  | _ => cases h
theorem co_in (hu : Rm X) : CmpOk X .In .isin := fun A pins s σ H x y v u Q a b c I rx ry ra rb hg q => by
  obtain ⟨ys, h1, h2, h3⟩ := inD_of (show inD a b = some c from hg)
  obtain ⟨as, r1⟩ := rb_reads I ra rx
  obtain ⟨bs, r2⟩ := rb_reads I rb ry
  have hp := rb.plain
  rcases h1 with rfl | rfl
  · exact SeqAt.in_list_data r2 r1 (by simpa only [PyData.plain] using hp) ra.plain (by have := hu; omega) ⟨.bl _, H, I, rfl, by rw [h3]; exact q⟩
  · exact SeqAt.in_tuple_data r2 r1 (by simpa only [PyData.plain] using hp) ra.plain (by have := hu; omega) ⟨.bl _, H, I, rfl, by rw [h3]; exact q⟩
theorem co_notin (hu : Rm X) : CmpOk X .NotIn .notin := fun A pins s σ H x y v u Q a b c I rx ry ra rb hg q => by
  obtain ⟨ys, h1, h2, h3⟩ := inD_of (some_map_not (show (inD a b).map (!·) = some c from hg))
  obtain ⟨as, r1⟩ := rb_reads I ra rx
  obtain ⟨bs, r2⟩ := rb_reads I rb ry
  have hp := rb.plain
  rcases h1 with rfl | rfl
  · exact SeqAt.notIn_list_data r2 r1 (by simpa only [PyData.plain] using hp) ra.plain (by have := hu; omega) ⟨.bl _, H, I, rfl, by rw [h3, Bool.not_not]; exact q⟩
  · exact SeqAt.notIn_tuple_data r2 r1 (by simpa only [PyData.plain] using hp) ra.plain (by have := hu; omega) ⟨.bl _, H, I, rfl, by rw [h3, Bool.not_not]; exact q⟩
theorem isD_is {A : AP} {K : PySem.W.Frag} {H : Hp} {x y : V} {v u : Value} {a b : PyData} {c : Bool} (ra : Rb A K H x a) (rb : Rb A K H y b) (rx : RelV x v) (ry : RelV y u) (hg : isD a b = some c) :
    PySem.plainIs v u = true ∧ (c = true → v = u) ∧ (c = false → v ≠ u) := by
  cases a with
  | none =>
    obtain rfl := ra.none
    cases rx
    cases b with
    | none => obtain rfl := rb.none; cases ry; cases hg; exact ⟨rfl, fun _ => rfl, fun z => (by cases z)⟩
    | bool k => obtain rfl := rb.bool; cases ry; cases hg; exact ⟨rfl, fun z => (by cases z), fun _ z => (by cases z)⟩
    | _ => cases hg
  | bool j =>
    obtain rfl := ra.bool
    cases rx
    cases b with
    | none => obtain rfl := rb.none; cases ry; cases hg; exact ⟨rfl, fun z => (by cases z), fun _ z => (by cases z)⟩
    | bool k =>
      obtain rfl := rb.bool
      cases ry
      have hg' : some (j == k) = some c := hg
      cases hg'
      exact ⟨rfl, fun z => (by rw [eq_of_beq z]), fun z e => (by cases e; simp at z)⟩
    | _ => cases hg
  | int i =>
    obtain rfl := ra.int
    obtain ⟨t, rfl⟩ := rx
    cases b with
    | none => obtain rfl := rb.none; cases ry; cases hg; exact ⟨rfl, fun z => (by cases z), fun _ z => (by cases z)⟩
    | bool k => obtain rfl := rb.bool; cases ry; cases hg; exact ⟨rfl, fun z => (by cases z), fun _ z => (by cases z)⟩
    | _ => cases hg
  | str i =>
    obtain rfl := ra.str
    obtain ⟨t, rfl⟩ := rx
    cases b with
    | none => obtain rfl := rb.none; cases ry; cases hg; exact ⟨rfl, fun z => (by cases z), fun _ z => (by cases z)⟩
    | bool k => obtain rfl := rb.bool; cases ry; cases hg; exact ⟨rfl, fun z => (by cases z), fun _ z => (by cases z)⟩
    | _ => cases hg
  | list i =>
    obtain ⟨p, vs, rfl, _⟩ := ra.list
    cases rx
    cases b with
    | none => obtain rfl := rb.none; cases ry; cases hg; exact ⟨rfl, fun z => (by cases z), fun _ z => (by cases z)⟩
    | bool k => obtain rfl := rb.bool; cases ry; cases hg; exact ⟨rfl, fun z => (by cases z), fun _ z => (by cases z)⟩
    | _ => cases hg
  | tuple i =>
    obtain ⟨p, vs, rfl, _⟩ := ra.tuple
    cases rx
    cases b with
    | none => obtain rfl := rb.none; cases ry; cases hg; exact ⟨rfl, fun z => (by cases z), fun _ z => (by cases z)⟩
    | bool k => obtain rfl := rb.bool; cases ry; cases hg; exact ⟨rfl, fun z => (by cases z), fun _ z => (by cases z)⟩
    | _ => cases hg
  | dict i => exact absurd ra.plain (by simp [PyData.plain])
theorem co_is : CmpOk X .Is .is := fun A pins s σ H x y v u Q a b c I rx ry ra rb hg q => by
  obtain ⟨hu, h1, h2⟩ := isD_is ra rb rx ry hg
  have hz : EP X pins σ Q (.bool c) s := ⟨.bl c, H, I, rfl, q⟩
  cases c with
  | true =>
    obtain rfl := h1 rfl
    exact wpAny_is_self hu hz
  | false =>
    have n := h2 rfl
    exact wpAny_is_other hu n hz
theorem co_isnot : CmpOk X .IsNot .isnot := fun A pins s σ H x y v u Q a b c I rx ry ra rb hg q => by
  obtain ⟨hu, h1, h2⟩ := isD_is ra rb rx ry (some_map_not (show (isD a b).map (!·) = some c from hg))
  have hz : EP X pins σ Q (.bool c) s := ⟨.bl c, H, I, rfl, q⟩
  cases c with
  | false =>
    obtain rfl := h1 rfl
    exact wpAny_isNot_self hu hz
  | true =>
    have n := h2 rfl
    exact wpAny_isNot_other hu n hz
end
end DL
/-! DL5: expressions. -/
namespace DL
open PySem PySem.Spec PyProof.Rows L2
section
variable {X : Cx} {Γ : Cfg} {F : Fn} {pos : Pos} {a b c : Expr} {ca cb cc : E}
theorem bind2 {x y : W} {g : PyData → PyData → Option α} {c : α} (h : (x.dat.bind fun p => y.dat.bind fun q => g p q) = some c) : ∃ p q, x.dat = some p ∧ y.dat = some q ∧ g p q = some c := by
  cases hx : x.dat with
  | none => rw [hx] at h; cases h
  | some p =>
    rw [hx] at h
    cases hy : y.dat with
    | none => rw [hy] at h; cases h
    | some q => rw [hy] at h; exact ⟨p, q, rfl, rfl, h⟩
theorem de_bin {op : Operator} {o : Bop} (hK : Γ.K = X.K) (ho : OpD X (binaryOp op) (binD o)) (ha : DE X Γ F a ca) (hb : DE X Γ F b cb) : DE X Γ F (.BinOp a op b pos) (.bin o ca cb) := by
  refine ⟨fun pins s σ H Q I ⟨env, t, G, q⟩ => ?_⟩
  refine wpAny_BinOp (binT ha hb I (R := fun x y H2 => ∃ (A : AP) (pa pb c : PyData), (∀ p, A p → H2 p ≠ none) ∧ Rb A X.K H2 x pa ∧ Rb A X.K H2 y pb ∧ binD o pa pb = some c ∧ ∀ z H', Same H2 H' → Rp A X.K H' z c → Q z H') ?_ ?_)
  · refine tE.of G q fun x H1 wa t1 f1 G1 r1 q1 => ?_
    refine tE.of G1 q1 fun y H2 wb t2 f2 G2 r2 q2 => ?_
    obtain ⟨c, e, q3⟩ := q2.opt
    obtain ⟨pa, pb, ea, eb, e'⟩ := bind2 e
    rw [← hK]
    exact ⟨Av Γ σ env, pa, pb, c, G2.avHas, G2.rb (r1.frame f2) ea, G2.rb r2 eb, e', fun z H' sm rz => q3 z H' (same_frame sm) (G2.same sm) rz⟩
  · intro v u s2 x y H2 I2 rx ry ⟨A, pa, pb, c, hA, ra, rb, e, k⟩
    exact ho A pins s2 σ H2 x y v u Q pa pb c I2 hA rx ry ra rb e k
theorem de_cmp {op : CmpOp} {o : Cop} (hK : Γ.K = X.K) (ho : CmpOk X op o) (ha : DE X Γ F a ca) (hb : DE X Γ F b cb) (hm : behindInMarks op b = false) : DE X Γ F (.Compare a [op] [b] pos) (.cmp o ca cb) := by
  refine ⟨fun pins s σ H Q I ⟨env, t, G, q⟩ => ?_⟩
  refine wpAny_Compare1 (binT ha hb I (R := fun x y H2 => ∃ (A : AP) (pa pb : PyData) (c : Bool), Rb A X.K H2 x pa ∧ Rb A X.K H2 y pb ∧ cmpD o pa pb = some c ∧ Q (.bl c) H2) ?_ ?_) hm
  · refine tE.of G q fun x H1 wa t1 f1 G1 r1 q1 => ?_
    refine tE.of G1 q1 fun y H2 wb t2 f2 G2 r2 q2 => ?_
    obtain ⟨c, e, q3⟩ := q2.opt
    obtain ⟨pa, pb, ea, eb, e'⟩ := bind2 e
    rw [← hK]
    exact ⟨Av Γ σ env, pa, pb, c, G2.rb (r1.frame f2) ea, G2.rb r2 eb, e', q3 (.bl c) H2 Frame.refl G2 (.bl c)⟩
  · intro v u s2 x y H2 I2 rx ry ⟨A, pa, pb, c, ra, rb, e, k⟩
    exact ho A pins s2 σ H2 x y v u Q pa pb c I2 rx ry ra rb e k
/-- the test's own reading of a value's truth -/
theorem tr_ok {r : R W} {k : Bool} {t : T} (h : tr r = .ok k t) : ∃ w, r = .ok w t ∧ w.truth = some k := by
  cases r with
  | ok w t' =>
    have h' : optR w.truth t' = .ok k t := h
    cases hw : w.truth with
    | none => rw [hw] at h'; cases h'
    | some b => rw [hw] at h'; cases h'; exact ⟨w, rfl, hw⟩
  | err => cases h
  | bad => cases h
theorem dt_cmp {op : CmpOp} {o : Cop} (hK : Γ.K = X.K) (ho : CmpOk X op o) (ha : DE X Γ F a ca) (hb : DE X Γ F b cb) (hm : behindInMarks op b = false) : DT X Γ F (.Compare a [op] [b] pos) (.cmp o ca cb) := by
  refine ⟨fun pins s σ H Q I ⟨env, t, G, q⟩ => ?_⟩
  have q' : postE Γ σ H env PB1 Q ((ev F ca env t).bind fun x t1 => (ev F cb env t1).bind fun y t2 => (optR (x.dat.bind fun p => y.dat.bind fun q => cmpD o p q) t2).bind fun r t3 => .ok r t3) := by
    have e : tr (ev F (.cmp o ca cb) env t) = ((ev F ca env t).bind fun x t1 => (ev F cb env t1).bind fun y t2 => (optR (x.dat.bind fun p => y.dat.bind fun q => cmpD o p q) t2).bind fun r t3 => R.ok r t3) := by
      show tr ((ev F ca env t).bind fun x t1 => (ev F cb env t1).bind fun y t2 => (optR (x.dat.bind fun p => y.dat.bind fun q => cmpD o p q) t2).bind fun r t3 => .ok (.d (.bool r)) t3) = _
      cases ev F ca env t with
      | ok x t1 =>
        show tr ((ev F cb env t1).bind fun y t2 => (optR (x.dat.bind fun p => y.dat.bind fun q => cmpD o p q) t2).bind fun r t3 => .ok (.d (.bool r)) t3) = _
        cases hb : ev F cb env t1 with
        | ok y t2 =>
          show tr ((optR (x.dat.bind fun p => y.dat.bind fun q => cmpD o p q) t2).bind fun r t3 => .ok (.d (.bool r)) t3) = (ev F cb env t1).bind fun y t2 => (optR (x.dat.bind fun p => y.dat.bind fun q => cmpD o p q) t2).bind fun r t3 => R.ok r t3
          rw [hb]
          show _ = ((optR (x.dat.bind fun p => y.dat.bind fun q => cmpD o p q) t2).bind fun r t3 => R.ok r t3)
          cases (x.dat.bind fun p => y.dat.bind fun q => cmpD o p q) <;> rfl
        | err k t2 => show _ = (ev F cb env t1).bind _; rw [hb]; rfl
        | bad => show _ = (ev F cb env t1).bind _; rw [hb]; rfl
      | err => rfl
      | bad => rfl
    rw [← e]
    exact q
  refine wpAny_isTrue_Compare1 (binT ha hb I (R := fun x y H2 => ∃ (A : AP) (pa pb : PyData) (c : Bool), Rb A X.K H2 x pa ∧ Rb A X.K H2 y pb ∧ cmpD o pa pb = some c ∧ Q c H2) ?_ ?_) hm
  · refine tE.of G q' fun x H1 wa t1 f1 G1 r1 q1 => ?_
    refine tE.of G1 q1 fun y H2 wb t2 f2 G2 r2 q2 => ?_
    obtain ⟨c, e, q3⟩ := q2.opt
    obtain ⟨pa, pb, ea, eb, e'⟩ := bind2 e
    rw [← hK]
    exact ⟨Av Γ σ env, pa, pb, c, G2.rb (r1.frame f2) ea, G2.rb r2 eb, e', q3 c H2 Frame.refl G2 rfl⟩
  · intro v u s2 x y H2 I2 rx ry ⟨A, pa, pb, c, ra, rb, e, k⟩
    refine thn (ho A pins s2 σ H2 x y v u (fun z H' => z = .bl c ∧ H' = H2) pa pb c I2 rx ry ra rb e ⟨rfl, rfl⟩) fun z s3 ⟨z', H3, I3, rz, ez, eH⟩ => ?_
    subst ez eH
    cases rz
    exact wpAny_truthy_bool ⟨_, I3, k⟩
/-- truth of a value -/
theorem truth_ok {pins : List (Addr × Obj)} {s : Shared} {σ : L2.St} {H : Hp} {x : V} {v : Value} {w : W} {k : Bool} {env : Ev} {t : T} {Q : Bool → Hp → Prop} (hK : Γ.K = X.K) (I : Inv X pins σ H s) (G : Good Γ σ H env t) (r : RpW Γ σ env H x w) (rx : RelV x v) (e : w.truth = some k) (q : Q k H) :
    wpAny (model X.prog X.w) X.A (truthy v) (TP X pins σ Q) X.xe s := by
  refine tru_ok pins s σ H x v Q I rx ⟨k, ?_, q⟩
  have rd : ∀ p, w.dat = some p → Rb (Av Γ σ env) Γ.K H x p := fun p h => G.rb r h
  cases w with
  | d p =>
    cases p with
    | none => obtain rfl := (rd _ rfl).none; cases e; rfl
    | bool b => obtain rfl := (rd _ rfl).bool; cases e; rfl
    | int i =>
      obtain rfl := (rd _ rfl).int
      have e' : some (decide (i ≠ 0)) = some k := e
      cases e'
      show decide (i ≠ 0) = (i != 0)
      by_cases h : i = 0 <;> simp [h]
    | list xs =>
      obtain ⟨p, vs, rfl, h1, h2⟩ := (rd _ rfl).list
      have e' : some (!xs.isEmpty) = some k := e
      cases e'
      refine .inl ⟨vs, by rw [← hK]; exact h1.sq, ?_⟩
      cases h2 <;> rfl
    | tuple xs =>
      obtain ⟨p, vs, rfl, h1, h2⟩ := (rd _ rfl).tuple
      have e' : some (!xs.isEmpty) = some k := e
      cases e'
      refine .inr (.inl ⟨vs, by rw [← hK]; exact h1, ?_⟩)
      cases h2 <;> rfl
    | str _ => cases e
    | dict _ => cases e
  | own xs =>
    obtain ⟨p, vs, rfl, h1, h2⟩ := (rd _ rfl).list
    have e' : some (!xs.isEmpty) = some k := e
    cases e'
    refine .inl ⟨vs, by rw [← hK]; exact h1.sq, ?_⟩
    cases h2 <;> rfl
  | _ => cases e
/-- a test that is its value's truth -/
theorem dt_plain (hK : Γ.K = X.K) (h : DE X Γ F a ca) (he : ∀ whole, isTrue a X.env whole = (do let v ← whole; standAt a.pos; holding [v] (truthy v))) : DT X Γ F a ca := by
  refine ⟨fun pins s σ H Q I ⟨env, t, G, q⟩ => ?_⟩
  have q' : postE Γ σ H env PB1 Q ((ev F ca env t).bind fun x t1 => (optR x.truth t1).bind fun b t2 => .ok b t2) := by
    have e : tr (ev F ca env t) = ((ev F ca env t).bind fun x t1 => (optR x.truth t1).bind fun b t2 => R.ok b t2) := by
      cases hx : ev F ca env t with
      | ok x t1 =>
        show optR x.truth t1 = (optR x.truth t1).bind fun b t2 => R.ok b t2
        cases x.truth <;> rfl
      | err => rfl
      | bad => rfl
    rw [← e]
    exact q
  refine isTrue_plain (thn (h.run pins s σ H (fun x H1 => ∃ w t1 k, Good Γ σ H1 env t1 ∧ RpW Γ σ env H1 x w ∧ w.truth = some k ∧ Q k H1) I (tE.of G q' fun x H1 w t1 f1 G1 r1 q1 => ?_)) fun v s1 ⟨x, H1, I1, rx, w, t1, k, G1, r1, e, qq⟩ => truth_ok hK I1 G1 r1 rx e qq) (he _)
  obtain ⟨k, e, q2⟩ := q1.opt
  exact ⟨w, t1, k, G1, r1, e, q2 k H1 Frame.refl G1 rfl⟩
/-! ### not, and, or, conditional -/
theorem dt_not (ha : DT X Γ F a ca) : DT X Γ F (.UnaryOp .Not a pos) (.not ca) := by
  refine ⟨fun pins s σ H Q I ⟨env, t, G, q⟩ => ?_⟩
  have q' : postE Γ σ H env PB1 Q ((tr (ev F ca env t)).bind fun b t1 => .ok (!b) t1) := by
    have e : tr (ev F (.not ca) env t) = ((tr (ev F ca env t)).bind fun b t1 => R.ok (!b) t1) := by
      show tr ((tr (ev F ca env t)).bind fun b t1 => .ok (.d (.bool (!b))) t1) = _
      cases tr (ev F ca env t) <;> rfl
    rw [← e]
    exact q
  exact isTrue_not (ha.run pins s σ H (fun c H1 => Q (!c) H1) I (tT.of G q' fun b H1 t1 f1 G1 q1 => q1 (!b) H1 Frame.refl G1 rfl))
theorem de_not (hK : Γ.K = X.K) (ha : DE X Γ F a ca) : DE X Γ F (.UnaryOp .Not a pos) (.not ca) := by
  refine ⟨fun pins s σ H Q I ⟨env, t, G, q⟩ => ?_⟩
  have q' : postE Γ σ H env (PW1 Γ σ env) Q ((ev F ca env t).bind fun x t1 => (optR x.truth t1).bind fun b t2 => .ok (.d (.bool (!b))) t2) := by
    have e : ev F (.not ca) env t = ((ev F ca env t).bind fun x t1 => (optR x.truth t1).bind fun b t2 => R.ok (.d (.bool (!b))) t2) := by
      show (tr (ev F ca env t)).bind (fun b t1 => R.ok (W.d (.bool (!b))) t1) = _
      cases hx : ev F ca env t with
      | ok x t1 =>
        show (optR x.truth t1).bind (fun b t1 => R.ok (W.d (.bool (!b))) t1) = _
        rfl
      | err => rfl
      | bad => rfl
    rw [← e]
    exact q
  refine UnaryOp_ (thn (ha.run pins s σ H (fun x H1 => ∃ w t1 k, Good Γ σ H1 env t1 ∧ RpW Γ σ env H1 x w ∧ w.truth = some k ∧ Q (.bl (!k)) H1) I (tE.of G q' fun x H1 w t1 f1 G1 r1 q1 => ?_)) fun v s1 ⟨x, H1, I1, rx, w, t1, k, G1, r1, e, qq⟩ => ?_)
  · obtain ⟨k, e, q2⟩ := q1.opt
    exact ⟨w, t1, k, G1, r1, e, q2 _ H1 Frame.refl G1 (.bl _)⟩
  · exact not_of (thn (truth_ok (Q := fun b H2 => b = k ∧ H2 = H1) hK I1 G1 r1 rx e ⟨rfl, rfl⟩) fun b s2 ⟨H2, I2, e1, e2⟩ => ⟨.bl (!b), H2, I2, rfl, by rw [e1, e2]; exact qq⟩)
theorem tr_bool2 {r : R W} {f : W → T → R W} {g : Bool → T → R Bool} (h : ∀ x t k, x.truth = some k → tr (f x t) = g k t) (hn : ∀ x t, x.truth = none → tr (f x t) = .bad) : tr (r.bind f) = (tr r).bind g := by
  cases r with
  | ok x t =>
    show tr (f x t) = (optR x.truth t).bind g
    cases e : x.truth with
    | none => rw [hn x t e]; rfl
    | some k => rw [h x t k e]; rfl
  | err => rfl
  | bad => rfl
theorem tr_and {F : Fn} {ca cb : E} {env : Ev} {t : T} : tr (ev F (.and ca cb) env t) = (tr (ev F ca env t)).bind fun c t1 => if c then tr (ev F cb env t1) else .ok false t1 := by
  refine tr_bool2 (fun x t k e => ?_) fun x t e => ?_
  · show tr ((optR x.truth t).bind fun c t2 => if c then ev F cb env t2 else .ok x t2) = _
    rw [e]
    cases k with
    | true => rfl
    | false => show optR x.truth t = _; rw [e]; rfl
  · show tr ((optR x.truth t).bind fun c t2 => if c then ev F cb env t2 else .ok x t2) = _
    rw [e]; rfl
theorem tr_or {F : Fn} {ca cb : E} {env : Ev} {t : T} : tr (ev F (.or ca cb) env t) = (tr (ev F ca env t)).bind fun c t1 => if c then .ok true t1 else tr (ev F cb env t1) := by
  refine tr_bool2 (fun x t k e => ?_) fun x t e => ?_
  · show tr ((optR x.truth t).bind fun c t2 => if c then .ok x t2 else ev F cb env t2) = _
    rw [e]
    cases k with
    | false => rfl
    | true => show optR x.truth t = _; rw [e]; rfl
  · show tr ((optR x.truth t).bind fun c t2 => if c then .ok x t2 else ev F cb env t2) = _
    rw [e]; rfl
theorem dt_and {rest : List Expr} (ha : DT X Γ F a ca) (hb : ∀ wh (pins : List (Addr × Obj)) (s : Shared) (σ : L2.St) (H : Hp) (Q : Bool → Hp → Prop), Inv X pins σ H s → tT Γ F cb σ H Q → wpAny (model X.prog X.w) X.A (isTrue (.BoolOp .And rest pos) X.env wh) (TP X pins σ Q) X.xe s) :
    ∀ wh (pins : List (Addr × Obj)) (s : Shared) (σ : L2.St) (H : Hp) (Q : Bool → Hp → Prop), Inv X pins σ H s → tT Γ F (.and ca cb) σ H Q → wpAny (model X.prog X.w) X.A (isTrue (.BoolOp .And (a :: rest) pos) X.env wh) (TP X pins σ Q) X.xe s := by
  intro wh pins s σ H Q I ⟨env, t, G, q⟩
  rw [tr_and] at q
  refine isTrue_and (thn (ha.run pins s σ H (fun c H1 => if c = true then tT Γ F cb σ H1 Q else Q false H1) I (tT.of G q fun c H1 t1 f1 G1 q1 => ?_)) fun c s1 ⟨H1, I1, q1⟩ => ?_)
  · cases c with
    | true => exact ⟨env, t1, G1, q1⟩
    | false => exact q1 false H1 Frame.refl G1 rfl
  · cases c with
    | true => exact hb wh pins s1 σ H1 Q I1 q1
    | false => exact ⟨H1, I1, q1⟩
theorem dt_or {rest : List Expr} (ha : DT X Γ F a ca) (hb : ∀ wh (pins : List (Addr × Obj)) (s : Shared) (σ : L2.St) (H : Hp) (Q : Bool → Hp → Prop), Inv X pins σ H s → tT Γ F cb σ H Q → wpAny (model X.prog X.w) X.A (isTrue (.BoolOp .Or rest pos) X.env wh) (TP X pins σ Q) X.xe s) :
    ∀ wh (pins : List (Addr × Obj)) (s : Shared) (σ : L2.St) (H : Hp) (Q : Bool → Hp → Prop), Inv X pins σ H s → tT Γ F (.or ca cb) σ H Q → wpAny (model X.prog X.w) X.A (isTrue (.BoolOp .Or (a :: rest) pos) X.env wh) (TP X pins σ Q) X.xe s := by
  intro wh pins s σ H Q I ⟨env, t, G, q⟩
  rw [tr_or] at q
  refine isTrue_or (thn (ha.run pins s σ H (fun c H1 => if c = true then Q true H1 else tT Γ F cb σ H1 Q) I (tT.of G q fun c H1 t1 f1 G1 q1 => ?_)) fun c s1 ⟨H1, I1, q1⟩ => ?_)
  · cases c with
    | false => exact ⟨env, t1, G1, q1⟩
    | true => exact q1 true H1 Frame.refl G1 rfl
  · cases c with
    | false => exact hb wh pins s1 σ H1 Q I1 q1
    | true => exact ⟨H1, I1, q1⟩
theorem dt_last_and (ha : DT X Γ F a ca) : ∀ wh (pins : List (Addr × Obj)) (s : Shared) (σ : L2.St) (H : Hp) (Q : Bool → Hp → Prop), Inv X pins σ H s → tT Γ F ca σ H Q → wpAny (model X.prog X.w) X.A (isTrue (.BoolOp .And [a] pos) X.env wh) (TP X pins σ Q) X.xe s := by
  intro wh pins s σ H Q I h
  refine isTrue_and (thn (ha.run pins s σ H Q I h) fun c s1 e => ?_)
  cases c with
  | true => exact isTrue_and_nil e
  | false => exact e
theorem dt_last_or (ha : DT X Γ F a ca) : ∀ wh (pins : List (Addr × Obj)) (s : Shared) (σ : L2.St) (H : Hp) (Q : Bool → Hp → Prop), Inv X pins σ H s → tT Γ F ca σ H Q → wpAny (model X.prog X.w) X.A (isTrue (.BoolOp .Or [a] pos) X.env wh) (TP X pins σ Q) X.xe s := by
  intro wh pins s σ H Q I h
  refine isTrue_or (thn (ha.run pins s σ H Q I h) fun c s1 e => ?_)
  cases c with
  | false => exact isTrue_or_nil e
  | true => exact e
/-- .. as values -/
theorem de_and {b : Expr} {rest : List Expr} (hK : Γ.K = X.K) (ha : DE X Γ F a ca) (hb : DE X Γ F (.BoolOp .And (b :: rest) pos) cb) : DE X Γ F (.BoolOp .And (a :: b :: rest) pos) (.and ca cb) := by
  refine ⟨fun pins s σ H Q I ⟨env, t, G, q⟩ => ?_⟩
  refine BoolOp_and (thn (ha.run pins s σ H (fun x H1 => ∃ w t1 k, Good Γ σ H1 env t1 ∧ RpW Γ σ env H1 x w ∧ w.truth = some k ∧ if k = true then tE Γ F cb σ H1 Q else Q x H1) I (tE.of G q fun x H1 w t1 f1 G1 r1 q1 => ?_)) fun v s1 ⟨x, H1, I1, rx, w, t1, k, G1, r1, e, qq⟩ => ?_)
  · obtain ⟨k, e, q2⟩ := q1.opt
    refine ⟨w, t1, k, G1, r1, e, ?_⟩
    cases k with
    | true => exact ⟨env, t1, G1, q2⟩
    | false => exact q2 x H1 Frame.refl G1 r1
  · refine thn (truth_ok (Q := fun b H2 => b = k ∧ H2 = H1) hK I1 G1 r1 rx e ⟨rfl, rfl⟩) fun b s2 ⟨H2, I2, e1, e2⟩ => ?_
    subst e1 e2
    cases b with
    | true => exact hb.run pins s2 σ _ Q I2 qq
    | false => exact ⟨x, _, I2, rx, qq⟩
theorem de_or {b : Expr} {rest : List Expr} (hK : Γ.K = X.K) (ha : DE X Γ F a ca) (hb : DE X Γ F (.BoolOp .Or (b :: rest) pos) cb) : DE X Γ F (.BoolOp .Or (a :: b :: rest) pos) (.or ca cb) := by
  refine ⟨fun pins s σ H Q I ⟨env, t, G, q⟩ => ?_⟩
  refine BoolOp_or (thn (ha.run pins s σ H (fun x H1 => ∃ w t1 k, Good Γ σ H1 env t1 ∧ RpW Γ σ env H1 x w ∧ w.truth = some k ∧ if k = true then Q x H1 else tE Γ F cb σ H1 Q) I (tE.of G q fun x H1 w t1 f1 G1 r1 q1 => ?_)) fun v s1 ⟨x, H1, I1, rx, w, t1, k, G1, r1, e, qq⟩ => ?_)
  · obtain ⟨k, e, q2⟩ := q1.opt
    refine ⟨w, t1, k, G1, r1, e, ?_⟩
    cases k with
    | false => exact ⟨env, t1, G1, q2⟩
    | true => exact q2 x H1 Frame.refl G1 r1
  · refine thn (truth_ok (Q := fun b H2 => b = k ∧ H2 = H1) hK I1 G1 r1 rx e ⟨rfl, rfl⟩) fun b s2 ⟨H2, I2, e1, e2⟩ => ?_
    subst e1 e2
    cases b with
    | false => exact hb.run pins s2 σ _ Q I2 qq
    | true => exact ⟨x, _, I2, rx, qq⟩
theorem de_one {op : BoolOp} (h : DE X Γ F a ca) : DE X Γ F (.BoolOp op [a] pos) ca := ⟨fun pins s σ H Q I hw => BoolOp_one (h.run pins s σ H Q I hw)⟩
theorem de_ite (hc : DT X Γ F c cc) (ha : DE X Γ F a ca) (hb : DE X Γ F b cb) : DE X Γ F (.IfExp c a b pos) (.ite cc ca cb) := by
  refine ⟨fun pins s σ H Q I ⟨env, t, G, q⟩ => ?_⟩
  refine wpAny_IfExp (thn (hc.run pins s σ H (fun k H1 => if k = true then tE Γ F ca σ H1 Q else tE Γ F cb σ H1 Q) I (tT.of G q fun k H1 t1 f1 G1 q1 => ?_)) fun k s1 ⟨H1, I1, q1⟩ => ?_)
  · cases k with
    | true => exact ⟨env, t1, G1, q1⟩
    | false => exact ⟨env, t1, G1, q1⟩
  · cases k with
    | true => exact ha.run pins s1 σ H1 Q I1 q1
    | false => exact hb.run pins s1 σ H1 Q I1 q1
theorem tr_ite {cond : Bool} {r r' : R W} : tr (if cond then r else r') = if cond then tr r else tr r' := by cases cond <;> rfl
theorem dt_ite (hc : DT X Γ F c cc) (ha : DT X Γ F a ca) (hb : DT X Γ F b cb) : DT X Γ F (.IfExp c a b pos) (.ite cc ca cb) := by
  refine ⟨fun pins s σ H Q I ⟨env, t, G, q⟩ => ?_⟩
  have q' : postE Γ σ H env PB1 Q ((tr (ev F cc env t)).bind fun k t1 => if k then tr (ev F ca env t1) else tr (ev F cb env t1)) := by
    have e : tr (ev F (.ite cc ca cb) env t) = ((tr (ev F cc env t)).bind fun k t1 => if k then tr (ev F ca env t1) else tr (ev F cb env t1)) := by
      show tr ((tr (ev F cc env t)).bind fun k t1 => if k then ev F ca env t1 else ev F cb env t1) = _
      cases tr (ev F cc env t) with
      | ok k t1 => show tr (if k then ev F ca env t1 else ev F cb env t1) = _; rw [tr_ite]; rfl
      | err => rfl
      | bad => rfl
    rw [← e]
    exact q
  show wpAny _ _ (do if ← isTrue c X.env (eval c X.env) then isTrue a X.env (eval a X.env) else isTrue b X.env (eval b X.env)) _ _ _
  refine wpAny_bind (thn (hc.run pins s σ H (fun k H1 => if k = true then tT Γ F ca σ H1 Q else tT Γ F cb σ H1 Q) I (tT.of G q' fun k H1 t1 f1 G1 q1 => ?_)) fun k s1 ⟨H1, I1, q1⟩ => ?_)
  · cases k with
    | true => exact ⟨env, t1, G1, q1⟩
    | false => exact ⟨env, t1, G1, q1⟩
  · cases k with
    | true => exact ha.run pins s1 σ H1 Q I1 q1
    | false => exact hb.run pins s1 σ H1 Q I1 q1
/-! ### literals, negation, chains -/
theorem de_lit {x : PyData} {v : V} {e : Expr} (hv : PE X e (tC v)) (hr : ∀ A H, Rp A Γ.K H v x) : DE X Γ F e (.lit x) := hv.to fun σ H Q ⟨env, t, G, q⟩ => q v H Frame.refl G (hr _ _)
theorem de_glob {x : PyData} {v : V} {e : Expr} (hv : PE X e (tC v)) (hr : ∀ A H, Rp A Γ.K H v x) : DE X Γ F e (.glob x) := hv.to fun σ H Q ⟨env, t, G, q⟩ => q v H Frame.refl G (hr _ _)
theorem asInt_of {w : W} {i : Int} (h : asInt w = some i) : w = .d (.int i) := by
  unfold asInt at h
  split at h
  · cases h; rfl
  · cases h
theorem de_neg (ha : DE X Γ F a ca) : DE X Γ F (.UnaryOp .USub a pos) (.neg ca) :=
  (pe_un un_neg ha).to fun σ H Q ⟨env, t, G, q⟩ => tE.of G q fun x H1 w t1 f1 G1 r1 q1 => by
    obtain ⟨i, e, q2⟩ := q1.opt
    rw [asInt_of e] at r1
    obtain rfl : x = .int i := by
      have r2 : Rp (Av Γ σ env) Γ.K H1 x (.int i) := r1
      cases r2; rfl
    exact ⟨i, rfl, q2 _ H1 Frame.refl G1 (.int _)⟩
theorem de_chain {op op' : CmpOp} {o o' : Cop} (hK : Γ.K = X.K) (ho : CmpOk X op o) (ho' : CmpOk X op' o') (ha : DE X Γ F a ca) (hb : DE X Γ F b cb) (hc : DE X Γ F c cc) (hm : lastMarks [op, op'] [b, c] = false) : DE X Γ F (.Compare a [op, op'] [b, c] pos) (.chain o o' ca cb cc) := by
  refine ⟨fun pins s σ H Q I ⟨env, t, G, q⟩ => ?_⟩
  refine Compare_chain (thn (ha.run pins s σ H (fun x H1 => ∃ wa t1, Good Γ σ H1 env t1 ∧ RpW Γ σ env H1 x wa ∧ postE Γ σ H1 env (PW1 Γ σ env) Q ((ev F cb env t1).bind fun y t2 =>
      (optR (wa.dat.bind fun p => y.dat.bind fun q => cmpD o p q) t2).bind fun r t3 =>
        if r then (ev F cc env t3).bind fun z t4 => (optR (y.dat.bind fun p => z.dat.bind fun q => cmpD o' p q) t4).bind fun r' t5 => .ok (.d (.bool r')) t5
        else .ok (.d (.bool false)) t3)) I (tE.of G q fun x H1 w t1 f1 G1 r1 q1 => ⟨w, t1, G1, r1, q1⟩)) fun v s1 ⟨x, H1, I1, rx, wa, t1, G1, r1, q1⟩ => ?_) hm
  refine chain_link (thn (hb.run pins s1 σ H1 (fun y H2 => ∃ wb t2, Frame Γ.tp H1 H2 ∧ Good Γ σ H2 env t2 ∧ RpW Γ σ env H2 y wb ∧ postE Γ σ H2 env (PW1 Γ σ env) Q ((optR (wa.dat.bind fun p => wb.dat.bind fun q => cmpD o p q) t2).bind fun r t3 =>
        if r then (ev F cc env t3).bind fun z t4 => (optR (wb.dat.bind fun p => z.dat.bind fun q => cmpD o' p q) t4).bind fun r' t5 => .ok (.d (.bool r')) t5
        else .ok (.d (.bool false)) t3)) I1 (tE.of G1 q1 fun y H2 w t2 f2 G2 r2 q2 => ⟨w, t2, f2, G2, r2, q2⟩)) fun u s2 ⟨y, H2, I2, ry, wb, t2, f2, G2, r2, q2⟩ => ?_)
  obtain ⟨k, e, q3⟩ := q2.opt
  obtain ⟨pa, pb, ea, eb, e'⟩ := bind2 e
  have rba := G2.rb (r1.frame f2) ea
  have rbb := G2.rb r2 eb
  refine thn (ho (Av Γ σ env) pins s2 σ H2 x y v u (fun z H' => z = .bl k ∧ H' = H2) pa pb k I2 rx ry (hK ▸ rba) (hK ▸ rbb) e' ⟨rfl, rfl⟩) fun z s3 ⟨z', H3, I3, rz, ez, eH⟩ => ?_
  subst ez eH
  cases rz
  refine wpAny_truthy_bool ?_
  cases k with
  | false => exact ite_ff ⟨.bl false, _, I3, rfl, q3 _ _ Frame.refl G2 (.bl false)⟩
  | true =>
    refine ite_tt (chain_last (thn (hc.run pins s3 σ H3 (fun z H4 => ∃ (A : AP) (pc : PyData) (c : Bool), Rb A X.K H4 y pb ∧ Rb A X.K H4 z pc ∧ cmpD o' pb pc = some c ∧ Q (.bl c) H4) I3 (tE.of G2 q3 fun z H4 wc t4 f4 G4 r4 q4 => ?_)) fun w' s4 ⟨z, H4, I4, rz, A, pc, c, h1, h2, h3, qq⟩ => ho' A pins s4 σ H4 y z u w' Q pb pc c I4 ry rz h1 h2 h3 qq))
    obtain ⟨c, e5, q5⟩ := q4.opt
    obtain ⟨pb', pc, eb', ec, e6⟩ := bind2 e5
    rw [eb] at eb'
    cases eb'
    rw [← hK]
    exact ⟨Av Γ σ env, pc, c, G4.rb (r2.frame f4) eb, G4.rb r4 ec, e6, q5 _ H4 Frame.refl G4 (.bl c)⟩
theorem tr_chain {F : Fn} {o o' : Cop} {ca cb cc : E} {env : Ev} {t : T} : tr (ev F (.chain o o' ca cb cc) env t) = (ev F ca env t).bind fun x t1 => (ev F cb env t1).bind fun y t2 =>
      (optR (x.dat.bind fun p => y.dat.bind fun q => cmpD o p q) t2).bind fun r t3 =>
        if r then (ev F cc env t3).bind fun z t4 => (optR (y.dat.bind fun p => z.dat.bind fun q => cmpD o' p q) t4).bind fun r' t5 => .ok r' t5
        else .ok false t3 := by
  have hb : ∀ {α : Type} (r : R α) (f : α → T → R W), tr (r.bind f) = r.bind fun x t => tr (f x t) := fun r f => by cases r <;> rfl
  show tr ((ev F ca env t).bind fun x t1 => (ev F cb env t1).bind fun y t2 => (optR (x.dat.bind fun p => y.dat.bind fun q => cmpD o p q) t2).bind fun r t3 =>
        if r then (ev F cc env t3).bind fun z t4 => (optR (y.dat.bind fun p => z.dat.bind fun q => cmpD o' p q) t4).bind fun r' t5 => .ok (.d (.bool r')) t5
        else .ok (.d (.bool false)) t3) = _
  rw [hb]
  congr 1; funext x t1
  rw [hb]
  congr 1; funext y t2
  rw [hb]
  congr 1; funext r t3
  rw [tr_ite, hb]
  congr 1
  congr 1; funext z t4
  rw [hb]
  rfl
theorem dt_chain {op op' : CmpOp} {o o' : Cop} (hK : Γ.K = X.K) (ho : CmpOk X op o) (ho' : CmpOk X op' o') (ha : DE X Γ F a ca) (hb : DE X Γ F b cb) (hc : DE X Γ F c cc) (hm : lastMarks [op, op'] [b, c] = false) : DT X Γ F (.Compare a [op, op'] [b, c] pos) (.chain o o' ca cb cc) := by
  refine ⟨fun pins s σ H Q I ⟨env, t, G, q⟩ => ?_⟩
  rw [tr_chain] at q
  refine isTrue_chain (thn (ha.run pins s σ H (fun x H1 => ∃ wa t1, Good Γ σ H1 env t1 ∧ RpW Γ σ env H1 x wa ∧ postE Γ σ H1 env PB1 Q ((ev F cb env t1).bind fun y t2 =>
      (optR (wa.dat.bind fun p => y.dat.bind fun q => cmpD o p q) t2).bind fun r t3 =>
        if r then (ev F cc env t3).bind fun z t4 => (optR (y.dat.bind fun p => z.dat.bind fun q => cmpD o' p q) t4).bind fun r' t5 => .ok r' t5
        else .ok false t3)) I (tE.of G q fun x H1 w t1 f1 G1 r1 q1 => ⟨w, t1, G1, r1, q1⟩)) fun v s1 ⟨x, H1, I1, rx, wa, t1, G1, r1, q1⟩ => ?_) hm
  refine test_link (thn (hb.run pins s1 σ H1 (fun y H2 => ∃ wb t2, Frame Γ.tp H1 H2 ∧ Good Γ σ H2 env t2 ∧ RpW Γ σ env H2 y wb ∧ postE Γ σ H2 env PB1 Q ((optR (wa.dat.bind fun p => wb.dat.bind fun q => cmpD o p q) t2).bind fun r t3 =>
        if r then (ev F cc env t3).bind fun z t4 => (optR (wb.dat.bind fun p => z.dat.bind fun q => cmpD o' p q) t4).bind fun r' t5 => .ok r' t5
        else .ok false t3)) I1 (tE.of G1 q1 fun y H2 w t2 f2 G2 r2 q2 => ⟨w, t2, f2, G2, r2, q2⟩)) fun u s2 ⟨y, H2, I2, ry, wb, t2, f2, G2, r2, q2⟩ => ?_)
  obtain ⟨k, e, q3⟩ := q2.opt
  obtain ⟨pa, pb, ea, eb, e'⟩ := bind2 e
  have rba := G2.rb (r1.frame f2) ea
  have rbb := G2.rb r2 eb
  refine thn (ho (Av Γ σ env) pins s2 σ H2 x y v u (fun z H' => z = .bl k ∧ H' = H2) pa pb k I2 rx ry (hK ▸ rba) (hK ▸ rbb) e' ⟨rfl, rfl⟩) fun z s3 ⟨z', H3, I3, rz, ez, eH⟩ => ?_
  subst ez eH
  cases rz
  refine wpAny_truthy_bool ?_
  cases k with
  | false => exact ite_ff ⟨_, I3, q3 _ _ Frame.refl G2 rfl⟩
  | true =>
    refine ite_tt (test_last (thn (hc.run pins s3 σ H3 (fun z H4 => ∃ (A : AP) (pc : PyData) (c : Bool), Rb A X.K H4 y pb ∧ Rb A X.K H4 z pc ∧ cmpD o' pb pc = some c ∧ Q c H4) I3 (tE.of G2 q3 fun z H4 wc t4 f4 G4 r4 q4 => ?_)) fun w' s4 ⟨z, H4, I4, rz, A, pc, c, h1, h2, h3, qq⟩ =>
      thn (ho' A pins s4 σ H4 y z u w' (fun z H' => z = .bl c ∧ H' = H4) pb pc c I4 ry rz h1 h2 h3 ⟨rfl, rfl⟩) fun d s5 ⟨z2, H5, I5, r5, e5, eH⟩ => ?_))
    · obtain ⟨c, e5, q5⟩ := q4.opt
      obtain ⟨pb', pc, eb', ec, e6⟩ := bind2 e5
      rw [eb] at eb'
      cases eb'
      rw [← hK]
      exact ⟨Av Γ σ env, pc, c, G4.rb (r2.frame f4) eb, G4.rb r4 ec, e6, q5 _ H4 Frame.refl G4 rfl⟩
    · subst e5 eH
      cases r5
      exact wpAny_truthy_bool ⟨_, I5, qq⟩
/-! ### rows of expressions, displays -/
theorem da_nil : DA X Γ F [] [] := pa_nil.to fun σ H Q ⟨env, t, G, q⟩ => q [] H Frame.refl G .nil
theorem da_cons {es : List Expr} {cs : List E} (ha : DE X Γ F a ca) (hr : DA X Γ F es cs) (hs : starEach (a :: es) X.env = (false, eval a X.env) :: starEach es X.env) : DA X Γ F (a :: es) (ca :: cs) :=
  (pa_cons ha hr hs).to fun σ H Q ⟨env, t, G, q⟩ => tE.of G q fun x H1 w t1 f1 G1 r1 q1 => tA.of G1 q1 fun xs H2 ws t2 f2 G2 r2 q2 => q2 (x :: xs) H2 Frame.refl G2 (.cons (r1.frame f2) r2)
theorem RpWs.allD {σ : L2.St} {env : Ev} {H : Hp} : ∀ {vs : List V} {ws : List W} {ds : List PyData}, RpWs Γ σ env H vs ws → allD ws = some ds → RpAll (Av Γ σ env) Γ.K H vs ds
  | _, _, ds, .nil, h => by
    have h' : some [] = some ds := h
    cases h'; exact .nil
  | _, w :: ws, ds, .cons r rs, h => by
    cases w with
    | d x =>
      have h' : (DL.allD ws).map (x :: ·) = some ds := h
      cases e : DL.allD ws with
      | none => rw [e] at h'; cases h'
      | some ys => rw [e] at h'; cases h'; exact .cons r (RpWs.allD rs e)
    | _ => cases h
theorem evs_len {F : Fn} : ∀ {cs : List E} {env : Ev} {t t' : T} {ws : List W}, evs F cs env t = .ok ws t' → ws.length = cs.length
  | [], env, t, t', ws, h => by
    have h' : R.ok [] t = R.ok ws t' := h
    cases h'; rfl
  | c :: cs, env, t, t', ws, h => by
    have h' : ((ev F c env t).bind fun x t1 => (evs F cs env t1).bind fun xs t2 => R.ok (x :: xs) t2) = R.ok ws t' := h
    cases hx : ev F c env t with
    | ok x t1 =>
      rw [hx] at h'
      have h2 : ((evs F cs env t1).bind fun xs t2 => R.ok (x :: xs) t2) = R.ok ws t' := h'
      cases hy : evs F cs env t1 with
      | ok xs t2 =>
        rw [hy] at h2
        have h3 : R.ok (x :: xs) t2 = R.ok ws t' := h2
        cases h3
        rw [List.length_cons, List.length_cons, evs_len hy]
      | err => rw [hy] at h2; cases h2
      | bad => rw [hy] at h2; cases h2
    | err => rw [hx] at h'; cases h'
    | bad => rw [hx] at h'; cases h'
theorem RpWs.length {σ : L2.St} {env : Ev} {H : Hp} : ∀ {vs : List V} {ws : List W}, RpWs Γ σ env H vs ws → vs.length = ws.length
  | _, _, .nil => rfl
  | _, _, .cons _ r => by rw [List.length_cons, List.length_cons, RpWs.length r]
theorem tA.of' {α β : Type} {F : Fn} {σ : L2.St} {H : Hp} {env : Ev} {t : T} {cs : List E} {Q : List V → Hp → Prop} {P : Hp → β → α → Prop} {Q' : β → Hp → Prop} {k : List W → T → R α} (G : Good Γ σ H env t) (h : postE Γ σ H env P Q' ((evs F cs env t).bind k))
    (hq : ∀ v H' w t', w.length = cs.length → Frame Γ.tp H H' → Good Γ σ H' env t' → RpWs Γ σ env H' v w → postE Γ σ H' env P Q' (k w t') → Q v H') : tA Γ F cs σ H Q := by
  cases hx : evs F cs env t with
  | ok w t' =>
    rw [hx] at h
    refine ⟨env, t, G, ?_⟩
    rw [hx]
    exact fun v H' f g p => hq v H' w t' (evs_len hx) f g p (postE.mono (H1 := H') h f fun _ _ z => z)
  | err k t' => rw [hx] at h; refine ⟨env, t, G, ?_⟩; rw [hx]; exact h
  | bad => rw [hx] at h; exact h.elim
/-- a new list, known to nobody else -/
def postF (Γ : Cfg) (σ : L2.St) (H : Hp) (env : Ev) (Q : VK) : R W → Prop
  | .ok (.d (.list xs)) t' => ∀ p vs H', H p = none → H' p = some (.lst vs) → Frame Γ.tp H H' → Good Γ σ H' env t' → TapeR (fun a => Av Γ σ env a ∨ a = p) Γ.tp Γ.K H' t' → RpAll (fun a => Av Γ σ env a ∨ a = p) Γ.K H' vs xs → Q (.ref p) H'
  | .ok _ _ => False
  | .err k t' => ∀ H', Frame Γ.tp H H' → Good Γ σ H' env t' → Γ.E (Γ.ec k) none H'
  | .bad => False
def tF (Γ : Cfg) (F : Fn) (c : E) : TE := fun σ H Q => ∃ env t, Good Γ σ H env t ∧ postF Γ σ H env Q (ev F c env t)
abbrev DF (X : Cx) (Γ : Cfg) (F : Fn) (e : Expr) (c : E) : Prop := PE X e (tF Γ F c)
/-- a new list is a value -/
theorem postF.of {σ : L2.St} {H : Hp} {env : Ev} {t : T} {Q : VK} {r : R W} (G : Good Γ σ H env t) (hr : ∀ w t', r = .ok w t' → ∃ xs, w = .d (.list xs)) (h : postE Γ σ H env (PW1 Γ σ env) Q r) : postF Γ σ H env Q r := by
  cases r with
  | ok w t' =>
    obtain ⟨xs, rfl⟩ := hr w t' rfl
    intro p vs H' hp hp' f g _ r
    refine h _ H' f g (.lst (.inl ⟨G.free hp, .inl hp'⟩) (RpAll.moves (Moves.sub fun a z => .inl z) _ _ r))
  | err k t' => exact h
  | bad => exact h
theorem postF.frame {σ : L2.St} {H H1 : Hp} {env : Ev} {Q Q' : VK} {r : R W} (h : postF Γ σ H env Q r) (f : Frame Γ.tp H H1) (hq : ∀ v H', Q v H' → Q' v H') : postF Γ σ H1 env Q' r := by
  cases r with
  | ok w t' =>
    cases w with
    | d x =>
      cases x with
      | list xs => exact fun p vs H' hp hp' f' g tr r => hq _ _ (h p vs H' (f.free hp) hp' (f.trans f') g tr r)
      | _ => exact h
    | _ => exact h
  | err k t' => exact fun H' f' g => h H' (f.trans f') g
  | bad => exact h
/-- .. behind a first part -/
theorem postF.seq {α β : Type} {σ : L2.St} {H : Hp} {env : Ev} {P : Hp → β → α → Prop} {Q : VK} {r : R α} {k : α → T → R W} (h : postF Γ σ H env Q (r.bind k)) :
    postE Γ σ H env P (fun v H' => ∃ a t', Frame Γ.tp H H' ∧ Good Γ σ H' env t' ∧ P H' v a ∧ postF Γ σ H' env Q (k a t')) r := by
  cases r with
  | ok a t' => exact fun v H' f g p => ⟨a, t', f, g, p, h.frame f fun _ _ z => z⟩
  | err k t' => exact h
  | bad => exact h
theorem postF.opt {α : Type} {σ : L2.St} {H : Hp} {env : Ev} {t : T} {Q : VK} {o : Option α} {k : α → T → R W} (h : postF Γ σ H env Q ((optR o t).bind k)) : ∃ a, o = some a ∧ postF Γ σ H env Q (k a t) := by
  cases o with
  | none => exact h.elim
  | some a => exact ⟨a, rfl, h⟩
theorem RpAll.apart {A : AP} {K : PySem.W.Frag} {H : Hp} {p : Addr} {vs : List V} {ds : List PyData} (hp : H p = none) (o : HO) (r : RpAll A K H vs ds) : RpAll (fun a => A a ∨ a = p) K (upd H p o) vs ds :=
  RpAll.moves (fun a u n h _ => ⟨by rw [upd_ne (ne_of_none h hp)]; exact h, fun z => z.elim n fun e => by rw [e, hp] at h; cases h⟩) _ _ r
theorem Good.tapeNew {σ : L2.St} {H H' : Hp} {env : Ev} {t : T} {p : Addr} (G : Good Γ σ H env t) (hp : H p = none) (sm : Same H H') : TapeR (fun a => Av Γ σ env a ∨ a = p) Γ.tp Γ.K H' t := fun a e => by
  obtain ⟨xs, e1, r⟩ := G.tape a e
  exact ⟨xs, sm a _ e1, RpAll.moves (fun b u n h _ => ⟨sm b u h, fun z => z.elim n fun e => by rw [e, hp] at h; cases h⟩) _ _ r⟩
theorem df_lst {es : List Expr} {cs : List E} (h : DA X Γ F es cs) (hn : cs.length ≤ 1000) : DF X Γ F (.List es pos) (.lst cs) :=
  (pe_lst h).to fun σ H Q ⟨env, t, G, q⟩ => by
    have q' : postF Γ σ H env Q ((evs F cs env t).bind fun ws t1 => (optR (allD ws) t1).bind fun xs t2 => .ok (.d (.list xs)) t2) := q
    refine ⟨env, t, G, ?_⟩
    cases hx : evs F cs env t with
    | ok ws t1 =>
      rw [hx] at q'
      intro vs H1 f1 G1 r1
      obtain ⟨xs, e, q2⟩ := postF.opt (show postF Γ σ H env Q ((optR (allD ws) t1).bind fun xs t2 => .ok (.d (.list xs)) t2) from q')
      have rr := RpWs.allD r1 e
      refine ⟨by have := RpWs.length r1; have := evs_len hx; rw [sizeLine_eq]; omega, fun p hp => ?_⟩
      exact q2 p vs _ (f1.free hp) upd_same (f1.trans (Frame.upd hp)) (G1.same (same_upd' hp)) (G1.tapeNew hp (same_upd' hp)) (rr.apart hp _)
    | err k t1 => rw [hx] at q'; exact q'
    | bad => rw [hx] at q'; exact q'.elim
theorem de_tup {es : List Expr} {cs : List E} {k : Nat} (h : DA X Γ F es cs) (hn : cs.length ≤ 1000) : DE X Γ F (.Tuple es k pos) (.tup cs) :=
  (pe_tup h).to fun σ H Q ⟨env, t, G, q⟩ => tA.of' G q fun vs H1 ws t1 hl f1 G1 r1 q1 => by
    obtain ⟨xs, e, q2⟩ := q1.opt
    have rr := RpWs.allD r1 e
    refine ⟨by have := RpWs.length r1; rw [sizeLine_eq]; omega, fun p hp => ?_⟩
    exact q2 _ _ (Frame.upd hp) (G1.same (same_upd' hp)) (rp_new_tup hp G1.avHas rr)
theorem de_of_df {e : Expr} {c : E} (h : DF X Γ F e c) (hr : ∀ env t w t', ev F c env t = .ok w t' → ∃ xs, w = .d (.list xs)) : DE X Γ F e c :=
  h.to fun σ H Q ⟨env, t, G, q⟩ => ⟨env, t, G, postF.of G (fun w t' e => hr env t w t' e) q⟩
/-! ### items, slices, isinstance -/
theorem ixD_of {x i c : PyData} (h : ixD x i = some c) : ∃ k xs, i = .int k ∧ seqOf x = some xs ∧ atI xs k = some c := by
  cases i with
  | int k =>
    have h' : ((seqOf x).bind fun xs => L2.atI xs k) = some c := h
    cases e : seqOf x with
    | none => rw [e] at h'; cases h'
    | some xs => rw [e] at h'; exact ⟨k, xs, rfl, rfl, h'⟩
  | _ => cases h
theorem RpAll.at {A : AP} {K : PySem.W.Frag} {H : Hp} {vs : List V} {ds : List PyData} {k : Int} {d : PyData} (r : RpAll A K H vs ds) (h : atI ds k = some d) : ∃ v, atI vs k = some v ∧ Rp A K H v d := by
  unfold atI at h ⊢
  rw [r.length]
  cases e : ixN ds.length k with
  | none => rw [e] at h; cases h
  | some j =>
    rw [e] at h
    exact r.get h
theorem de_idx (hK : Γ.K = X.K) (hs : PlainIx b) (ha : DE X Γ F a ca) (hb : DE X Γ F b cb) : DE X Γ F (.Subscript a b pos) (.idx ca cb) :=
  (pe_ix ix_seq ha hb hs).to fun σ H Q ⟨env, t, G, q⟩ => tE.of G q fun x H1 wa t1 f1 G1 r1 q1 => tE.of G1 q1 fun y H2 wb t2 f2 G2 r2 q2 => by
    obtain ⟨c, e, q3⟩ := q2.opt
    obtain ⟨pa, pb, ea, eb, e'⟩ := bind2 e
    obtain ⟨k, xs, rfl, hs, hi⟩ := ixD_of e'
    have rba := G2.rb (r1.frame f2) ea
    obtain rfl := (G2.rb r2 eb).int
    obtain ⟨p, vs, rfl, h1, h2⟩ := rba.seq hs
    obtain ⟨z, hz, rz⟩ := h2.at hi
    have qq := q3 z H2 Frame.refl G2 rz
    rcases h1 with ⟨_, h1⟩ | ⟨_, h1⟩
    · exact .inl ⟨p, vs, k, z, rfl, rfl, by rw [← hK]; exact h1.sq, hz, qq⟩
    · exact .inr (.inl ⟨p, vs, k, z, rfl, rfl, hK ▸ h1, hz, qq⟩)
theorem RpAll.cut {A : AP} {K : PySem.W.Frag} {H : Hp} {vs : List V} {ds : List PyData} (r : RpAll A K H vs ds) (lo hi : Option Int) : RpAll A K H (cutV vs lo hi) (cutD ds lo hi) := by
  unfold cutV cutD
  rw [r.length]
  exact (r.drop _).take _
theorem cut_whole {ds : List PyData} {lo hi : Option Int} (h : HT.sIx ds.length 0 lo = 0 ∧ HT.sIx ds.length ds.length hi = ds.length) : cutD ds lo hi = ds := by
  unfold cutD
  rw [h.1, h.2, List.drop_zero, Nat.sub_zero, List.take_length]
/-- a slice's part -/
def tO (Γ : Cfg) (F : Fn) (c : E) : TO := fun σ H Q => ∃ env t, Good Γ σ H env t ∧ postE Γ σ H env (fun _ o o' => o = o') Q (if isOmit c then R.ok none t else (ev F c env t).bind fun l t2 => (optR (asInt l) t2).bind fun i t3 => .ok (some i) t3)
abbrev DO (X : Cx) (Γ : Cfg) (F : Fn) (e : Option Expr) (c : E) : Prop := PO X e (tO Γ F c)
theorem do_none : DO X Γ F none .omit := ⟨fun pins s σ H Q I ⟨env, t, G, q⟩ => po_none.run pins s σ H Q I (q none H Frame.refl G rfl)⟩
theorem do_some (ha : DE X Γ F a ca) (hn : isOmit ca = false) : DO X Γ F (some a) ca := ⟨fun pins s σ H Q I ⟨env, t, G, q⟩ => (po_some ha).run pins s σ H Q I (by
    rw [hn] at q
    exact tE.of G q fun x H1 w t1 f1 G1 r1 q1 => by
      obtain ⟨i, e, q2⟩ := q1.opt
      rw [asInt_of e] at r1
      have r2 : Rp (Av Γ σ env) Γ.K H1 x (.int i) := r1
      cases r2
      exact ⟨i, rfl, q2 _ H1 Frame.refl G1 rfl⟩)⟩
theorem tO.of {F : Fn} {σ : L2.St} {H : Hp} {env : Ev} {t : T} {c : E} {Q : Option Int → Hp → Prop} {α β : Type} {P : Hp → β → α → Prop} {Q' : β → Hp → Prop} {k : Option Int → T → R α} (G : Good Γ σ H env t)
    (h : postE Γ σ H env P Q' ((if isOmit c then R.ok none t else (ev F c env t).bind fun l t2 => (optR (asInt l) t2).bind fun i t3 => .ok (some i) t3).bind k))
    (hq : ∀ o H' t', Frame Γ.tp H H' → Good Γ σ H' env t' → postE Γ σ H' env P Q' (k o t') → Q o H') : tO Γ F c σ H Q :=
  ⟨env, t, G, (postE.seq (P := fun _ o o' => o = o') h).mono Frame.refl fun v H' ⟨w, t', f, g, p, q⟩ => by
    have p' : v = w := p
    subst p'
    exact hq v H' t' f g q⟩
theorem de_slc {lo hi : Option Expr} {cl ch : E} {p2 : Pos} (hK : Γ.K = X.K) (ha : DE X Γ F a ca) (hl : DO X Γ F lo cl) (hh : DO X Γ F hi ch) : DE X Γ F (.Subscript a (.Slice lo hi none p2) pos) (.slc ca cl ch) :=
  (pe_slice (SlR.or sl_list sl_tupA) ha hl hh).to fun σ H Q ⟨env, t, G, q⟩ => tE.of G q fun x H1 wa t1 f1 G1 r1 q1 => tO.of G1 q1 fun l H2 t2 f2 G2 q2 => tO.of G2 q2 fun h H3 t3 f3 G3 q3 => by
    have r3 := r1.frame (f2.trans f3)
    cases e : wa.dat with
    | none => rw [e] at q3; exact q3.elim
    | some d =>
      rw [e] at q3
      have rb := G3.rb r3 e
      cases d with
      | tuple xs =>
        obtain ⟨p, vs, rfl, h1, h2⟩ := rb.tuple
        refine .inr ⟨p, vs, rfl, hK ▸ h1, fun hw => ?_, fun _ n hn => ?_⟩
        · rw [h2.length] at hw
          refine q3 _ H3 Frame.refl G3 ?_
          show Rp _ _ _ _ (.tuple (cutD xs l h))
          rw [cut_whole hw]
          rcases rb with rb | ⟨_, _, _, _, z, _⟩
          · exact rb
          · cases z
        · exact q3 _ _ (Frame.upd hn) (G3.same (same_upd' hn)) (rp_new_tup hn G3.avHas (h2.cut l h))
      | list xs =>
        obtain ⟨p, vs, rfl, h1, h2⟩ := rb.list
        exact .inl ⟨p, vs, rfl, by rw [← hK]; exact h1.sq, fun n hn => q3 _ _ (Frame.upd hn) (G3.same (same_upd' hn)) (rp_new_lst hn G3.avHas (h2.cut l h))⟩
      | _ => exact q3.elim
end
end DL
/-! DL6: built-ins, isinstance, calls of defs. -/
namespace DL
open PySem PySem.Spec PyProof.Rows L2
inductive RbAll (A : AP) (K : PySem.W.Frag) (H : Hp) : List V → List PyData → Prop
  | nil : RbAll A K H [] []
  | cons {v : V} {vs : List V} {d : PyData} {ds : List PyData} : Rb A K H v d → RbAll A K H vs ds → RbAll A K H (v :: vs) (d :: ds)
/-- a built-in over data -/
def BltOk (X : Cx) (fv : Value) (b : Blt) : Prop :=
  ∀ (A : AP) (pins : List (Addr × Obj)) (s : Shared) (σ : L2.St) (H : Hp) (vs : List V) (us : List Value) (Q : VK) (xs : List PyData) (c : PyData), Inv X pins σ H s → (∀ p, A p → H p ≠ none) → Vals vs us → RbAll A X.K H vs xs →
    bltD b xs = some c → (∀ z H', Same H H' → Rp A X.K H' z c → Q z H') → wpAny (model X.prog X.w) X.A (call fv us) (EP X pins σ Q) X.xe s
/-- one that makes a list -/
def BltNew (X : Cx) (fv : Value) (b : Blt) : Prop :=
  ∀ (A : AP) (pins : List (Addr × Obj)) (s : Shared) (σ : L2.St) (H : Hp) (vs : List V) (us : List Value) (Q : VK) (xs : List PyData) (c : PyData), Inv X pins σ H s → (∀ p, A p → H p ≠ none) → Vals vs us → RbAll A X.K H vs xs →
    bltD b xs = some c → (∀ p ws ds H', c = .list ds → H p = none → H' p = some (.lst ws) → Same H H' → RpAll (fun a => A a ∨ a = p) X.K H' ws ds → Q (.ref p) H') → wpAny (model X.prog X.w) X.A (call fv us) (EP X pins σ Q) X.xe s
section
variable {X : Cx}
theorem BltNew.ok {fv : Value} {b : Blt} (h : BltNew X fv b) : BltOk X fv b := fun A pins s σ H vs us Q xs c I hA rv rb hg q =>
  h A pins s σ H vs us Q xs c I hA rv rb hg fun p ws ds H' e hp hp' sm r => by
    subst e
    exact q _ H' sm (.lst (.inl ⟨fun z => hA p z hp, .inl hp'⟩) (RpAll.moves (Moves.sub fun a z => .inl z) _ _ r))
theorem b1_of {b : Blt} {xs : List PyData} {c : PyData} (hb : b ≠ .min2) (hb' : b ≠ .max2) (h : bltD b xs = some c) : ∃ x, xs = [x] ∧ b1 b x = some c := by
  match xs, h with
  | [], h => cases h
  | [x], h => exact ⟨x, rfl, h⟩
  | [x, y], h =>
    have h' : b2 b x y = some c := h
    cases x <;> cases y <;> first | cases h' | skip
    rename_i i j
    have h2 : b2i b i j = some c := h'
    cases b <;> first | exact absurd rfl hb | exact absurd rfl hb' | cases h2
  | _ :: _ :: _ :: _, h => cases h
theorem RbAll.one {A : AP} {K : PySem.W.Frag} {H : Hp} {vs : List V} {x : PyData} (r : RbAll A K H vs [x]) : ∃ v, vs = [v] ∧ Rb A K H v x := by
  cases r with
  | cons r1 r2 =>
    cases r2
    exact ⟨_, rfl, r1⟩
/-- one of one argument -/
def Blt1Ok (X : Cx) (fv : Value) (b : Blt) : Prop :=
  ∀ (A : AP) (pins : List (Addr × Obj)) (s : Shared) (σ : L2.St) (H : Hp) (v : V) (us : List Value) (Q : VK) (x : PyData) (c : PyData), Inv X pins σ H s → (∀ p, A p → H p ≠ none) → Vals [v] us → Rb A X.K H v x →
    b1 b x = some c → (∀ z H', Same H H' → Rp A X.K H' z c → Q z H') → wpAny (model X.prog X.w) X.A (call fv us) (EP X pins σ Q) X.xe s
theorem Blt1Ok.ok {fv : Value} {b : Blt} (hb : b ≠ .min2) (hb' : b ≠ .max2) (h : Blt1Ok X fv b) : BltOk X fv b := fun A pins s σ H vs us Q xs c I hA rv rb hg q => by
  obtain ⟨x, rfl, hg'⟩ := b1_of hb hb' hg
  obtain ⟨v, rfl, r⟩ := rb.one
  exact h A pins s σ H v us Q x c I hA rv r hg' q
def Blt1New (X : Cx) (fv : Value) (b : Blt) : Prop :=
  ∀ (A : AP) (pins : List (Addr × Obj)) (s : Shared) (σ : L2.St) (H : Hp) (v : V) (us : List Value) (Q : VK) (x : PyData) (c : PyData), Inv X pins σ H s → (∀ p, A p → H p ≠ none) → Vals [v] us → Rb A X.K H v x →
    b1 b x = some c → (∀ p ws ds H', c = .list ds → H p = none → H' p = some (.lst ws) → Same H H' → RpAll (fun a => A a ∨ a = p) X.K H' ws ds → Q (.ref p) H') → wpAny (model X.prog X.w) X.A (call fv us) (EP X pins σ Q) X.xe s
theorem Blt1New.ok {fv : Value} {b : Blt} (hb : b ≠ .min2) (hb' : b ≠ .max2) (h : Blt1New X fv b) : BltNew X fv b := fun A pins s σ H vs us Q xs c I hA rv rb hg q => by
  obtain ⟨x, rfl, hg'⟩ := b1_of hb hb' hg
  obtain ⟨v, rfl, r⟩ := rb.one
  exact h A pins s σ H v us Q x c I hA rv r hg' q
theorem bo_len : BltOk X (.builtin "len") .len := Blt1Ok.ok (by decide) (by decide) fun A pins s σ H v us Q x c I hA rv rb hg q => by
  have hg' : lenD x = some c := hg
  cases x with
  | list ys =>
    cases hg'
    obtain ⟨p, ws, rfl, h1, h2⟩ := rb.list
    exact call_len_seq pins s σ H _ us Q I rv ⟨p, ws, rfl, .inl h1.sq, by rw [h2.length]; exact q _ H (Same.refl H) (.int _)⟩
  | tuple ys =>
    cases hg'
    obtain ⟨p, ws, rfl, h1, h2⟩ := rb.tuple
    exact call_len_seq pins s σ H _ us Q I rv ⟨p, ws, rfl, .inr h1, by rw [h2.length]; exact q _ H (Same.refl H) (.int _)⟩
  | str z =>
    have hg2 : (if lenOk z.length then some (PyData.int z.length) else none) = some c := hg
    split at hg2
    · rename_i hl
      cases hg2
      obtain rfl := rb.str
      exact call_len_str pins s σ H _ us Q I rv ⟨z, rfl, lenOk_line hl, q _ H (Same.refl H) (.int _)⟩
    · cases hg2
  | _ => cases hg'
theorem bo_abs : BltOk X (.builtin "abs") .abs := Blt1Ok.ok (by decide) (by decide) fun A pins s σ H v us Q x c I hA rv rb hg q => by
  have hg' : absD x = some c := hg
  cases x with
  | int i =>
    cases hg'
    obtain rfl := rb.int
    refine call_abs pins s σ H _ us Q I rv ⟨i, rfl, ?_⟩
    have e : (if i < 0 then -i else i) = (i.natAbs : Int) := by split <;> omega
    rw [e]
    exact q _ H (Same.refl H) (.int _)
  | _ => cases hg'
theorem bo_int : BltOk X (.type "int") .int := Blt1Ok.ok (by decide) (by decide) fun A pins s σ H v us Q x c I hA rv rb hg q => by
  have hg' : intD x = some c := hg
  cases x with
  | int i =>
    cases hg'
    obtain rfl := rb.int
    exact call_int1 pins s σ H _ us Q I rv (.inl ⟨i, rfl, q _ H (Same.refl H) (.int _)⟩)
  | bool k =>
    cases hg'
    obtain rfl := rb.bool
    exact call_int1 pins s σ H _ us Q I rv (.inr ⟨k, rfl, q _ H (Same.refl H) (.int _)⟩)
  | _ => cases hg'
theorem b2_of {b : Blt} {xs : List PyData} {c : PyData} (hb : ∀ x, b1 b x = none) (h : bltD b xs = some c) : ∃ i j, xs = [.int i, .int j] ∧ b2i b i j = some c := by
  match xs, h with
  | [], h => cases h
  | [x], h => rw [show bltD b [x] = b1 b x from rfl, hb] at h; cases h
  | [x, y], h =>
    have h' : b2 b x y = some c := h
    cases x <;> cases y <;> first | cases h' | exact ⟨_, _, rfl, h'⟩
  | _ :: _ :: _ :: _, h => cases h
theorem two_ints {A : AP} {K : PySem.W.Frag} {H : Hp} {vs : List V} {i j : Int} (r : RbAll A K H vs [.int i, .int j]) : vs = [.int i, .int j] := by
  cases r with
  | cons r1 r2 =>
    cases r2 with
    | cons r2 r3 =>
      cases r3
      rw [r1.int, r2.int]
theorem bo_max2 (hc : X.calm = true) : BltOk X (.builtin "max") .max2 := fun A pins s σ H vs us Q xs c I hA rv rb hg q => by
  obtain ⟨i, j, rfl, e⟩ := b2_of (fun x => rfl) hg
  cases e
  obtain rfl := two_ints rb
  refine call_max2 hc pins s σ H _ us Q I rv ⟨i, j, rfl, ?_⟩
  have e : (if j > i then j else i) = max i j := by rw [Int.max_def]; split <;> split <;> omega
  rw [e]
  exact q _ H (Same.refl H) (.int _)
theorem bo_min2 (hc : X.calm = true) : BltOk X (.builtin "min") .min2 := fun A pins s σ H vs us Q xs c I hA rv rb hg q => by
  obtain ⟨i, j, rfl, e⟩ := b2_of (fun x => rfl) hg
  cases e
  obtain rfl := two_ints rb
  refine call_min2 hc pins s σ H _ us Q I rv ⟨i, j, rfl, ?_⟩
  have e : (if j < i then j else i) = min i j := by rw [Int.min_def]; split <;> split <;> omega
  rw [e]
  exact q _ H (Same.refl H) (.int _)
theorem bind_of {α β : Type} {o : Option α} {f : α → Option β} {c : β} (h : o.bind f = some c) : ∃ a, o = some a ∧ f a = some c := by
  cases o with
  | none => cases h
  | some a => exact ⟨a, rfl, h⟩
theorem map_of {α β : Type} {o : Option α} {f : α → β} {c : β} (h : o.map f = some c) : ∃ a, o = some a ∧ f a = c := by
  cases o with
  | none => cases h
  | some a => cases h; exact ⟨a, rfl, rfl⟩
theorem bo_tuple : BltOk X (.type "tuple") .tuple := Blt1Ok.ok (by decide) (by decide) fun A pins s σ H v us Q x c I hA rv rb hg q => by
  obtain ⟨xs, e, rfl⟩ := map_of (show (seqOf x).map PyData.tuple = some c from hg)
  obtain ⟨p, ws, rfl, h1, h2⟩ := rb.seq e
  rcases h1 with ⟨rfl, h1⟩ | ⟨rfl, h1⟩
  · exact call_tuple_of pins s σ H _ us Q I rv ⟨p, ws, rfl, .inl ⟨h1.sq, fun l hl => q _ _ (same_upd' hl) (rp_new_tup hl hA h2)⟩⟩
  · refine call_tuple_of pins s σ H _ us Q I rv ⟨p, ws, rfl, .inr ⟨h1, q _ H (Same.refl H) ?_⟩⟩
    rcases rb with rb | ⟨_, _, _, _, z, _⟩
    · exact rb
    · cases z
theorem bn_list : BltNew X (.type "list") .list := Blt1New.ok (by decide) (by decide) fun A pins s σ H v us Q x c I hA rv rb hg q => by
  obtain ⟨xs, e, rfl⟩ := map_of (show (seqOf x).map PyData.list = some c from hg)
  obtain ⟨p, ws, rfl, h1, h2⟩ := rb.seq e
  refine call_list_of pins s σ H _ us Q I rv ⟨p, ws, rfl, ?_, fun l hl => q l ws xs _ rfl hl upd_same (same_upd' hl) (h2.apart hl _)⟩
  rcases h1 with ⟨_, h1⟩ | ⟨_, h1⟩
  · exact .inl (h1.sq)
  · exact .inr h1
theorem intsOf_of : ∀ {xs : List PyData} {ns : List Int}, intsOf xs = some ns → xs = ns.map PyData.int
  | [], ns, h => by cases h; rfl
  | x :: xs, ns, h => by
    cases x with
    | int i =>
      obtain ⟨ms, e, rfl⟩ := map_of (show (intsOf xs).map (i :: ·) = some ns from h)
      rw [List.map_cons, intsOf_of e]
    | _ => cases h
theorem sum_tup {prog : Program} {w : World} {A : Around} {E : Value → Shared → Prop} {s : Shared} {l : Addr} {its : List Value} {ns : List Int} {Q : Value → Shared → Prop} (hh : A.handled = none) (hl : s.heap.IsTuple l its.toArray) (hi : IntsAre its ns)
    (h : ∀ h' tk t', (∀ b o, s.heap.get? b = some o → h'.get? b = some o) → Q (.int ns.sum t') { s with heap := h', toks := tk }) : wpAny (model prog w) A (call (.builtin "sum") [.ref l]) Q E s := by
  obtain ⟨xs, e⟩ := hi.allInts.items
  have hn : numsOf (intItems xs).toList = ns := by rw [← e]; exact hi.numsOf
  rw [nums_intItems] at hn
  rw [e] at hl
  refine PySem.W.ktm_sumG hh hl fun h' tk t' hk => ?_
  have := h h' tk t' hk
  rw [preSum_eq, List.take_of_length_le (by simp), hn]; exact this
theorem bo_sum (hc : X.calm = true) : BltOk X (.builtin "sum") .sum := Blt1Ok.ok (by decide) (by decide) fun A pins s σ H v us Q x c I hA rv rb hg q => by
  obtain ⟨xs, e, hg'⟩ := bind_of (show sumD x = some c from hg)
  obtain ⟨ns, e2, rfl⟩ := map_of hg'
  obtain rfl := intsOf_of e2
  obtain ⟨p, ws, rfl, h1, h2⟩ := rb.seq e
  obtain rfl := h2.of_ints
  rcases h1 with ⟨_, h1⟩ | ⟨_, h1⟩
  · exact cr_sum hc pins s σ H _ us Q I rv ⟨p, ns, rfl, h1.sq, q _ H (Same.refl H) (.int _)⟩
  · obtain ⟨its, rvs, hl, _⟩ := I.tuple h1
    rw [Vals.ref1 rv]
    exact sum_tup (I.ok.hd hc) hl rvs.ints fun h' tk t' hk => ⟨.int _, H, I.kept hk, ⟨_, rfl⟩, q _ H (Same.refl H) (.int _)⟩
theorem alikeAll_of {xs : List PyData} (h : allAlike xs = true) : PySem.W.AlikeAll xs := by
  unfold allAlike at h
  rw [List.all_eq_true] at h
  refine ⟨fun x hx y hy => ?_, fun x hx e => ?_⟩
  · have := h x hx
    rw [Bool.and_eq_true, List.all_eq_true] at this
    exact this.2 y hy
  · have := h x hx
    rw [Bool.and_eq_true] at this
    rw [e] at this
    exact absurd this.1 (by decide)
theorem vals_at : ∀ {vs : List V} {us : List Value} {i : Nat} {u : Value}, Vals vs us → us[i]? = some u → ∃ v, vs[i]? = some v ∧ RelV v u
  | _, _, _, _, .nil, e => by simp at e
  | _, _, 0, _, .cons h _, e => by
    simp only [List.getElem?_cons_zero, Option.some.injEq] at e
    subst e; exact ⟨_, rfl, h⟩
  | _, _, i + 1, u, .cons _ t, e => by
    obtain ⟨v, h1, h2⟩ := vals_at (i := i) (u := u) t (by simpa using e)
    exact ⟨v, by simpa using h1, h2⟩
/-- the item that was told -/
theorem best_fin {A : AP} {pins : List (Addr × Obj)} {s : Shared} {σ : L2.St} {H : Hp} {its : List Value} {ws : List V} {xs : List PyData} {Q : VK} {d : PyData} {i : Nat} {v : Value} {h' : Heap} {tk : Nat} {bs : List Addr}
    (I : Inv X pins σ H s) (rvs : Vals ws its) (h2 : RpAll A X.K H ws xs) (hv : its.toArray[i]? = some v) (r : Reads h' v d bs) (hk : ∀ b o, s.heap.get? b = some o → h'.get? b = some o) (q : ∀ z H', Same H H' → Rp A X.K H' z d → Q z H') : EP X pins σ Q v { s with heap := h', toks := tk } := by
  obtain ⟨w, e1, rw1⟩ := vals_at (i := i) rvs (by rw [← hv]; simp)
  obtain ⟨d', e2, r2⟩ := h2.get' e1
  have I2 : Inv X pins σ H { s with heap := h', toks := tk } := I.kept hk
  obtain rfl : d' = d := Rp.unique I2 r2 rw1 r
  exact ⟨w, H, I2, rw1, q w H (Same.refl H) r2⟩
theorem bo_min (hc : X.calm = true) (hu : Rm X) : BltOk X (.builtin "min") .min := Blt1Ok.ok (by decide) (by decide) fun A pins s σ H v us Q x c I hA rv rb hg q => by
  obtain ⟨xs, e, hg'⟩ := bind_of (show (seqOf x).bind minOfD = some c from hg)
  cases xs with
  | nil => cases hg'
  | cons y ys =>
    have hg2 : (if allAlike (y :: ys) && decide (PyData.depthAll (y :: ys) ≤ 40) then some (PySem.W.minD y ys) else none) = some c := hg'
    split at hg2
    · rename_i hs
      cases hg2
      rw [Bool.and_eq_true] at hs
      have hd := of_decide_eq_true hs.2
      obtain ⟨p, ws, rfl, h1, h2⟩ := rb.seq e
      rw [Vals.ref1 rv]
      rcases h1 with ⟨_, h1⟩ | ⟨_, h1⟩
      · obtain ⟨its, rvs, hl, _⟩ := I.list h1.sq
        obtain ⟨as, rr⟩ := h2.reads I rvs
        exact PySem.W.min_list_data (I.ok.hd hc) hl.isList (by simpa using rr) (alikeAll_of hs.1) (by have := hu; omega) fun i v h' tk bs hv r hk => best_fin I rvs h2 hv r hk q
      · obtain ⟨its, rvs, hl, _⟩ := I.tuple h1
        obtain ⟨as, rr⟩ := h2.reads I rvs
        exact PySem.W.min_tuple_data (I.ok.hd hc) hl (by simpa using rr) (alikeAll_of hs.1) (by have := hu; omega) fun i v h' tk bs hv r hk => best_fin I rvs h2 hv r hk q
    · cases hg2
theorem bo_max (hc : X.calm = true) (hu : Rm X) : BltOk X (.builtin "max") .max := Blt1Ok.ok (by decide) (by decide) fun A pins s σ H v us Q x c I hA rv rb hg q => by
  obtain ⟨xs, e, hg'⟩ := bind_of (show (seqOf x).bind maxOfD = some c from hg)
  cases xs with
  | nil => cases hg'
  | cons y ys =>
    have hg2 : (if allAlike (y :: ys) && decide (PyData.depthAll (y :: ys) ≤ 40) then some (PySem.W.maxD y ys) else none) = some c := hg'
    split at hg2
    · rename_i hs
      cases hg2
      rw [Bool.and_eq_true] at hs
      have hd := of_decide_eq_true hs.2
      obtain ⟨p, ws, rfl, h1, h2⟩ := rb.seq e
      rw [Vals.ref1 rv]
      rcases h1 with ⟨_, h1⟩ | ⟨_, h1⟩
      · obtain ⟨its, rvs, hl, _⟩ := I.list h1.sq
        obtain ⟨as, rr⟩ := h2.reads I rvs
        exact PySem.W.max_list_data (I.ok.hd hc) hl.isList (by simpa using rr) (alikeAll_of hs.1) (by have := hu; omega) fun i v h' tk bs hv r hk => best_fin I rvs h2 hv r hk q
      · obtain ⟨its, rvs, hl, _⟩ := I.tuple h1
        obtain ⟨as, rr⟩ := h2.reads I rvs
        exact PySem.W.max_tuple_data (I.ok.hd hc) hl (by simpa using rr) (alikeAll_of hs.1) (by have := hu; omega) fun i v h' tk bs hv r hk => best_fin I rvs h2 hv r hk q
    · cases hg2
theorem bools_fits {xs : List PyData} (h : boolsOf xs = true) : ∀ x ∈ xs, x.fits63 := fun x hx => by
  unfold boolsOf at h
  rw [List.all_eq_true] at h
  have := h x hx
  cases x <;> first | trivial | cases this
theorem bo_any (hc : X.calm = true) : BltOk X (.builtin "any") .any := Blt1Ok.ok (by decide) (by decide) fun A pins s σ H v us Q x c I hA rv rb hg q => by
  obtain ⟨xs, e, hg'⟩ := bind_of (show ((seqOf x).bind fun xs => if boolsOf xs then some (.bool (xs.any PyData.truthy)) else none) = some c from hg)
  have hg2 : (if boolsOf xs then some (PyData.bool (xs.any PyData.truthy)) else none) = some c := hg'
  split at hg2
  · rename_i hs
    cases hg2
    obtain ⟨p, ws, rfl, h1, h2⟩ := rb.seq e
    rw [Vals.ref1 rv]
    rcases h1 with ⟨_, h1⟩ | ⟨_, h1⟩
    · obtain ⟨its, rvs, hl, _⟩ := I.list h1.sq
      obtain ⟨as, rr⟩ := h2.reads I rvs
      exact PySem.W.any_list_data (I.ok.hd hc) hl.isList (by simpa using rr) (RpAll.plain _ _ h2) (bools_fits hs) fun h' tk hk => ⟨.bl _, H, I.kept hk, rfl, q _ H (Same.refl H) (.bl _)⟩
    · obtain ⟨its, rvs, hl, _⟩ := I.tuple h1
      obtain ⟨as, rr⟩ := h2.reads I rvs
      exact PySem.W.any_tuple_data (I.ok.hd hc) hl (by simpa using rr) (RpAll.plain _ _ h2) (bools_fits hs) fun h' tk hk => ⟨.bl _, H, I.kept hk, rfl, q _ H (Same.refl H) (.bl _)⟩
  · cases hg2
theorem bo_all (hc : X.calm = true) : BltOk X (.builtin "all") .all := Blt1Ok.ok (by decide) (by decide) fun A pins s σ H v us Q x c I hA rv rb hg q => by
  obtain ⟨xs, e, hg'⟩ := bind_of (show ((seqOf x).bind fun xs => if boolsOf xs then some (.bool (xs.all PyData.truthy)) else none) = some c from hg)
  have hg2 : (if boolsOf xs then some (PyData.bool (xs.all PyData.truthy)) else none) = some c := hg'
  split at hg2
  · rename_i hs
    cases hg2
    obtain ⟨p, ws, rfl, h1, h2⟩ := rb.seq e
    rw [Vals.ref1 rv]
    rcases h1 with ⟨_, h1⟩ | ⟨_, h1⟩
    · obtain ⟨its, rvs, hl, _⟩ := I.list h1.sq
      obtain ⟨as, rr⟩ := h2.reads I rvs
      exact PySem.W.all_list_data (I.ok.hd hc) hl.isList (by simpa using rr) (RpAll.plain _ _ h2) (bools_fits hs) fun h' tk hk => ⟨.bl _, H, I.kept hk, rfl, q _ H (Same.refl H) (.bl _)⟩
    · obtain ⟨its, rvs, hl, _⟩ := I.tuple h1
      obtain ⟨as, rr⟩ := h2.reads I rvs
      exact PySem.W.all_tuple_data (I.ok.hd hc) hl (by simpa using rr) (RpAll.plain _ _ h2) (bools_fits hs) fun h' tk hk => ⟨.bl _, H, I.kept hk, rfl, q _ H (Same.refl H) (.bl _)⟩
  · cases hg2
/-! sorted -/
def SrtR (A : AP) (K : PySem.W.Frag) (H : Hp) (v : Value) (d : PyData) : Prop := ∃ x, RelV x v ∧ Rp A K H x d
theorem each_of {A : AP} {K : PySem.W.Frag} {H : Hp} : ∀ {vs : List V} {us : List Value} {ds : List PyData}, Vals vs us → RpAll A K H vs ds → PySem.W.EachIs (SrtR A K H) us ds
  | _, _, _, .nil, .nil => .nil
  | _, _, _, .cons r rs, .cons q qs => .cons ⟨_, r, q⟩ (each_of rs qs)
theorem each_back {A : AP} {K : PySem.W.Frag} {H : Hp} : ∀ {us : List Value} {ds : List PyData}, PySem.W.EachIs (SrtR A K H) us ds → ∃ vs, Vals vs us ∧ RpAll A K H vs ds
  | _, _, .nil => ⟨[], .nil, .nil⟩
  | _, _, .cons ⟨x, r, q⟩ t => by
    obtain ⟨vs, h1, h2⟩ := each_back t
    exact ⟨x :: vs, .cons r h1, .cons q h2⟩
theorem sortable_of {xs : List PyData} (h : sortable xs = true) : PySem.W.Sortable xs := by
  unfold sortable at h
  rw [Bool.or_eq_true, List.all_eq_true, List.all_eq_true] at h
  rcases h with h | h
  · refine .inl fun d hd => ?_
    have := h d hd
    cases d with
    | tuple xs =>
      cases xs with
      | nil => cases this
      | cons x r => exact ⟨x, r, rfl⟩
    | _ => cases this
  · refine .inr fun d hd => ?_
    have := h d hd
    cases d <;> first | (exfalso; cases this; done) | exact ⟨by simp, by simp⟩
theorem depth_le {d : PyData} : ∀ {xs : List PyData}, d ∈ xs → d.depth ≤ PyData.depthAll xs
  | x :: xs, h => by
    simp only [PyData.depthAll]
    rcases List.mem_cons.mp h with rfl | h
    · exact Nat.le_max_left _ _
    · exact Nat.le_trans (depth_le h) (Nat.le_max_right _ _)
theorem bn_sortedL (hu : Rm X) : ∀ (A : AP) (pins : List (Addr × Obj)) (s : Shared) (σ : L2.St) (H : Hp) (v : V) (us : List Value) (Q : VK) (xs ds : List PyData), Inv X pins σ H s → (∀ p, A p → H p ≠ none) → Vals [v] us → Rb A X.K H v (.list xs) →
    sortD xs = some ds → (∀ p ws H', H p = none → H' p = some (.lst ws) → Same H H' → RpAll (fun a => A a ∨ a = p) X.K H' ws ds → Q (.ref p) H') → wpAny (model X.prog X.w) X.A (call (.builtin "sorted") us) (EP X pins σ Q) X.xe s := by
  intro A pins s σ H v us Q xs ds I hA rv rb hg q
  have hg2 : (if allAlike xs && sortable xs && decide (PyData.depthAll xs ≤ 40) then some (xs.mergeSort (PySem.W.dataLe false id)) else none) = some ds := hg
  split at hg2
  · rename_i hs
    cases hg2
    rw [Bool.and_eq_true, Bool.and_eq_true] at hs
    have hd := of_decide_eq_true hs.2
    obtain ⟨p, ws, rfl, h1, h2⟩ := rb.list
    rw [Vals.ref1 rv]
    obtain ⟨its, rvs, hl, hz⟩ := I.list h1.sq
    have hm : xs.map id = xs := List.map_id _
    refine PySem.W.sorted_data (enc := id) (bs := xs) hl.isList (each_of rvs h2) ((each_of rvs h2).mono fun u d ⟨x, r1, r2⟩ => r2.reads I r1) (by rw [hm]; exact (alikeAll_of hs.1.1).1) (by rw [hm]; exact sortable_of hs.1.2) (by rw [← h2.length]; exact hz)
      (fun b hb => by have := hu; have := depth_le hb; show _ + 2 + b.depth < _; omega) fun out ho er => ?_
    obtain ⟨zs, rz, rd⟩ := each_back er
    obtain ⟨c, hc⟩ := sortedAll_at s.heap its out.toArray
    have hn : H (s.heap.objs.size + 1) = none := I.hok.fresh (by omega)
    refine ⟨.ref (s.heap.objs.size + 1), upd H (s.heap.objs.size + 1) (.lst zs), I.laid (t' := s.toks) (fun b o e => sortedAll_old e) (by omega) ⟨?_, out, c, rz, hc⟩, rfl, q _ zs _ hn upd_same (same_upd' hn) (rd.apart hn _)⟩
    rw [rz.length, ho, ← h2.length]
    exact hz
  · cases hg2
theorem bn_sorted (hu : Rm X) : BltNew X (.builtin "sorted") .sorted := Blt1New.ok (by decide) (by decide) fun A pins s σ H v us Q x c I hA rv rb hg q => by
  have hg' : sortedD x = some c := hg
  cases x with
  | list xs =>
    obtain ⟨ds, e, rfl⟩ := map_of (show (sortD xs).map PyData.list = some c from hg')
    exact bn_sortedL hu A pins s σ H v us Q xs ds I hA rv rb e fun p ws H' h1 h2 h3 h4 => q p ws ds H' rfl h1 h2 h3 h4
  | _ => cases hg'
end
/-! ### the rules -/
section
variable {X : Cx} {Γ : Cfg} {F : Fn} {p pos : Pos} {e a : Expr} {es : List Expr} {cs : List E} {ca : E} {x : Str}
/-- as a rule of the layer -/
def rB (X : Cx) (b : Blt) : List V → Hp → VK → Prop := fun vs H Q => ∃ (A : AP) (xs : List PyData) (c : PyData), (∀ p, A p → H p ≠ none) ∧ RbAll A X.K H vs xs ∧ bltD b xs = some c ∧ ∀ z H', Same H H' → Rp A X.K H' z c → Q z H'
def rBN (X : Cx) (b : Blt) : List V → Hp → VK → Prop := fun vs H Q => ∃ (A : AP) (xs : List PyData) (c : PyData), (∀ p, A p → H p ≠ none) ∧ RbAll A X.K H vs xs ∧ bltD b xs = some c ∧
  ∀ p ws ds H', c = .list ds → H p = none → H' p = some (.lst ws) → Same H H' → RpAll (fun a => A a ∨ a = p) X.K H' ws ds → Q (.ref p) H'
theorem BltOk.rule {fv : Value} {b : Blt} (h : BltOk X fv b) : CallR X fv (rB X b) := fun pins s σ H vs us Q I r ⟨A, xs, c, hA, rb, e, q⟩ => h A pins s σ H vs us Q xs c I hA r rb e q
theorem BltNew.rule {fv : Value} {b : Blt} (h : BltNew X fv b) : CallR X fv (rBN X b) := fun pins s σ H vs us Q I r ⟨A, xs, c, hA, rb, e, q⟩ => h A pins s σ H vs us Q xs c I hA r rb e q
theorem RpWs.rb {σ : L2.St} {H : Hp} {env : Ev} {t : T} (G : Good Γ σ H env t) : ∀ {vs : List V} {ws : List W} {xs : List PyData}, RpWs Γ σ env H vs ws → allDat ws = some xs → RbAll (Av Γ σ env) Γ.K H vs xs
  | _, _, _, .nil, h => by cases h; exact .nil
  | _, _, _, .cons r rs, h => by
    obtain ⟨y, e1, h⟩ := bind_of h
    obtain ⟨ys, e2, rfl⟩ := map_of h
    exact .cons (G.rb r e1) (RpWs.rb G rs e2)
theorem de_bltR {b : Blt} (hK : Γ.K = X.K) {t : TA} (h : ∀ {t : TA}, PA X (e :: es) t → PE X a (tCB (rB X b) t)) (ha : DA X Γ F (e :: es) cs) : DE X Γ F a (.blt b cs) :=
  (h ha).to fun σ H Q ⟨env, t, G, q⟩ => tA.of G q fun vs H1 ws t1 f1 G1 r1 q1 => by
    obtain ⟨c, e1, q2⟩ := q1.opt
    obtain ⟨xs, e2, e3⟩ := bind_of e1
    refine ⟨Av Γ σ env, xs, c, G1.avHas, hK ▸ RpWs.rb G1 r1 e2, e3, fun z H' sm rz => q2 z H' (same_frame sm) (G1.same sm) ?_⟩
    rw [← hK] at rz
    exact rz
theorem postF.mono {σ : L2.St} {H H1 : Hp} {env : Ev} {Q : VK} {r : R W} (h : postF Γ σ H env Q r) (f : Frame Γ.tp H H1) : postF Γ σ H1 env Q r := h.frame f fun _ _ z => z
theorem df_bltR {b : Blt} (hK : Γ.K = X.K) (h : ∀ {t : TA}, PA X (e :: es) t → PE X a (tCB (rBN X b) t)) (ha : DA X Γ F (e :: es) cs) (hl : ∀ xs c, bltD b xs = some c → ∃ ds, c = .list ds) : DF X Γ F a (.blt b cs) :=
  (h ha).to fun σ H Q ⟨env, t, G, q⟩ => by
    have q' : postF Γ σ H env Q ((evs F cs env t).bind fun ws t1 => (optR ((allDat ws).bind fun xs => bltD b xs) t1).bind fun r t2 => .ok (.d r) t2) := q
    refine ⟨env, t, G, (postF.seq (P := PWs Γ σ env) q').mono Frame.refl fun vs H1 ⟨ws, t1, f1, G1, r1, q1⟩ => ?_⟩
    obtain ⟨c, e1, q2⟩ := postF.opt q1
    obtain ⟨xs, e2, e3⟩ := bind_of e1
    obtain ⟨ds, rfl⟩ := hl xs c e3
    refine ⟨Av Γ σ env, xs, _, G1.avHas, hK ▸ RpWs.rb G1 r1 e2, e3, fun p ws2 ds2 H' ec hp hp' sm r => ?_⟩
    cases ec
    exact q2 p ws2 H' hp hp' (same_frame sm) (G1.same sm) (G1.tapeNew hp sm) (hK ▸ r)
/-! ### isinstance -/
def rIsa (X : Cx) (ty : Ty) (T : String) : List V → Hp → VK → Prop := fun vs H Q => ∃ (A : AP) (v : V) (d : PyData), vs = [v, .ty T] ∧ Rb A X.K H v d ∧ Q (.bl (tyD ty d)) H
def tyS : Ty → String
  | .int => "int"
  | .bool => "bool"
  | .str => "str"
  | .tuple => "tuple"
  | .list => "list"
theorem isa_rule (ty : Ty) : CallR X (.builtin "isinstance") (rIsa X ty (tyS ty)) := fun pins s σ H vs us Q I r ⟨A, v, d, e, rb, q⟩ => by
  subst e
  obtain ⟨u1, u2, rfl, r1, r2⟩ := vals2 r
  obtain rfl : u2 = Value.type (tyS ty) := r2
  obtain ⟨as, rd⟩ := rb_reads I rb r1
  cases ty
  · exact PySem.W.isinstance_int_data rd fun tk _ => ⟨.bl _, H, I.tok tk, rfl, q⟩
  · exact PySem.W.isinstance_bool_data rd fun tk _ => ⟨.bl _, H, I.tok tk, rfl, q⟩
  · exact PySem.W.isinstance_str_data rd fun tk _ => ⟨.bl _, H, I.tok tk, rfl, q⟩
  · exact PySem.W.isinstance_tuple_data rd fun tk _ => ⟨.bl _, H, I.tok tk, rfl, q⟩
  · exact PySem.W.isinstance_list_data rd fun tk _ => ⟨.bl _, H, I.tok tk, rfl, q⟩
theorem de_isa {ty : Ty} {nm : Str} {ip tpos : Pos} (hK : Γ.K = X.K) (hg : Gl X "isinstance") (hm : X.mg "isinstance" = none) (hgt : Gl X nm) (hmt : X.mg nm = none) (hv : bootBuiltins nm = some (.type (tyS ty))) (hn : nm ≠ "__name__") (hd : (nm == ("__debug__" : Str)) = false)
    (ha : DE X Γ F a ca) (hs : starEach [a, .Name nm tpos] X.env = (false, eval a X.env) :: starEach [.Name nm tpos] X.env) : DE X Γ F (.Call (.Name "isinstance" ip) [a, .Name nm tpos] [] pos) (.isa ca ty) := by
  have pt : PE X (.Name nm tpos) (tC (.ty (tyS ty))) := pe_bltn hgt hmt hv rfl hn hd
  have pa : PA X [a, .Name nm tpos] (tCons (tE Γ F ca) (tCons (tC (.ty (tyS ty))) tNil)) := pa_cons ha (pa_cons pt pa_nil) hs
  refine (pe_callB (isa_rule ty) hg hm (by rfl) pa (he := hs)).to fun σ H Q ⟨env, t, G, q⟩ => ?_
  show tE Γ F ca σ H _
  refine tE.of G q fun v H1 w t1 f1 G1 r1 q1 => ?_
  obtain ⟨d, e1, q2⟩ := q1.opt
  exact ⟨Av Γ σ env, v, d, rfl, hK ▸ G1.rb r1 e1, q2 _ H1 Frame.refl G1 (.bl _)⟩
end
end DL
/-! DL7: calls of defs. -/
namespace DL
open PySem PySem.Spec PyProof.Rows L2
/-- what is handed to a def -/
inductive ArgsR (A : AP) (tp : Option Addr) (K : PySem.W.Frag) (H : Hp) : List V → List W → Prop
  | nil : ArgsR A tp K H [] []
  | d {v : V} {vs : List V} {x : PyData} {ws : List W} : Rp A K H v x → ArgsR A tp K H vs ws → ArgsR A tp K H (v :: vs) (.d x :: ws)
  | tape {a : Addr} {vs : List V} {ws : List W} : tp = some a → ArgsR A tp K H vs ws → ArgsR A tp K H (.ref a :: vs) (.tape :: ws)
/-- what a def gives back -/
def RpR (A : AP) (tp : Option Addr) (K : PySem.W.Frag) (H H' : Hp) (t' : T) (v : V) : W → Prop
  | .d x => Rp A K H' v x
  | .fresh xs => ∃ p vs, v = .ref p ∧ H p = none ∧ H' p = some (.lst vs) ∧ TapeR (fun a => A a ∨ a = p) tp K H' t' ∧ RpAll (fun a => A a ∨ a = p) K H' vs xs
  | _ => False
abbrev AT (O : AP) (tp : Option Addr) : AP := fun a => O a ∨ tp = some a
def postD (O : AP) (tp : Option Addr) (K : PySem.W.Frag) (tabs : List Addr) (H : Hp) (ec : Nat → Value) (Q : VK) (E : XK) : R W → Prop
  | .ok w t' => ∀ v H', Frame tp H H' → TabsG tabs H' → TapeR (AT O tp) tp K H' t' → RpR (AT O tp) tp K H H' t' v w → Q v H'
  | .err k t' => ∀ H', Frame tp H H' → TabsG tabs H' → TapeR (AT O tp) tp K H' t' → E (ec k) none H'
  | .bad => False
/-- a def's promise -/
def spD (K : PySem.W.Frag) (tabs : List Addr) (ec : Nat → Value) (S : List W → T → R W) : Sp := fun vs H Q E =>
  ∃ (O : AP) (tp : Option Addr) (ws : List W) (t : T), ArgsR (AT O tp) tp K H vs ws ∧ TabsG tabs H ∧ (∀ a, O a → H a ≠ none) ∧ TapeR (AT O tp) tp K H t ∧ postD O tp K tabs H ec Q E (S ws t)
def tCallR (sp : Sp) (E : XK) (t : TA) : TE := fun σ H Q => t σ H fun vs H1 => sp vs H1 Q E
section
variable {X : Cx} {CX : CXT} {k : Nat} {f : Addr} {sp : Sp} {E : XK} {x : Str} {p pos : Pos} {e : Expr} {es : List Expr} {t : TA}
theorem run_fnR {pins : List (Addr × Obj)} {σ : L2.St} {H : Hp} {s : Shared} {Q : VK} {us : List Value} {vs : List V} (F : FnR X.prog X.w X.K X.mg X.base CX k f sp) (hr : Room k X.A) (hx : Passes CX X E)
    (I : Inv X pins σ H s) (r : Vals vs us) (h : sp vs H Q E) : wpAny (model X.prog X.w) X.A (call (.ref f) us) (EP X pins σ Q) X.xe s := by
  refine wpAny_call (codeAny_mono (F X.A X.stack s H us vs Q E hr I.env0 r h) fun r s' hq => ?_)
  cases r with
  | error e => exact hx pins σ H s e s' I hq
  | ok fl =>
    cases fl with
    | ret u => exact I.after hq
    | next => exact False.elim hq
    | brk => exact False.elim hq
    | cont => exact False.elim hq
theorem pe_callR (F : FnR X.prog X.w X.K X.mg X.base CX k f sp) (hr : Room k X.A) (hg : Gl X x) (hm : X.mg x = some (.ref f)) (hk : PySem.W.keepIn X.K (.ref f) = true) (hx : Passes CX X E)
    (ha : PA X (e :: es) t) (hdb : (x == ("__debug__" : Str)) = false) (he : starEach (e :: es) X.env = (false, eval e X.env) :: starEach es X.env) (hpl : (backTo pos (starEach es X.env)).any (·.1) = false) :
    PE X (.Call (.Name x p) (e :: es) [] pos) (tCallR sp E t) := by
  refine ⟨fun pins s σ H Q I h => ?_⟩
  refine wpAny_Call_Name_kw (ld_glob I hg hm ?_ hdb)
  refine PySem.W.callWith_K (h₀ := X.base) I.ok.mod.kin hk (thn (ha.run pos pins s σ H _ I h) fun us s1 ⟨vs, H1, I1, r, q⟩ => ⟨I1.kIn, ?_⟩) he hpl
  exact run_fnR F hr hx I1 r q
theorem pe_callR0 (F : FnR X.prog X.w X.K X.mg X.base CX k f sp) (hr : Room k X.A) (hg : Gl X x) (hm : X.mg x = some (.ref f)) (hk : PySem.W.keepIn X.K (.ref f) = true) (hx : Passes CX X E)
    (hdb : (x == ("__debug__" : Str)) = false) : PE X (.Call (.Name x p) [] [] pos) (tCallR sp E tNil) := by
  refine ⟨fun pins s σ H Q I h => ?_⟩
  refine wpAny_Call_Name_kw (ld_glob I hg hm ?_ hdb)
  exact PySem.W.callWith_K0 I.kIn hk (run_fnR (us := []) F hr hx I .nil h)
end
section
variable {X : Cx} {CX : CXT} {Γ : Cfg} {F : Fn} {p pos : Pos} {e a : Expr} {es : List Expr} {cs : List E} {x : Str}
/-- what a callee may not touch -/
def Ov (Γ : Cfg) (σ : L2.St) (env : Ev) : AP := fun a => Γ.O a ∨ Ow env σ a
theorem ov_av {σ : L2.St} {env : Ev} {a : Addr} : AT (Ov Γ σ env) Γ.tp a ↔ Av Γ σ env a := by
  unfold AT Ov Av
  constructor
  · rintro ((h | h) | h)
    · exact .inl h
    · exact .inr (.inr h)
    · exact .inr (.inl h)
  · rintro (h | h | h)
    · exact .inl (.inl h)
    · exact .inr h
    · exact .inl (.inr h)
theorem ov_eq {σ : L2.St} {env : Ev} : AT (Ov Γ σ env) Γ.tp = Av Γ σ env := by
  funext a
  exact propext ov_av
theorem RpWs.args {σ : L2.St} {H : Hp} {env : Ev} : ∀ {vs : List V} {ws : List W}, RpWs Γ σ env H vs ws → ws.all W.arg = true → ArgsR (Av Γ σ env) Γ.tp Γ.K H vs ws
  | _, _, .nil, _ => .nil
  | _, w :: ws, .cons r rs, h => by
    rw [List.all_cons, Bool.and_eq_true] at h
    cases w with
    | d x => exact .d r (RpWs.args rs h.2)
    | tape =>
      obtain ⟨a, e, rfl⟩ := r
      exact .tape e (RpWs.args rs h.2)
    | un => cases h.1
    | own _ => cases h.1
    | fresh _ => cases h.1
/-- the call's own step: from what is wanted of the whole to the callee's promise -/
theorem call_step {σ : L2.St} {H : Hp} {env : Ev} {t : T} {vs : List V} {ws : List W} {S : List W → T → R W} {Q : VK} {k : W → T → R W} (G : Good Γ σ H env t) (r : RpWs Γ σ env H vs ws) (hw : ws.all W.arg = true)
    (hq : ∀ w t', S ws t = .ok w t' → ∀ v H', Frame Γ.tp H H' → Good Γ σ H' env t' → RpR (Av Γ σ env) Γ.tp Γ.K H H' t' v w → Q v H') (he : ∀ k t', S ws t = .err k t' → ∀ H', Frame Γ.tp H H' → Good Γ σ H' env t' → Γ.E (Γ.ec k) none H') (hb : S ws t ≠ .bad) :
    spD Γ.K Γ.tabs Γ.ec S vs H Q Γ.E := by
  refine ⟨Ov Γ σ env, Γ.tp, ws, t, ?_, G.tabs, fun a h => G.avHas a (ov_av.mp (.inl h)), ?_, ?_⟩
  · rw [ov_eq]; exact r.args hw
  · rw [ov_eq]; exact G.tape
  · unfold postD
    rw [ov_eq]
    cases e : S ws t with
    | ok w t' => exact fun v H' f ht hp rv => hq w t' e v H' f (G.frame f ht hp) rv
    | err k t' => exact fun H' f ht hp => he k t' e H' f (G.frame f ht hp)
    | bad => exact hb e
theorem de_callR {i : Nat} (hK : Γ.K = X.K) (h : PE X a (tCallR (spD X.K Γ.tabs Γ.ec (F i)) Γ.E (tA Γ F cs))) : DE X Γ F a (.call i cs) :=
  h.to fun σ H Q ⟨env, t, G, q⟩ => tA.of G q fun vs H1 ws t1 f1 G1 r1 q1 => by
    rw [← hK]
    have q1' : postE Γ σ H1 env (PW1 Γ σ env) Q (if ws.all W.arg then (F i ws t1).bind fun w t2 => match w with
      | .d x => .ok (.d x) t2
      | .fresh xs => .ok (.d (.list xs)) t2
      | _ => .bad
    else .bad) := q1
    split at q1'
    · rename_i hw
      refine call_step (k := fun w t => .ok w t) G1 r1 hw (fun w t' e v H' f G' rv => ?_) (fun k t' e H' f G' => ?_) fun e => ?_
      · rw [e] at q1'
        cases w with
        | d x => exact q1' v H' f G' rv
        | fresh xs =>
          obtain ⟨p, ys, rfl, h1, h2, _, h3⟩ := rv
          exact q1' _ H' f G' (.lst (.inl ⟨G1.free h1, .inl h2⟩) (RpAll.moves (Moves.sub fun a z => .inl z) _ _ h3))
        | _ => exact rv.elim
      · rw [e] at q1'
        exact q1' H' f G'
      · rw [e] at q1'
        exact q1'.elim
    · exact q1'.elim
theorem df_callR {i : Nat} (hK : Γ.K = X.K) (h : PE X a (tCallR (spD X.K Γ.tabs Γ.ec (F i)) Γ.E (tA Γ F cs))) : DF X Γ F a (.callF i cs) :=
  h.to fun σ H Q ⟨env, t, G, q⟩ => by
    have q' : postF Γ σ H env Q ((evs F cs env t).bind fun ws t1 => if ws.all W.arg then (F i ws t1).bind fun w t2 => match w with
      | .fresh xs => .ok (.d (.list xs)) t2
      | _ => .bad
    else .bad) := q
    refine ⟨env, t, G, (postF.seq (P := PWs Γ σ env) q').mono Frame.refl fun vs H1 ⟨ws, t1, f1, G1, r1, q1⟩ => ?_⟩
    rw [← hK]
    split at q1
    · rename_i hw
      refine call_step (k := fun w t => .ok w t) G1 r1 hw (fun w t' e v H' f G' rv => ?_) (fun k t' e H' f G' => ?_) fun e => ?_
      · rw [e] at q1
        cases w with
        | fresh xs =>
          obtain ⟨p, ys, rfl, h1, h2, h4, h3⟩ := rv
          exact q1 p ys H' h1 h2 f G' h4 h3
        | _ => exact q1.elim
      · rw [e] at q1
        exact q1 H' f G'
      · rw [e] at q1
        exact q1.elim
    · exact q1.elim
end
end DL
/-! DL8: what is walked. -/
namespace DL
open PySem PySem.Spec PyProof.Rows L2
/-- how the heap may stand while it is walked: what was good data is good data; o: own lists stand, too -/
def StW (o : Bool) (tp : Option Addr) (A : AP) (H : Hp) (H' : Hp) (A' : AP) : Prop :=
  Moves A A' H H' ∧ (∀ p, A' p → H' p ≠ none) ∧ (o = true → Frame tp H H')
/-- J hands out the data xs -/
structure WkD (K : PySem.W.Frag) (G : Hp → AP → Prop) (J : L2.It) (xs : List PyData) : Prop where
  goes : ∀ i H A, i < xs.length → G H A → J.go i H
  stops : ∀ H A, G H A → J.stop xs.length H
  yields : ∀ i H A x H', i < xs.length → G H A → J.yld i H x H' → Same H H' ∧ (∀ p, H' p = none → H p = none) ∧ ∃ d, xs[i]? = some d ∧ Rp A K H' x d
def tI (Γ : Cfg) (F : Fn) (o : Bool) (c : DL.It) : TI := fun σ H R => ∃ env t, Good Γ σ H env t ∧ postE Γ σ H env (fun H' J xs => WkD Γ.K (StW o Γ.tp (Av Γ σ env) H') J xs) R (evI F o c env t)
abbrev DI (X : Cx) (Γ : Cfg) (F : Fn) (o : Bool) (tg e : Expr) (c : DL.It) : Prop := PI X tg e (tI Γ F o c)
section
variable {X : Cx} {Γ : Cfg} {F : Fn} {o : Bool} {tg a b : Expr} {ca cb : E} {p pos : Pos}
/-- an expression's value that is walked -/
def iAny (K : PySem.W.Frag) (tl : TE) : TI := fun σ H R => tl σ H fun x H1 => ∃ a, x = .ref a ∧ ((∃ xs, SqL K H1 a xs ∧ R (Itl K a) H1) ∨ (∃ xs, SqT K H1 a xs ∧ R (Itt K a) H1))
theorem pi_any {l : Expr} {tl : TE} (hl : PE X l tl) : PI X tg l (iAny X.K tl) := by
  refine ⟨fun pins s σ H R I h => ?_⟩
  refine thn (hl.run pins s σ H _ I h) fun v s1 ⟨x, H1, I1, r1, q1⟩ => ?_
  obtain ⟨a, e, q⟩ := q1
  subst e
  cases r1
  have fin : ∀ b ∈ [s1.heap.objs.size], FpOk X pins H1 b := fun b hb => by
    have e : b = s1.heap.objs.size := by simpa using hb
    subst e
    exact I1.fpOk (Nat.le_refl _) (I1.hok.fresh (Nat.le_refl _))
  rcases q with ⟨xs, hq, q⟩ | ⟨xs, hq, q⟩
  · obtain ⟨its, rv, p, hz⟩ := I1.list hq
    refine wpAny_pyIter_list p.isList ?_
    exact ⟨s1.heap.objs.size, [s1.heap.objs.size], _, _, H1, rfl, I1.kept (t' := s1.toks) fun b o e => Heap.get?_push_of_some _ e, turn_list a _, ⟨_, Heap.get?_push_size _ rfl, rfl, rfl⟩, fin, q⟩
  · obtain ⟨its, rv, p, hz⟩ := I1.tuple hq
    refine wpAny_pyIter_tuple (show s1.heap.IsTuple a its.toArray from p) ?_
    exact ⟨s1.heap.objs.size, [s1.heap.objs.size], _, _, H1, rfl, I1.kept (t' := s1.toks) fun b o e => Heap.get?_push_of_some _ e, turn_tuple a _, ⟨_, Heap.get?_push_size _ rfl, rfl, rfl⟩, fin, q⟩
/-! a source: a list, a tuple, good or one's own -/
/-- the object at a holds vs, for the data xs, as long as G -/
structure SrcL (K : PySem.W.Frag) (G : Hp → AP → Prop) (a : Addr) (vs : List V) (xs : List PyData) : Prop where
  at_ : ∀ H A, G H A → SqL K H a vs
  dat : ∀ H A, G H A → RpAll A K H vs xs
structure SrcT (K : PySem.W.Frag) (G : Hp → AP → Prop) (a : Addr) (vs : List V) (xs : List PyData) : Prop where
  at_ : ∀ H A, G H A → SqT K H a vs
  dat : ∀ H A, G H A → RpAll A K H vs xs
theorem seqO_src {σ : L2.St} {H : Hp} {env : Ev} {t : T} {v : V} {w : W} {xs : List PyData} (G : Good Γ σ H env t) (r : RpW Γ σ env H v w) (e : w.seqO o = some xs) :
    ∃ a vs, v = .ref a ∧ vs.length = xs.length ∧ ((SqL Γ.K H a vs ∧ SrcL Γ.K (StW o Γ.tp (Av Γ σ env) H) a vs xs ∧ w.lstO o = some xs) ∨ (SqT Γ.K H a vs ∧ SrcT Γ.K (StW o Γ.tp (Av Γ σ env) H) a vs xs ∧ w.tupO = some xs)) := by
  cases w with
  | d x =>
    have r' : Rp (Av Γ σ env) Γ.K H v x := r
    have e' : seqOf x = some xs := e
    cases x with
    | list ys =>
      cases e'
      cases r' with
      | lst h1 h2 =>
        rename_i a vs
        exact ⟨a, vs, rfl, h2.length, .inl ⟨h1.sq.sq, ⟨fun H A g => (g.1.ls h1).sq.sq, fun H A g => RpAll.moves g.1 _ _ h2⟩, rfl⟩⟩
    | tuple ys =>
      cases e'
      cases r' with
      | tup h1 h2 =>
        rename_i a vs
        exact ⟨a, vs, rfl, h2.length, .inr ⟨h1.sq, ⟨fun H A g => (g.1.tp h1).sq, fun H A g => RpAll.moves g.1 _ _ h2⟩, rfl⟩⟩
    | _ => cases e'
  | own ys =>
    have e' : (if o = true then some ys else none) = some xs := e
    split at e'
    · rename_i ho
      cases e'
      obtain ⟨i, a, h1, h2, rfl⟩ := r
      obtain ⟨b, vs, e1, e2, r, _, _, ht⟩ := G.own i xs h1
      rw [h2] at e1; cases e1
      refine ⟨a, vs, rfl, r.length, .inl ⟨.inl (.inl e2), ⟨fun H A g => .inl (.inl ((g.2.2 ho).keep a _ e2 ht (fun _ z => by cases z))), fun H A g => RpAll.moves g.1 _ _ r⟩, ?_⟩⟩
      show (if o = true then some xs else none) = _
      rw [if_pos ho]
    · cases e'
  | _ => cases e
theorem SrcL.wk {K : PySem.W.Frag} {G : Hp → AP → Prop} {a : Addr} {vs : List V} {xs : List PyData} (s : SrcL K G a vs xs) (hl : vs.length = xs.length) : WkD K G (Itl K a) xs where
  goes := fun i H A hi g => walk_list.goes i H (by rw [hl]; exact hi) (s.at_ H A g)
  stops := fun H A g => by rw [← hl]; exact walk_list.stops H (s.at_ H A g)
  yields := fun i H A x H' hi g y => by
    obtain ⟨rfl, e⟩ := walk_list.yields i H x H' (by rw [hl]; exact hi) (s.at_ H A g) y
    exact ⟨Same.refl _, fun _ z => z, (s.dat _ A g).get' e⟩
theorem SrcT.wk {K : PySem.W.Frag} {G : Hp → AP → Prop} {a : Addr} {vs : List V} {xs : List PyData} (s : SrcT K G a vs xs) (hl : vs.length = xs.length) : WkD K G (Itt K a) xs where
  goes := fun i H A hi g => walk_tup.goes i H (by rw [hl]; exact hi) (s.at_ H A g)
  stops := fun H A g => by rw [← hl]; exact walk_tup.stops H (s.at_ H A g)
  yields := fun i H A x H' hi g y => by
    obtain ⟨rfl, e⟩ := walk_tup.yields i H x H' (by rw [hl]; exact hi) (s.at_ H A g) y
    exact ⟨Same.refl _, fun _ z => z, (s.dat _ A g).get' e⟩
theorem di_seq (hK : Γ.K = X.K) (ha : DE X Γ F a ca) : DI X Γ F o tg a (.seq ca) := by
  refine ⟨fun pins s σ H R I ⟨env, t, G, q⟩ => (pi_any ha).run pins s σ H R I ?_⟩
  refine tE.of G q fun v H1 w t1 f1 G1 r1 q1 => ?_
  cases e : w.seqO o with
  | none => rw [e] at q1; exact q1.elim
  | some xs =>
    rw [e] at q1
    obtain ⟨a, vs, rfl, hl, h | h⟩ := seqO_src G1 r1 e
    · exact ⟨a, rfl, .inl ⟨vs, hK ▸ h.1, hK ▸ q1 _ H1 Frame.refl G1 (h.2.1.wk hl)⟩⟩
    · exact ⟨a, rfl, .inr ⟨vs, hK ▸ h.1, hK ▸ q1 _ H1 Frame.refl G1 (h.2.1.wk hl)⟩⟩
theorem PI.toI {e : Expr} {t t' : TI} (h : PI X tg e t) (k : ∀ σ H Q, t' σ H Q → t σ H Q) : PI X tg e t' := ⟨fun pins s σ H Q I q => h.run pins s σ H Q I (k σ H Q q)⟩
theorem rngD_len {i j : Int} : (rngD i j).length = (j - i).toNat := by
  unfold rngD
  rw [List.length_map, List.length_range]
theorem rngD_get {i j : Int} {k : Nat} (h : k < (j - i).toNat) : (rngD i j)[k]? = some (.int (i + (k : Int))) := by
  unfold rngD
  rw [List.getElem?_map, List.getElem?_range h]
  rfl
theorem wk_rng {K : PySem.W.Frag} {G : Hp → AP → Prop} {i j : Int} : WkD K G (Itr i (j - i).toNat) (rngD i j) where
  goes := fun k H A hk g => by rw [rngD_len] at hk; exact hk
  stops := fun H A g => by rw [rngD_len]; exact Nat.le_refl _
  yields := fun k H A x H' hk g ⟨e, ex⟩ => by
    subst e ex
    rw [rngD_len] at hk
    exact ⟨Same.refl _, fun _ z => z, _, rngD_get hk, .int _⟩
theorem rngOk_b {i j : Int} (h : rngOk i j = true) : -(2 ^ 62) ≤ i ∧ i < 2 ^ 62 ∧ -(2 ^ 62) ≤ j ∧ j < 2 ^ 62 := by
  unfold rngOk at h
  simp only [Bool.and_eq_true, decide_eq_true_eq] at h
  omega
theorem int_of {σ : L2.St} {H : Hp} {env : Ev} {v : V} {w : W} {i : Int} (r : RpW Γ σ env H v w) (e : asInt w = some i) : v = .int i := by
  rw [asInt_of e] at r
  have r2 : Rp (Av Γ σ env) Γ.K H v (.int i) := r
  cases r2; rfl
theorem di_rng (hg : Gl X "range") (hm : X.mg "range" = none) (ha : DE X Γ F a ca) (hb : DE X Γ F b cb) (hs : starEach [a, b] X.env = [(false, eval a X.env), (false, eval b X.env)]) (hs2 : starEach [b] X.env = [(false, eval b X.env)]) : DI X Γ F o tg (.Call (.Name "range" p) [a, b] [] pos) (.rng ca cb) := by
  have pa : PA X [a, b] (tCons (tE Γ F ca) (tCons (tE Γ F cb) tNil)) := pa_cons ha (pa_cons hb pa_nil (by rw [hs2]; rfl)) (by rw [hs, hs2])
  refine PI.toI (pi_range2 hg hm pa hs hs2) fun σ H R ⟨env, t, G, q⟩ => ?_
  show tE Γ F ca σ H _
  refine tE.of G q fun v H1 w t1 f1 G1 r1 q1 => ?_
  refine tE.of G1 q1 fun u H2 w2 t2 f2 G2 r2 q2 => ?_
  obtain ⟨i, e1, q3⟩ := q2.opt
  obtain ⟨j, e2, q4⟩ := q3.opt
  have q5 : postE Γ σ H2 env (fun H' J xs => WkD Γ.K (StW o Γ.tp (Av Γ σ env) H') J xs) R (if rngOk i j = true then .ok (rngD i j) t2 else .bad) := q4
  split at q5
  · rename_i hr
    obtain rfl := int_of r1 e1
    obtain rfl := int_of r2 e2
    exact ⟨i, j, rfl, rngOk_b hr, q5 _ H2 Frame.refl G2 wk_rng⟩
  · exact q5.elim
theorem di_rng1 (hg : Gl X "range") (hm : X.mg "range" = none) (hb : DE X Γ F b cb) (hs : starEach [b] X.env = [(false, eval b X.env)]) : DI X Γ F o tg (.Call (.Name "range" p) [b] [] pos) (.rng1 cb) := by
  have pa : PA X [b] (tCons (tE Γ F cb) tNil) := pa_cons hb pa_nil (by rw [hs]; rfl)
  refine PI.toI (pi_range1 hg hm pa hs) fun σ H R ⟨env, t, G, q⟩ => ?_
  show tE Γ F cb σ H _
  refine tE.of G q fun v H1 w t1 f1 G1 r1 q1 => ?_
  obtain ⟨j, e1, q4⟩ := q1.opt
  have q5 : postE Γ σ H1 env (fun H' J xs => WkD Γ.K (StW o Γ.tp (Av Γ σ env) H') J xs) R (if rngOk 0 j = true then .ok (rngD 0 j) t1 else .bad) := q4
  split at q5
  · rename_i hr
    obtain rfl := int_of r1 e1
    obtain ⟨_, _, h3, h4⟩ := rngOk_b hr
    refine ⟨j, rfl, h3, h4, ?_⟩
    have e : j.toNat = (j - 0).toNat := by simp
    rw [e]
    exact q5 _ H1 Frame.refl G1 wk_rng
  · exact q5.elim
theorem rev_get {α : Type} {xs : List α} {n i : Nat} {x : α} (hn : xs.length = n) (hi : i < n) (h : xs[n - 1 - i]? = some x) : xs.reverse[i]? = some x := by
  rw [List.getElem?_reverse (by omega), ← h]
  congr 1
  omega
theorem di_rev (hK : Γ.K = X.K) (hg : Gl X "reversed") (hm : X.mg "reversed" = none) (ha : DE X Γ F a ca) (hs : starEach [a] X.env = (false, eval a X.env) :: starEach [] X.env) : DI X Γ F o tg (.Call (.Name "reversed" p) [a] [] pos) (.rev ca) := by
  refine PI.toI (RT.pi_revA hg hm ha hs) fun σ H R ⟨env, t, G, q⟩ => ?_
  refine tE.of G q fun v H1 w t1 f1 G1 r1 q1 => ?_
  obtain ⟨xs, e, q2⟩ := q1.opt
  obtain ⟨a, vs, rfl, hl, h | h⟩ := seqO_src G1 r1 e
  · refine ⟨a, vs, rfl, .inl ⟨hK ▸ h.1, hK ▸ q2 _ H1 Frame.refl G1 ⟨fun i H A hi g => ?_, fun H A g => ?_, fun i H A x H' hi g ⟨e1, y⟩ => ?_⟩⟩⟩
    · rw [List.length_reverse, ← hl] at hi
      exact ⟨hi, vs, vs[vs.length - 1 - i]'(by omega), h.2.1.at_ H A g, by rw [List.getElem?_eq_getElem]⟩
    · show vs.length ≤ _
      rw [List.length_reverse, hl]; exact Nat.le_refl _
    · subst e1
      rw [List.length_reverse, ← hl] at hi
      obtain ⟨d, e3, r3⟩ := (h.2.1.dat _ A g).get' (y vs (h.2.1.at_ _ A g))
      exact ⟨Same.refl _, fun _ z => z, d, rev_get hl.symm hi e3, r3⟩
  · refine ⟨a, vs, rfl, .inr ⟨hK ▸ h.1, hK ▸ q2 _ H1 Frame.refl G1 ⟨fun i H A hi g => ?_, fun H A g => ?_, fun i H A x H' hi g ⟨e1, y⟩ => ?_⟩⟩⟩
    · rw [List.length_reverse, ← hl] at hi
      exact ⟨hi, vs, vs[vs.length - 1 - i]'(by omega), h.2.1.at_ H A g, by rw [List.getElem?_eq_getElem]⟩
    · show vs.length ≤ _
      rw [List.length_reverse, hl]; exact Nat.le_refl _
    · subst e1
      rw [List.length_reverse, ← hl] at hi
      obtain ⟨d, e3, r3⟩ := (h.2.1.dat _ A g).get' (y vs (h.2.1.at_ _ A g))
      exact ⟨Same.refl _, fun _ z => z, d, rev_get hl.symm hi e3, r3⟩
/-! a new pair at each turn -/
theorem rp_pair {A : AP} {K : PySem.W.Frag} {H : Hp} {P : Addr} {x y : V} {d e : PyData} (hP : H P = none) (hA : ∀ p, A p → H p ≠ none) (r1 : Rp A K H x d) (r2 : Rp A K H y e) : Rp A K (upd H P (.tup [x, y])) (.ref P) (.tuple [d, e]) := rp_new_tup hP hA (.cons r1 (.cons r2 .nil))
theorem upd_back {H : Hp} {P : Addr} {u : HO} : ∀ p, upd H P u p = none → H p = none := fun p z => by
  by_cases e : p = P
  · subst e; rw [upd_same] at z; cases z
  · rw [upd_ne e] at z; exact z
theorem enum_get {xs : List PyData} {i : Nat} {d : PyData} (h : xs[i]? = some d) : (xs.zipIdx.map fun p => PyData.tuple [.int p.2, p.1])[i]? = some (.tuple [.int (i : Nat), d]) := by
  rw [List.getElem?_map, List.getElem?_zipIdx, h]
  simp
theorem wk_enumL {K : PySem.W.Frag} {tp : Option Addr} {A0 : AP} {H0 : Hp} {a : Addr} {vs : List V} {xs : List PyData} (s : SrcL K (StW o tp A0 H0) a vs xs) (hl : vs.length = xs.length) : WkD K (StW o tp A0 H0) (Ite K a) (xs.zipIdx.map fun p => .tuple [.int p.2, p.1]) where
  goes := fun i H A hi g => by
    rw [List.length_map, List.length_zipIdx, ← hl] at hi
    exact ⟨vs, vs[i], s.at_ H A g, by rw [List.getElem?_eq_getElem]⟩
  stops := fun H A g => ⟨vs, s.at_ H A g, by rw [List.length_map, List.length_zipIdx, hl]; exact Nat.le_refl _⟩
  yields := fun i H A x H' hi g ⟨P, y, e1, hP, e2, hy⟩ => by
    subst e1 e2
    obtain ⟨d, e3, r3⟩ := (s.dat _ A g).get' (hy vs (s.at_ _ A g))
    exact ⟨same_upd' hP, upd_back, _, enum_get e3, rp_pair hP g.2.1 (.int _) r3⟩
theorem zip_get {xs ys : List PyData} {i : Nat} {d e : PyData} (h : xs[i]? = some d) (h' : ys[i]? = some e) : ((xs.zip ys).map fun p => PyData.tuple [p.1, p.2])[i]? = some (.tuple [d, e]) := by
  rw [List.getElem?_map, (List.getElem?_zip_eq_some (z := (d, e))).mpr ⟨h, h'⟩]
  rfl
theorem di_zip {elts : List Expr} {kk : Nat} {tpos : Pos} (hK : Γ.K = X.K) (hg : Gl X "zip") (hm : X.mg "zip" = none) (ha : DE X Γ F a ca) (hb : DE X Γ F b cb) (hs : starEach [a, b] X.env = (false, eval a X.env) :: starEach [b] X.env) (hs2 : starEach [b] X.env = (false, eval b X.env) :: starEach [] X.env)
    (hpl : (backTo pos (starEach [b] X.env)).any (·.1) = false) : DI X Γ F o (.Tuple elts kk tpos) (.Call (.Name "zip" p) [a, b] [] pos) (.zip ca cb) := by
  have pa : PA X [a, b] (tCons (tE Γ F ca) (tCons (tE Γ F cb) tNil)) := pa_cons ha (pa_cons hb pa_nil hs2) hs
  refine PI.toI (RZ.pi_zipA hg hm pa hs hpl) fun σ H R ⟨env, t, G, q⟩ => ?_
  show tE Γ F ca σ H _
  refine tE.of G q fun v H1 w t1 f1 G1 r1 q1 => ?_
  refine tE.of G1 q1 fun u H2 w2 t2 f2 G2 r2 q2 => ?_
  obtain ⟨ps, e, q3⟩ := q2.opt
  have r1' := r1.frame f2
  have lt : ∀ {w : W} {xs : List PyData}, w.lstO o = some xs → w.seqO o = some xs := fun {w xs} z => by
    cases w with
    | d x => cases x <;> first | exact z | cases z
    | own _ => exact z
    | _ => cases z
  have tt : ∀ {w : W} {xs : List PyData}, w.tupO = some xs → w.seqO o = some xs ∧ w.lstO o = none := fun {w xs} z => by
    cases w with
    | d x => cases x <;> first | exact ⟨z, rfl⟩ | cases z
    | _ => cases z
  have lists : ∀ xs ys, w.lstO o = some xs → w2.lstO o = some ys → ps = xs.zip ys → ∃ a b xs ys, [v, u] = [.ref a, .ref b] ∧ ((SqL X.K H2 a xs ∧ SqL X.K H2 b ys ∧ R (Itz X.K a b) H2) ∨ (SqT X.K H2 a xs ∧ SqT X.K H2 b ys ∧ R (RZ.ItzT X.K a b) H2)) := by
    intro xs ys ex ey eps
    subst eps
    obtain ⟨a, vs, rfl, hl, h | h⟩ := seqO_src G2 r1' (lt ex)
    · obtain ⟨b, us, rfl, hl2, h2 | h2⟩ := seqO_src G2 r2 (lt ey)
      · refine ⟨a, b, vs, us, rfl, .inl ⟨hK ▸ h.1, hK ▸ h2.1, hK ▸ q3 _ H2 Frame.refl G2 ⟨fun i H A hi g => ?_, fun H A g => ?_, fun i H A x H' hi g ⟨P, y, z, e1, hP, e2, hy, hz⟩ => ?_⟩⟩⟩
        · rw [List.length_map, List.length_zip, ← hl, ← hl2] at hi
          exact ⟨vs, us, vs[i]'(by omega), us[i]'(by omega), h.2.1.at_ H A g, h2.2.1.at_ H A g, by rw [List.getElem?_eq_getElem], by rw [List.getElem?_eq_getElem]⟩
        · refine ⟨vs, us, h.2.1.at_ H A g, h2.2.1.at_ H A g, ?_⟩
          rw [List.length_map, List.length_zip, ← hl, ← hl2]
          omega
        · subst e1 e2
          obtain ⟨d, e3, r3⟩ := (h.2.1.dat _ A g).get' (hy vs (h.2.1.at_ _ A g))
          obtain ⟨d2, e4, r4⟩ := (h2.2.1.dat _ A g).get' (hz us (h2.2.1.at_ _ A g))
          exact ⟨same_upd' hP, upd_back, _, zip_get e3 e4, rp_pair hP g.2.1 r3 r4⟩
      · rw [(tt h2.2.2).2] at ey; cases ey
    · rw [(tt h.2.2).2] at ex; cases ex
  have tuples : ∀ xs ys, w.tupO = some xs → w2.tupO = some ys → ps = xs.zip ys → ∃ a b xs ys, [v, u] = [.ref a, .ref b] ∧ ((SqL X.K H2 a xs ∧ SqL X.K H2 b ys ∧ R (Itz X.K a b) H2) ∨ (SqT X.K H2 a xs ∧ SqT X.K H2 b ys ∧ R (RZ.ItzT X.K a b) H2)) := by
    intro xs ys ex ey eps
    subst eps
    obtain ⟨a, vs, rfl, hl, h | h⟩ := seqO_src G2 r1' (tt ex).1
    · rw [(tt ex).2] at h; cases h.2.2
    · obtain ⟨b, us, rfl, hl2, h2 | h2⟩ := seqO_src G2 r2 (tt ey).1
      · rw [(tt ey).2] at h2; cases h2.2.2
      · refine ⟨a, b, vs, us, rfl, .inr ⟨hK ▸ h.1, hK ▸ h2.1, hK ▸ q3 _ H2 Frame.refl G2 ⟨fun i H A hi g => ?_, fun H A g => ?_, fun i H A x H' hi g ⟨P, y, z, e1, hP, e2, hy, hz⟩ => ?_⟩⟩⟩
        · rw [List.length_map, List.length_zip, ← hl, ← hl2] at hi
          exact ⟨vs, us, vs[i]'(by omega), us[i]'(by omega), h.2.1.at_ H A g, h2.2.1.at_ H A g, by rw [List.getElem?_eq_getElem], by rw [List.getElem?_eq_getElem]⟩
        · refine ⟨vs, us, h.2.1.at_ H A g, h2.2.1.at_ H A g, ?_⟩
          rw [List.length_map, List.length_zip, ← hl, ← hl2]
          omega
        · subst e1 e2
          obtain ⟨d, e3, r3⟩ := (h.2.1.dat _ A g).get' (hy vs (h.2.1.at_ _ A g))
          obtain ⟨d2, e4, r4⟩ := (h2.2.1.dat _ A g).get' (hz us (h2.2.1.at_ _ A g))
          exact ⟨same_upd' hP, upd_back, _, zip_get e3 e4, rp_pair hP g.2.1 r3 r4⟩
  have e' : (match w.lstO o, w2.lstO o with
  | some xs, some ys => some (xs.zip ys)
  | _, _ => match w.tupO, w2.tupO with
    | some xs, some ys => some (xs.zip ys)
    | _, _ => none) = some ps := e
  split at e'
  · cases e'
    rename_i xs ys ex ey
    exact lists xs ys ex ey rfl
  · split at e'
    · cases e'
      rename_i xs ys ex ey
      exact tuples xs ys ex ey rfl
    · cases e'
end
/-! enumerate -/
set_option maxHeartbeats 1000000 in
theorem meets_enum1 {v : Value} {o : Obj} {H : Heap → Prop} (B : Begins v o H) :
    Meets (Builtin.«enumerate.__new__» ⟨[.type "enumerate", v], []⟩) (fun _ R s => H s.heap ∧
      R (.ok (.ret (.ref (s.heap.push o).objs.size))) { s with heap := (s.heap.push o).push { cls := .type "enumerate", data := .fields #[.none, .bool false, .ref s.heap.objs.size, rawInt 0, .none, .none] } }) :=
  .of_wp fun prog w A R s h => by
    obtain ⟨hp, g, d, tk, os⟩ := s; obtain ⟨h1, h⟩ := h
    have hsub := sub_enumerate
    have q1 : ∀ {A' : Around} {E : Value → Shared → Prop} {Q : Value → Shared → Prop}, Q (.ref hp.objs.size) ⟨hp.push o, g, d, tk, os⟩ → wpAny (model prog w) A' (pyIter v) Q E ⟨hp, g, d, tk, os⟩ :=
      fun q => B.iter prog w _ _ ⟨hp, g, d, tk, os⟩ _ h1 q
    wp_walk using q1
    refine wpAny_stack_any fun st => wpAny_pure ?_
    split
    · rename_i c _ _ _ _ _
      cases (c == Value.type "enumerate")
      · wp_walk using q1
        exact ⟨_, rfl, h⟩
      · wp_walk using q1
        exact ⟨_, rfl, h⟩
    · wp_walk using q1
      exact ⟨_, rfl, h⟩
section
variable {prog : Program} {w : World} {A : Around} {E : Value → Shared → Prop} {s : Shared}
theorem enum_begins1 {v : Value} {o : Obj} {H : Heap → Prop} {Q : Value → Shared → Prop} (B : Begins v o H) (h1 : H s.heap)
    (h : ∀ h', IsEnum h' (s.heap.objs.size + 1) s.heap.objs.size 0 .none → h'.get? s.heap.objs.size = some o → h'.objs.size = s.heap.objs.size + 2 →
      (∀ b o, s.heap.get? b = some o → h'.get? b = some o) → Q (.ref (s.heap.objs.size + 1)) { s with heap := h' }) :
    wpAny (model prog w) A (call (.type "enumerate") [v]) Q E s := by
  refine callType_new F.called_enumerate (by decide) (F.typeCall_enumerate_1 _) (F.newCall_enumerate_1 _) (fun obj => F.args_object_init_2 obj _) F.entry_enumerate_new
    (meets_enum1 B) ⟨h1, ?_⟩
  have hz : (s.heap.push o).objs.size = s.heap.objs.size + 1 := Heap.size_push ..
  show _ ∧ _
  rw [hz]
  have he : IsEnum ((s.heap.push o).push { cls := .type "enumerate", data := .fields #[.none, .bool false, .ref s.heap.objs.size, rawInt 0, .none, .none] }) (s.heap.objs.size + 1) s.heap.objs.size 0 .none := by
    have := Heap.get?_push_size (s.heap.push o) (o := { cls := .type "enumerate", data := .fields #[.none, .bool false, .ref s.heap.objs.size, rawInt 0, .none, .none] }) rfl
    rw [hz] at this; exact this
  refine ⟨⟨_, he, rfl⟩, h _ he (Heap.get?_push_of_some _ (Heap.get?_push_size _ B.free)) (by rw [Heap.size_push, hz]) fun b o x => Heap.get?_push_of_some _ (Heap.get?_push_of_some _ x)⟩
end
/-- the tuple at a as it stands at each turn, each item in a new pair -/
def IteT (K : PySem.W.Frag) (a : Addr) : L2.It :=
  ⟨fun i H => ∃ (xs : List V) (x : V), SqT K H a xs ∧ xs[i]? = some x, fun i H v H' => ∃ T x, v = .ref T ∧ H T = none ∧ H' = upd H T (.tup [.int (i : Nat), x]) ∧ ∀ xs, SqT K H a xs → xs[i]? = some x, fun i H => ∃ xs : List V, SqT K H a xs ∧ xs.length ≤ i⟩
theorem turn_enumT {P : Program} {w : World} {K : PySem.W.Frag} {elts : List Expr} {kk : Nat} {tpos : Pos} (a e it : Addr) (hae : a ≠ e) (hai : a ≠ it) :
    Turn P w K (.Tuple elts kk tpos) (IteT K a) [e, it] e (fun i h => (∃ old, IsEnum h e it ((i : Nat) : Int) old) ∧ h.IsTupleIter it a i ∧ e ≠ it) where
  mem := by simp
  obj := fun i h st b hb => by
    obtain ⟨⟨old, he⟩, ⟨o, ho, hc, hd⟩, _⟩ := st
    have e' : b = e ∨ b = it := by simpa using hb
    rcases e' with z | z
    · rw [z]; exact ⟨_, he, fun v q => nomatch q⟩
    · rw [z]; exact ⟨o, ho, fun v q => by rw [hd] at q; cases q⟩
  keep := fun i h h' st k => let ⟨⟨old, he⟩, hi, hne⟩ := st; ⟨⟨old, k e (by simp) _ he⟩, hi.at fun o q => k it (by simp) o q, hne⟩
  item := by
    intro X hP hw hK hc i pins s σ H E I hf st hg
    subst hP hw hK
    obtain ⟨⟨old, he⟩, hit, hne⟩ := st
    obtain ⟨xs, x, hq, hx⟩ := hg
    obtain ⟨its, rv, p, hz⟩ := I.tuple hq
    have p : s.heap.IsTuple a its.toArray := p
    obtain ⟨u, hu, ru⟩ := rv.get hx
    have hel : e < s.heap.objs.size := Heap.lt_size he
    have hil : it < s.heap.objs.size := by obtain ⟨_, q, _⟩ := hit; exact Heap.lt_size q
    have hlt : i < its.toArray.size := by
      rw [List.size_toArray]
      exact (List.getElem?_eq_some_iff.mp hu).1
    refine wpAny_pyNext_enum_itemC (Draws.tuple (prog := X.prog) (w := X.w) (A := X.A.in1) (I.ok.hd hc) it a hai its.toArray) he ⟨hit, p⟩ hlt hne (by simp only [List.mem_cons, List.not_mem_nil, or_false, not_or]; exact ⟨hne, fun z => hae z.symm⟩) fun y h' tk hy ho hst' hT hsz hk => ?_
    obtain ⟨hit', _⟩ := hst'
    have ey : u = y := by
      have hy' : its.toArray[i]? = some y := hy
      rw [List.getElem?_toArray, hu] at hy'
      exact Option.some.inj hy'
    subst ey
    refine ⟨_, rfl, wpAny_letOwnedTupleGo_enum (s := { s with heap := h', toks := tk + 1 }) ho fun h'' he' sb => ?_⟩
    have hT2 : h''.get? s.heap.objs.size = some { cls := .type "tuple", data := .seq #[.int i tk, u] } := (sb.2 _ (Nat.ne_of_gt hel)).trans hT
    have new : ObjOk X.prog X.w (upd H s.heap.objs.size (.tup [.int (i : Nat), x])) h'' s.heap.objs.size (.tup [.int (i : Nat), x]) :=
      ⟨by show 2 ≤ sizeLine; decide, [.int i tk, u], .cons ⟨_, rfl⟩ (.cons ru .nil), ⟨_, hT2, rfl, _, rfl⟩⟩
    have I1 : Inv X pins σ (upd H s.heap.objs.size (.tup [.int (i : Nat), x])) { s with heap := h'', toks := tk + 1 } :=
      I.turnedNew (ch := [e, it]) (fun b ob hb q => (sb.2 b (fun z => hb (by simp [z]))).trans (hk b ob (fun z => hb (by simp [z])) (fun z => hb (by simp [z])) q)) hf (Nat.le_refl _) new
    refine ⟨.ref s.heap.objs.size, _, I1, rfl, ⟨_, x, rfl, I.hok.fresh (Nat.le_refl _), rfl, fun ys hy => by rw [I.tuple_inj hy hq]; exact hx⟩, ⟨⟨u, ?_⟩, hit'.at fun o q => (sb.2 it (Ne.symm hne)).trans q, hne⟩, fun b hb => ?_⟩
    · have e1 : ((i + 1 : Nat) : Int) = (i : Int) + 1 := by omega
      rw [e1]; exact he'
    · have hb' : b < s.heap.objs.size := by
        have e' : b = e ∨ b = it := by simpa using hb
        rcases e' with z | z
        · rw [z]; exact hel
        · rw [z]; exact hil
      rw [upd_ne (Nat.ne_of_lt hb')]
      exact (hf b hb).1
  done := by
    intro X hP hw hK hc i pins s σ H E I hf st hg
    subst hP hw hK
    obtain ⟨⟨old, he⟩, hit, hne⟩ := st
    obtain ⟨xs, hq, hx⟩ := hg
    obtain ⟨its, rv, p, hz⟩ := I.tuple hq
    have p : s.heap.IsTuple a its.toArray := p
    obtain ⟨f0, f1, f2, f3, f4, f5⟩ := hf it (by simp)
    have hl := rv.length
    have hT : s.TypeIs (.ref e) "enumerate" := ⟨_, he, rfl⟩
    unfold pyNext
    refine wpAny_bind (wpAny_attempt (wpAny_callSpecial?_slot (name := Str.ofString "__next__") hT F.slot_enumerate_next
      (wpAny_call_entry F.slot_enumerate_next hT F.entry_enumerate_next ?_ (F.args_enumerate_next_1 _))))
    show wpAny _ _ (field (.ref e) 2 >>= _) _ _ _
    refine wpAny_bind (wpAny_field he rfl (x := .ref it) rfl ?_)
    refine wpAny_bind (wpAny_nextOf_tuple_end (A := X.A.in1) (I.ok.hd hc) hit p (by simp; omega) fun h' x hex hx' => ?_)
    obtain ⟨o, ho, hc'⟩ := hx'
    refine wpAny_bind (wpAny_isInstance (T := "StopIteration") (b := true) ⟨o, ho, hc'⟩ isSubtype_stop ?_)
    exact wpAny_pure ⟨rfl, I.turned (t' := s.toks) (fun b o hb q => hex b o hb q) f0 f1 f3 f4 f5⟩
  self := fun A i s Q E st h => let ⟨⟨_, he⟩, _⟩ := st; wpAny_pyIter_enum he h
section
variable {X : Cx} {Γ : Cfg} {F : Fn} {o : Bool} {tg a b : Expr} {ca cb : E} {p pos : Pos}
def iEnumA (K : PySem.W.Frag) (te : TE) : TI := fun σ H R => te σ H fun v H1 => ∃ a xs, v = .ref a ∧ ((SqL K H1 a xs ∧ R (Ite K a) H1) ∨ (SqT K H1 a xs ∧ R (IteT K a) H1))
theorem pi_enumA {e : Expr} {te : TE} {tpos : Pos} {elts : List Expr} {kk : Nat} (hg : Gl X "enumerate") (hm : X.mg "enumerate" = none) (he : PE X e te) (hs : starEach [e] X.env = (false, eval e X.env) :: starEach [] X.env) :
    PI X (.Tuple elts kk tpos) (.Call (.Name "enumerate" p) [e] [] pos) (iEnumA X.K te) := by
  refine ⟨fun pins s σ H R I h => ?_⟩
  refine Call_ (ld_blt I hg hm PyProof.Rows.boot_enumerate (PyProof.Rows.callWith_type1 (args_cons (thn (he.run pins s σ H _ I h) fun u s1 ⟨v, H1, I1, r1, q1⟩ => args_nil ?_) hs) hs rfl))
  obtain ⟨a, xs, ex, q⟩ := q1
  subst ex
  obtain rfl : u = Value.ref a := r1
  have fin : ∀ b ∈ [s1.heap.objs.size + 1, s1.heap.objs.size], FpOk X pins H1 b := fun b hb => by
    have e' : b = s1.heap.objs.size + 1 ∨ b = s1.heap.objs.size := by simpa using hb
    have hle : s1.heap.objs.size ≤ b := by
      rcases e' with z | z
      · rw [z]; exact Nat.le_add_right _ _
      · rw [z]; exact Nat.le_refl _
    exact I1.fpOk hle (I1.hok.fresh hle)
  rcases q with ⟨hq, q⟩ | ⟨hq, q⟩
  · obtain ⟨its, rv, p', hz⟩ := I1.list hq
    refine call_enumerate_list p'.isList fun h' he hit hsz hk => wpAny_pyIter_enum he ?_
    have I2 : Inv X pins σ H1 { s1 with heap := h' } := I1.kept (t' := s1.toks) hk
    exact ⟨s1.heap.objs.size + 1, [s1.heap.objs.size + 1, s1.heap.objs.size], _, _, H1, rfl, I2, turn_enum a (s1.heap.objs.size + 1) s1.heap.objs.size, ⟨⟨.none, he⟩, hit, Nat.succ_ne_self _⟩, fin, q⟩
  · obtain ⟨its, rv, p', hz⟩ := I1.tuple hq
    have hlt : a < s1.heap.objs.size := by obtain ⟨o, ho, _⟩ := id p'; exact Heap.lt_size ho
    refine enum_begins1 (begins_tuple a its.toArray) p' fun h' he hit hsz hk => wpAny_pyIter_enum he ?_
    have I2 : Inv X pins σ H1 { s1 with heap := h' } := I1.kept (t' := s1.toks) hk
    exact ⟨s1.heap.objs.size + 1, [s1.heap.objs.size + 1, s1.heap.objs.size], _, _, H1, rfl, I2, turn_enumT a (s1.heap.objs.size + 1) s1.heap.objs.size (Nat.ne_of_lt (Nat.lt_succ_of_lt hlt)) (Nat.ne_of_lt hlt), ⟨⟨.none, he⟩, ⟨_, hit, rfl, rfl⟩, Nat.succ_ne_self _⟩, fin, q⟩
theorem wk_enumT {K : PySem.W.Frag} {tp : Option Addr} {A0 : AP} {H0 : Hp} {a : Addr} {vs : List V} {xs : List PyData} (s : SrcT K (StW o tp A0 H0) a vs xs) (hl : vs.length = xs.length) : WkD K (StW o tp A0 H0) (IteT K a) (xs.zipIdx.map fun p => .tuple [.int p.2, p.1]) where
  goes := fun i H A hi g => by
    rw [List.length_map, List.length_zipIdx, ← hl] at hi
    exact ⟨vs, vs[i], s.at_ H A g, by rw [List.getElem?_eq_getElem]⟩
  stops := fun H A g => ⟨vs, s.at_ H A g, by rw [List.length_map, List.length_zipIdx, hl]; exact Nat.le_refl _⟩
  yields := fun i H A x H' hi g ⟨P, y, e1, hP, e2, hy⟩ => by
    subst e1 e2
    obtain ⟨d, e3, r3⟩ := (s.dat _ A g).get' (hy vs (s.at_ _ A g))
    exact ⟨same_upd' hP, upd_back, _, enum_get e3, rp_pair hP g.2.1 (.int _) r3⟩
theorem di_enum {elts : List Expr} {kk : Nat} {tpos : Pos} (hK : Γ.K = X.K) (hg : Gl X "enumerate") (hm : X.mg "enumerate" = none) (ha : DE X Γ F a ca) (hs : starEach [a] X.env = (false, eval a X.env) :: starEach [] X.env) :
    DI X Γ F o (.Tuple elts kk tpos) (.Call (.Name "enumerate" p) [a] [] pos) (.enum ca) := by
  refine PI.toI (pi_enumA hg hm ha hs) fun σ H R ⟨env, t, G, q⟩ => ?_
  refine tE.of G q fun v H1 w t1 f1 G1 r1 q1 => ?_
  obtain ⟨xs, e, q2⟩ := q1.opt
  obtain ⟨a, vs, rfl, hl, h | h⟩ := seqO_src G1 r1 e
  · exact ⟨a, vs, rfl, .inl ⟨hK ▸ h.1, hK ▸ q2 _ H1 Frame.refl G1 (wk_enumL h.2.1 hl)⟩⟩
  · exact ⟨a, vs, rfl, .inr ⟨hK ▸ h.1, hK ▸ q2 _ H1 Frame.refl G1 (wk_enumT h.2.1 hl)⟩⟩
end
end DL
/-! DL9: targets, tests, comprehensions. -/
namespace DL
open PySem PySem.Spec PyProof.Rows L2
section
variable {Γ : Cfg} {σ : L2.St} {H : Hp} {env : Ev} {t : T} {A : AP}
theorem get_set_eq {α : Type} {l : List α} {i j : Nat} {x y : α} (h : (l.set i x)[j]? = some y) : (j = i ∧ y = x) ∨ (j ≠ i ∧ l[j]? = some y) := by
  by_cases e : j = i
  · subst e
    by_cases hl : j < l.length
    · rw [List.getElem?_set_self hl] at h; cases h; exact .inl ⟨rfl, rfl⟩
    · rw [List.getElem?_eq_none (by simpa using hl)] at h; cases h
  · rw [List.getElem?_set_ne (Ne.symm e)] at h
    exact .inr ⟨e, h⟩
/-- a slot gets something that is no list of one's own -/
theorem Good.put (G : Good Γ σ H env t) {i : Nat} {u : Option V} {w : W} (hi : i < σ.length) (hw : ∀ xs, w ≠ .own xs) (hd : ∀ x, w = .d x → ∃ v, u = some v ∧ Rp (Av Γ σ env) Γ.K H v x) (ht : w ≠ .tape) :
    Good Γ (σ.set i u) H (env.set i w) t ∧ ∀ a, Av Γ (σ.set i u) (env.set i w) a → Av Γ σ env a := by
  have ow : ∀ a, Ow (env.set i w) (σ.set i u) a → Ow env σ a := fun a ⟨j, xs, h1, h2⟩ => by
    rcases get_set_eq h1 with ⟨_, e⟩ | ⟨hj, h1⟩
    · exact absurd e.symm (hw xs)
    · rw [List.getElem?_set_ne (Ne.symm hj)] at h2
      exact ⟨j, xs, h1, h2⟩
  have sub : ∀ a, Av Γ (σ.set i u) (env.set i w) a → Av Γ σ env a := fun a h => by
    rcases h with h | h | h
    · exact .inl h
    · exact .inr (.inl h)
    · exact .inr (.inr (ow a h))
  have mv : Moves (Av Γ σ env) (Av Γ (σ.set i u) (env.set i w)) H H := Moves.sub sub
  refine ⟨⟨by rw [List.length_set, List.length_set]; exact G.len, G.fr, G.oh, G.tabs, fun a h => ?_, fun j x h => ?_, fun j xs h => ?_, fun j k xs ys a h1 h2 h3 h4 => ?_, fun j h => ?_⟩, sub⟩
  · obtain ⟨xs, e, r⟩ := G.tape a h
    exact ⟨xs, e, RpAll.moves mv _ _ r⟩
  · rcases get_set_eq h with ⟨rfl, e⟩ | ⟨hj, h⟩
    · obtain ⟨v, rfl, r⟩ := hd x e.symm
      exact ⟨v, by rw [List.getElem?_set_self hi], Rp.moves mv _ _ r⟩
    · obtain ⟨v, e, r⟩ := G.dat j x h
      exact ⟨v, by rw [List.getElem?_set_ne (Ne.symm hj)]; exact e, Rp.moves mv _ _ r⟩
  · rcases get_set_eq h with ⟨_, e⟩ | ⟨hj, h⟩
    · exact absurd e.symm (hw xs)
    · obtain ⟨a, vs, e1, e2, r, q⟩ := G.own j xs h
      exact ⟨a, vs, by rw [List.getElem?_set_ne (Ne.symm hj)]; exact e1, e2, RpAll.moves mv _ _ r, q⟩
  · rcases get_set_eq h1 with ⟨_, e⟩ | ⟨hj, h1⟩
    · exact absurd e.symm (hw xs)
    · rcases get_set_eq h2 with ⟨_, e⟩ | ⟨hk, h2⟩
      · exact absurd e.symm (hw ys)
      · rw [List.getElem?_set_ne (Ne.symm hj)] at h3
        rw [List.getElem?_set_ne (Ne.symm hk)] at h4
        exact G.two j k xs ys a h1 h2 h3 h4
  · rcases get_set_eq h with ⟨_, e⟩ | ⟨hj, h⟩
    · exact absurd e.symm ht
    · obtain ⟨a, e1, e2⟩ := G.tpe j h
      exact ⟨a, e1, by rw [List.getElem?_set_ne (Ne.symm hj)]; exact e2⟩
theorem Good.set (G : Good Γ σ H env t) {i : Nat} {v : V} {x : PyData} (hi : i < σ.length) (r : Rp (Av Γ σ env) Γ.K H v x) :
    Good Γ (σ.set i (some v)) H (env.set i (.d x)) t ∧ ∀ a, Av Γ (σ.set i (some v)) (env.set i (.d x)) a → Av Γ σ env a :=
  G.put hi (fun _ e => by cases e) (fun y e => by cases e; exact ⟨v, rfl, r⟩) (fun e => by cases e)
theorem wipeE_length (e : Ev) : ∀ is : List Nat, (wipeE e is).length = e.length
  | [] => rfl
  | i :: is => by unfold wipeE; rw [List.length_set, wipeE_length e is]
theorem Good.wipe (G : Good Γ σ H env t) : ∀ is : List Nat, (∀ i ∈ is, i < σ.length) → Good Γ (L2.wipe σ is) H (wipeE env is) t ∧ ∀ a, Av Γ (L2.wipe σ is) (wipeE env is) a → Av Γ σ env a
  | [], _ => ⟨G, fun _ h => h⟩
  | i :: is, h => by
    obtain ⟨G1, s1⟩ := Good.wipe G is fun j hj => h j (List.mem_cons_of_mem _ hj)
    obtain ⟨G2, s2⟩ := G1.put (i := i) (u := none) (w := .un) (by rw [wipe_length]; exact h i List.mem_cons_self) (fun _ e => by cases e) (fun _ e => by cases e) (fun e => by cases e)
    exact ⟨G2, fun a z => s1 a (s2 a z)⟩
end
/-! ### targets -/
mutual
def slotsT : Tg → List Nat
  | .nm i => [i]
  | .tup ts => slotsTs ts
def slotsTs : List Tg → List Nat
  | [] => []
  | t :: ts => slotsT t ++ slotsTs ts
end
/-- only these slots have changed -/
def Off (is : List Nat) (σ σ' : L2.St) : Prop := σ'.length = σ.length ∧ ∀ j, j ∉ is → σ'[j]? = σ[j]?
theorem Off.trans {is js : List Nat} {σ σ1 σ2 : L2.St} (a : Off is σ σ1) (b : Off js σ1 σ2) : Off (is ++ js) σ σ2 :=
  ⟨b.1.trans a.1, fun j hj => (b.2 j fun z => hj (List.mem_append_right _ z)).trans (a.2 j fun z => hj (List.mem_append_left _ z))⟩
theorem wipe_get (σ : L2.St) (j : Nat) : ∀ vs : List Nat, (L2.wipe σ vs)[j]? = if j ∈ vs then (if j < σ.length then some none else none) else σ[j]?
  | [] => by simp [L2.wipe]
  | v :: vs => by
    unfold L2.wipe
    by_cases e : v = j
    · subst e
      rw [if_pos List.mem_cons_self]
      by_cases hl : v < σ.length
      · rw [if_pos hl, List.getElem?_set_self (by rw [wipe_length]; exact hl)]
      · rw [if_neg hl, List.getElem?_eq_none (by rw [List.length_set, wipe_length]; omega)]
    · rw [List.getElem?_set_ne e, wipe_get σ j vs]
      have : (j ∈ v :: vs) ↔ (j ∈ vs) := by
        constructor
        · intro h
          rcases List.mem_cons.mp h with h | h
          · exact absurd h.symm e
          · exact h
        · exact List.mem_cons_of_mem _
      simp only [this]
theorem Off.wipe {is vs : List Nat} {σ σ' : L2.St} (o : Off is σ σ') (h : ∀ i ∈ is, i ∈ vs) : L2.wipe σ' vs = L2.wipe σ vs := by
  refine List.ext_getElem? fun j => ?_
  rw [wipe_get, wipe_get, o.1]
  by_cases hj : j ∈ vs
  · rw [if_pos hj, if_pos hj]
  · rw [if_neg hj, if_neg hj]
    exact o.2 j fun z => hj (h j z)
theorem wipe_wipe {σ : L2.St} {vs : List Nat} : L2.wipe (L2.wipe σ vs) vs = L2.wipe σ vs := by
  refine List.ext_getElem? fun j => ?_
  rw [wipe_get, wipe_length, wipe_get]
  by_cases hj : j ∈ vs
  · rw [if_pos hj, if_pos hj]
  · rw [if_neg hj]
def tG (Γ : Cfg) (tg : Tg) : TG := fun v σ H Q => ∃ env t d env', Good Γ σ H env t ∧ Rp (Av Γ σ env) Γ.K H v d ∧ bindT tg d env = some env' ∧
  ∀ σ', Good Γ σ' H env' t → Off (slotsT tg) σ σ' → (∀ a, Av Γ σ' env' a → Av Γ σ env a) → Q σ' H
def tGs (Γ : Cfg) (tgs : List Tg) : TGs := fun vs σ H Q => ∃ env t ds env', Good Γ σ H env t ∧ RpAll (Av Γ σ env) Γ.K H vs ds ∧ ds.length = tgs.length ∧ bindTs tgs ds env = some env' ∧
  ∀ σ', Good Γ σ' H env' t → Off (slotsTs tgs) σ σ' → (∀ a, Av Γ σ' env' a → Av Γ σ env a) → Q σ' H
abbrev DG (X : Cx) (Γ : Cfg) (e : Expr) (tg : Tg) : Prop := PG X e (tG Γ tg)
abbrev DGs (X : Cx) (Γ : Cfg) (es : List Expr) (tgs : List Tg) : Prop := PGs X es (tGs Γ tgs)
section
variable {X : Cx} {Γ : Cfg} {F : Fn} {pos : Pos}
theorem _root_.L2.PG.toG {e : Expr} {t t' : TG} (h : PG X e t) (k : ∀ v σ H Q, σ.length = X.N.length → t' v σ H Q → t v σ H Q) : PG X e t' := ⟨fun pins s σ H v u Q I r q => h.run pins s σ H v u Q I r (k v σ H Q I.len q)⟩
theorem _root_.L2.PGs.toG {e : List Expr} {t t' : TGs} (h : PGs X e t) (k : ∀ v σ H Q, t' v σ H Q → t v σ H Q) : PGs X e t' := ⟨fun pins s σ H v u Q I r q => h.run pins s σ H v u Q I r (k v σ H Q q)⟩
theorem dg_nm {i : Nat} {x : Str} (hN : X.N.Nodup) (hi : X.N[i]? = some x) (hx : Loc X.env.scope x) (hf : X.fn x = true ∨ X.env.scope.names.lookup x = some .local) : DG X Γ (.Name x pos) (.nm i) :=
  (pg_name hN hi hx hf).toG fun v σ H Q hl ⟨env, t, d, env', G, r, e, q⟩ => by
    have e' : some (env.set i (.d d)) = some env' := e
    cases e'
    obtain ⟨G2, s2⟩ := G.set (i := i) (by rw [hl]; exact (List.getElem?_eq_some_iff.mp hi).1) r
    exact q _ G2 ⟨by rw [List.length_set], fun j hj => by
      have : i ≠ j := fun z => hj (by rw [z]; exact List.mem_singleton.mpr rfl)
      rw [List.getElem?_set_ne this]⟩ s2
theorem dgs_nil : DGs X Γ [] [] := pgs_nil.toG fun vs σ H Q ⟨env, t, ds, env', G, r, hl, e, q⟩ => by
  cases ds with
  | cons d ds => cases hl
  | nil =>
    cases r
    have e' : some env = some env' := e
    cases e'
    exact ⟨rfl, q σ G ⟨rfl, fun _ _ => rfl⟩ fun _ z => z⟩
theorem dgs_cons {e : Expr} {es : List Expr} {tg : Tg} {tgs : List Tg} (h1 : DG X Γ e tg) (h2 : DGs X Γ es tgs) (hs : (assignEach (e :: es) X.env).map (·.2) = assign e X.env :: (assignEach es X.env).map (·.2)) : DGs X Γ (e :: es) (tg :: tgs) :=
  (pgs_cons h1 h2 hs).toG fun vs σ H Q ⟨env, t, ds, env', G, r, hl, e, q⟩ => by
    cases ds with
    | nil => cases hl
    | cons d ds =>
      cases r with
      | cons r1 r2 =>
        obtain ⟨e1, h3, h4⟩ := bind_of (show (bindT tg d env).bind (fun e' => bindTs tgs ds e') = some env' from e)
        refine ⟨_, _, rfl, env, t, d, e1, G, r1, h3, fun σ1 G1 o1 s1 => ?_⟩
        exact ⟨e1, t, ds, env', G1, RpAll.moves (Moves.sub s1) _ _ r2, by simpa using hl, h4, fun σ2 G2 o2 s2 => q σ2 G2 (o1.trans o2) fun a z => s1 a (s2 a z)⟩
theorem pg_or {e : Expr} {t t' : TG} (h : PG X e t) (h' : PG X e t') : PG X e (fun v σ H Q => t v σ H Q ∨ t' v σ H Q) := ⟨fun pins s σ H v u Q I r q => q.elim (h.run pins s σ H v u Q I r) (h'.run pins s σ H v u Q I r)⟩
theorem dg_tup {es : List Expr} {k : Nat} {tgs : List Tg} (hK : Γ.K = X.K) (hc : X.calm = true) (h : DGs X Γ es tgs) (hn : (assignEach es X.env).length = tgs.length) (hst : (assignEach es X.env).findIdx? (·.1) = none) : DG X Γ (.Tuple es k pos) (.tup tgs) :=
  (pg_or (pg_tup hc h hn hst) (pg_unl hc h hn hst)).toG fun v σ H Q hlen ⟨env, t, d, env', G, r, e, q⟩ => by
    cases d with
    | tuple xs =>
      have e' : (if xs.length = tgs.length then bindTs tgs xs env else none) = some env' := e
      split at e'
      · rename_i hl
        cases r with
        | tup h1 h2 => exact .inl ⟨_, _, rfl, hK ▸ h1.sq, by rw [h2.length, hl], env, t, xs, env', G, h2, hl, e', q⟩
      · cases e'
    | list xs =>
      have e' : (if xs.length = tgs.length then bindTs tgs xs env else none) = some env' := e
      split at e'
      · rename_i hl
        cases r with
        | lst h1 h2 => exact .inr ⟨_, _, rfl, hK ▸ h1.sq.sq, by rw [h2.length, hl], env, t, xs, env', G, h2, hl, e', q⟩
      · cases e'
    | _ => cases e
/-! ### tests -/
def tTs (Γ : Cfg) (F : Fn) (cs : List E) : TT := fun σ H Q => ∃ env t, Good Γ σ H env t ∧ postE Γ σ H env PB1 Q (evTs F cs env t)
abbrev DTs (X : Cx) (Γ : Cfg) (F : Fn) (es : List Expr) (cs : List E) : Prop := PTs X es (tTs Γ F cs)
theorem dts_nil : DTs X Γ F [] [] := ⟨fun pins s σ H Q I ⟨env, t, G, q⟩ => wpAny_tests_nil ⟨H, I, q true H Frame.refl G rfl⟩⟩
/-- the loop with no is no -/
theorem tests_no {M : Model} {A : Around} {E : Value → Shared → Prop} {s : Shared} {env : Env} {Q : Bool → Shared → Prop} (h : Q false s) : ∀ ifs : List Expr, wpAny M A (forIn ifs false fun c r => if r = true then do let ok ← isTrue c env (eval c env); pure (ForInStep.yield ok) else pure (ForInStep.yield r)) Q E s
  | [] => by rw [List.forIn_nil]; exact wpAny_pure h
  | c :: cs => by
    rw [List.forIn_cons, if_neg Bool.false_ne_true]
    exact wpAny_bind (wpAny_pure (tests_no h cs))
theorem dts_cons {c : Expr} {cs : List Expr} {cc : E} {ccs : List E} (h1 : DT X Γ F c cc) (h2 : DTs X Γ F cs ccs) : DTs X Γ F (c :: cs) (cc :: ccs) := ⟨fun pins s σ H Q I ⟨env, t, G, q⟩ => by
  rw [List.forIn_cons, if_pos rfl]
  refine wpAny_bind (wpAny_bind (thn (h1.run pins s σ H (fun b H1 => if b = true then tTs Γ F ccs σ H1 Q else Q false H1) I (tT.of G q fun b H1 t1 f1 G1 q1 => ?_)) fun b s1 ⟨H1, I1, q1⟩ => wpAny_pure ?_))
  · cases b with
    | true => exact ⟨env, t1, G1, q1⟩
    | false => exact q1 false H1 Frame.refl G1 rfl
  · cases b with
    | true => exact h2.run pins s1 σ H1 Q I1 q1
    | false => exact tests_no ⟨H1, I1, q1⟩ cs⟩
end
end DL
/-! DL10: comprehensions. -/
namespace DL
open PySem PySem.Spec PyProof.Rows L2
/-- the same but for what may be written, and no error -/
structure Under (Γ Γ' : Cfg) : Prop where
  K : Γ'.K = Γ.K
  tp : Γ'.tp = Γ.tp
  tabs : Γ'.tabs = Γ.tabs
  ec : Γ'.ec = Γ.ec
  E : Γ'.E = fun _ _ _ => False
mutual
theorem bindT_off : ∀ {tg : Tg} {d : PyData} {e e' : Ev}, bindT tg d e = some e' → e'.length = e.length ∧ ∀ j, j ∉ slotsT tg → e'[j]? = e[j]?
  | .nm i, d, e, e', h => by
    have h' : some (e.set i (.d d)) = some e' := h
    cases h'
    exact ⟨List.length_set, fun j hj => by rw [List.getElem?_set_ne (fun z => hj (by rw [← z]; exact List.mem_singleton.mpr rfl))]⟩
  | .tup ts, d, e, e', h => by
    have h' : (match d with
      | .tuple xs => if xs.length = ts.length then bindTs ts xs e else none
      | .list xs => if xs.length = ts.length then bindTs ts xs e else none
      | _ => none) = some e' := by cases d <;> exact h
    cases d with
    | tuple xs => dsimp only at h'; split at h' <;> first | exact bindTs_off h' | cases h'
    | list xs => dsimp only at h'; split at h' <;> first | exact bindTs_off h' | cases h'
    | _ => cases h'
theorem bindTs_off : ∀ {tgs : List Tg} {ds : List PyData} {e e' : Ev}, bindTs tgs ds e = some e' → e'.length = e.length ∧ ∀ j, j ∉ slotsTs tgs → e'[j]? = e[j]?
  | [], ds, e, e', h => by
    have h' : some e = some e' := by cases ds <;> exact h
    cases h'; exact ⟨rfl, fun _ _ => rfl⟩
  | t :: ts, [], e, e', h => by cases h
  | t :: ts, x :: xs, e, e', h => by
    obtain ⟨e1, h1, h2⟩ := bind_of (show (bindT t x e).bind (fun e' => bindTs ts xs e') = some e' from h)
    obtain ⟨a1, a2⟩ := bindT_off h1
    obtain ⟨b1, b2⟩ := bindTs_off h2
    exact ⟨b1.trans a1, fun j hj => (b2 j fun z => hj (List.mem_append_right _ z)).trans (a2 j fun z => hj (List.mem_append_left _ z))⟩
end
theorem wipeE_own {e : Ev} {j : Nat} {w : W} : ∀ {is : List Nat}, (wipeE e is)[j]? = some w → w ≠ .un → j ∉ is ∧ e[j]? = some w
  | [], h, _ => ⟨by simp, h⟩
  | i :: is, h, hw => by
    rcases get_set_eq (show ((wipeE e is).set i .un)[j]? = some w from h) with ⟨_, z⟩ | ⟨hj, h⟩
    · exact absurd z hw
    · obtain ⟨h1, h2⟩ := wipeE_own h hw
      exact ⟨by simp only [List.mem_cons, not_or]; exact ⟨hj, h1⟩, h2⟩
section
variable {Γ : Cfg} {σ : L2.St} {H : Hp} {env : Ev} {t : T}
/-- a block's own writing space: the new list, and what the block does not see of the own lists -/
def blkO (Γ : Cfg) (σ : L2.St) (env : Ev) (is : List Nat) (D : Addr) : AP := fun a => Γ.O a ∨ a = D ∨ (Ow env σ a ∧ ¬ Ow (wipeE env is) (L2.wipe σ is) a)
def blkΓ (Γ : Cfg) (σ : L2.St) (env : Ev) (is : List Nat) (D : Addr) : Cfg := { Γ with O := blkO Γ σ env is D, E := fun _ _ _ => False }
theorem under_blk {is : List Nat} {D : Addr} : Under Γ (blkΓ Γ σ env is D) := ⟨rfl, rfl, rfl, rfl, rfl⟩
theorem ow_wipe {is : List Nat} {a : Addr} (h : Ow (wipeE env is) (L2.wipe σ is) a) : Ow env σ a := by
  obtain ⟨j, xs, h1, h2⟩ := h
  obtain ⟨hj, h3⟩ := wipeE_own h1 (fun z => by cases z)
  rw [wipe_get, if_neg hj] at h2
  exact ⟨j, xs, h3, h2⟩
theorem blk_av {is : List Nat} {D a : Addr} : Av (blkΓ Γ σ env is D) (L2.wipe σ is) (wipeE env is) a ↔ (Av Γ σ env a ∨ a = D) := by
  constructor
  · rintro ((h | h | h) | h | h)
    · exact .inl (.inl h)
    · exact .inr h
    · exact .inl (.inr (.inr h.1))
    · exact .inl (.inr (.inl h))
    · exact .inl (.inr (.inr (ow_wipe h)))
  · rintro ((h | h | h) | h)
    · exact .inl (.inl h)
    · exact .inr (.inl h)
    · by_cases z : Ow (wipeE env is) (L2.wipe σ is) a
      · exact .inr (.inr z)
      · exact .inl (.inr (.inr ⟨h, z⟩))
    · exact .inl (.inr (.inl h))
/-- the block begins: a new list at D -/
theorem Good.blk (G : Good Γ σ H env t) {is : List Nat} {D : Addr} {ob : HO} (hD : H D = none) (his : ∀ i ∈ is, i < σ.length) : Good (blkΓ Γ σ env is D) (L2.wipe σ is) (upd H D ob) (wipeE env is) t := by
  obtain ⟨G0, s0⟩ := G.wipe is his
  have mv : Moves (Av Γ σ env) (Av (blkΓ Γ σ env is D) (L2.wipe σ is) (wipeE env is)) H (upd H D ob) := fun a o n h _ => by
    have ne : a ≠ D := ne_of_none h hD
    refine ⟨by rw [upd_ne ne]; exact h, fun z => ?_⟩
    rcases blk_av.mp z with z | z
    · exact n z
    · exact ne z
  have mv0 : Moves (Av Γ (L2.wipe σ is) (wipeE env is)) (Av Γ (L2.wipe σ is) (wipeE env is)) H H := .refl
  have has : ∀ a, H a ≠ none → upd H D ob a ≠ none := fun a h => by
    by_cases e : a = D
    · subst e; rw [upd_same]; simp
    · rw [upd_ne e]; exact h
  refine ⟨G0.len, G0.fr.trans (Frame.upd hD), fun a h => ?_, G0.tabs.same (same_upd' hD), fun a h => ?_, fun j x h => ?_, fun j xs h => ?_, G0.two, G0.tpe⟩
  · rcases h with h | rfl | h
    · exact has a (G.oh a h)
    · rw [upd_same]; simp
    · exact has a (G.avHas a (.inr (.inr h.1)))
  · obtain ⟨xs, e, r⟩ := G.tape a h
    exact ⟨xs, by rw [upd_ne (ne_of_none e hD)]; exact e, RpAll.moves mv _ _ r⟩
  · obtain ⟨hj, h1⟩ := wipeE_own h (fun z => by cases z)
    obtain ⟨v, e, r⟩ := G.dat j x h1
    exact ⟨v, by rw [wipe_get, if_neg hj]; exact e, Rp.moves mv _ _ r⟩
  · obtain ⟨hj, h1⟩ := wipeE_own h (fun z => by cases z)
    obtain ⟨a, vs, e1, e2, r, n1, n2, n3⟩ := G.own j xs h1
    have hs : (L2.wipe σ is)[j]? = some (some (.ref a)) := by rw [wipe_get, if_neg hj]; exact e1
    refine ⟨a, vs, hs, by rw [upd_ne (ne_of_none e2 hD)]; exact e2, RpAll.moves mv _ _ r, n1, fun z => ?_, n3⟩
    rcases z with z | rfl | z
    · exact n2 z
    · rw [hD] at e2; cases e2
    · exact z.2 ⟨j, xs, h, hs⟩
/-- a list in the writing space is written -/
theorem Good.updO (G : Good Γ σ H env t) {D : Addr} {o o' : HO} (hO : Γ.O D) (hD : H D = some o) (ho : ∀ ps, o ≠ .tbl ps) (h0 : Γ.H0 D = none) (ht : Γ.tp ≠ some D) : Good Γ σ (upd H D o') env t := by
  have mv : Moves (Av Γ σ env) (Av Γ σ env) H (upd H D o') := fun a o n h _ => by
    have ne : a ≠ D := fun z => n (by rw [z]; exact .inl hO)
    exact ⟨by rw [upd_ne ne]; exact h, n⟩
  have has : ∀ a, H a ≠ none → upd H D o' a ≠ none := fun a h => by
    by_cases e : a = D
    · subst e; rw [upd_same]; simp
    · rw [upd_ne e]; exact h
  refine ⟨G.len, ⟨fun a o h hp k => ?_, fun a h => has a (G.fr.there a h)⟩, fun a h => has a (G.oh a h), fun P hP => ?_, fun a h => ?_, fun j x h => ?_, fun j zs h => ?_, G.two, G.tpe⟩
  · have := G.fr.keep a o h hp k
    have ne : a ≠ D := fun z => by rw [z, h0] at h; cases h
    rw [upd_ne ne]; exact this
  · obtain ⟨ps, e, k⟩ := G.tabs P hP
    exact ⟨ps, by rw [upd_ne (fun z => by rw [z, hD] at e; exact ho _ (Option.some.inj e))]; exact e, k⟩
  · obtain ⟨zs, e, r⟩ := G.tape a h
    exact ⟨zs, by rw [upd_ne (fun z => ht (by rw [← z]; exact h))]; exact e, RpAll.moves mv _ _ r⟩
  · obtain ⟨v, e, r⟩ := G.dat j x h
    exact ⟨v, e, Rp.moves mv _ _ r⟩
  · obtain ⟨a, vs, e1, e2, r, n1, n2, n3⟩ := G.own j zs h
    exact ⟨a, vs, e1, by rw [upd_ne (fun z => n2 (by rw [z]; exact hO))]; exact e2, RpAll.moves mv _ _ r, n1, n2, n3⟩
/-- behind a turn the block's names are forgotten again -/
theorem Good.back {σ1 : L2.St} {e1 : Ev} {H1 : Hp} {t1 : T} (G : Good Γ σ H env t) (f : Frame Γ.tp H H1) (G1 : Good Γ σ1 H1 e1 t1) (hs : ∀ a, Ow env σ a → Ow e1 σ1 a) : Good Γ σ H1 env t1 := by
  refine G.frame f G1.tabs fun a h => ?_
  obtain ⟨xs, e, r⟩ := G1.tape a h
  refine ⟨xs, e, RpAll.moves (Moves.sub fun a z => ?_) _ _ r⟩
  rcases z with z | z | z
  · exact .inl z
  · exact .inr (.inl z)
  · exact .inr (.inr (hs a z))
theorem ow_bind {is : List Nat} {tg : Tg} {d : PyData} {e1 : Ev} {σ1 : L2.St} (hb : bindT tg d (wipeE env is) = some e1) (o : Off (slotsT tg) (L2.wipe σ is) σ1) (hsl : ∀ i ∈ slotsT tg, i ∈ is) : ∀ a, Ow (wipeE env is) (L2.wipe σ is) a → Ow e1 σ1 a := fun a ⟨j, xs, h1, h2⟩ => by
  obtain ⟨hj, _⟩ := wipeE_own h1 (fun z => by cases z)
  have hn : j ∉ slotsT tg := fun z => hj (hsl j z)
  exact ⟨j, xs, by rw [(bindT_off hb).2 j hn]; exact h1, by rw [o.2 j hn]; exact h2⟩
end
def uG (Γ : Cfg) (tg : Tg) : TG := fun v σ H Q => ∃ Γ', Under Γ Γ' ∧ tG Γ' tg v σ H Q
def uTs (Γ : Cfg) (F : Fn) (cs : List E) : TT := fun σ H Q => ∃ Γ', Under Γ Γ' ∧ tTs Γ' F cs σ H Q
def uE (Γ : Cfg) (F : Fn) (c : E) : TE := fun σ H Q => ∃ Γ', Under Γ Γ' ∧ tE Γ' F c σ H Q
section
variable {X : Cx} {Γ : Cfg} {F : Fn} {pos : Pos}
theorem pg_under {e : Expr} {tg : Tg} (h : ∀ Γ', Under Γ Γ' → DG X Γ' e tg) : PG X e (uG Γ tg) := ⟨fun pins s σ H v u Q I r ⟨Γ', hu, q⟩ => (h Γ' hu).run pins s σ H v u Q I r q⟩
theorem pts_under {es : List Expr} {cs : List E} (h : ∀ Γ', Under Γ Γ' → DTs X Γ' F es cs) : PTs X es (uTs Γ F cs) := ⟨fun pins s σ H Q I ⟨Γ', hu, q⟩ => (h Γ' hu).run pins s σ H Q I q⟩
theorem pe_under {e : Expr} {c : E} (h : ∀ Γ', Under Γ Γ' → DE X Γ' F e c) : PE X e (uE Γ F c) := ⟨fun pins s σ H Q I ⟨Γ', hu, q⟩ => (h Γ' hu).run pins s σ H Q I q⟩
theorem calm_ok {α β : Type} {r : R α} {k : α → T → R β} (h : r.calm.bind k ≠ .bad) : ∃ a t, r = .ok a t ∧ k a t ≠ .bad := by
  cases r with
  | ok a t => exact ⟨a, t, rfl, h⟩
  | err _ _ => exact absurd rfl h
  | bad => exact absurd rfl h
theorem bind_ok {α β : Type} {r : R α} {k : α → T → R β} {b : β} {t' : T} (h : r.bind k = .ok b t') : ∃ a t, r = .ok a t ∧ k a t = .ok b t' := by
  cases r with
  | ok a t => exact ⟨a, t, rfl, h⟩
  | err _ _ => cases h
  | bad => cases h
theorem postF_bad {σ : L2.St} {H : Hp} {env : Ev} {Q : VK} {r : R W} (h : postF Γ σ H env Q r) : r ≠ .bad := fun e => by rw [e] at h; exact h
/-- one turn's reading -/
theorem compRun_cons {bnd : PyData → Ev → Option Ev} {cond : Ev → T → R Bool} {elt : Ev → T → R W} {e0 : Ev} {x : PyData} {xs : List PyData} {t : T} {ys : List PyData} {t' : T} (h : compRun bnd cond elt e0 (x :: xs) t = .ok ys t') :
    ∃ e, bnd x e0 = some e ∧ ((∃ t1, cond e t = .ok false t1 ∧ compRun bnd cond elt e0 xs t1 = .ok ys t') ∨ ∃ t1 y t2 zs, cond e t = .ok true t1 ∧ elt e t1 = .ok (.d y) t2 ∧ compRun bnd cond elt e0 xs t2 = .ok zs t' ∧ ys = y :: zs) := by
  have h' : (match bnd x e0 with
    | none => .bad
    | some e => (cond e t).bind fun b t1 => if b then (elt e t1).bind fun w t2 => match w with
        | .d y => (compRun bnd cond elt e0 xs t2).bind fun ys t3 => .ok (y :: ys) t3
        | _ => .bad
      else compRun bnd cond elt e0 xs t1) = R.ok ys t' := h
  cases hb : bnd x e0 with
  | none => rw [hb] at h'; cases h'
  | some e =>
    rw [hb] at h'
    refine ⟨e, rfl, ?_⟩
    obtain ⟨b, t1, hc, h2⟩ := bind_ok h'
    cases b with
    | false => exact .inl ⟨t1, hc, h2⟩
    | true =>
      obtain ⟨w, t2, he, h3⟩ := bind_ok (show ((elt e t1).bind fun w t2 => match w with
        | .d y => (compRun bnd cond elt e0 xs t2).bind fun ys t3 => .ok (y :: ys) t3
        | _ => .bad) = R.ok ys t' from h2)
      cases w with
      | d y =>
        obtain ⟨zs, t3, hz, h4⟩ := bind_ok (show ((compRun bnd cond elt e0 xs t2).bind fun ys t3 => .ok (y :: ys) t3) = R.ok ys t' from h3)
        cases h4
        exact .inr ⟨t1, y, t2, zs, hc, he, hz, rfl⟩
      | _ => cases h3
theorem df_comp {elt tg iter : Expr} {ifs : List Expr} {scope : Scope} {own : List (Str × Nat)} {celt : E} {ctg : Tg} {cit : DL.It} {cifs : List E} (hK : Γ.K = X.K) (hc : X.calm = true) (hN : X.N.Nodup) (hi : DI X Γ F true tg iter cit) (ok : BlkOk X.N X.env.scope scope own)
    (hg : ∀ (s : Shared) (H : Hp) (C : Addr) (cl : List (Str × Addr)) (fp : List Addr) Γ', Under Γ Γ' → DG (X.blk s H scope (compEnvC scope cl C X.env) fp) Γ' tg ctg)
    (ht : ∀ (s : Shared) (H : Hp) (C : Addr) (cl : List (Str × Addr)) (fp : List Addr) Γ', Under Γ Γ' → DTs (X.blk s H scope (compEnvC scope cl C X.env) fp) Γ' F ifs cifs)
    (he : ∀ (s : Shared) (H : Hp) (C : Addr) (cl : List (Str × Addr)) (fp : List Addr) Γ', Under Γ Γ' → DE (X.blk s H scope (compEnvC scope cl C X.env) fp) Γ' F elt celt)
    (hs : ∀ x, foldedSetIterable iter X.env x = pure x) (hsl : ∀ i ∈ slotsT ctg, i ∈ own.map (·.2)) :
    ∀ σ H Q, σ.length = X.N.length → tF Γ F (.comp celt ctg cit cifs (own.map (·.2))) σ H Q → tLc (tI Γ F true cit) (uG Γ ctg) (uTs Γ F cifs) (uE Γ F celt) (own.map (·.2)) σ H Q := by
  intro σ H Q hlen ⟨env, t, G, q⟩
  have q' : postF Γ σ H env Q ((evI F true cit env t).bind fun xs t1 => (compRun (bindT ctg) (evTs F cifs) (ev F celt) (wipeE env (own.map (·.2))) xs t1).calm.bind fun ys t2 => if lenOk ys.length then .ok (.d (.list ys)) t2 else .bad) := q
  refine ⟨env, t, G, (postF.seq (P := fun H' J xs => WkD Γ.K (StW true Γ.tp (Av Γ σ env) H') J xs) q').mono Frame.refl fun J H1 ⟨xs, t1, f1, G1, wk, q1⟩ => ?_⟩
  intro D hD
  obtain ⟨ys, tf, hrun, q2⟩ := calm_ok (postF_bad q1)
  have hlk : lenOk ys.length = true := by
    by_cases z : lenOk ys.length = true
    · exact z
    · rw [if_neg z] at q2; exact absurd rfl q2
  have q3 : postF Γ σ H1 env Q (.ok (.d (.list ys)) tf) := by
    have e : ((compRun (bindT ctg) (evTs F cifs) (ev F celt) (wipeE env (own.map (·.2))) xs t1).calm.bind fun ys t2 => if lenOk ys.length then R.ok (W.d (.list ys)) t2 else .bad) = R.ok (W.d (.list ys)) tf := by
      rw [hrun]
      show (if lenOk ys.length then R.ok (W.d (.list ys)) tf else .bad) = _
      rw [if_pos hlk]
    rw [← e]; exact q1
  clear q1 q2 q' q
  have his : ∀ i ∈ own.map (·.2), i < σ.length := fun i hi => by
    obtain ⟨p, hp, rfl⟩ := List.mem_map.mp hi
    rw [hlen]
    exact (List.getElem?_eq_some_iff.mp (ok.ix p hp)).1
  generalize hvs : own.map (·.2) = vs at hrun his hsl ⊢
  have hH0 : Γ.H0 D = none := G1.fr.free hD
  have htpD : Γ.tp ≠ some D := fun z => by
    obtain ⟨_, e, _⟩ := G1.tape D z
    rw [hD] at e; cases e
  have GB := G1.blk (ob := .lst []) hD his
  have hO : (blkΓ Γ σ env vs D).O D := .inr (.inl rfl)
  have stw : ∀ {H2 : Hp} {t2 : T}, Good (blkΓ Γ σ env vs D) (L2.wipe σ vs) H2 (wipeE env vs) t2 → Frame Γ.tp H1 H2 → StW true Γ.tp (Av Γ σ env) H1 H2 (Av (blkΓ Γ σ env vs D) (L2.wipe σ vs) (wipeE env vs)) := fun {H2 t2} G2 f2 =>
    ⟨fun a o n h k => ⟨f2.keep a o h (fun z => n (.inr (.inl z))) k, fun z => (blk_av.mp z).elim n fun e => by rw [e, hD] at h; cases h⟩, G2.avHas, fun _ => f2⟩
  refine ⟨fun i m H2 => m = xs.length - i ∧ i ≤ xs.length ∧ ∃ t2 va acc rest, Good (blkΓ Γ σ env vs D) (L2.wipe σ vs) H2 (wipeE env vs) t2 ∧ H2 D = some (.lst va) ∧ RpAll (Av (blkΓ Γ σ env vs D) (L2.wipe σ vs) (wipeE env vs)) Γ.K H2 va acc ∧ Frame Γ.tp H1 H2 ∧
    compRun (bindT ctg) (evTs F cifs) (ev F celt) (wipeE env vs) (xs.drop i) t2 = .ok rest tf ∧ acc ++ rest = ys, ⟨xs.length, by simp, Nat.zero_le _, t1, [], [], ys, GB, upd_same, .nil, Frame.upd hD, hrun, rfl⟩, ?_⟩
  rintro i m H2 ⟨rfl, hi', t2, va, acc, rest, G2, hD2, ra, f2, hr2, hys⟩
  by_cases hlt : i < xs.length
  · refine .inr ⟨wk.goes i H2 _ hlt (stw G2 f2), fun H' => i + 1 ≤ xs.length ∧ ∃ t2 va acc rest, Good (blkΓ Γ σ env vs D) (L2.wipe σ vs) H' (wipeE env vs) t2 ∧ H' D = some (.lst va) ∧ RpAll (Av (blkΓ Γ σ env vs D) (L2.wipe σ vs) (wipeE env vs)) Γ.K H' va acc ∧ Frame Γ.tp H1 H' ∧
      compRun (bindT ctg) (evTs F cifs) (ev F celt) (wipeE env vs) (xs.drop (i + 1)) t2 = .ok rest tf ∧ acc ++ rest = ys, fun H' p' => ⟨xs.length - (i + 1), by omega, rfl, p'⟩, fun x H3 y => ?_⟩
    obtain ⟨sm, fb, d, hd, rd⟩ := wk.yields i H2 _ x H3 hlt (stw G2 f2) y
    have hdr : xs.drop i = d :: xs.drop (i + 1) := by
      rw [List.drop_eq_getElem_cons hlt]
      congr 1
      rw [List.getElem?_eq_getElem hlt] at hd
      exact Option.some.inj hd
    rw [hdr] at hr2
    obtain ⟨e1, hb, hcase⟩ := compRun_cons hr2
    have G3 := G2.same sm
    have f3 : Frame Γ.tp H2 H3 := same_frame sm
    have hD3 : H3 D = some (.lst va) := sm _ _ hD2
    refine ⟨blkΓ Γ σ env vs D, under_blk, wipeE env vs, t2, d, e1, G3, rd, hb, fun σ1 G4 off s4 => ⟨(off.wipe hsl).trans wipe_wipe, ?_⟩⟩
    have hown := ow_bind (σ := σ) hb off hsl
    refine ⟨blkΓ Γ σ env vs D, under_blk, e1, t2, G4, ?_⟩
    rcases hcase with ⟨t3, hc3, hr3⟩ | ⟨t3, yv, t4, zs, hc3, he3, hr3, hys2⟩
    · rw [hc3]
      intro b H4 f4 G5 pb
      have pb' : b = false := pb
      subst pb'
      rw [if_neg Bool.false_ne_true]
      have f4' : Frame Γ.tp H3 H4 := f4
      refine ⟨hlt, t3, va, acc, rest, G3.back f4 G5 hown, f4'.keep D _ hD3 htpD (fun _ z => by cases z), RpAll.moves (Moves.trans (moves_same sm) (Moves.frame (A := Av (blkΓ Γ σ env vs D) (L2.wipe σ vs) (wipeE env vs)) f4' fun a h => .inr (.inl h))) _ _ ra, f2.trans (f3.trans f4'), hr3, hys⟩
    · rw [hc3]
      intro b H4 f4 G5 pb
      have pb' : b = true := pb
      subst pb'
      rw [if_pos rfl]
      refine ⟨blkΓ Γ σ env vs D, under_blk, e1, t3, G5, ?_⟩
      rw [he3]
      intro v H5 f5 G6 rv
      have rv' : Rp (Av (blkΓ Γ σ env vs D) σ1 e1) Γ.K H5 v yv := rv
      have f35 : Frame Γ.tp H3 H5 := Frame.trans (show Frame Γ.tp H3 H4 from f4) f5
      have hD5 : H5 D = some (.lst va) := f35.keep D _ hD3 htpD (fun _ z => by cases z)
      have G7 := G3.back f35 G6 hown
      have ra5 : RpAll (Av (blkΓ Γ σ env vs D) (L2.wipe σ vs) (wipeE env vs)) Γ.K H5 va acc := RpAll.moves (Moves.trans (moves_same sm) (Moves.frame (A := Av (blkΓ Γ σ env vs D) (L2.wipe σ vs) (wipeE env vs)) f35 fun a h => .inr (.inl h))) _ _ ra
      have hl5 : va.length < sizeLine := by
        rw [ra.length, sizeLine_eq]
        have h1 : ys.length ≤ 16777216 := of_decide_eq_true hlk
        rw [← hys, hys2, List.length_append, List.length_cons] at h1
        omega
      refine ⟨va, hD5, hl5, hlt, t4, va ++ [v], acc ++ [yv], zs, G7.updO hO hD5 (fun _ z => by cases z) hH0 htpD, upd_same, ?_, ?_, hr3, by rw [← hys, hys2]; simp⟩
      · have mvu : Moves (Av (blkΓ Γ σ env vs D) (L2.wipe σ vs) (wipeE env vs)) (Av (blkΓ Γ σ env vs D) (L2.wipe σ vs) (wipeE env vs)) H5 (upd H5 D (.lst (va ++ [v]))) := fun a o n h _ =>
          ⟨by rw [upd_ne (fun z => n (by rw [z]; exact .inl hO))]; exact h, n⟩
        refine RpAll.moves mvu _ _ (ra5.append (.cons (Rp.moves (Moves.sub fun a z => ?_) _ _ rv') .nil))
        rcases z with z | z | z
        · exact .inl z
        · exact .inr (.inl z)
        · exact .inr (.inr (hown a z))
      · have fa : Frame Γ.tp H1 H5 := f2.trans (f3.trans f35)
        exact ⟨fun a o h hp k => by rw [upd_ne (ne_of_none h hD)]; exact fa.keep a o h hp k, fun a h => by
          by_cases z : a = D
          · subst z; rw [upd_same]; simp
          · rw [upd_ne z]; exact fa.there a h⟩
  · have e : i = xs.length := by omega
    subst e
    refine .inl ⟨wk.stops H2 _ (stw G2 f2), ?_⟩
    rw [List.drop_length] at hr2
    have hr2' : R.ok [] t2 = R.ok rest tf := hr2
    cases hr2'
    rw [List.append_nil] at hys
    subst hys
    refine q3 D va H2 hD hD2 f2 (G1.frame f2 G2.tabs fun a h => ?_) (fun a h => ?_) (RpAll.moves (Moves.sub fun a z => blk_av.mpr z) _ _ ra)
    · obtain ⟨zs, e1, r1⟩ := G2.tape a h
      exact ⟨zs, e1, RpAll.moves (Moves.sub fun a z => blk_av.mpr (.inl z)) _ _ r1⟩
    · obtain ⟨zs, e1, r1⟩ := G2.tape a h
      exact ⟨zs, e1, RpAll.moves (Moves.sub fun a z => blk_av.mpr z) _ _ r1⟩
theorem df_lc {elt tg iter : Expr} {ifs : List Expr} {scope : Scope} {own : List (Str × Nat)} {celt : E} {ctg : Tg} {cit : DL.It} {cifs : List E} (hK : Γ.K = X.K) (hc : X.calm = true) (hN : X.N.Nodup) (hi : DI X Γ F true tg iter cit) (ok : BlkOk X.N X.env.scope scope own)
    (hg : ∀ (s : Shared) (H : Hp) (C : Addr) (cl : List (Str × Addr)) (fp : List Addr) Γ', Under Γ Γ' → DG (X.blk s H scope (compEnvC scope cl C X.env) fp) Γ' tg ctg)
    (ht : ∀ (s : Shared) (H : Hp) (C : Addr) (cl : List (Str × Addr)) (fp : List Addr) Γ', Under Γ Γ' → DTs (X.blk s H scope (compEnvC scope cl C X.env) fp) Γ' F ifs cifs)
    (he : ∀ (s : Shared) (H : Hp) (C : Addr) (cl : List (Str × Addr)) (fp : List Addr) Γ', Under Γ Γ' → DE (X.blk s H scope (compEnvC scope cl C X.env) fp) Γ' F elt celt)
    (hs : ∀ x, foldedSetIterable iter X.env x = pure x) (hsl : ∀ i ∈ slotsT ctg, i ∈ own.map (·.2)) : DF X Γ F (.ListComp elt [⟨tg, iter, ifs, 0⟩] scope pos) (.comp celt ctg cit cifs (own.map (·.2))) :=
  ⟨fun pins s σ H Q I q => (pe_lc hc hN hi ok (fun s H C cl fp => pg_under (hg s H C cl fp)) (fun s H C cl fp => pts_under (ht s H C cl fp)) (fun s H C cl fp => pe_under (he s H C cl fp)) hs).run pins s σ H Q I
    (df_comp hK hc hN hi ok hg ht he hs hsl σ H Q I.len q)⟩
end
end DL
/-! DL11: generator expressions: the block's context, its start, its run. -/
namespace DL
open PySem PySem.Spec PyProof.Rows L2
/-- the context of a generator expression's frame -/
abbrev gblk (X : Cx) (A : Around) (s : Shared) (H : Hp) (scope : Scope) (cenv : Env) (fp : List Addr) : Cx :=
  { X with A := A, s_0 := s, H_0 := H, env := cenv, outer := X.stack, stack := cenv :: X.stack, ex := fp, fn := fun x => scope.names.lookup x == some .cell, pn := [], xe := fun _ _ => False }
abbrev gcl (X : Cx) (scope : Scope) : List (Str × Addr) := cloFrom X.env.cells scope.names []
section
variable {X : Cx} {pins : List (Addr × Obj)} {σ : L2.St} {H : Hp} {s : Shared}
theorem gen_start {scope : Scope} {own : List (Str × Nat)} {fp : List Addr} {A : Around} {code : Value} {h' : Heap} {g' : Array GenState} {tk : Nat} {m : Str → Option Value} (I : Inv X pins σ H s) (ok : BlkOk X.N X.env.scope scope own) (hcell : ∀ y ∈ scope.names, y.2 ≠ .cell) (hN : X.N.Nodup)
    (hfp : ∀ b ∈ fp, FpOk X pins H b ∧ b < s.heap.objs.size) (hA : X.calm = true → A.handled = none) (hfr : A.frames = some (genEnv scope (gcl X scope) s.heap.objs.size code builtinsNs X.env :: X.stack)) (hn : h'.Ns s.heap.objs.size m) (kp : ∀ b o, s.heap.get? b = some o → h'.get? b = some o) (hg : AllBare g') :
    Inv (gblk X A s H scope (genEnv scope (gcl X scope) s.heap.objs.size code builtinsNs X.env) fp) [] (L2.wipe σ (own.map (·.2))) H { s with heap := h', gens := g', toks := tk } := by
  have hfree : ∀ y ∈ scope.names, y.2 = .free → ∃ c, X.env.cells.lookup y.1 = some c := fun y hy e => by
    rcases ok.free y hy e with k | k
    · exact I.ok.has _ (.inl k)
    · exact I.ok.has _ (.inr k)
  generalize hcenv : genEnv scope (gcl X scope) s.heap.objs.size code builtinsNs X.env = cenv at hfr ⊢
  have hL : cenv.locals = s.heap.objs.size := by rw [← hcenv]; rfl
  have hcl : cenv.cells = gcl X scope := by rw [← hcenv]; rfl
  have hsc : cenv.scope = scope := by rw [← hcenv]; rfl
  have cm : ∀ {y c}, (y, c) ∈ gcl X scope → X.env.cells.lookup y = some c ∧ c < s.heap.objs.size := fun {y c} hm => by
    rcases cloFrom_mem hm with hm | ⟨h1, rfl⟩
    · cases hm
    · obtain ⟨c, hc⟩ := hfree _ h1 rfl
      rw [hc]
      obtain ⟨w, z⟩ := I.cell _ _ hc
      exact ⟨rfl, z.lt⟩
  have mem : ∀ {y c}, cenv.cells.lookup y = some c → X.env.cells.lookup y = some c ∧ c < s.heap.objs.size := fun {y c} e => by
    rw [hcl] at e
    exact cm (PySem.mem_of_lookup e)
  have look : ∀ {y}, scope.names.lookup y = some .free → ∃ c, cenv.cells.lookup y = some c ∧ X.env.cells.lookup y = some c := fun {y} hl => by
    have hy : (y, NameKind.free) ∈ scope.names := PySem.mem_of_lookup hl
    obtain ⟨c', e'⟩ := mem_lookup (cloFrom_has (cells := X.env.cells) (acc := []) hy)
    refine ⟨c', by rw [hcl]; exact e', (cm (PySem.mem_of_lookup e')).1⟩
  have okB : (gblk X A s H scope cenv fp).Ok := by
    refine ⟨I.ok.mod, by show cenv.scope.kind = _; rw [hsc]; exact ok.kind, by show cenv.globals = _; rw [← hcenv]; exact I.ok.glob, by show cenv.builtins = _; rw [← hcenv]; rfl, by show s.heap.objs.size ≤ cenv.locals; rw [hL]; exact Nat.le_refl _,
      fun y z c e1 e2 => I.ok.inj y z c (mem e1).1 (mem e2).1, fun y hy => ?_, fun y c z e => ?_, hA, hfr, .inr ⟨rfl, ?_⟩, fun b hb => ⟨?_, fun y c e z => ?_⟩, I.bs, Nat.le_trans I.ok.bsz I.sz, fun b o e hb => ?_, fun b hb z => ?_, I.stack, I.stkFree⟩
    · show ∃ c, cenv.cells.lookup y = some c
      have key : ∀ k, cenv.kindOf y = some k → (k = .cell ∨ k = .free) → ∃ c, cenv.cells.lookup y = some c := fun k hk hk' => by
        unfold Env.kindOf at hk
        rw [hsc] at hk
        rcases hk' with rfl | rfl
        · exact absurd rfl (hcell _ (PySem.mem_of_lookup hk))
        · obtain ⟨c, h1, _⟩ := look hk
          exact ⟨c, h1⟩
      rcases hy with hy | hy
      · exact key _ hy (.inl rfl)
      · exact key _ hy (.inr rfl)
    · have z : (scope.names.lookup y == some NameKind.cell) = true := z
      have z : scope.names.lookup y = some .cell := by simpa using z
      exact absurd rfl (hcell _ (PySem.mem_of_lookup z))
    · show cenv.frame = some cenv.locals
      rw [← hcenv]; rfl
    · show b ≠ cenv.locals
      rw [hL]; exact Nat.ne_of_lt (hfp b hb).2
    · exact (hfp b hb).1.2.2.2.2.1 y c (mem e).1 z
    · rcases (hfp b hb).1.2.2.2.1 with z | z
      · exact I.ok.noex b o e z
      · exact absurd (Nat.lt_of_lt_of_le (Heap.lt_size e) (Nat.le_trans I.ok.bsz z)) (Nat.lt_irrefl _)
    · rcases List.mem_cons.mp (I.stkSub b z) with z | z
      · exact (hfp b hb).1.2.1 z
      · exact (hfp b hb).1.2.2.1 z
  refine ⟨okB, rfl, hg, Un.kept kp, ⟨m, by show Heap.Ns _ cenv.locals _; rw [hL]; exact hn, fun i y av e1 e2 e3 => ?_⟩, fun y c e => ?_, ?_, fun y c e => ?_, fun p hp => ?_, I.hok.kept kp, by rw [wipe_length]; exact I.len⟩
  · obtain ⟨e2, hne⟩ := wipe_some e2
    have hfr : scope.names.lookup y = some .free := by
      have e3 : Vis cenv.scope y := e3
      rw [hsc] at e3
      have no : ∀ k, scope.names.lookup y = some k → (k = .local ∨ k = .cell) → False := fun k e hh => by
        rcases ok.own _ (PySem.mem_of_lookup e) hh with e' | e'
        · obtain ⟨p, hp, hpy⟩ := List.mem_map.mp e'
          have e3 := ok.ix p hp
          have : p.1 = y := hpy
          rw [this] at e3
          exact hne (List.mem_map.mpr ⟨p, hp, nodup_ix hN e3 e1⟩)
        · exact e' (List.mem_of_getElem? e1)
      rcases e3 with e3 | e3 | e3
      · exact (no _ e3 (.inl rfl)).elim
      · exact (no _ e3 (.inr rfl)).elim
      · exact e3
    obtain ⟨m', hn', hl⟩ := I.loc
    have hvis : Vis X.env.scope y := (ok.free _ (PySem.mem_of_lookup hfr) rfl).elim (fun k => .inr (.inl k)) (fun k => .inr (.inr k))
    obtain ⟨w, r, q⟩ := hl i y av e1 e2 hvis
    refine ⟨w, r, .inr ⟨.inr (by show cenv.scope.names.lookup y = _; rw [hsc]; exact hfr), ?_⟩⟩
    obtain ⟨c, h1, h2⟩ := look hfr
    rcases q with ⟨k, _⟩ | ⟨_, c', e', z⟩
    · have k : X.env.scope.names.lookup y = some .local := k
      rcases ok.free _ (PySem.mem_of_lookup hfr) rfl with k' | k' <;> rw [show X.env.scope.names.lookup y = _ from k'] at k <;> cases k
    · rw [h2] at e'; cases e'
      exact ⟨c, h1, z.keeps kp⟩
  · obtain ⟨w, z⟩ := I.cell y c (mem e).1
    exact ⟨w, z.keeps kp⟩
  · show H cenv.locals = none
    rw [hL]; exact I.hok.fresh (Nat.le_refl _)
  · exact I.freeC y c (mem e).1
  · exact absurd (show p ∈ ([] : List (Addr × Obj)) ++ [] from hp) (by simp)
end
/-- the around of the generator's code -/
theorem over_comp {A : Around} {elt : Expr} {gs : List Comprehension} {scope : Scope} {pos : Pos} {it acc : Value} {env : Env} : A.over (.compLoop (.GeneratorExp elt gs scope pos) 0 it acc env) [] = A.deeper env := by
  first
    | rfl
    | (obtain ⟨hd, d, fr, gs', u⟩ := A; simp [Around.over, Around.deeper, marksOver, frameCount, unitsOf, envsOf, guardsOf, pushEnvs, pushGuards, Code.envs, Code.env?, Code.isFrame, Code.guards, Code.isGuard, Code.weight, Code.frames, Code.isCreation, Code.isCaller, Code.cUnits])
/-! ### what it hands out -/
/-- from what is left to walk and a tape: what is handed out, and the tape behind each; the tape at its end, or none where it is not woken again -/
inductive GTr (bnd : PyData → Ev → Option Ev) (cond : Ev → T → R Bool) (elt : Ev → T → R W) (e0 : Ev) : List PyData → T → List (PyData × T) → Option T → Prop
  | nil {t : T} : GTr bnd cond elt e0 [] t [] (some t)
  | stop {xs : List PyData} {t : T} : GTr bnd cond elt e0 xs t [] none
  | skip {x : PyData} {xs : List PyData} {t t1 : T} {e : Ev} {l : List (PyData × T)} {o : Option T} : bnd x e0 = some e → cond e t = .ok false t1 → GTr bnd cond elt e0 xs t1 l o → GTr bnd cond elt e0 (x :: xs) t l o
  | yield {x y : PyData} {xs : List PyData} {t t1 t2 : T} {e : Ev} {l : List (PyData × T)} {o : Option T} : bnd x e0 = some e → cond e t = .ok true t1 → elt e t1 = .ok (.d y) t2 → GTr bnd cond elt e0 xs t2 l o → GTr bnd cond elt e0 (x :: xs) t ((y, t2) :: l) o
/-- all that is fixed while a generator expression is walked -/
structure GC0 where
  XG : Cx
  Γ : Cfg
  Γ' : Cfg
  σ : L2.St
  env : Ev
  is : List Nat
  H1 : Hp
  fp : List Addr
  tn : Nat → Heap → Prop
  a : Addr
  go : Obj
  Mem : Hp → List PyData → Prop
abbrev GC0.σ0 (g : GC0) : L2.St := L2.wipe g.σ g.is
abbrev GC0.e0 (g : GC0) : Ev := wipeE g.env g.is
/-- how it stands -/
structure GSt (g : GC0) (i : Nat) (acc : List PyData) (t : T) (H : Hp) (s : Shared) : Prop where
  inv : Inv g.XG [(g.a, g.go)] g.σ0 H s
  at_ : g.tn i s.heap
  fpn : ∀ b ∈ g.fp, H b = none
  good : Good g.Γ' g.σ0 H g.e0 t
  fr : Frame g.Γ.tp g.H1 H
  mem : g.Mem H acc
abbrev datas (l : List (PyData × T)) : List PyData := l.map Prod.fst
def GYp (g : GC0) (all : List (PyData × T)) (o : Option T) : Protocol := fun m s₀ v s kap =>
  ∃ (i : Nat) (acc rest : List (PyData × T)) (y : PyData) (t : T) (H : Hp) (x : V), all = acc ++ (y, t) :: rest ∧ m = rest.length ∧ RelV x v ∧ Rp (Av g.Γ' g.σ0 g.e0) g.Γ.K H x y ∧ GSt g i (datas acc) t H s ∧
    ((rest ≠ [] ∨ o ≠ none) → ∀ s' H', GSt g i (datas (acc ++ [(y, t)])) t H' s' → kap (.send .none) s')
/-- how it stands at its end -/
structure GEnd (g : GC0) (acc : List PyData) (t : T) (H : Hp) (s : Shared) : Prop where
  inv : Inv g.XG [(g.a, g.go)] g.σ0 H s
  good : Good g.Γ' g.σ0 H g.e0 t
  fr : Frame g.Γ.tp g.H1 H
  mem : g.Mem H acc
theorem GSt.fin {g : GC0} {i : Nat} {acc : List PyData} {t : T} {H : Hp} {s : Shared} (S : GSt g i acc t H s) : GEnd g acc t H s := ⟨S.inv, S.good, S.fr, S.mem⟩
def GFp (g : GC0) (all : List (PyData × T)) (o : Option T) : Nat → Shared → Shared → Prop := fun n _ s => n = 0 ∧ ∃ t H, o = some t ∧ GEnd g (datas all) t H s
def GRp (g : GC0) (all : List (PyData × T)) (o : Option T) : GenEnd := fun n s₀ r s => ((r = .ok (.ret .none) ∨ r = .ok .next) ∧ GFp g all o n s₀ s) ∨ ∃ e, r = .error e ∧ False
section
variable {g : GC0} {F : Fn} {elt tg iter : Expr} {ifs : List Expr} {scope : Scope} {pos : Pos} {it : Addr} {J : L2.It} {xs : List PyData} {celt : E} {ctg : Tg} {cifs : List E}
theorem GTr.nil_inv {bnd : PyData → Ev → Option Ev} {cond : Ev → T → R Bool} {el : Ev → T → R W} {e0 : Ev} {t : T} {l : List (PyData × T)} {o : Option T} (h : GTr bnd cond el e0 [] t l o) : l = [] ∧ (o = none ∨ o = some t) := by
  cases h with
  | nil => exact ⟨rfl, .inr rfl⟩
  | stop => exact ⟨rfl, .inl rfl⟩
theorem GTr.cons_inv {bnd : PyData → Ev → Option Ev} {cond : Ev → T → R Bool} {el : Ev → T → R W} {e0 : Ev} {x : PyData} {xs : List PyData} {t : T} {l : List (PyData × T)} {o : Option T} (h : GTr bnd cond el e0 (x :: xs) t l o) :
    (l = [] ∧ o = none) ∨ ∃ e, bnd x e0 = some e ∧ ((∃ t1, cond e t = .ok false t1 ∧ GTr bnd cond el e0 xs t1 l o) ∨ ∃ t1 y t2 l', cond e t = .ok true t1 ∧ el e t1 = .ok (.d y) t2 ∧ GTr bnd cond el e0 xs t2 l' o ∧ l = (y, t2) :: l') := by
  cases h with
  | stop => exact .inl ⟨rfl, rfl⟩
  | skip h1 h2 h3 => exact .inr ⟨_, h1, .inl ⟨_, h2, h3⟩⟩
  | yield h1 h2 h3 h4 => exact .inr ⟨_, h1, .inr ⟨_, _, _, _, h2, h3, h4, rfl⟩⟩
theorem seg_gen {Aw : Around} (hA : g.XG.A = Aw.deeper g.XG.env) (hxe : g.XG.xe = fun _ _ => False) (hc : g.XG.calm = true) (hK : g.Γ.K = g.XG.K) (hco : g.XG.env.scope.isCoroutine = false) (hex : g.XG.ex = g.fp) (hpn : g.XG.pn = []) (haf : g.a ∉ g.fp)
    (Tn : Turn g.XG.prog g.XG.w g.XG.K tg J g.fp it g.tn) (wk : WkD g.Γ.K (StW true g.Γ.tp (Av g.Γ g.σ g.env) g.H1) J xs) (hg : PG g.XG tg (uG g.Γ ctg)) (ht : PTs g.XG ifs (uTs g.Γ F cifs)) (he : PE g.XG elt (uE g.Γ F celt)) (hu : Under g.Γ g.Γ')
    (hsl : ∀ i ∈ slotsT ctg, i ∈ g.is) (hstw : ∀ {i acc t H s}, GSt g i acc t H s → StW true g.Γ.tp (Av g.Γ g.σ g.env) g.H1 H (Av g.Γ' g.σ0 g.e0)) (hmem : ∀ H H' acc, g.Mem H acc → Frame g.Γ.tp H H' → g.Mem H' acc)
    (all : List (PyData × DL.T)) (o : Option DL.T) :
    ∀ (rem : List PyData) (t : DL.T) (l : List (PyData × DL.T)), GTr (bindT ctg) (evTs F cifs) (ev F celt) g.e0 rem t l o → (l ≠ [] ∨ o ≠ none) → ∀ (i : Nat) (acc : List (PyData × DL.T)) (s₀ s : Shared) (H : Hp), xs.drop i = rem → i ≤ xs.length → all = acc ++ l → GSt g i (datas acc) t H s →
      Seg (model g.XG.prog g.XG.w) Aw (GRp g all o) (GYp g all o) l.length s₀ (.compLoop (.GeneratorExp elt [⟨tg, iter, ifs, 0⟩] scope pos) 0 (.ref it) .none g.XG.env) ((model g.XG.prog g.XG.w).den (.compLoop (.GeneratorExp elt [⟨tg, iter, ifs, 0⟩] scope pos) 0 (.ref it) .none g.XG.env)) [] s := by
  have over : Aw.over (.compLoop (.GeneratorExp elt [⟨tg, iter, ifs, 0⟩] scope pos) 0 (.ref it) .none g.XG.env) [] = g.XG.A := by rw [over_comp, hA]
  have stat : ∀ {σ' : L2.St} {H' : Hp} {s' : Shared}, Inv g.XG [(g.a, g.go)] σ' H' s' → (∀ b ∈ g.fp, H' b = none) → ∀ b ∈ g.fp, FpOk g.XG [(g.a, g.go)] H' b := fun {σ' H' s'} I' hn b hb =>
    ⟨hn b hb, (I'.ok.exf b (by rw [hex]; exact hb)).1, I'.ok.exfs b (by rw [hex]; exact hb), .inl (by rw [hex]; exact hb), fun x c e => (I'.ok.exf b (by rw [hex]; exact hb)).2 x c e, fun p hp => by
      rw [hpn, List.nil_append] at hp
      rw [List.mem_singleton.mp hp]
      exact fun z => haf (by rw [show g.a = b from z]; exact hb)⟩
  have noX : ∀ {α : Type} {m : Sem α} {Q : α → Shared → Prop} {E' : Value → Shared → Prop} {s : Shared}, wpAny (model g.XG.prog g.XG.w) g.XG.A m Q g.XG.xe s → wpAny (model g.XG.prog g.XG.w) g.XG.A m Q E' s := fun h => wpAny_mono h (fun _ _ z => z) fun _ _ z => by rw [hxe] at z; exact z.elim
  intro rem
  induction rem with
  | nil =>
    intro t l htr hlo i acc s₀ s H hdr hi hall S
    obtain ⟨rfl, ho⟩ := htr.nil_inv
    have ho : o = some t := by
      rcases ho with z | z
      · exact (hlo.elim (fun q => q rfl) fun q => q z).elim
      · exact z
    have hie : i = xs.length := by
      have := List.drop_eq_nil_iff.mp hdr
      omega
    subst hie
    show Seg _ Aw _ _ _ s₀ _ ((compTurn (.GeneratorExp elt [⟨tg, iter, ifs, 0⟩] scope pos) 0 (.ref it) .none g.XG.env).onRaise (leaving g.XG.env)) [] s
    rw [compTurn_gen, Sem.onRaise_eq_wrap]
    refine seg_bind_wrap (wpAny_standAt ?_)
    refine seg_bind_wrap ?_
    rw [over]
    refine thnF (Tn.done g.XG rfl rfl rfl hc xs.length [(g.a, g.go)] s _ H (fun _ _ => False) S.inv (stat S.inv S.fpn) S.at_ (wk.stops H _ (hstw S))) fun r s6 ⟨hr, I6⟩ => ?_
    subst hr
    refine seg_end (.ok .next) (.inl ⟨.inr rfl, rfl, t, H, ho, I6, S.good, S.fr, ?_⟩)
    rw [hall, List.append_nil]
    exact S.mem
  | cons d rem ih =>
    intro t l htr hlo i acc s₀ s H hdr hi hall S
    have hlt : i < xs.length := by
      rcases Nat.lt_or_ge i xs.length with z | z
      · exact z
      · rw [List.drop_eq_nil_iff.mpr z] at hdr; cases hdr
    have hdr2 : xs.drop (i + 1) = rem := by
      rw [List.drop_eq_getElem_cons hlt] at hdr
      exact (List.cons.inj hdr).2
    have hd : xs[i]? = some d := by
      rw [List.drop_eq_getElem_cons hlt] at hdr
      rw [List.getElem?_eq_getElem hlt, (List.cons.inj hdr).1]
    obtain ⟨e1, hb, hcase⟩ : ∃ e, bindT ctg d g.e0 = some e ∧ ((∃ t1, evTs F cifs e t = .ok false t1 ∧ GTr (bindT ctg) (evTs F cifs) (ev F celt) g.e0 rem t1 l o) ∨ ∃ t1 y t2 l', evTs F cifs e t = .ok true t1 ∧ ev F celt e t1 = .ok (.d y) t2 ∧ GTr (bindT ctg) (evTs F cifs) (ev F celt) g.e0 rem t2 l' o ∧ l = (y, t2) :: l') := by
      rcases htr.cons_inv with ⟨z1, z2⟩ | z
      · exact (hlo.elim (fun q => q z1) fun q => q z2).elim
      · exact z
    show Seg _ Aw _ _ _ s₀ _ ((compTurn (.GeneratorExp elt [⟨tg, iter, ifs, 0⟩] scope pos) 0 (.ref it) .none g.XG.env).onRaise (leaving g.XG.env)) [] s
    rw [compTurn_gen, Sem.onRaise_eq_wrap]
    refine seg_bind_wrap (wpAny_standAt ?_)
    refine seg_bind_wrap ?_
    rw [over]
    refine thnF (Tn.item g.XG rfl rfl rfl hc i [(g.a, g.go)] s _ H (fun _ _ => False) S.inv (stat S.inv S.fpn) S.at_ (wk.goes i H _ hlt (hstw S))) fun r s6 ⟨u, hr, h6⟩ => ?_
    subst hr
    refine seg_bind_wrap ?_
    rw [over]
    refine thnF h6 fun _ s7 ⟨x, H7, I7, r7, y7, st7, n7⟩ => ?_
    obtain ⟨sm, fb, d', hd', rd⟩ := wk.yields i H _ x H7 hlt (hstw S) y7
    rw [hd] at hd'
    cases hd'
    have G7 := S.good.same sm
    have f7 : Frame g.Γ.tp H H7 := same_frame sm
    have I7' := I7.pinned (stat I7 n7) (Tn.obj _ _ st7)
    refine seg_bind_wrap ?_
    rw [over]
    refine noX (thn (hg.run _ s7 _ H7 x u (fun σ8 H8 => H8 = H7 ∧ Good g.Γ' σ8 H7 e1 t ∧ Off (slotsT ctg) g.σ0 σ8) I7' r7 ⟨g.Γ', hu, g.e0, t, d, e1, G7, by rw [hu.K]; exact rd, hb, fun σ1 G1 off s1 => ⟨rfl, G1, off⟩⟩) fun _ s8 ⟨σ8, H8, I8, eH, G8, off8⟩ => ?_)
    subst eH
    have hown := ow_bind (σ := g.σ) hb off8 hsl
    have hw8 : L2.wipe σ8 g.is = L2.wipe g.σ g.is := (off8.wipe hsl).trans wipe_wipe
    have fin : ∀ {s' : Shared} {H' : Hp} {t' : DL.T} {ac : List PyData}, Inv g.XG ([(g.a, g.go)] ++ pinsAt g.fp s7.heap) σ8 H' s' → Good g.Γ' σ8 H' e1 t' → Frame g.Γ.tp H8 H' → g.Mem H' ac → GSt g (i + 1) ac t' H' s' := fun {s' H' t' ac} I' G' f' M' => by
      have pin' : ∀ b ∈ g.fp, ∀ ob, s7.heap.get? b = some ob → s'.heap.get? b = some ob ∧ H' b = none := fun b hb ob e =>
        let z := I'.pin (b, ob) (List.mem_append_right _ (List.mem_append_right _ (mem_pinsAt hb e)))
        ⟨z.1, z.2.1⟩
      have hl : g.σ0.length = σ8.length := by rw [show g.σ0 = L2.wipe σ8 g.is from hw8.symm, wipe_length]
      refine ⟨(I'.unpinned (pins := [(g.a, g.go)])).weak hl (fun j v e => ?_), Tn.keep _ _ _ st7 fun b hb ob e => (pin' b hb ob e).1, fun b hb => ?_, G7.back (by rw [hu.tp]; exact f') G' hown, S.fr.trans (f7.trans f'), M'⟩
      · rw [show g.σ0 = L2.wipe σ8 g.is from hw8.symm] at e
        exact (wipe_some e).1
      · obtain ⟨ob, e, _⟩ := Tn.obj _ _ st7 b hb
        exact (pin' b hb ob e).2
    rcases hcase with ⟨t3, hc3, hr3⟩ | ⟨t3, yv, t4, l', hc3, he3, hr3, hl'⟩
    · refine seg_bind_wrap ?_
      rw [over]
      refine noX (thn (ht.run _ s8 σ8 H8 (fun b H9 => b = false ∧ Frame g.Γ.tp H8 H9 ∧ Good g.Γ' σ8 H9 e1 t3) I8 ⟨g.Γ', hu, e1, t, G8, ?_⟩) fun b s9 ⟨H9, I9, eb, f9, G9⟩ => ?_)
      · rw [hc3]
        exact fun b H9 f9 G9 pb => ⟨pb, by rw [hu.tp] at f9; exact f9, G9⟩
      · subst eb
        simp only [Bool.false_eq_true, if_false]
        exact seg_again rfl (ih t3 l hr3 hlo (i + 1) acc s₀ s9 H9 hdr2 hlt hall (fin I9 G9 f9 (hmem _ _ _ S.mem (f7.trans f9))))
    · refine seg_bind_wrap ?_
      rw [over]
      refine noX (thn (ht.run _ s8 σ8 H8 (fun b H9 => b = true ∧ Frame g.Γ.tp H8 H9 ∧ Good g.Γ' σ8 H9 e1 t3) I8 ⟨g.Γ', hu, e1, t, G8, ?_⟩) fun b s9 ⟨H9, I9, eb, f9, G9⟩ => ?_)
      · rw [hc3]
        exact fun b H9 f9 G9 pb => ⟨pb, by rw [hu.tp] at f9; exact f9, G9⟩
      · subst eb hl'
        simp only [if_true]
        have hy : ∀ v, yieldOut g.XG.env v = yieldValue v := fun v => by simp only [yieldOut, hco, Bool.false_eq_true, if_false]
        simp only [hy]
        rw [Sem.bind_eq_wrap', Sem.bind_eq_wrap', Sem.wrap_wrap, Sem.wrap_wrap]
        refine seg_wrap ?_
        rw [over]
        refine noX (thn (he.run _ s9 σ8 H9 (fun v H10 => Frame g.Γ.tp H9 H10 ∧ Good g.Γ' σ8 H10 e1 t4 ∧ Rp (Av g.Γ' σ8 e1) g.Γ'.K H10 v yv) I9 ⟨g.Γ', hu, e1, t3, G9, ?_⟩) fun v s10 ⟨yV, H10, I10, r10, f10, G10, rp10⟩ => ?_)
        · rw [he3]
          exact fun v H10 f10 G10 rv => ⟨by rw [hu.tp] at f10; exact f10, G10, rv⟩
        have S10 : GSt g (i + 1) (datas acc) t4 H10 s10 := fin I10 G10 (f9.trans f10) (hmem _ _ _ S.mem (f7.trans (f9.trans f10)))
        refine seg_at (seg_yield rfl rfl rfl ⟨i + 1, acc, l', yv, t4, H10, yV, hall, rfl, r10, ?_, S10, fun hr' s'' H'' S'' => ?_⟩)
        · rw [← hu.K]
          refine Rp.moves (Moves.sub fun a z => ?_) _ _ rp10
          rcases z with z | z | z
          · exact .inl z
          · exact .inr (.inl z)
          · exact .inr (.inr (hown a z))
        · exact seg_again rfl (ih t4 l' hr3 hr' (i + 1) (acc ++ [(yv, t4)]) s'' s'' H'' hdr2 hlt (by rw [hall, List.append_assoc]; rfl) S'')
end
end DL
/-! DL12: generator expressions: made, walked by all and any. -/
namespace DL
open PySem PySem.Spec PyProof.Rows L2
section
variable {g : GC0} {Fx : Fn} {elt tg iter : Expr} {ifs : List Expr} {scope : Scope} {pos : Pos} {it : Addr} {J : L2.It} {xs : List PyData} {celt : E} {ctg : Tg} {cifs : List E}
theorem seg_begin {Aw : Around} {R : GenEnd} {Y : Protocol} {n : Nat} {s₀ s : Shared} {H : Hp} {acc : List PyData} {t : DL.T} (Tn : Turn g.XG.prog g.XG.w g.XG.K tg J g.fp it g.tn) (S : GSt g 0 acc t H s)
    (loop : Seg (model g.XG.prog g.XG.w) Aw R Y n s₀ (.compLoop (.GeneratorExp elt [⟨tg, iter, ifs, 0⟩] scope pos) 0 (.ref it) .none g.XG.env) ((model g.XG.prog g.XG.w).den (.compLoop (.GeneratorExp elt [⟨tg, iter, ifs, 0⟩] scope pos) 0 (.ref it) .none g.XG.env)) [] s) :
    Seg (model g.XG.prog g.XG.w) Aw R Y n s₀ (.compStart (.GeneratorExp elt [⟨tg, iter, ifs, 0⟩] scope pos) 0 (.ref it) .none g.XG.env) ((model g.XG.prog g.XG.w).den (.compStart (.GeneratorExp elt [⟨tg, iter, ifs, 0⟩] scope pos) 0 (.ref it) .none g.XG.env)) [] s := by
  show Seg _ Aw _ _ _ s₀ _ ((compStart (.GeneratorExp elt [⟨tg, iter, ifs, 0⟩] scope pos) 0 (.ref it) .none g.XG.env).onRaise (leaving g.XG.env)) [] s
  unfold compStart
  rw [Sem.onRaise_eq_wrap]
  show Seg _ Aw _ _ _ s₀ _ ((ask >>= _).wrap _ _ _ _) [] s
  refine seg_bind_wrap (wpAny_askSetting ?_)
  split
  · exact seg_again rfl loop
  · first
      | exact seg_bind_wrap (wpAny_rule (seg_bind_wrap (wpAny_standAt (seg_bind_wrap (Tn.self _ 0 s _ _ S.at_ (seg_again rfl loop))))))
      | (refine seg_bind_wrap (wpAny_rule ?_); show Seg _ Aw _ _ _ s₀ _ ((standAt iter.pos >>= _).wrap _ _ _ _) [] s; exact seg_bind_wrap (wpAny_standAt (seg_bind_wrap (Tn.self _ 0 s _ _ S.at_ (seg_again rfl loop)))))
/-- the state but for the table of generators -/
theorem Inv.gens {X : Cx} {pins : List (Addr × Obj)} {σ : L2.St} {H : Hp} {s : Shared} {g' : Array GenState} {h' : Heap} {tk : Nat} (I : Inv X pins σ H s) (hk : ∀ b o, s.heap.get? b = some o → h'.get? b = some o) (hg : AllBare g') : Inv X pins σ H { s with gens := g', heap := h', toks := tk } :=
  I.call' (s' := { s with gens := g', heap := h', toks := tk }) (ch := []) rfl (Un.kept hk) (I.hok.kept hk) hg fun b z => by simp at z
theorem GSt.gens {i : Nat} {acc : List PyData} {t : DL.T} {H : Hp} {s : Shared} {g' : Array GenState} {h' : Heap} {tk : Nat} (Tn : Turn g.XG.prog g.XG.w g.XG.K tg J g.fp it g.tn) (S : GSt g i acc t H s) (hk : ∀ b o, s.heap.get? b = some o → h'.get? b = some o) (hg : AllBare g') : GSt g i acc t H { s with gens := g', heap := h', toks := tk } :=
  ⟨Inv.gens S.inv hk hg, Tn.keep _ _ _ S.at_ fun b _ o e => hk b o e, S.fpn, S.good, S.fr, S.mem⟩
theorem GEnd.gens {acc : List PyData} {t : DL.T} {H : Hp} {s : Shared} {g' : Array GenState} {h' : Heap} {tk : Nat} (S : GEnd g acc t H s) (hk : ∀ b o, s.heap.get? b = some o → h'.get? b = some o) (hg : AllBare g') : GEnd g acc t H { s with gens := g', heap := h', toks := tk } :=
  ⟨Inv.gens S.inv hk hg, S.good, S.fr, S.mem⟩
/-- the generator's object -/
def IsGo (a : Addr) (gn : Nat) (go : Obj) : Prop := ∀ h : Heap, h.get? a = some go → h.IsGen a gn
/-- the generator, ready to be woken -/
structure GAt (g : GC0) (gn : Nat) (Aw : Around) (all : List (PyData × DL.T)) (o : Option DL.T) (i : Nat) (acc l : List (PyData × DL.T)) (t : DL.T) (H : Hp) (s : Shared) : Prop where
  st : GSt g i (datas acc) t H s
  split : all = acc ++ l
  more : l ≠ [] ∨ o ≠ none
  goes : ∃ gs, s.gens[gn]? = some gs ∧ ∀ H' s', GSt g i (datas acc) t H' s' → gs.Goes (model g.XG.prog g.XG.w) Aw (GRp g all o) (GYp g all o) l.length (.send .none) s'
theorem gen_next {A : Around} {gn i : Nat} {acc l all : List (PyData × DL.T)} {o : Option DL.T} {t : DL.T} {H : Hp} {s : Shared} {Q : Option Value → Shared → Prop} {E : Value → Shared → Prop} (hh : A.handled = none) (hroom : A.depth < recursionLimit) (hgo : IsGo g.a gn g.go) (hpn : g.XG.pn = [])
    (Tn : Turn g.XG.prog g.XG.w g.XG.K tg J g.fp it g.tn) (S : GAt g gn A.in1 all o i acc l t H s)
    (sleep : ∀ i' acc' y t' x H' v s1, GSt g i' acc' t' H' s1 → RelV x v → Rp (Av g.Γ' g.σ0 g.e0) g.Γ.K H' x y → ∃ s2 H2, GSt g i' (acc' ++ [y]) t' H2 s2)
    (hY : ∀ y t' l' v x i' H' s' gs', l = (y, t') :: l' → GSt g i' (datas acc) t' H' s' → s'.gens[gn]? = some gs' → RelV x v → Rp (Av g.Γ' g.σ0 g.e0) g.Γ.K H' x y →
      ((l' ≠ [] ∨ o ≠ none) → ∀ H2 s2, GSt g i' (datas (acc ++ [(y, t')])) t' H2 s2 → gs'.Goes (model g.XG.prog g.XG.w) A.in1 (GRp g all o) (GYp g all o) l'.length (.send .none) s2) → Q (some v) s')
    (hE : ∀ t' H' s', l = [] → o = some t' → GEnd g (datas all) t' H' s' → Q none s') :
    wpAny (model g.XG.prog g.XG.w) A (pyNext (.ref g.a)) Q E s := by
  obtain ⟨st, split, more, gs, hgs, goes⟩ := S
  have gen : ∀ {H' : Hp} {s' : Shared} {σ' : L2.St}, Inv g.XG [(g.a, g.go)] σ' H' s' → s'.heap.IsGen g.a gn := fun {H' s' σ'} I => hgo _ (I.pin (g.a, g.go) (List.mem_append_right _ (List.mem_singleton.mpr rfl))).1
  have hgl : gn < s.gens.size := (Array.getElem?_eq_some_iff.mp hgs).1
  refine GenW.wpAny_gsz (n := gn + 1) hgl ?_
  refine next_genG (F := GFp g all o) (Er := fun _ _ => False) hh st.inv.nolimit hroom (gen st.inv) hgs (goes _ _ (st.gens (g' := (s.setGen gn .running).gens) (h' := s.heap) (tk := s.toks) Tn (fun _ _ e => e) (allBare_setGen st.inv.bare rfl)))
    (fun v s₁ gs' hb hy hsz => ?_) (fun s₁ hp h' hk hsz => ?_) fun e s₁ he => he.elim
  · obtain ⟨i', acc', rest, y, t', H', x, h1, h2, h3, h4, h5, h6⟩ := hy
    have hsz1 : gn < s₁.gens.size := by
      have q : (s₁.setGen gn gs').gens.size = s₁.gens.size := GenW.setGen_size _ _ _
      omega
    have hs1 : GSt g i' (datas acc') t' H' (s₁.setGen gn gs') := h5.gens (g' := (s₁.setGen gn gs').gens) (h' := s₁.heap) (tk := s₁.toks) Tn (fun _ _ e => e) (allBare_setGen h5.inv.bare hb)
    cases l with
    | nil =>
      exfalso
      have ho : o ≠ none := more.elim (fun z => absurd rfl z) id
      obtain ⟨s2, H2, S2⟩ := sleep i' (datas acc') y t' x H' v s₁ h5 h3 h4
      refine h6 (.inr ho) s2 H2 ?_
      have e : datas (acc' ++ [(y, t')]) = datas acc' ++ [y] := by simp [datas]
      rw [e]; exact S2
    | cons p l' =>
      have hl : rest.length = l'.length := by
        have : (p :: l').length - 1 = rest.length := h2
        simpa using this.symm
      rw [split] at h1
      obtain ⟨rfl, h7⟩ : acc = acc' ∧ p :: l' = (y, t') :: rest := List.append_inj' h1 (by simp [hl])
      cases h7
      refine hY y t' _ v x i' H' _ gs' rfl hs1 (setGen_at hsz1) h3 h4 fun hm H2 s2 S2 => ?_
      exact h6 hm s2 H2 S2
  · obtain ⟨hn0, t', H', ho, S'⟩ := hp
    have hl : l = [] := List.eq_nil_of_length_eq_zero hn0
    refine hE t' H' _ hl ho (S'.gens (g' := (s₁.setGen gn .finished).gens) (h' := h') (tk := s₁.toks) hk (allBare_setGen S'.inv.bare rfl))
/-! ### all, any -/
/-- what is handed out till it is told -/
inductive QT (stop c : Bool) (t' : DL.T) : List (PyData × DL.T) → Option DL.T → Prop
  | done : c = (!stop) → QT stop c t' [] (some t')
  | hit : c = stop → QT stop c t' [(.bool stop, t')] none
  | cons {l : List (PyData × DL.T)} {o : Option DL.T} {t1 : DL.T} : QT stop c t' l o → QT stop c t' ((.bool (!stop), t1) :: l) o
theorem QT.more {stop c : Bool} {t' : DL.T} {l : List (PyData × DL.T)} {o : Option DL.T} (h : QT stop c t' l o) : l ≠ [] ∨ o ≠ none := by
  cases h with
  | done => exact .inr (by simp)
  | hit => exact .inl (by simp)
  | cons => exact .inl (by simp)
theorem quant_tr {stop : Bool} {bnd : PyData → Ev → Option Ev} {cond : Ev → DL.T → R Bool} {el : Ev → DL.T → R W} {e0 : Ev} : ∀ {xs : List PyData} {t : DL.T} {c : Bool} {t' : DL.T}, quantRun stop bnd cond el e0 xs t = .ok c t' → ∃ l o, GTr bnd cond el e0 xs t l o ∧ QT stop c t' l o
  | [], t, c, t', h => by
    have h' : R.ok (!stop) t = R.ok c t' := h
    cases h'
    exact ⟨[], some t, .nil, .done rfl⟩
  | x :: xs, t, c, t', h => by
    have h' : (match bnd x e0 with
    | none => .bad
    | some e => (cond e t).bind fun b t1 => if b then (el e t1).bind fun w t2 => match w with
        | .d (.bool c) => if c = stop then .ok stop t2 else quantRun stop bnd cond el e0 xs t2
        | _ => .bad
      else quantRun stop bnd cond el e0 xs t1) = R.ok c t' := h
    cases hb : bnd x e0 with
    | none => rw [hb] at h'; cases h'
    | some e =>
      rw [hb] at h'
      obtain ⟨b, t1, hc, h2⟩ := bind_ok h'
      cases b with
      | false =>
        obtain ⟨l, o, h3, h4⟩ := quant_tr (show quantRun stop bnd cond el e0 xs t1 = R.ok c t' from h2)
        exact ⟨l, o, .skip hb hc h3, h4⟩
      | true =>
        obtain ⟨w, t2, he, h3⟩ := bind_ok (show ((el e t1).bind fun w t2 => match w with
          | .d (.bool c) => if c = stop then .ok stop t2 else quantRun stop bnd cond el e0 xs t2
          | _ => .bad) = R.ok c t' from h2)
        cases w with
        | d y =>
          cases y with
          | bool k =>
            have h4 : (if k = stop then R.ok stop t2 else quantRun stop bnd cond el e0 xs t2) = R.ok c t' := h3
            by_cases z : k = stop
            · rw [if_pos z] at h4
              cases h4
              subst z
              exact ⟨[(.bool k, _)], none, .yield hb hc he .stop, .hit rfl⟩
            · rw [if_neg z] at h4
              obtain ⟨l, o, h5, h6⟩ := quant_tr h4
              have e2 : k = !stop := by cases k <;> cases stop <;> simp_all
              subst e2
              exact ⟨(.bool (!stop), t2) :: l, o, .yield hb hc he h5, .cons h6⟩
          | _ => cases h3
        | _ => cases h3
theorem rp_bool {A : AP} {K : PySem.W.Frag} {H : Hp} {x : V} {v : Value} {b : Bool} (r : RelV x v) (h : Rp A K H x (.bool b)) : v = .bool b := by
  cases h
  exact r
section
variable {A : Around} {gn : Nat} {all : List (PyData × DL.T)} {o : Option DL.T} {R : Result → Shared → Prop} {c : Bool} {t' : DL.T}
theorem GSt.tok {i : Nat} {acc : List PyData} {t : DL.T} {H : Hp} {s : Shared} (S : GSt g i acc t H s) (tk : Nat) : GSt g i acc t H { s with toks := tk } := ⟨S.inv.tok tk, S.at_, S.fpn, S.good, S.fr, S.mem⟩
theorem all_loop (hh : A.handled = none) (hroom : A.depth < recursionLimit) (hgo : IsGo g.a gn g.go) (hpn : g.XG.pn = []) (Tn : Turn g.XG.prog g.XG.w g.XG.K tg J g.fp it g.tn) (hm : ∀ H acc, g.Mem H acc) (hR : ∀ acc H' s', GEnd g acc t' H' s' → R (.ok (.ret (.bool c))) s') :
    ∀ {l : List (PyData × DL.T)} {o' : Option DL.T}, QT false c t' l o' → o' = o → ∀ (i : Nat) (acc : List (PyData × DL.T)) (t : DL.T) (H : Hp) (s : Shared), GAt g gn A.in1.in1 all o i acc l t H s → codeAny (model g.XG.prog g.XG.w) A (.builtin "all.loop" ⟨[.ref g.a], []⟩) R s := by
  have sleep : ∀ i' acc' y t' x H' v s1, GSt g i' acc' t' H' s1 → RelV x v → Rp (Av g.Γ' g.σ0 g.e0) g.Γ.K H' x y → ∃ s2 H2, GSt g i' (acc' ++ [y]) t' H2 s2 := fun i' acc' y t' x H' v s1 S _ _ => ⟨s1, H', S.inv, S.at_, S.fpn, S.good, S.fr, hm _ _⟩
  intro l o' q
  induction q with
  | done e =>
    intro ho i acc t H s S
    subst ho
    refine codeAny_builtin F.entry_all_loop ?_
    rw [Around.under_plainId F.plain_all_loop _]
    show wpAny _ A.in1 (pyNext (.ref g.a) >>= _) _ _ s
    refine wpAny_bind (gen_next hh hroom hgo hpn Tn S sleep (fun y t' l' v x i' H' s' gs' hl _ _ _ _ _ => by cases hl) fun t2 H' s' _ ho S' => ?_)
    cases ho
    refine wpAny_bind (wpAny_rule (wpAny_pure ?_))
    have := hR _ _ _ S'
    rw [e] at this
    exact this
  | hit e =>
    intro ho i acc t H s S
    subst ho
    refine codeAny_builtin F.entry_all_loop ?_
    rw [Around.under_plainId F.plain_all_loop _]
    show wpAny _ A.in1 (pyNext (.ref g.a) >>= _) _ _ s
    refine wpAny_bind (gen_next hh hroom hgo hpn Tn S sleep (fun y t2 l' v x i' H' s' gs' hl S' hgs rv rp hmore => ?_) fun t2 H' s' hl _ _ => by cases hl)
    cases hl
    rw [rp_bool rv rp]
    refine wpAny_bind (wpAny_holding (wpAny_truthy_bool ?_))
    refine wpAny_bind (wpAny_letGo ?_)
    simp only [Bool.false_eq_true, if_false]
    refine wpAny_bind (wpAny_rule (wpAny_pure ?_))
    have := hR _ _ _ S'.fin
    rw [e] at this
    exact this
  | cons q ih =>
    intro ho i acc t H s S
    refine codeAny_builtin F.entry_all_loop ?_
    rw [Around.under_plainId F.plain_all_loop _]
    show wpAny _ A.in1 (pyNext (.ref g.a) >>= _) _ _ s
    refine wpAny_bind (gen_next hh hroom hgo hpn Tn S sleep (fun y t2 l' v x i' H' s' gs' hl S' hgs rv rp hmore => ?_) fun t2 H' s' hl _ _ => by cases hl)
    cases hl
    rw [rp_bool rv rp]
    refine wpAny_bind (wpAny_holding (wpAny_truthy_bool ?_))
    refine wpAny_bind (wpAny_letGo ?_)
    simp only [Bool.not_false, if_true]
    subst ho
    exact wpAny_pure ⟨plainId_quiet F.plain_all_loop _, ih rfl i' (acc ++ [_]) _ H' s' ⟨⟨S'.inv, S'.at_, S'.fpn, S'.good, S'.fr, hm _ _⟩, by rw [S.split, List.append_assoc]; rfl, q.more, gs', hgs, hmore q.more⟩⟩
theorem any_loop (hh : A.handled = none) (hroom : A.depth < recursionLimit) (hgo : IsGo g.a gn g.go) (hpn : g.XG.pn = []) (Tn : Turn g.XG.prog g.XG.w g.XG.K tg J g.fp it g.tn) (hm : ∀ H acc, g.Mem H acc) (hR : ∀ acc H' s', GEnd g acc t' H' s' → R (.ok (.ret (.bool c))) s') :
    ∀ {l : List (PyData × DL.T)} {o' : Option DL.T}, QT true c t' l o' → o' = o → ∀ (i : Nat) (acc : List (PyData × DL.T)) (t : DL.T) (H : Hp) (s : Shared), GAt g gn A.in1.in1 all o i acc l t H s → codeAny (model g.XG.prog g.XG.w) A (.builtin "any.loop" ⟨[.ref g.a], []⟩) R s := by
  have sleep : ∀ i' acc' y t' x H' v s1, GSt g i' acc' t' H' s1 → RelV x v → Rp (Av g.Γ' g.σ0 g.e0) g.Γ.K H' x y → ∃ s2 H2, GSt g i' (acc' ++ [y]) t' H2 s2 := fun i' acc' y t' x H' v s1 S _ _ => ⟨s1, H', S.inv, S.at_, S.fpn, S.good, S.fr, hm _ _⟩
  intro l o' q
  induction q with
  | done e =>
    intro ho i acc t H s S
    subst ho
    refine codeAny_builtin F.entry_any_loop ?_
    rw [Around.under_plainId F.plain_any_loop _]
    show wpAny _ A.in1 (pyNext (.ref g.a) >>= _) _ _ s
    refine wpAny_bind (gen_next hh hroom hgo hpn Tn S sleep (fun y t' l' v x i' H' s' gs' hl _ _ _ _ _ => by cases hl) fun t2 H' s' _ ho S' => ?_)
    cases ho
    refine wpAny_bind (wpAny_rule (wpAny_pure ?_))
    have := hR _ _ _ S'
    rw [e] at this
    exact this
  | hit e =>
    intro ho i acc t H s S
    subst ho
    refine codeAny_builtin F.entry_any_loop ?_
    rw [Around.under_plainId F.plain_any_loop _]
    show wpAny _ A.in1 (pyNext (.ref g.a) >>= _) _ _ s
    refine wpAny_bind (gen_next hh hroom hgo hpn Tn S sleep (fun y t2 l' v x i' H' s' gs' hl S' hgs rv rp hmore => ?_) fun t2 H' s' hl _ _ => by cases hl)
    cases hl
    rw [rp_bool rv rp]
    refine wpAny_bind (wpAny_holding (wpAny_truthy_bool ?_))
    refine wpAny_bind (wpAny_letGo ?_)
    simp only [if_true]
    refine wpAny_bind (wpAny_rule (wpAny_pure ?_))
    have := hR _ _ _ S'.fin
    rw [e] at this
    exact this
  | cons q ih =>
    intro ho i acc t H s S
    refine codeAny_builtin F.entry_any_loop ?_
    rw [Around.under_plainId F.plain_any_loop _]
    show wpAny _ A.in1 (pyNext (.ref g.a) >>= _) _ _ s
    refine wpAny_bind (gen_next hh hroom hgo hpn Tn S sleep (fun y t2 l' v x i' H' s' gs' hl S' hgs rv rp hmore => ?_) fun t2 H' s' hl _ _ => by cases hl)
    cases hl
    rw [rp_bool rv rp]
    refine wpAny_bind (wpAny_holding (wpAny_truthy_bool ?_))
    refine wpAny_bind (wpAny_letGo ?_)
    simp only [Bool.not_true, Bool.false_eq_true, if_false]
    subst ho
    exact wpAny_pure ⟨plainId_quiet F.plain_any_loop _, ih rfl i' (acc ++ [_]) _ H' s' ⟨⟨S'.inv, S'.at_, S'.fpn, S'.good, S'.fr, hm _ _⟩, by rw [S.split, List.append_assoc]; rfl, q.more, gs', hgs, hmore q.more⟩⟩
end
end
end DL
/-! DL13: generator expressions: made; all(..), any(..). -/
namespace DL
open PySem PySem.Spec PyProof.Rows L2
/-- the frame of a generator expression that was made in the state s4 -/
abbrev genv (X : Cx) (scope : Scope) (s4 : Shared) (code : Value) : Env := genEnv scope (gcl X scope) s4.heap.objs.size code builtinsNs X.env
/-- a generator expression was made -/
structure Made (X : Cx) (pins : List (Addr × Obj)) (σ : L2.St) (Γ : Cfg) (tg : Expr) (gexp : Expr) (scope : Scope) (own : List Nat) (J : L2.It) (H1 : Hp) (it : Addr) (fp : List Addr) (tn : Nat → Heap → Prop) (H4 : Hp) (s4 : Shared) (code : Value) (a : Addr) (gn : Nat) (go : Obj) (s5 : Shared) : Prop where
  fr : Frame Γ.tp H1 H4
  tabs : TabsG Γ.tabs H4
  same : ∀ b, (∀ ps, H1 b ≠ some (.tbl ps)) → H4 b = H1 b
  inv : Inv X pins σ H4 s4
  turn : Turn X.prog X.w X.K tg J fp it tn
  tn0 : tn 0 s5.heap
  fpok : ∀ b ∈ fp, FpOk X pins H4 b ∧ b < s4.heap.objs.size
  age : s4.heap.objs.size ≤ a
  at_ : s5.heap.get? a = some go
  igo : IsGo a gn go
  nocell : ∀ v, go.data ≠ .cell v
  ne : a ≠ s4.heap.objs.size
  gens : s5.gens[gn]? = some (.fresh (.compStart gexp 0 (.ref it) .none (genv X scope s4 code)))
  start : ∀ A : Around, (X.calm = true → A.handled = none) → A.frames = some (genv X scope s4 code :: X.stack) → Inv (gblk X A s4 H4 scope (genv X scope s4 code) fp) [] (L2.wipe σ own) H4 s5
section
variable {X : Cx} {Γ : Cfg} {F : Fn} {pins : List (Addr × Obj)} {σ : L2.St} {H : Hp} {s : Shared} {c P : Addr} {elt tg iter : Expr} {ifs : List Expr} {scope : Scope} {gpos : Pos} {own : List (Str × Nat)} {cit : DL.It}
theorem gen_make {k : Nat} {Q' : Value → Shared → Prop} {Rw : L2.It → Hp → Prop} (hr : Room k X.A) (TB : GxR.TabB X.base X.mg c P) (hcode : X.env.code = .ref c) (hP : P ∈ Γ.tabs) (ok : BlkOk X.N X.env.scope scope own) (hcell : ∀ y ∈ scope.names, y.2 ≠ .cell) (hco : scope.isCoroutine = false)
    (h0 : scope.names.lookup (".0" : Str) = some NameKind.local) (hN : X.N.Nodup) (hi : DI X Γ F true tg iter cit) (hs : ∀ v, genFold iter X.env v = pure v) (I : Inv X pins σ H s) (h : tI Γ F true cit σ H fun J H1 => TabsG Γ.tabs H1 ∧ Γ.tp ≠ some P ∧ Rw J H1)
    (hQ : ∀ J H1 it fp tn H4 s4 code a gn go s5, Rw J H1 → Made X pins σ Γ tg (.GeneratorExp elt [⟨tg, iter, ifs, 0⟩] scope gpos) scope (own.map (·.2)) J H1 it fp tn H4 s4 code a gn go s5 → Q' (.ref a) s5) :
    wpAny (model X.prog X.w) X.A (eval (.GeneratorExp elt [⟨tg, iter, ifs, 0⟩] scope gpos) X.env) Q' X.xe s := by
  have hfree : ∀ y ∈ scope.names, y.2 = .free → ∃ c, X.env.cells.lookup y.1 = some c := fun y hy e => by
    rcases ok.free y hy e with k | k
    · exact I.ok.has _ (.inl k)
    · exact I.ok.has _ (.inr k)
  refine wpAny_GeneratorExp_make hco (closure_ok hfree) hcell h0 ok.kind (by have := hr.dp; omega) ?_ hs
  refine thn (hi.run pins s σ H _ I h) fun xv s1 h1 => thn h1 fun itv s2 h2 => ?_
  obtain ⟨it, fp, tn, J, H1, rfl, I2, T, st2, f2, htabs, htp, hR⟩ := h2
  obtain ⟨ps, hPs, htr⟩ := htabs P hP
  have hPh : s2.heap.get? P = some { cls := .none, data := .fields ps } := I2.hok P _ hPs
  have cd : PySem.W.CodeHd s2.heap c P := TB.code.keeps fun b u e => I2.bk b u e
  refine ⟨I2.nolimit, ?_⟩
  have fpP : ∀ b ∈ fp, b ≠ P := fun b hb z => by
    have := (f2 b hb).1
    rw [z, hPs] at this; cases this
  have cont : ∀ (code : Value) (h3 : Heap) (tk : Nat) (ps' : Array Value), Heap.ExtBut P s2.heap h3 → s2.heap.objs.size ≤ h3.objs.size → h3.get? P = some { cls := .none, data := .fields ps' } → (∃ more, ps' = ps ++ more) → TriplesOk ps'.toList →
      wpAny (model X.prog X.w) X.A (builtinsFor X.env.globals X.env.builtins) (fun bi s₄ =>
        ∀ h', h'.Ns s₄.heap.objs.size (fun y => if y = ".0" then some (Value.ref it) else none) → Heap.SameBut s₄.heap.objs.size (s₄.heap.push { cls := .type "frame", data := .dict #[] }) h' →
          Q' (.ref h'.objs.size) { s₄ with
            gens := s₄.gens.push (.fresh (.compStart (.GeneratorExp elt [⟨tg, iter, ifs, 0⟩] scope gpos) 0 (.ref it) .none (genEnv scope (gcl X scope) s₄.heap.objs.size code bi X.env))),
            toks := s₄.toks + 1 + 1 + 1,
            heap := h'.push { cls := .type "generator", data := .fields #[.int s₄.gens.size 0, .str "<genexpr>" (s₄.toks + 1), .str (X.env.qual ++ "<genexpr>") (s₄.toks + 1 + 1)] } }) X.xe { s2 with heap := h3, toks := tk } := by
    intro code h3 tk ps' hx hsz hP3 hmore ht3
    obtain ⟨bm, ob, e1, e2, e3, e4, e5, e6, e7, e8⟩ := TB.bm
    have keep3 : ∀ b u, b ≠ P → s2.heap.get? b = some u → h3.get? b = some u := fun b u hb e => hx b u hb e
    refine wpAny_builtinsFor (m := X.mg) (by rw [I2.ok.glob]; exact (I2.mod.glob.keeps I2.bk).extBut hx TB.gP) e1 e2 (keep3 _ _ e4 (I2.bk _ _ e5)) e6 e7 e8 ?_
    intro h' hn' hs'
    obtain ⟨more, em⟩ := hmore
    have I3 : Inv X pins σ (upd H1 P (.tbl (ps ++ more))) { s2 with heap := h3, toks := tk } := GxR.inv_tab (more := more) (g' := s2.gens) (d' := s2.drawn) I2 hPs keep3 (by rw [← em]; exact hP3) I2.bare
    generalize hs4 : ({ s2 with heap := h3, toks := tk } : Shared) = s4 at I3 hn' hs'
    have h4h : s4.heap = h3 := by rw [← hs4]
    have h4g : s4.gens = s2.gens := by rw [← hs4]
    have hsz' : h'.objs.size = s4.heap.objs.size + 1 := by rw [hs'.1, Heap.size_push]
    have keep' : ∀ b o, s4.heap.get? b = some o → h'.get? b = some o := fun b o e => hs'.extBut b o (Nat.ne_of_lt (Heap.lt_size e)) (Heap.get?_push_of_some _ e)
    generalize hgo : ({ cls := .type "generator", data := .fields #[.int s4.gens.size 0, .str "<genexpr>" (s4.toks + 1), .str (X.env.qual ++ "<genexpr>") (s4.toks + 1 + 1)] } : Obj) = go
    have hgf : go.isFreed = false := by rw [← hgo]; rfl
    have keep5 : ∀ b o, s4.heap.get? b = some o → (h'.push go).get? b = some o := fun b o e => Heap.get?_push_of_some _ (keep' b o e)
    have n3 : ∀ b, upd H1 P (.tbl (ps ++ more)) b = none → H1 b = none := fun b z => upd_back b z
    have f3 : ∀ b ∈ fp, FpOk X pins (upd H1 P (.tbl (ps ++ more))) b ∧ b < s4.heap.objs.size := fun b hb => by
      obtain ⟨o, eo, _⟩ := T.obj _ _ st2 b hb
      refine ⟨⟨by rw [upd_ne (fpP b hb)]; exact (f2 b hb).1, (f2 b hb).2⟩, ?_⟩
      rw [h4h]
      exact Heap.lt_size (keep3 b o (fpP b hb) eo)
    refine hQ J H1 it fp tn (upd H1 P (.tbl (ps ++ more))) s4 code h'.objs.size s4.gens.size go _ hR ⟨⟨fun b o e htp' hnt => ?_, fun b e => ?_⟩, fun P' hP' => ?_, fun b nb => upd_ne (fun z => nb ps (by rw [z]; exact hPs)), I3, T, ?_, f3, ?_, Heap.get?_push_size _ hgf, fun h e => ?_, ?_, ?_, ?_, fun A hA hfr => ?_⟩
    · rw [upd_ne (fun z => by rw [z, hPs] at e; exact hnt ps (Option.some.inj e).symm)]
      exact e
    · by_cases z : b = P
      · subst z; rw [upd_same]; simp
      · rw [upd_ne z]; exact e
    · by_cases z : P' = P
      · subst z
        exact ⟨ps ++ more, upd_same, by rw [← em]; exact ht3⟩
      · obtain ⟨qs, e, k⟩ := htabs P' hP'
        exact ⟨qs, by rw [upd_ne z]; exact e, k⟩
    · exact T.keep _ _ _ st2 fun b hb o e => keep5 b o (by rw [h4h]; exact keep3 b o (fpP b hb) e)
    · show s4.heap.objs.size ≤ h'.objs.size
      omega
    · refine ⟨go, .str "<genexpr>" (s4.toks + 1), .str (X.env.qual ++ "<genexpr>") (s4.toks + 1 + 1), e, ?_, ?_, ?_⟩ <;> (rw [← hgo])
    · intro v z
      rw [← hgo] at z
      cases z
    · show h'.objs.size ≠ s4.heap.objs.size
      omega
    · exact Array.getElem?_push_size ..
    · exact gen_start (g' := s4.gens.push _) (tk := s4.toks + 1 + 1 + 1) I3 ok hcell hN f3 hA hfr (hn'.push go) keep5 (AllBare.push (by rw [h4g]; exact I2.bare) rfl)
  cases hf : codeAmong gpos ps.toList with
  | none =>
    refine wpAny_genexprCodeX hcode (cd.code hPh htr) (cd.tab hPh) hf fun c' h' tk hx hge hlt hco' _ htab' _ => ?_
    obtain ⟨o1, vs, f1, tf, fl, tgg, inF, tx, tt, op, _, _, _, _, _, _, _, _, _, htr', _⟩ := hco'
    exact cont _ h' tk _ hx (Nat.le_trans hge (Nat.le_of_lt hlt)) htab'.2 ⟨_, rfl⟩ htr'
  | some cv =>
    refine wpAny_genexprCode_hit hcode (cd.code hPh htr) hf ?_
    exact cont cv s2.heap s2.toks ps (Heap.ExtBut.refl _ _) (Nat.le_refl _) hPh ⟨#[], by simp⟩ htr
end
/-! ### the block that writes nothing -/
section
variable {Γ : Cfg} {σ : L2.St} {H : Hp} {env : Ev} {t : DL.T}
def blkO0 (Γ : Cfg) (σ : L2.St) (env : Ev) (is : List Nat) : AP := fun a => Γ.O a ∨ (Ow env σ a ∧ ¬ Ow (wipeE env is) (L2.wipe σ is) a)
def blkΓ0 (Γ : Cfg) (σ : L2.St) (env : Ev) (is : List Nat) : Cfg := { Γ with O := blkO0 Γ σ env is, E := fun _ _ _ => False }
theorem under_blk0 {is : List Nat} : Under Γ (blkΓ0 Γ σ env is) := ⟨rfl, rfl, rfl, rfl, rfl⟩
theorem blk_av0 {is : List Nat} {a : Addr} : Av (blkΓ0 Γ σ env is) (L2.wipe σ is) (wipeE env is) a ↔ Av Γ σ env a := by
  constructor
  · rintro ((h | h) | h | h)
    · exact .inl h
    · exact .inr (.inr h.1)
    · exact .inr (.inl h)
    · exact .inr (.inr (ow_wipe h))
  · rintro (h | h | h)
    · exact .inl (.inl h)
    · exact .inr (.inl h)
    · by_cases z : Ow (wipeE env is) (L2.wipe σ is) a
      · exact .inr (.inr z)
      · exact .inl (.inr ⟨h, z⟩)
theorem Good.blk0 (G : Good Γ σ H env t) {is : List Nat} (his : ∀ i ∈ is, i < σ.length) : Good (blkΓ0 Γ σ env is) (L2.wipe σ is) H (wipeE env is) t := by
  obtain ⟨G0, s0⟩ := G.wipe is his
  have mv : Moves (Av Γ σ env) (Av (blkΓ0 Γ σ env is) (L2.wipe σ is) (wipeE env is)) H H := Moves.sub fun a z => blk_av0.mp z
  refine ⟨G0.len, G0.fr, fun a h => ?_, G0.tabs, fun a h => ?_, fun j x h => ?_, fun j xs h => ?_, G0.two, G0.tpe⟩
  · rcases h with h | h
    · exact G.oh a h
    · exact G.avHas a (.inr (.inr h.1))
  · obtain ⟨xs, e, r⟩ := G.tape a h
    exact ⟨xs, e, RpAll.moves mv _ _ r⟩
  · obtain ⟨hj, h1⟩ := wipeE_own h (fun z => by cases z)
    obtain ⟨v, e, r⟩ := G.dat j x h1
    exact ⟨v, by rw [wipe_get, if_neg hj]; exact e, Rp.moves mv _ _ r⟩
  · obtain ⟨hj, h1⟩ := wipeE_own h (fun z => by cases z)
    obtain ⟨a, vs, e1, e2, r, n1, n2, n3⟩ := G.own j xs h1
    have hs : (L2.wipe σ is)[j]? = some (some (.ref a)) := by rw [wipe_get, if_neg hj]; exact e1
    refine ⟨a, vs, hs, e2, RpAll.moves mv _ _ r, n1, fun z => ?_, n3⟩
    rcases z with z | z
    · exact n2 z
    · exact z.2 ⟨j, xs, h, hs⟩
end
/-! ### all, any as rules -/
section
variable {X : Cx} {Γ : Cfg} {F : Fn} {c P : Addr} {elt tg iter : Expr} {ifs : List Expr} {scope : Scope} {p pos gpos : Pos} {own : List (Str × Nat)} {cit : DL.It} {ctg : Tg} {celt : E} {cifs : List E} {k : Nat}
/-- what the generator's own code is known for -/
structure GenOk (X : Cx) (Γ : Cfg) (F : Fn) (k : Nat) (scope : Scope) (own : List (Str × Nat)) (elt tg : Expr) (ifs : List Expr) (celt : E) (ctg : Tg) (cifs : List E) : Prop where
  hg : ∀ (A : Around) (s : Shared) (H : Hp) (code : Value) (fp : List Addr) Γ', Room k A → Under Γ Γ' → DG (gblk X A s H scope (genv X scope s code) fp) Γ' tg ctg
  ht : ∀ (A : Around) (s : Shared) (H : Hp) (code : Value) (fp : List Addr) Γ', Room k A → Under Γ Γ' → DTs (gblk X A s H scope (genv X scope s code) fp) Γ' F ifs cifs
  he : ∀ (A : Around) (s : Shared) (H : Hp) (code : Value) (fp : List Addr) Γ', Room k A → Under Γ Γ' → DE (gblk X A s H scope (genv X scope s code) fp) Γ' F elt celt
structure GenSc (X : Cx) (scope : Scope) (own : List (Str × Nat)) (ctg : Tg) : Prop where
  blk : BlkOk X.N X.env.scope scope own
  cell : ∀ y ∈ scope.names, y.2 ≠ .cell
  co : scope.isCoroutine = false
  dot : scope.names.lookup (".0" : Str) = some NameKind.local
  sl : ∀ i ∈ slotsT ctg, i ∈ own.map (·.2)
/-- all that a made generator expression gives to its consumer -/
theorem gen_at {pins : List (Addr × Obj)} {σ : L2.St} {env : Ev} {t1 : DL.T} {J : L2.It} {H1 : Hp} {xs : List PyData} {it : Addr} {fp : List Addr} {tn : Nat → Heap → Prop} {H4 : Hp} {s4 : Shared} {code : Value} {a : Addr} {gn : Nat} {go : Obj} {s5 : Shared} {A : Around} {l : List (PyData × DL.T)} {o : Option DL.T}
    (hr : Room (k + 3) X.A) (hA : A = X.A.in1.in1) (hK : Γ.K = X.K) (hc : X.calm = true) (sc : GenSc X scope own ctg) (S : GenOk X Γ F k scope own elt tg ifs celt ctg cifs) (G1 : Good Γ σ H1 env t1) (wk : WkD Γ.K (StW true Γ.tp (Av Γ σ env) H1) J xs)
    (M : Made X pins σ Γ tg (.GeneratorExp elt [⟨tg, iter, ifs, 0⟩] scope gpos) scope (own.map (·.2)) J H1 it fp tn H4 s4 code a gn go s5) (htr : GTr (bindT ctg) (evTs F cifs) (ev F celt) (wipeE env (own.map (·.2))) xs t1 l o) (hm : l ≠ [] ∨ o ≠ none) :
    ∃ g : GC0, g.XG = gblk X (A.deeper (genv X scope s4 code)) s4 H4 scope (genv X scope s4 code) fp ∧ g.a = a ∧ g.go = go ∧ (∀ H acc, g.Mem H acc) ∧ Turn g.XG.prog g.XG.w g.XG.K tg J g.fp it g.tn ∧ GAt g gn A l o 0 [] l t1 H4 s5 ∧
      ∀ acc t' H' s', GEnd g acc t' H' s' → Inv X pins σ H' s' ∧ Frame Γ.tp H1 H' ∧ Good Γ σ H' env t' := by
  have G4 : Good Γ σ H4 env t1 := G1.frame M.fr M.tabs fun b hb => by
    obtain ⟨ys, e, r⟩ := G1.tape b hb
    exact ⟨ys, by rw [M.same b (fun ps z => by rw [e] at z; cases z)]; exact e, RpAll.moves (Moves.frame M.fr fun a h => avTape h) _ _ r⟩
  have hf : A.frames = some X.stack := by rw [hA]; exact M.inv.ok.frames
  have hrA : Room (k + 1) A := by rw [hA]; exact hr.in1.in1
  have hrD : Room k (A.deeper (genv X scope s4 code)) := hrA.deeper _
  have his : ∀ i ∈ own.map (·.2), i < σ.length := fun i hi => by
    obtain ⟨p, hp, rfl⟩ := List.mem_map.mp hi
    rw [M.inv.len]
    exact (List.getElem?_eq_some_iff.mp (sc.blk.ix p hp)).1
  have GB := G4.blk0 his
  let g : GC0 := { XG := gblk X (A.deeper (genv X scope s4 code)) s4 H4 scope (genv X scope s4 code) fp, Γ := Γ, Γ' := blkΓ0 Γ σ env (own.map (·.2)), σ := σ, env := env, is := own.map (·.2), H1 := H4, fp := fp, tn := tn, a := a, go := go, Mem := fun _ _ => True }
  have haf : a ∉ fp := fun z => absurd (Nat.lt_of_lt_of_le (M.fpok a z).2 M.age) (Nat.lt_irrefl _)
  have I0 : Inv g.XG [] g.σ0 H4 s5 := M.start (A.deeper (genv X scope s4 code)) (fun _ => hrD.hd) (by show A.frames.map _ = _; rw [hf]; rfl)
  have I1 : Inv g.XG [(g.a, g.go)] g.σ0 H4 s5 := I0.pins_of fun p hp => by
    rw [List.mem_singleton.mp hp]
    refine ⟨M.at_, M.inv.hok.fresh M.age, M.ne, fun z => ?_, M.nocell⟩
    obtain ⟨_, ob, ho, _⟩ := I0.ok.funs.mem z
    exact absurd (Nat.lt_of_lt_of_le (Heap.lt_size ho) M.age) (Nat.lt_irrefl _)
  have S0 : GSt g 0 (datas []) t1 H4 s5 := ⟨I1, M.tn0, fun b hb => (M.fpok b hb).1.1, GB, Frame.refl, trivial⟩
  have stw : ∀ {i acc t H s}, GSt g i acc t H s → StW true g.Γ.tp (Av g.Γ g.σ g.env) g.H1 H (Av g.Γ' g.σ0 g.e0) := fun {i acc t H s} S => ⟨fun b ob n h k => ⟨S.fr.keep b ob h (fun z => n (.inr (.inl z))) k, fun z => n (blk_av0.mp z)⟩, S.good.avHas, fun _ => S.fr⟩
  have wk' : WkD g.Γ.K (StW true g.Γ.tp (Av g.Γ g.σ g.env) g.H1) J xs := by
    have st : ∀ H A, StW true Γ.tp (Av Γ σ env) H4 H A → StW true Γ.tp (Av Γ σ env) H1 H A := fun H A ⟨m, h, f⟩ => ⟨Moves.trans (Moves.frame M.fr fun a h => avTape h) m, h, fun z => M.fr.trans (f z)⟩
    exact ⟨fun i H A hi h => wk.goes i H A hi (st H A h), fun H A h => wk.stops H A (st H A h), fun i H A x H' hi h y => wk.yields i H A x H' hi (st H A h) y⟩
  refine ⟨g, rfl, rfl, rfl, fun _ _ => trivial, M.turn, ⟨S0, rfl, hm, _, M.gens, fun H' s' S' => ⟨rfl, seg_begin (g := g) M.turn S' ?_⟩⟩, fun acc t' H' s' E => ?_⟩
  · exact seg_gen (g := g) (Aw := A) (F := F) (cifs := cifs) (celt := celt) (ctg := ctg) (J := J) (xs := xs) rfl rfl hc hK sc.co rfl rfl haf M.turn wk' (pg_under fun Γ' hu => S.hg _ _ _ _ _ Γ' hrD hu) (pts_under fun Γ' hu => S.ht _ _ _ _ _ Γ' hrD hu) (pe_under fun Γ' hu => S.he _ _ _ _ _ Γ' hrD hu) under_blk0 sc.sl stw (fun _ _ _ _ _ => trivial) l o
      xs t1 l htr hm 0 [] _ s' H' (by simp) (Nat.zero_le _) rfl S'
  · have I6 := E.inv
    refine ⟨M.inv.call' (ch := fp) I6.os I6.base I6.hok I6.bare fun b hb => ⟨(M.fpok b hb).1.2.2.2.1, (M.fpok b hb).1.2.1, (M.fpok b hb).1.2.2.2.2.1, (M.fpok b hb).1.2.2.2.2.2⟩, M.fr.trans E.fr, G4.frame E.fr E.good.tabs fun b hb => ?_⟩
    obtain ⟨ys, e, r⟩ := E.good.tape b hb
    exact ⟨ys, e, RpAll.moves (Moves.sub fun a z => blk_av0.mpr z) _ _ r⟩
theorem de_all (hr : Room (k + 3) X.A) (hK : Γ.K = X.K) (hc : X.calm = true) (hN : X.N.Nodup) (TB : GxR.TabB X.base X.mg c P) (hcode : X.env.code = .ref c) (hP : P ∈ Γ.tabs) (hg : Gl X "all") (hm : X.mg "all" = none) (sc : GenSc X scope own ctg) (S : GenOk X Γ F k scope own elt tg ifs celt ctg cifs)
    (hi : DI X Γ F true tg iter cit) (hs : ∀ v, genFold iter X.env v = pure v) (he : starEach [.GeneratorExp elt [⟨tg, iter, ifs, 0⟩] scope gpos] X.env = (false, eval (.GeneratorExp elt [⟨tg, iter, ifs, 0⟩] scope gpos) X.env) :: starEach [] X.env) :
    DE X Γ F (.Call (.Name "all" p) [.GeneratorExp elt [⟨tg, iter, ifs, 0⟩] scope gpos] [] pos) (.gen .all celt ctg cit cifs (own.map (·.2))) := by
  refine ⟨fun pins s σ H Q I ⟨env, t, G, q⟩ => ?_⟩
  have q' : postE Γ σ H env (PW1 Γ σ env) Q ((evI F true cit env t).bind fun xs t1 => (quantRun false (bindT ctg) (evTs F cifs) (ev F celt) (wipeE env (own.map (·.2))) xs t1).calm.bind fun c t2 => .ok (.d (.bool c)) t2) := q
  refine wpAny_Call_Name_kw (ld_blt I hg hm (by decide +kernel : bootBuiltins "all" = some (.builtin "all")) ?_)
  refine PyProof.Rows.callWith_builtin1 ?_ he (by rfl)
  rw [he]
  show wpAny _ _ (spliced ((false, eval (.GeneratorExp elt [⟨tg, iter, ifs, 0⟩] scope gpos) X.env) :: backTo pos (starEach [] X.env))) _ _ s
  refine Calls.spliced_cons (gen_make (Rw := fun J H1 => ∃ xs t1, Frame Γ.tp H H1 ∧ Good Γ σ H1 env t1 ∧ WkD Γ.K (StW true Γ.tp (Av Γ σ env) H1) J xs ∧ postE Γ σ H1 env (PW1 Γ σ env) Q ((quantRun false (bindT ctg) (evTs F cifs) (ev F celt) (wipeE env (own.map (·.2))) xs t1).calm.bind fun c t2 => .ok (.d (.bool c)) t2))
    hr TB hcode hP sc.blk sc.cell sc.co sc.dot hN hi hs I ⟨env, t, G, (postE.seq (P := fun H' J xs => WkD Γ.K (StW true Γ.tp (Av Γ σ env) H') J xs) q').mono Frame.refl fun J H1 ⟨xs, t1, f1, G1, wk, q1⟩ => ⟨G1.tabs, fun z => ?_, xs, t1, f1, G1, wk, q1⟩⟩
    fun J H1 it fp tn H4 s4 code a gn go s5 ⟨xs, t1, f1, G1, wk, q1⟩ M => ?_)
  · obtain ⟨ys, e, _⟩ := G1.tape P z
    obtain ⟨ps, e2, _⟩ := G1.tabs P hP
    rw [e] at e2; cases e2
  refine Calls.spliced_nil ?_
  obtain ⟨cb, tf, hrun, q2⟩ := calm_ok (show _ ≠ R.bad from fun e => by rw [e] at q1; exact q1)
  obtain ⟨l, o, htr, hqt⟩ := quant_tr hrun
  have q3 : postE Γ σ H1 env (PW1 Γ σ env) Q (.ok (.d (.bool cb)) tf) := by
    rw [hrun] at q1
    exact q1
  obtain ⟨g, e1, e2, e3, hmem, Tn, gat, fin⟩ := gen_at hr rfl hK hc sc S G1 wk M htr hqt.more
  refine call_function_tree PySem.F.kind_all PySem.F.plain_all PySem.F.entry_all (PySem.F.args_all1 _) ?_
  unfold Builtin.«all»
  refine wpAny_bind (m := oneArg "all" _) (wpAny_pure ?_)
  refine wpAny_bind (wpAny_pyIter_gen (M.igo _ M.at_) ?_)
  rw [← e2]
  refine wpAny_pure ⟨plainId_quiet PySem.F.plain_all_loop _, ?_⟩
  have hpr : g.XG.prog = X.prog ∧ g.XG.w = X.w := by rw [e1]; exact ⟨rfl, rfl⟩
  rw [← hpr.1, ← hpr.2]
  refine all_loop (A := X.A) (o := o) (t' := tf) (c := cb) hr.hd hr.depth (by rw [e2, e3]; exact M.igo) (by rw [e1]) Tn hmem (fun acc H' s' E => ?_) hqt rfl 0 [] t1 H4 s5 gat
  obtain ⟨I', f', G'⟩ := fin acc tf H' s' E
  exact ⟨.bl cb, H', I', rfl, q3 _ H' f' G' (.bl cb)⟩
theorem de_any (hr : Room (k + 3) X.A) (hK : Γ.K = X.K) (hc : X.calm = true) (hN : X.N.Nodup) (TB : GxR.TabB X.base X.mg c P) (hcode : X.env.code = .ref c) (hP : P ∈ Γ.tabs) (hg : Gl X "any") (hm : X.mg "any" = none) (sc : GenSc X scope own ctg) (S : GenOk X Γ F k scope own elt tg ifs celt ctg cifs)
    (hi : DI X Γ F true tg iter cit) (hs : ∀ v, genFold iter X.env v = pure v) (he : starEach [.GeneratorExp elt [⟨tg, iter, ifs, 0⟩] scope gpos] X.env = (false, eval (.GeneratorExp elt [⟨tg, iter, ifs, 0⟩] scope gpos) X.env) :: starEach [] X.env) :
    DE X Γ F (.Call (.Name "any" p) [.GeneratorExp elt [⟨tg, iter, ifs, 0⟩] scope gpos] [] pos) (.gen .any celt ctg cit cifs (own.map (·.2))) := by
  refine ⟨fun pins s σ H Q I ⟨env, t, G, q⟩ => ?_⟩
  have q' : postE Γ σ H env (PW1 Γ σ env) Q ((evI F true cit env t).bind fun xs t1 => (quantRun true (bindT ctg) (evTs F cifs) (ev F celt) (wipeE env (own.map (·.2))) xs t1).calm.bind fun c t2 => .ok (.d (.bool c)) t2) := q
  refine wpAny_Call_Name_kw (ld_blt I hg hm (by decide +kernel : bootBuiltins "any" = some (.builtin "any")) ?_)
  refine PyProof.Rows.callWith_builtin1 ?_ he (by rfl)
  rw [he]
  show wpAny _ _ (spliced ((false, eval (.GeneratorExp elt [⟨tg, iter, ifs, 0⟩] scope gpos) X.env) :: backTo pos (starEach [] X.env))) _ _ s
  refine Calls.spliced_cons (gen_make (Rw := fun J H1 => ∃ xs t1, Frame Γ.tp H H1 ∧ Good Γ σ H1 env t1 ∧ WkD Γ.K (StW true Γ.tp (Av Γ σ env) H1) J xs ∧ postE Γ σ H1 env (PW1 Γ σ env) Q ((quantRun true (bindT ctg) (evTs F cifs) (ev F celt) (wipeE env (own.map (·.2))) xs t1).calm.bind fun c t2 => .ok (.d (.bool c)) t2))
    hr TB hcode hP sc.blk sc.cell sc.co sc.dot hN hi hs I ⟨env, t, G, (postE.seq (P := fun H' J xs => WkD Γ.K (StW true Γ.tp (Av Γ σ env) H') J xs) q').mono Frame.refl fun J H1 ⟨xs, t1, f1, G1, wk, q1⟩ => ⟨G1.tabs, fun z => ?_, xs, t1, f1, G1, wk, q1⟩⟩
    fun J H1 it fp tn H4 s4 code a gn go s5 ⟨xs, t1, f1, G1, wk, q1⟩ M => ?_)
  · obtain ⟨ys, e, _⟩ := G1.tape P z
    obtain ⟨ps, e2, _⟩ := G1.tabs P hP
    rw [e] at e2; cases e2
  refine Calls.spliced_nil ?_
  obtain ⟨cb, tf, hrun, q2⟩ := calm_ok (show _ ≠ R.bad from fun e => by rw [e] at q1; exact q1)
  obtain ⟨l, o, htr, hqt⟩ := quant_tr hrun
  have q3 : postE Γ σ H1 env (PW1 Γ σ env) Q (.ok (.d (.bool cb)) tf) := by
    rw [hrun] at q1
    exact q1
  obtain ⟨g, e1, e2, e3, hmem, Tn, gat, fin⟩ := gen_at hr rfl hK hc sc S G1 wk M htr hqt.more
  refine call_function_tree PySem.F.kind_any PySem.F.plain_any PySem.F.entry_any (PySem.F.args_any1 _) ?_
  unfold Builtin.«any»
  refine wpAny_bind (m := oneArg "any" _) (wpAny_pure ?_)
  refine wpAny_bind (wpAny_pyIter_gen (M.igo _ M.at_) ?_)
  rw [← e2]
  refine wpAny_pure ⟨plainId_quiet PySem.F.plain_any_loop _, ?_⟩
  have hpr : g.XG.prog = X.prog ∧ g.XG.w = X.w := by rw [e1]; exact ⟨rfl, rfl⟩
  rw [← hpr.1, ← hpr.2]
  refine any_loop (A := X.A) (o := o) (t' := tf) (c := cb) hr.hd hr.depth (by rw [e2, e3]; exact M.igo) (by rw [e1]) Tn hmem (fun acc H' s' E => ?_) hqt rfl 0 [] t1 H4 s5 gat
  obtain ⟨I', f', G'⟩ := fin acc tf H' s' E
  exact ⟨.bl cb, H', I', rfl, q3 _ H' f' G' (.bl cb)⟩
end
end DL
/-! DL14: statements. -/
namespace DL
open PySem PySem.Spec PyProof.Rows L2
/-- behind a def -/
structure Lv (Γ : Cfg) (H' : Hp) (t' : DL.T) : Prop where
  fr : Frame Γ.tp Γ.H0 H'
  tabs : TabsG Γ.tabs H'
  tape : TapeR (AT Γ.O Γ.tp) Γ.tp Γ.K H' t'
def postS (Γ : Cfg) (σ : L2.St) (H : Hp) (env : Ev) (D : Ends) : Out → Prop
  | .nx e' t' => ∀ σ' H', Good Γ σ' H' e' t' → Moves (Av Γ σ env) (Av Γ σ' e') H H' → D.nx σ' H'
  | .brk e' t' => ∀ σ' H', Good Γ σ' H' e' t' → Moves (Av Γ σ env) (Av Γ σ' e') H H' → D.bk σ' H'
  | .cnt e' t' => ∀ σ' H', Good Γ σ' H' e' t' → Moves (Av Γ σ env) (Av Γ σ' e') H H' → D.ct σ' H'
  | .ret w t' => ∀ v H', Lv Γ H' t' → RpR (AT Γ.O Γ.tp) Γ.tp Γ.K Γ.H0 H' t' v w → D.rt v H'
  | .err k t' => ∀ H', Lv Γ H' t' → Γ.E (Γ.ec k) none H'
  | .bad => False
def tS (Γ : Cfg) (F : Fn) (n : Nat) (c : S) : TS := fun D σ H => ∃ env t, Good Γ σ H env t ∧ postS Γ σ H env D (run F n c env t)
def tSs (Γ : Cfg) (F : Fn) (n : Nat) (cs : List S) : TS := fun D σ H => ∃ env t, Good Γ σ H env t ∧ postS Γ σ H env D (runs F n cs env t)
abbrev DS (X : Cx) (Γ : Cfg) (F : Fn) (n : Nat) (st : Stmt) (c : S) : Prop := PS X st (tS Γ F n c)
abbrev DSs (X : Cx) (Γ : Cfg) (F : Fn) (n : Nat) (sts : List Stmt) (cs : List S) : Prop := PSs X sts (tSs Γ F n cs)
section
variable {X : Cx} {Γ : Cfg} {F : Fn} {n : Nat} {σ : L2.St} {H H1 : Hp} {env : Ev} {t : DL.T} {D : Ends} {pos : Pos}
theorem _root_.L2.PS.to {st : Stmt} {t t' : TS} (h : PS X st t) (k : ∀ D σ H, σ.length = X.N.length → t' D σ H → t D σ H) : PS X st t' := ⟨fun pins s σ H D I q => h.run pins s σ H D I (k D σ H I.len q)⟩
theorem _root_.L2.PSs.to {st : List Stmt} {t t' : TS} (h : PSs X st t) (k : ∀ D σ H, t' D σ H → t D σ H) : PSs X st t' := ⟨fun pins s σ H D I q => h.run pins s σ H D I (k D σ H q)⟩
theorem Good.lv (G : Good Γ σ H env t) : Lv Γ H t := ⟨G.fr, G.tabs, fun a h => by
  obtain ⟨xs, e, r⟩ := G.tape a h
  exact ⟨xs, e, RpAll.moves (Moves.sub fun b z => z.elim .inl fun z => .inr (.inl z)) _ _ r⟩⟩
theorem mvF (f : Frame Γ.tp H H1) : Moves (Av Γ σ env) (Av Γ σ env) H H1 := Moves.frame f fun a h => avTape h
theorem postS.mono {σ1 : L2.St} {e1 : Ev} {o : Out} (h : postS Γ σ H env D o) (m : Moves (Av Γ σ env) (Av Γ σ1 e1) H H1) : postS Γ σ1 H1 e1 D o := by
  cases o with
  | nx e t => exact fun σ' H' g m' => h σ' H' g (m.trans m')
  | brk e t => exact fun σ' H' g m' => h σ' H' g (m.trans m')
  | cnt e t => exact fun σ' H' g m' => h σ' H' g (m.trans m')
  | ret w t => exact h
  | err k t => exact h
  | bad => exact h
/-- other ends -/
theorem postS.ends {D' : Ends} {o : Out} (h : postS Γ σ H env D o) (h1 : ∀ σ' H' e' t', Good Γ σ' H' e' t' → Moves (Av Γ σ env) (Av Γ σ' e') H H' → o = .nx e' t' → D.nx σ' H' → D'.nx σ' H') (h2 : D'.rt = D.rt)
    (h3 : ∀ σ' H' e' t', Good Γ σ' H' e' t' → Moves (Av Γ σ env) (Av Γ σ' e') H H' → o = .brk e' t' → D.bk σ' H' → D'.bk σ' H') (h4 : ∀ σ' H' e' t', Good Γ σ' H' e' t' → Moves (Av Γ σ env) (Av Γ σ' e') H H' → o = .cnt e' t' → D.ct σ' H' → D'.ct σ' H') : postS Γ σ H env D' o := by
  cases o with
  | nx e t => exact fun σ' H' g m => h1 σ' H' e t g m rfl (h σ' H' g m)
  | brk e t => exact fun σ' H' g m => h3 σ' H' e t g m rfl (h σ' H' g m)
  | cnt e t => exact fun σ' H' g m => h4 σ' H' e t g m rfl (h σ' H' g m)
  | ret w t => exact fun v H' l r => by rw [h2]; exact h v H' l r
  | err k t => exact h
  | bad => exact h
theorem postS.out {α β : Type} {P : Hp → β → α → Prop} {r : R α} {f : α → DL.T → Out} (h : postS Γ σ H env D (r.out f)) :
    postE Γ σ H env P (fun v H' => ∃ a t', Frame Γ.tp H H' ∧ Good Γ σ H' env t' ∧ P H' v a ∧ postS Γ σ H' env D (f a t')) r := by
  cases r with
  | ok a t' => exact fun v H' f' g p => ⟨a, t', f', g, p, postS.mono (show postS Γ σ H env D (f a t') from h) (mvF f')⟩
  | err k t' => exact fun H' f' g => h H' g.lv
  | bad => exact h
theorem tE.out {c : E} {Q : VK} {f : W → DL.T → Out} (G : Good Γ σ H env t) (h : postS Γ σ H env D ((ev F c env t).out f))
    (hq : ∀ v H' w t', Frame Γ.tp H H' → Good Γ σ H' env t' → RpW Γ σ env H' v w → postS Γ σ H' env D (f w t') → Q v H') : tE Γ F c σ H Q :=
  ⟨env, t, G, (postS.out (P := PW1 Γ σ env) h).mono Frame.refl fun v H' ⟨w, t', f', g, p, q⟩ => hq v H' w t' f' g p q⟩
theorem tT.out {c : E} {Q : Bool → Hp → Prop} {f : Bool → DL.T → Out} (G : Good Γ σ H env t) (h : postS Γ σ H env D ((tr (ev F c env t)).out f))
    (hq : ∀ b H' t', Frame Γ.tp H H' → Good Γ σ H' env t' → postS Γ σ H' env D (f b t') → Q b H') : tT Γ F c σ H Q :=
  ⟨env, t, G, (postS.out (P := PB1) h).mono Frame.refl fun v H' ⟨w, t', f', g, p, q⟩ => by
    have p' : v = w := p
    subst p'
    exact hq v H' t' f' g q⟩
/-- a new list -/
theorem tF.out {c : E} {Q : VK} {f : W → DL.T → Out} (G : Good Γ σ H env t) (h : postS Γ σ H env D ((ev F c env t).out f)) (hnl : ∀ w t', (∀ xs, w ≠ .d (.list xs)) → f w t' = .bad)
    (hq : ∀ p vs xs H' t', H p = none → H' p = some (.lst vs) → Frame Γ.tp H H' → Good Γ σ H' env t' → TapeR (fun a => Av Γ σ env a ∨ a = p) Γ.tp Γ.K H' t' → RpAll (fun a => Av Γ σ env a ∨ a = p) Γ.K H' vs xs → postS Γ σ H' env D (f (.d (.list xs)) t') → Q (.ref p) H') : tF Γ F c σ H Q := by
  refine ⟨env, t, G, ?_⟩
  cases hr : ev F c env t with
  | ok w t' =>
    rw [hr] at h
    have h' : postS Γ σ H env D (f w t') := h
    by_cases z : ∃ xs, w = .d (.list xs)
    · obtain ⟨xs, rfl⟩ := z
      exact fun p vs H' hp hp' f' g tr r => hq p vs xs H' t' hp hp' f' g tr r (postS.mono h' (mvF f'))
    · rw [hnl w t' fun xs e => z ⟨xs, e⟩] at h'
      exact h'.elim
  | err k t' =>
    rw [hr] at h
    exact fun H' f' g => h H' g.lv
  | bad => rw [hr] at h; exact h.elim
/-! ### rows of statements -/
theorem dss_nil : DSs X Γ F n [] [] := pss_nil.to fun D σ H ⟨env, t, G, q⟩ => q σ H G .refl
theorem andThen_post {o : Out} {f : Ev → DL.T → Out} (h : postS Γ σ H env D (o.andThen f)) : postS Γ σ H env { D with nx := fun σ' H' => ∃ e' t', Good Γ σ' H' e' t' ∧ postS Γ σ' H' e' D (f e' t') } o := by
  cases o with
  | nx e t => exact fun σ' H' g m => ⟨e, t, g, postS.mono (show postS Γ σ H env D (f e t) from h) m⟩
  | brk e t => exact h
  | cnt e t => exact h
  | ret w t => exact h
  | err k t => exact h
  | bad => exact h
theorem dss_cons {st : Stmt} {sts : List Stmt} {c : S} {cs : List S} (h1 : DS X Γ F n st c) (h2 : DSs X Γ F n sts cs) : DSs X Γ F n (st :: sts) (c :: cs) :=
  (pss_cons h1 h2).to fun D σ H ⟨env, t, G, q⟩ => ⟨env, t, G, andThen_post (f := runs F n cs) q⟩
theorem ds_pass : DS X Γ F n (.Pass pos) .pass := ps_pass.to fun D σ H _ ⟨env, t, G, q⟩ => q σ H G .refl
theorem ds_brk : DS X Γ F n (.Break pos) .brk := ps_break.to fun D σ H _ ⟨env, t, G, q⟩ => q σ H G .refl
theorem ds_cnt : DS X Γ F n (.Continue pos) .cnt := ps_continue.to fun D σ H _ ⟨env, t, G, q⟩ => q σ H G .refl
theorem ds_doc {x : Str} {j : Nat} {pos' : Pos} : DS X Γ F n (.Expr (.Constant (.str x) j pos) pos') .pass := (ps_doc (X := X)).to fun D σ H _ ⟨env, t, G, q⟩ => q σ H G .refl
theorem ds_expr {e : Expr} {c : E} (he : DE X Γ F e c) (hs : swapsWith e none pos.line X.env = pure false) : DS X Γ F n (.Expr e pos) (.expr c) :=
  (ps_expr he hs).to fun D σ H _ ⟨env, t, G, q⟩ => tE.out G q fun v H1 w t1 f1 G1 r1 q1 => q1 σ H1 G1 .refl
def retOut (w : W) (t : DL.T) : Out := match w with
    | .d x => .ret (.d x) t
    | .own xs => .ret (.d (.list xs)) t
    | _ => .bad
theorem ret_post {w : W} {v : V} (G : Good Γ σ H env t) (r : RpW Γ σ env H v w) (q : postS Γ σ H env D (retOut w t)) : D.rt v H := by
  have sub : ∀ a, AT Γ.O Γ.tp a → Av Γ σ env a := fun a z => z.elim .inl fun z => .inr (.inl z)
  cases w with
  | d x => exact q v H G.lv (Rp.moves (Moves.sub sub) _ _ r)
  | own xs =>
    obtain ⟨i, a, h1, h2, rfl⟩ := r
    obtain ⟨b, vs, e1, e2, r, n1, n2, n3⟩ := G.own i xs h1
    rw [h2] at e1; cases e1
    exact q _ H G.lv (.lst (.inl ⟨fun z => z.elim n2 n3, .inl e2⟩) (RpAll.moves (Moves.sub sub) _ _ r))
  | un => exact q.elim
  | tape => exact q.elim
  | fresh _ => exact q.elim
theorem ds_ret {e : Expr} {c : E} (he : DE X Γ F e c) : DS X Γ F n (.Return (some e) pos) (.ret c) :=
  (ps_ret he).to fun D σ H _ ⟨env, t, G, q⟩ => tE.out (f := retOut) G q fun v H1 w t1 f1 G1 r1 q1 => ret_post G1 r1 q1
theorem ds_retF {e : Expr} {c : E} (he : DF X Γ F e c) : DS X Γ F n (.Return (some e) pos) (.retF c) :=
  (ps_ret he).to fun D σ H _ ⟨env, t, G, q⟩ => tF.out G q (fun w t' h => by
    cases w with
    | d x => cases x <;> first | rfl | exact absurd rfl (h _)
    | _ => rfl) fun p vs xs H1 t1 hp hp' f1 G1 tr1 r1 q1 => by
      have sub : ∀ a, (AT Γ.O Γ.tp a ∨ a = p) → (Av Γ σ env a ∨ a = p) := fun a z => z.elim (fun z => .inl (z.elim .inl fun z => .inr (.inl z))) .inr
      exact q1 _ H1 G1.lv ⟨p, vs, rfl, G.fr.free hp, hp', tr1.moves (Moves.sub sub) fun _ _ => rfl, RpAll.moves (Moves.sub sub) _ _ r1⟩
theorem ds_retN : DS X Γ F n (.Return none pos) .retN := ps_retN.to fun D σ H _ ⟨env, t, G, q⟩ => q .non H G.lv .non
theorem ds_if {c : Expr} {a b : List Stmt} {cc : E} {ca cb : List S} (hc : DT X Γ F c cc) (ha : DSs X Γ F n a ca) (hb : DSs X Γ F n b cb) : DS X Γ F n (.If c a b pos) (.ifs cc ca cb) :=
  (ps_if hc ha hb).to fun D σ H _ ⟨env, t, G, q⟩ => tT.out G q fun k H1 t1 f1 G1 q1 => by
    cases k with
    | true => exact ⟨env, t1, G1, q1⟩
    | false => exact ⟨env, t1, G1, q1⟩
end
end DL
/-! DL15: statements that store, loops. -/
namespace DL
open PySem PySem.Spec PyProof.Rows L2
section
variable {Γ : Cfg} {σ : L2.St} {H H' : Hp} {env : Ev} {t t' : DL.T}
theorem getD_own {i : Nat} {w : W} (h : env.getD i .un = w) (hn : w ≠ .un) : env[i]? = some w := by
  rw [List.getD_eq_getElem?_getD] at h
  cases q : env[i]? with
  | none => rw [q] at h; exact absurd h.symm hn
  | some u => rw [q] at h; simp only [Option.getD_some] at h; rw [h]
/-- a new list becomes a slot's own -/
theorem Good.ownSet (G : Good Γ σ H env t) {i : Nat} {p : Addr} {vs : List V} {xs : List PyData} (f : Frame Γ.tp H H') (tb : TabsG Γ.tabs H') (hp : H p = none) (hp' : H' p = some (.lst vs)) (tr : TapeR (fun a => Av Γ σ env a ∨ a = p) Γ.tp Γ.K H' t')
    (r : RpAll (fun a => Av Γ σ env a ∨ a = p) Γ.K H' vs xs) (hi : i < σ.length) : Good Γ (σ.set i (some (.ref p))) H' (env.set i (.own xs)) t' ∧ Moves (Av Γ σ env) (Av Γ (σ.set i (some (.ref p))) (env.set i (.own xs))) H H' := by
  have sub : ∀ a, Av Γ (σ.set i (some (.ref p))) (env.set i (.own xs)) a → Av Γ σ env a ∨ a = p := fun a z => by
    rcases z with z | z | ⟨j, ys, h1, h2⟩
    · exact .inl (.inl z)
    · exact .inl (.inr (.inl z))
    · rcases get_set_eq h1 with ⟨rfl, _⟩ | ⟨hj, h1⟩
      · rw [List.getElem?_set_self hi] at h2
        cases h2; exact .inr rfl
      · rw [List.getElem?_set_ne (Ne.symm hj)] at h2
        exact .inl (.inr (.inr ⟨j, ys, h1, h2⟩))
  have mv : Moves (Av Γ σ env) (Av Γ (σ.set i (some (.ref p))) (env.set i (.own xs))) H H' := fun a o n h k =>
    ⟨f.keep a o h (fun e => n (avTape e)) k, fun z => (sub a z).elim n fun e => by rw [e, hp] at h; cases h⟩
  refine ⟨⟨by rw [List.length_set, List.length_set]; exact G.len, G.fr.trans f, fun a h => f.there a (G.oh a h), tb, tr.moves (Moves.sub sub) fun _ _ => rfl, fun j x h => ?_, fun j ys h => ?_, fun j k ys zs a h1 h2 h3 h4 => ?_, fun j h => ?_⟩, mv⟩
  · rcases get_set_eq h with ⟨_, e⟩ | ⟨hj, h⟩
    · cases e
    · obtain ⟨v, e, r⟩ := G.dat j x h
      exact ⟨v, by rw [List.getElem?_set_ne (Ne.symm hj)]; exact e, Rp.moves mv _ _ r⟩
  · rcases get_set_eq h with ⟨rfl, e⟩ | ⟨hj, h⟩
    · cases e
      refine ⟨p, vs, by rw [List.getElem?_set_self hi], hp', RpAll.moves (Moves.sub sub) _ _ r, G.fr.free hp, fun z => G.oh p z hp, fun z => ?_⟩
      obtain ⟨_, e, _⟩ := G.tape p z
      rw [hp] at e; cases e
    · obtain ⟨a, us, e1, e2, r, n1, n2, n3⟩ := G.own j ys h
      exact ⟨a, us, by rw [List.getElem?_set_ne (Ne.symm hj)]; exact e1, f.keep a _ e2 n3 (fun _ z => by cases z), RpAll.moves mv _ _ r, n1, n2, n3⟩
  · have ne : ∀ {j : Nat} {ys : List PyData} {a : Addr}, env[j]? = some (.own ys) → σ[j]? = some (some (.ref a)) → a ≠ p := fun {j ys a} h1 h2 z => by
      obtain ⟨b, us, e1, e2, _⟩ := G.own j ys h1
      rw [h2] at e1; cases e1
      rw [z, hp] at e2; cases e2
    rcases get_set_eq h1 with ⟨rfl, _⟩ | ⟨hj, h1'⟩
    · rw [List.getElem?_set_self hi] at h3
      cases h3
      rcases get_set_eq h2 with ⟨rfl, _⟩ | ⟨hk, h2⟩
      · rfl
      · rw [List.getElem?_set_ne (Ne.symm hk)] at h4
        exact absurd rfl (ne h2 h4)
    · rw [List.getElem?_set_ne (Ne.symm hj)] at h3
      rcases get_set_eq h2 with ⟨ek, _⟩ | ⟨hk, h2'⟩
      · rw [ek, List.getElem?_set_self hi] at h4
        cases h4
        exact absurd rfl (ne h1' h3)
      · rw [List.getElem?_set_ne (Ne.symm hk)] at h4
        exact G.two j k ys zs a h1' h2' h3 h4
  · rcases get_set_eq h with ⟨_, e⟩ | ⟨hj, h⟩
    · cases e
    · obtain ⟨a, e1, e2⟩ := G.tpe j h
      exact ⟨a, e1, by rw [List.getElem?_set_ne (Ne.symm hj)]; exact e2⟩
/-- an own list is written -/
theorem Good.ownUpd (G : Good Γ σ H env t) {i : Nat} {a : Addr} {vs vs' : List V} {xs xs' : List PyData} (h1 : env[i]? = some (.own xs)) (h2 : σ[i]? = some (some (.ref a))) (h3 : H a = some (.lst vs)) (r : RpAll (Av Γ σ env) Γ.K H vs' xs') :
    Good Γ σ (upd H a (.lst vs')) (env.set i (.own xs')) t ∧ Moves (Av Γ σ env) (Av Γ σ (env.set i (.own xs'))) H (upd H a (.lst vs')) := by
  obtain ⟨b, us, e1, e2, ra, n1, n2, n3⟩ := G.own i xs h1
  rw [h2] at e1; cases e1
  have hi : i < env.length := (List.getElem?_eq_some_iff.mp h1).1
  have avi : Av Γ σ env a := .inr (.inr ⟨i, xs, h1, h2⟩)
  have sub : ∀ b, Av Γ σ (env.set i (.own xs')) b → Av Γ σ env b := fun b z => by
    rcases z with z | z | ⟨j, ys, k1, k2⟩
    · exact .inl z
    · exact .inr (.inl z)
    · rcases get_set_eq k1 with ⟨rfl, _⟩ | ⟨hj, k1⟩
      · exact .inr (.inr ⟨j, xs, h1, k2⟩)
      · exact .inr (.inr ⟨j, ys, k1, k2⟩)
  have mv : Moves (Av Γ σ env) (Av Γ σ (env.set i (.own xs'))) H (upd H a (.lst vs')) := fun b o n h _ =>
    ⟨by rw [upd_ne (fun z => n (by rw [z]; exact avi))]; exact h, fun z => n (sub b z)⟩
  have has : ∀ b, H b ≠ none → upd H a (.lst vs') b ≠ none := fun b h => by
    by_cases z : b = a
    · subst z; rw [upd_same]; simp
    · rw [upd_ne z]; exact h
  refine ⟨⟨by rw [List.length_set]; exact G.len, ⟨fun b o h hp k => ?_, fun b h => has b (G.fr.there b h)⟩, fun b h => has b (G.oh b h), fun P hP => ?_, fun b h => ?_, fun j x h => ?_, fun j ys h => ?_, fun j k ys zs b k1 k2 k3 k4 => ?_, fun j h => ?_⟩, mv⟩
  · rw [upd_ne (fun z => by rw [z, n1] at h; cases h)]
    exact G.fr.keep b o h hp k
  · obtain ⟨ps, e, k⟩ := G.tabs P hP
    exact ⟨ps, by rw [upd_ne (fun z => by rw [z, h3] at e; cases e)]; exact e, k⟩
  · obtain ⟨zs, e, r'⟩ := G.tape b h
    exact ⟨zs, by rw [upd_ne (fun z => n3 (by rw [← z]; exact h))]; exact e, RpAll.moves mv _ _ r'⟩
  · rcases get_set_eq h with ⟨_, e⟩ | ⟨hj, h⟩
    · cases e
    · obtain ⟨v, e, r'⟩ := G.dat j x h
      exact ⟨v, e, Rp.moves mv _ _ r'⟩
  · rcases get_set_eq h with ⟨rfl, e⟩ | ⟨hj, h⟩
    · cases e
      exact ⟨a, vs', h2, upd_same, RpAll.moves mv _ _ r, n1, n2, n3⟩
    · obtain ⟨b, us2, e1, e2', r', m1, m2, m3⟩ := G.own j ys h
      refine ⟨b, us2, e1, ?_, RpAll.moves mv _ _ r', m1, m2, m3⟩
      rw [upd_ne (fun z => hj (G.two j i ys xs a h h1 (by rw [← z]; exact e1) h2))]
      exact e2'
  · have back : ∀ {j : Nat} {ys : List PyData}, (env.set i (.own xs'))[j]? = some (.own ys) → ∃ ys', env[j]? = some (.own ys') := fun {j ys} z => by
      rcases get_set_eq z with ⟨rfl, _⟩ | ⟨_, z⟩
      · exact ⟨xs, h1⟩
      · exact ⟨ys, z⟩
    obtain ⟨y1, z1⟩ := back k1
    obtain ⟨y2, z2⟩ := back k2
    exact G.two j k y1 y2 b z1 z2 k3 k4
  · rcases get_set_eq h with ⟨_, e⟩ | ⟨hj, h⟩
    · cases e
    · exact G.tpe j h
/-- an own list is given free: nobody writes it any more -/
theorem Good.frz (G : Good Γ σ H env t) {i : Nat} {xs : List PyData} (h1 : env[i]? = some (.own xs)) : Good Γ σ H (env.set i (.d (.list xs))) t ∧ Moves (Av Γ σ env) (Av Γ σ (env.set i (.d (.list xs)))) H H := by
  obtain ⟨a, vs, h2, h3, ra, n1, n2, n3⟩ := G.own i xs h1
  have sub : ∀ b, Av Γ σ (env.set i (.d (.list xs))) b → Av Γ σ env b ∧ b ≠ a := fun b z => by
    rcases z with z | z | ⟨j, ys, k1, k2⟩
    · exact ⟨.inl z, fun e => n2 (by rw [← e]; exact z)⟩
    · exact ⟨.inr (.inl z), fun e => n3 (by rw [← e]; exact z)⟩
    · rcases get_set_eq k1 with ⟨_, e⟩ | ⟨hj, k1⟩
      · cases e
      · exact ⟨.inr (.inr ⟨j, ys, k1, k2⟩), fun e => hj (G.two j i ys xs a k1 h1 (by rw [← e]; exact k2) h2)⟩
  have mv : Moves (Av Γ σ env) (Av Γ σ (env.set i (.d (.list xs)))) H H := Moves.sub fun b z => (sub b z).1
  refine ⟨⟨by rw [List.length_set]; exact G.len, G.fr, G.oh, G.tabs, fun b h => ?_, fun j x h => ?_, fun j ys h => ?_, fun j k ys zs b k1 k2 k3 k4 => ?_, fun j h => ?_⟩, mv⟩
  · obtain ⟨zs, e, r'⟩ := G.tape b h
    exact ⟨zs, e, RpAll.moves mv _ _ r'⟩
  · rcases get_set_eq h with ⟨rfl, e⟩ | ⟨hj, h⟩
    · cases e
      exact ⟨.ref a, h2, .lst (.inl ⟨fun z => (sub a z).2 rfl, .inl h3⟩) (RpAll.moves mv _ _ ra)⟩
    · obtain ⟨v, e, r'⟩ := G.dat j x h
      exact ⟨v, e, Rp.moves mv _ _ r'⟩
  · rcases get_set_eq h with ⟨_, e⟩ | ⟨hj, h⟩
    · cases e
    · obtain ⟨b, us2, e1, e2', r', m1, m2, m3⟩ := G.own j ys h
      exact ⟨b, us2, e1, e2', RpAll.moves mv _ _ r', m1, m2, m3⟩
  · rcases get_set_eq k1 with ⟨_, e⟩ | ⟨hj, k1⟩
    · cases e
    · rcases get_set_eq k2 with ⟨_, e⟩ | ⟨hk, k2⟩
      · cases e
      · exact G.two j k ys zs b k1 k2 k3 k4
  · rcases get_set_eq h with ⟨_, e⟩ | ⟨hj, h⟩
    · cases e
    · exact G.tpe j h
end
section
variable {X : Cx} {Γ : Cfg} {F : Fn} {n : Nat} {pos : Pos} {e : Expr} {c : E}
def nxO (o : Option Ev) (t : DL.T) : Out := match o with
  | some e' => .nx e' t
  | none => .bad
def asgOut (tg : Tg) (env : Ev) (w : W) (t : DL.T) : Out := match w with
  | .d x => nxO (bindT tg x env) t
  | _ => .bad
theorem asg_post {σ : L2.St} {H : Hp} {env : Ev} {t : DL.T} {D : Ends} {tg : Tg} {w : W} {v : V} (G : Good Γ σ H env t) (r : RpW Γ σ env H v w) (q : postS Γ σ H env D (asgOut tg env w t)) : tG Γ tg v σ H D.nx := by
  cases w with
  | d x =>
    have q' : postS Γ σ H env D (nxO (bindT tg x env) t) := q
    cases hb : bindT tg x env with
    | none => rw [hb] at q'; exact q'.elim
    | some e' =>
      rw [hb] at q'
      exact ⟨env, t, x, e', G, r, hb, fun σ' G' off s => q' σ' H G' (Moves.sub s)⟩
  | un => exact q.elim
  | own _ => exact q.elim
  | tape => exact q.elim
  | fresh _ => exact q.elim
theorem ds_asg {tg : Expr} {ctg : Tg} (he : DE X Γ F e c) (hg : DG X Γ tg ctg) (hs : swapsWithSole [tg] e pos.line X.env = pure false) (hw : swappedStores [tg] e X.env = pure none) (h1 : (assignEach [tg] X.env).map (·.2) = [assign tg X.env]) : DS X Γ F n (.Assign [tg] e pos) (.asg ctg c) :=
  (ps_asg he hg hs hw h1).to fun D σ H _ ⟨env, t, G, q⟩ => tE.out (f := asgOut ctg env) G (by exact q) fun v H1 w t1 f1 G1 r1 q1 => asg_post G1 r1 q1
/-- name = value -/
theorem ds_set {i : Nat} {x : Str} {pos' : Pos} (hN : X.N.Nodup) (hi : X.N[i]? = some x) (hx : Loc X.env.scope x) (he : DE X Γ F e c) (hs : swapsWith e (some (.Name x pos')) pos.line X.env = pure false) (hf : X.fn x = true ∨ X.env.scope.names.lookup x = some .local) : DS X Γ F n (.Assign [.Name x pos'] e pos) (.asg (.nm i) c) :=
  (ps_set hN hi hx he hs hf).to fun D σ H hl ⟨env, t, G, q⟩ => tE.out G q fun v H1 w t1 f1 G1 r1 q1 => by
    cases w with
    | d x =>
      obtain ⟨G2, s2⟩ := G1.set (i := i) (by rw [hl]; exact (List.getElem?_eq_some_iff.mp hi).1) r1
      exact q1 _ H1 G2 (Moves.sub s2)
    | un => exact q1.elim
    | own _ => exact q1.elim
    | tape => exact q1.elim
    | fresh _ => exact q1.elim
theorem own_post {σ : L2.St} {H H1 : Hp} {env : Ev} {t t1 : DL.T} {D : Ends} {i : Nat} {p : Addr} {vs : List V} {xs : List PyData} (G : Good Γ σ H env t) (hp : H p = none) (hp' : H1 p = some (.lst vs)) (f1 : Frame Γ.tp H H1) (G1 : Good Γ σ H1 env t1) (tr : TapeR (fun a => Av Γ σ env a ∨ a = p) Γ.tp Γ.K H1 t1)
    (r : RpAll (fun a => Av Γ σ env a ∨ a = p) Γ.K H1 vs xs) (hi : i < σ.length) (q : postS Γ σ H env D (.nx (env.set i (.own xs)) t1)) : D.nx (σ.set i (some (.ref p))) H1 := by
  obtain ⟨G2, m2⟩ := G.ownSet f1 G1.tabs hp hp' tr r hi
  exact q _ H1 G2 m2
def ownOut (i : Nat) (env : Ev) (w : W) (t : DL.T) : Out := match w with
  | .d (.list xs) => .nx (env.set i (.own xs)) t
  | _ => .bad
theorem ownOut_bad {i : Nat} {env : Ev} {w : W} {t : DL.T} (h : ∀ xs, w ≠ .d (.list xs)) : ownOut i env w t = .bad := by
  cases w with
  | d x => cases x <;> first | rfl | exact absurd rfl (h _)
  | _ => rfl
/-- a new list that goes into a slot -/
theorem own_tF {σ : L2.St} {H : Hp} {env : Ev} {t : DL.T} {D : Ends} {i : Nat} (G : Good Γ σ H env t) (hi : i < σ.length) (q : postS Γ σ H env D ((ev F c env t).out (ownOut i env))) : tF Γ F c σ H fun x H1 => D.nx (σ.set i (some x)) H1 := by
  refine ⟨env, t, G, ?_⟩
  cases hr : ev F c env t with
  | ok w t' =>
    rw [hr] at q
    have q' : postS Γ σ H env D (ownOut i env w t') := q
    clear q hr
    by_cases z : ∃ xs, w = .d (.list xs)
    · obtain ⟨xs, rfl⟩ := z
      exact fun p vs H' hp hp' f' g tr r => own_post G hp hp' f' g tr r hi q'
    · have e : ownOut i env w t' = .bad := ownOut_bad fun xs e => z ⟨xs, e⟩
      rw [e] at q'
      exact q'.elim
  | err k t' =>
    rw [hr] at q
    exact fun H' f' g => q H' g.lv
  | bad => rw [hr] at q; exact q.elim
theorem ds_own {i : Nat} {x : Str} {pos' : Pos} (hN : X.N.Nodup) (hi : X.N[i]? = some x) (hx : Loc X.env.scope x) (he : DF X Γ F e c) (hs : swapsWith e (some (.Name x pos')) pos.line X.env = pure false) (hf : X.fn x = true ∨ X.env.scope.names.lookup x = some .local) : DS X Γ F n (.Assign [.Name x pos'] e pos) (.own i c) :=
  (ps_set hN hi hx he hs hf).to fun D σ H hl ⟨env, t, G, q⟩ => own_tF G (by rw [hl]; exact (List.getElem?_eq_some_iff.mp hi).1) q
/-- name = [.. for ..] on one line, the name a plain local -/
theorem ds_setLc {i : Nat} {x : Str} {py spos : Pos} {elt tg iter : Expr} {ifs : List Expr} {scope : Scope} {own : List (Str × Nat)} {celt : E} {ctg : Tg} {cit : DL.It} {cifs : List E} (hK : Γ.K = X.K) (hc : X.calm = true) (hN : X.N.Nodup) (hy : X.N[i]? = some x) (hyl : X.env.scope.names.lookup x = some .local)
    (hsw : swapsWith (.ListComp elt [⟨tg, iter, ifs, 0⟩] scope pos) (some (.Name x py)) spos.line X.env = pure true) (hi : DI X Γ F true tg iter cit) (ok : BlkOk X.N X.env.scope scope own)
    (hg : ∀ (s : Shared) (H : Hp) (C : Addr) (cl : List (Str × Addr)) (fp : List Addr) Γ', Under Γ Γ' → DG (X.blk s H scope (compEnvC scope cl C X.env) fp) Γ' tg ctg)
    (ht : ∀ (s : Shared) (H : Hp) (C : Addr) (cl : List (Str × Addr)) (fp : List Addr) Γ', Under Γ Γ' → DTs (X.blk s H scope (compEnvC scope cl C X.env) fp) Γ' F ifs cifs)
    (he : ∀ (s : Shared) (H : Hp) (C : Addr) (cl : List (Str × Addr)) (fp : List Addr) Γ', Under Γ Γ' → DE (X.blk s H scope (compEnvC scope cl C X.env) fp) Γ' F elt celt)
    (hs : ∀ v, foldedSetIterable iter X.env v = pure v) (hsl : ∀ i ∈ slotsT ctg, i ∈ own.map (·.2)) : DS X Γ F n (.Assign [.Name x py] (.ListComp elt [⟨tg, iter, ifs, 0⟩] scope pos) spos) (.own i (.comp celt ctg cit cifs (own.map (·.2)))) :=
  (ps_setLc hc hN hy hyl hsw hi ok (fun s H C cl fp => pg_under (hg s H C cl fp)) (fun s H C cl fp => pts_under (ht s H C cl fp)) (fun s H C cl fp => pe_under (he s H C cl fp)) hs).to fun D σ H hl ⟨env, t, G, q⟩ =>
    df_comp hK hc hN hi ok hg ht he hs hsl σ H _ hl (own_tF G (by rw [hl]; exact (List.getElem?_eq_some_iff.mp hy).1) q)
/-! xs.append(e), xs += [..], xs[i] = e -/
/-- a slot that must hold a list of one's own -/
theorem own_match {σ : L2.St} {H : Hp} {D : Ends} {env : Ev} {i : Nat} {f : List PyData → Out} (h : postS Γ σ H env D (match env.getD i .un with
    | .own xs => f xs
    | _ => .bad)) : ∃ xs, env[i]? = some (.own xs) ∧ postS Γ σ H env D (f xs) := by
  cases he : env.getD i .un with
  | own xs => rw [he] at h; exact ⟨xs, getD_own he (fun e => by cases e), h⟩
  | un => rw [he] at h; exact h.elim
  | d _ => rw [he] at h; exact h.elim
  | tape => rw [he] at h; exact h.elim
  | fresh _ => rw [he] at h; exact h.elim
theorem if_bad {σ : L2.St} {H : Hp} {D : Ends} {env : Ev} {b : Bool} {o : Out} (h : postS Γ σ H env D (if b then o else .bad)) : b = true ∧ postS Γ σ H env D o := by
  cases b with
  | true => exact ⟨rfl, h⟩
  | false => exact h.elim
def appOut (i : Nat) (env : Ev) (xs : List PyData) (w : W) (t : DL.T) : Out := match w with
  | .d x => if lenOk (xs.length + 1) then .nx (env.set i (.own (xs ++ [x]))) t else .bad
  | _ => .bad
theorem ds_app {i : Nat} {x : Str} {p1 apos cpos : Pos} (hN : X.N[i]? = some x) (hv : Vis X.env.scope x) (hd : (x == ("__debug__" : Str)) = false) (hcd : (x == ("__classdict__" : Str)) = false) (he : DE X Γ F e c) (hs : starEach [e] X.env = (false, eval e X.env) :: starEach [] X.env)
    (hbase : attributeBase (.Name x p1) "append" X.env (eval (.Name x p1) X.env) = eval (.Name x p1) X.env) (hline : (apos.endLine == cpos.line) = true)
    (hfew : ((backTo cpos (starEach [e] X.env)).all (fun x => !x.1) && (backToKw cpos (keywordEach [] X.env)).all (fun x => x.1.isSome) && decide (([e] : List Expr).length + ([] : List Keyword).length + (if ([] : List Keyword).isEmpty then 0 else 1) < 30)) = true)
    (hsw : swapsWith (.Call (.Attribute (.Name x p1) "append" apos) [e] [] cpos) none pos.line X.env = pure false) : DS X Γ F n (.Expr (.Call (.Attribute (.Name x p1) "append" apos) [e] [] cpos) pos) (.app i c) :=
  (ps_expr (pe_bm PySem.F.plainAttrs_list PySem.F.slot_list_append PySem.F.type_list_append mt_append (pe_var hN hv hd hcd) (pa_cons he pa_nil hs) hbase hfew hline hs (by rfl)) hsw).to fun D σ H _ ⟨env, t, G, q⟩ => by
    obtain ⟨xs, h1, q1⟩ := own_match (f := fun xs => (ev F c env t).out (appOut i env xs)) (by exact q)
    obtain ⟨a, vs, e1, e2, _⟩ := G.own i xs h1
    refine ⟨.ref a, e1, .inl ⟨rfl, _, .inl (.inl e2)⟩, ?_⟩
    show tE Γ F c σ H _
    refine tE.out G q1 fun v H1 w t1 f1 G1 r1 q2 => ?_
    cases w with
    | d y =>
      obtain ⟨hl, q3⟩ := if_bad (by exact q2)
      obtain ⟨b, us, k1, k2, k3, _⟩ := G1.own i xs h1
      rw [e1] at k1; cases k1
      refine ⟨a, us, v, rfl, rfl, k2, ?_, ?_⟩
      · rw [k3.length, sizeLine_eq]
        have : xs.length + 1 ≤ 16777216 := of_decide_eq_true hl
        omega
      · obtain ⟨G2, m2⟩ := G1.ownUpd h1 e1 k2 (k3.append (.cons r1 .nil))
        exact q3 _ _ G2 m2
    | un => exact q2.elim
    | own _ => exact q2.elim
    | tape => exact q2.elim
    | fresh _ => exact q2.elim
def setiOut (i : Nat) (env : Ev) (xs : List PyData) (w j : W) (t : DL.T) : Out := match w, asInt j with
  | .d x, some z => match L2.ixN xs.length z with
    | some p => .nx (env.set i (.own (xs.set p x))) t
    | none => .bad
  | _, _ => .bad
theorem setiOut_ok {σ : L2.St} {H : Hp} {D : Ends} {i : Nat} {env : Ev} {xs : List PyData} {w j : W} {t : DL.T} (h : postS Γ σ H env D (setiOut i env xs w j t)) : ∃ x z p, w = .d x ∧ asInt j = some z ∧ L2.ixN xs.length z = some p ∧ postS Γ σ H env D (.nx (env.set i (.own (xs.set p x))) t) := by
  cases w with
  | d x =>
    cases hj : asInt j with
    | none => unfold setiOut at h; rw [hj] at h; exact h.elim
    | some z =>
      unfold setiOut at h
      rw [hj] at h
      have h' : postS Γ σ H env D (match L2.ixN xs.length z with
        | some p => .nx (env.set i (.own (xs.set p x))) t
        | none => .bad) := h
      cases hp : L2.ixN xs.length z with
      | none => rw [hp] at h'; exact h'.elim
      | some p => rw [hp] at h'; exact ⟨x, z, p, rfl, rfl, hp, h'⟩
  | _ => exact h.elim
theorem ds_seti {i : Nat} {x : Str} {p1 p2 : Pos} {k : Expr} {ck : E} (hN : X.N[i]? = some x) (hv : Vis X.env.scope x) (hd : (x == ("__debug__" : Str)) = false) (hcd : (x == ("__classdict__" : Str)) = false) (he : DE X Γ F e c) (hk : DE X Γ F k ck) (hs : swapsWithSole [.Subscript (.Name x p1) k p2] e pos.line X.env = pure false)
    (hw : swappedStores [.Subscript (.Name x p1) k p2] e X.env = pure none) (h1 : (assignEach [.Subscript (.Name x p1) k p2] X.env).map (·.2) = [assign (.Subscript (.Name x p1) k p2) X.env])
    (ha : ∀ v, assign (.Subscript (.Name x p1) k p2) X.env v = (do
      let ov ← holding [v] (eval (.Name x p1) X.env)
      let iv ← holding [v, ov] (eval k X.env)
      standAt p2
      holding [v, ov, iv] (setItem ov iv v)
      release [v, ov, iv] [])) : DS X Γ F n (.Assign [.Subscript (.Name x p1) k p2] e pos) (.seti i ck c) :=
  (ps_asg he (pg_sub (pe_var hN hv hd hcd) hk set_list ha) hs hw h1).to fun D σ H _ ⟨env, t, G, q⟩ => by
    obtain ⟨xs, ho, q1⟩ := own_match (f := fun xs => (ev F c env t).out fun w t1 => (ev F ck env t1).out fun j t2 => setiOut i env xs w j t2) (by exact q)
    refine tE.out G q1 fun v H1 w t1 f1 G1 r1 q2 => ?_
    obtain ⟨a, vs, e1, e2, _⟩ := G1.own i xs ho
    refine ⟨.ref a, e1, ?_⟩
    show tE Γ F ck σ H1 _
    refine tE.out (f := fun j t2 => setiOut i env xs w j t2) G1 q2 fun y H2 j t2 f2 G2 r2 q3 => ?_
    obtain ⟨d, z, p, rfl, ez, hp, q4⟩ := setiOut_ok q3
    obtain rfl := int_of r2 ez
    obtain ⟨b, us, k1, k2, k3, _⟩ := G2.own i xs ho
    rw [e1] at k1; cases k1
    refine ⟨a, us, z, p, rfl, rfl, k2, by rw [k3.length]; exact hp, ?_⟩
    obtain ⟨G3, m3⟩ := G2.ownUpd ho e1 k2 (k3.set (show Rp (Av Γ σ env) Γ.K H2 v d from r1.frame f2) p)
    exact q4 _ _ G3 m3
def extOut (i : Nat) (env : Ev) (xs : List PyData) (w : W) (t : DL.T) : Out := match w with
  | .d (.list ys) => if lenOk (xs.length + ys.length) then .nx (env.set i (.own (xs ++ ys))) t else .bad
  | _ => .bad
theorem pip_of {op : Operator} {r : R2} (h : OpR X (inplaceOp op) r) : PIp X op r := fun pins s σ H x y v u Q I rx ry q => h pins s σ H x y v u Q I rx ry q
theorem ds_ext {i : Nat} {x : Str} {p1 : Pos} (hN : X.N.Nodup) (hi : X.N[i]? = some x) (hx : Loc X.env.scope x) (he : DF X Γ F e c) (hf : X.fn x = true ∨ X.env.scope.names.lookup x = some .local) : DS X Γ F n (.AugAssign (.Name x p1) .Add e pos) (.ext i c) :=
  (ps_aug hN hi hx he (pip_of iop_ext) hf).to fun D σ H hlen ⟨env, t, G, q⟩ => by
    obtain ⟨xs, ho, q1⟩ := own_match (f := fun xs => (ev F c env t).out (extOut i env xs)) (by exact q)
    obtain ⟨a, vs, e1, e2, _⟩ := G.own i xs ho
    refine ⟨.ref a, e1, env, t, G, ?_⟩
    cases hr : ev F c env t with
    | ok w t' =>
      rw [hr] at q1
      have q2 : postS Γ σ H env D (extOut i env xs w t') := q1
      clear q1 hr
      by_cases z : ∃ ys, w = .d (.list ys)
      · obtain ⟨ys, rfl⟩ := z
        intro p us H1 hp hp' f1 G1 tr r
        obtain ⟨hl, q3⟩ := if_bad (show postS Γ σ H env D (if lenOk (xs.length + ys.length) then .nx (env.set i (.own (xs ++ ys))) t' else .bad) from q2)
        obtain ⟨b, ws, k1, k2, k3, _⟩ := G1.own i xs ho
        rw [e1] at k1; cases k1
        refine ⟨a, p, ws, us, rfl, rfl, k2, hp', ?_, ?_⟩
        · rw [k3.length, r.length, sizeLine_eq]
          have : xs.length + ys.length ≤ 16777216 := of_decide_eq_true hl
          omega
        · obtain ⟨G2, m2⟩ := G1.ownUpd ho e1 k2 (k3.append (RpAll.moves (Moves.sub fun a z => .inl z) _ _ r))
          have es : σ.set i (some (.ref a)) = σ := by
            refine List.ext_getElem? fun j => ?_
            by_cases z : j = i
            · subst z
              rw [List.getElem?_set_self (List.getElem?_eq_some_iff.mp e1).1, e1]
            · rw [List.getElem?_set_ne (Ne.symm z)]
          rw [es]
          exact q3 _ _ G2 ((mvF f1).trans m2)
      · have e : extOut i env xs w t' = .bad := by
          cases w with
          | d x => cases x <;> first | rfl | exact absurd ⟨_, rfl⟩ z
          | _ => rfl
        rw [e] at q2
        exact q2.elim
    | err k t' =>
      rw [hr] at q1
      exact fun H' f' g => q1 H' g.lv
    | bad => rw [hr] at q1; exact q1.elim
/-! n += e of ints -/
def ipO (o : Bop) : TIp := fun x y H Q => ∃ i j r, x = .int i ∧ y = .int j ∧ opInt o i j = some r ∧ Q (.int r) H
theorem ipO_of {op : Operator} {o : Bop} (h : ∀ (pins : List (Addr × Obj)) (s : Shared) (σ : L2.St) (H : Hp) (i j r : Int) (t u : Tok) (Q : VK), Inv X pins σ H s → opInt o i j = some r → Q (.int r) H → wpAny (model X.prog X.w) X.A (inplaceOp op (.int i t) (.int j u)) (EP X pins σ Q) X.xe s) : PIp X op (ipO o) := by
  intro pins s σ H x y v u Q I r1 r2 ⟨i, j, r, e1, e2, e3, q⟩
  subst e1 e2
  obtain ⟨t, rfl⟩ := r1
  obtain ⟨t', rfl⟩ := r2
  exact h pins s σ H i j r t t' Q I e3 q
theorem ipo_add : PIp X .Add (ipO .add) := ipO_of fun pins s σ H i j r t u Q I e q => by
  cases e
  exact PyProof.Rows.iadd_int ⟨.int _, H, I.tok _, ⟨_, rfl⟩, q⟩
theorem ipo_sub : PIp X .Sub (ipO .sub) := ipO_of fun pins s σ H i j r t u Q I e q => by
  cases e
  exact PyProof.Rows.isub_int ⟨.int _, H, I.tok _, ⟨_, rfl⟩, q⟩
theorem ipo_mul : PIp X .Mult (ipO .mul) := ipO_of fun pins s σ H i j r t u Q I e q => by
  have e' : (if mulOk i j then some (i * j) else none) = some r := e
  split at e'
  · rename_i hm
    cases e'
    exact PyProof.Rows.imul_int ⟨.int _, H, I.tok _, ⟨_, rfl⟩, q⟩ (mulOk_ok hm)
  · cases e'
theorem ipo_mod : PIp X .Mod (ipO .mod) := ipO_of fun pins s σ H i j r t u Q I e q => by
  have e' : (if decide (0 < j) then some (i % j) else none) = some r := e
  split at e'
  · rename_i hd
    cases e'
    have hj : 0 < j := of_decide_eq_true hd
    exact PyProof.Rows.imod_int (by omega) ⟨.int _, H, I.tok _, ⟨_, by rw [Int.fmod_eq_emod_of_nonneg i (by omega)]⟩, q⟩
  · cases e'
theorem ipo_fdiv : PIp X .FloorDiv (ipO .fdiv) := ipO_of fun pins s σ H i j r t u Q I e q => by
  have e' : (if divOk j then some (i / j) else none) = some r := e
  split at e'
  · rename_i hd
    cases e'
    unfold divOk at hd
    rw [Bool.and_eq_true, Bool.or_eq_true] at hd
    have hj : 0 < j := of_decide_eq_true hd.1
    refine PyProof.Rows.ifloordiv_int (by omega) ⟨.int _, H, I.tok _, ⟨_, by rw [Int.fdiv_eq_ediv_of_nonneg i (by omega)]⟩, q⟩ ?_
    rcases hd.2 with h | h
    · have := of_decide_eq_true h
      exact .inl (PyProof.noPylong_small (by omega))
    · exact .inl (PyProof.noPylong_of_log2 (of_decide_eq_true h))
  · cases e'
theorem ipo_xor : PIp X .BitXor (ipO .bxor) := ipO_of fun pins s σ H i j r t u Q I e q => by
  cases e
  exact PyProof.Rows.ixor_int ⟨.int _, H, I.tok _, ⟨_, rfl⟩, q⟩
def augOut (i : Nat) (env : Ev) (o : Bop) (x : PyData) (w : W) (t : DL.T) : Out := match w with
  | .d y => match x, y with
    | .int p, .int q => match opInt o p q with
      | some r => .nx (env.set i (.d (.int r))) t
      | none => .bad
    | _, _ => .bad
  | _ => .bad
theorem augOut_ok {σ : L2.St} {H : Hp} {D : Ends} {i : Nat} {env : Ev} {o : Bop} {x : PyData} {w : W} {t : DL.T} (h : postS Γ σ H env D (augOut i env o x w t)) : ∃ p q r, x = .int p ∧ w = .d (.int q) ∧ opInt o p q = some r ∧ postS Γ σ H env D (.nx (env.set i (.d (.int r))) t) := by
  cases w with
  | d y =>
    cases x with
    | int p =>
      cases y with
      | int q =>
        have h' : postS Γ σ H env D (match opInt o p q with
          | some r => .nx (env.set i (.d (.int r))) t
          | none => .bad) := h
        cases e : opInt o p q with
        | none => rw [e] at h'; exact h'.elim
        | some r => rw [e] at h'; exact ⟨p, q, r, rfl, rfl, e, h'⟩
      | _ => exact h.elim
    | _ => exact h.elim
  | _ => exact h.elim
theorem d_match {σ : L2.St} {H : Hp} {D : Ends} {env : Ev} {i : Nat} {f : PyData → Out} (h : postS Γ σ H env D (match env.getD i .un with
    | .d x => f x
    | _ => .bad)) : ∃ x, env[i]? = some (.d x) ∧ postS Γ σ H env D (f x) := by
  cases he : env.getD i .un with
  | d x => rw [he] at h; exact ⟨x, getD_own he (fun e => by cases e), h⟩
  | un => rw [he] at h; exact h.elim
  | own _ => rw [he] at h; exact h.elim
  | tape => rw [he] at h; exact h.elim
  | fresh _ => rw [he] at h; exact h.elim
theorem ds_aug {i : Nat} {x : Str} {p1 : Pos} {op : Operator} {o : Bop} (hN : X.N.Nodup) (hi : X.N[i]? = some x) (hx : Loc X.env.scope x) (ho : PIp X op (ipO o)) (he : DE X Γ F e c) (hf : X.fn x = true ∨ X.env.scope.names.lookup x = some .local) : DS X Γ F n (.AugAssign (.Name x p1) op e pos) (.aug i o c) :=
  (ps_aug hN hi hx he ho hf).to fun D σ H hlen ⟨env, t, G, q⟩ => by
    obtain ⟨d, hd, q1⟩ := d_match (f := fun x => (ev F c env t).out (augOut i env o x)) (by exact q)
    obtain ⟨v0, e0, r0⟩ := G.dat i d hd
    refine ⟨v0, e0, tE.out G q1 fun v H1 w t1 f1 G1 r1 q2 => ?_⟩
    obtain ⟨p, qq, r, rfl, rfl, e3, q3⟩ := augOut_ok q2
    cases r0
    have r1' : Rp (Av Γ σ env) Γ.K H1 v (.int qq) := r1
    cases r1'
    refine ⟨p, qq, r, rfl, rfl, e3, ?_⟩
    obtain ⟨G2, s2⟩ := G1.set (i := i) (v := .int r) (x := .int r) (by rw [hlen]; exact (List.getElem?_eq_some_iff.mp hi).1) (.int r)
    exact q3 _ _ G2 (Moves.sub s2)
/-! loops -/
theorem ds_while {cd : Expr} {body : List Stmt} {cc : E} {cb : List S} (hp : PassesOwn (model X.prog X.w) X.A X.env X.xe) (hc : DT X Γ F cd cc) (hb : DSs X Γ F n body cb) : DS X Γ F n (.While cd body [] pos) (.whil cc cb) :=
  (ps_while hp hc hb).to fun D σ H _ ⟨env, t, G, q⟩ => by
    refine ⟨fun m σ' H' => ∃ e' t', Good Γ σ' H' e' t' ∧ postS Γ σ' H' e' D (whileRun (fun e t => tr (ev F cc e t)) (runs F n cb) m e' t'), ⟨n, env, t, G, q⟩, ?_⟩
    rintro m σ1 H1 ⟨e1, t1, G1, q1⟩
    cases m with
    | zero => exact q1.elim
    | succ m =>
      refine tT.out (f := fun b t1 => if b then match runs F n cb e1 t1 with
        | .nx e2 t2 => whileRun (fun e t => tr (ev F cc e t)) (runs F n cb) m e2 t2
        | .cnt e2 t2 => whileRun (fun e t => tr (ev F cc e t)) (runs F n cb) m e2 t2
        | .brk e2 t2 => .nx e2 t2
        | o => o
      else .nx e1 t1) G1 q1 fun b H2 t2 f2 G2 q2 => ?_
      cases b with
      | false => exact q2 σ1 H2 G2 .refl
      | true =>
        rw [if_pos rfl]
        refine ⟨fun σ' H' => ∃ e' t', Good Γ σ' H' e' t' ∧ postS Γ σ' H' e' D (whileRun (fun e t => tr (ev F cc e t)) (runs F n cb) m e' t'), fun σ' H' h => ⟨m, Nat.lt_succ_self m, h⟩, e1, t2, G2, ?_⟩
        have q3 : postS Γ σ1 H2 e1 D (match runs F n cb e1 t2 with
          | .nx e2 t2 => whileRun (fun e t => tr (ev F cc e t)) (runs F n cb) m e2 t2
          | .cnt e2 t2 => whileRun (fun e t => tr (ev F cc e t)) (runs F n cb) m e2 t2
          | .brk e2 t2 => .nx e2 t2
          | o => o) := q2
        cases hr : runs F n cb e1 t2 with
        | nx e3 t3 => rw [hr] at q3; exact fun σ' H' g m => ⟨e3, t3, g, postS.mono q3 m⟩
        | cnt e3 t3 => rw [hr] at q3; exact fun σ' H' g m => ⟨e3, t3, g, postS.mono q3 m⟩
        | brk e3 t3 => rw [hr] at q3; exact q3
        | ret w t3 => rw [hr] at q3; exact q3
        | err k t3 => rw [hr] at q3; exact q3
        | bad => rw [hr] at q3; exact q3
theorem ds_for {tg iter : Expr} {body : List Stmt} {ctg : Tg} {cit : DL.It} {cb : List S} (hp : PassesOwn (model X.prog X.w) X.A X.env X.xe) (hK : Γ.K = X.K) (hc : X.calm = true) (hi : DI X Γ F false tg iter cit) (hg : DG X Γ tg ctg) (hb : DSs X Γ F n body cb) (hs : ∀ x, foldedSetIterable iter X.env x = pure x) :
    DS X Γ F n (.For tg iter body [] pos) (.forr ctg cit cb) :=
  (ps_for hp hc hi hg hb hs).to fun D σ H _ ⟨env, t, G, q⟩ => by
    have q' : postS Γ σ H env D ((evI F false cit env t).out fun xs t1 => forRun (bindT ctg) (runs F n cb) xs env t1) := q
    refine ⟨env, t, G, (postS.out (P := fun H' J xs => WkD Γ.K (StW false Γ.tp (Av Γ σ env) H') J xs) q').mono Frame.refl fun J H1 ⟨xs, t1, f1, G1, wk, q1⟩ => ?_⟩
    have stw : ∀ {σ' H' e' t'}, Good Γ σ' H' e' t' → Moves (Av Γ σ env) (Av Γ σ' e') H1 H' → StW false Γ.tp (Av Γ σ env) H1 H' (Av Γ σ' e') := fun G' m => ⟨m, G'.avHas, fun z => by cases z⟩
    refine ⟨fun i m σ' H' => m = xs.length - i ∧ i ≤ xs.length ∧ ∃ e' t', Good Γ σ' H' e' t' ∧ Moves (Av Γ σ env) (Av Γ σ' e') H1 H' ∧ postS Γ σ' H' e' D (forRun (bindT ctg) (runs F n cb) (xs.drop i) e' t'), ⟨xs.length, by simp, Nat.zero_le _, env, t1, G1, .refl, q1⟩, ?_⟩
    rintro i m σ2 H2 ⟨rfl, hi', e2, t2, G2, m2, q2⟩
    by_cases hlt : i < xs.length
    · refine .inr ⟨wk.goes i H2 _ hlt (stw G2 m2), fun σ' H' => i + 1 ≤ xs.length ∧ ∃ e' t', Good Γ σ' H' e' t' ∧ Moves (Av Γ σ env) (Av Γ σ' e') H1 H' ∧ postS Γ σ' H' e' D (forRun (bindT ctg) (runs F n cb) (xs.drop (i + 1)) e' t'), fun σ' H' h => ⟨xs.length - (i + 1), by omega, rfl, h⟩, fun x H3 y => ?_⟩
      obtain ⟨sm, fb, d, hd, rd⟩ := wk.yields i H2 _ x H3 hlt (stw G2 m2) y
      have hdr : xs.drop i = d :: xs.drop (i + 1) := by
        rw [List.drop_eq_getElem_cons hlt]
        congr 1
        rw [List.getElem?_eq_getElem hlt] at hd
        exact Option.some.inj hd
      rw [hdr] at q2
      have q3 : postS Γ σ2 H2 e2 D (match bindT ctg d e2 with
        | none => .bad
        | some e1 => match runs F n cb e1 t2 with
          | .nx e2 t2 => forRun (bindT ctg) (runs F n cb) (xs.drop (i + 1)) e2 t2
          | .cnt e2 t2 => forRun (bindT ctg) (runs F n cb) (xs.drop (i + 1)) e2 t2
          | .brk e2 t2 => .nx e2 t2
          | o => o) := q2
      cases hbt : bindT ctg d e2 with
      | none => rw [hbt] at q3; exact q3.elim
      | some e3 =>
        rw [hbt] at q3
        refine ⟨e2, t2, d, e3, G2.same sm, rd, hbt, fun σ4 G4 off s4 => ⟨e3, t2, G4, ?_⟩⟩
        have m4 : Moves (Av Γ σ2 e2) (Av Γ σ4 e3) H2 H3 := Moves.trans (moves_same sm) (Moves.sub s4)
        have q4 : postS Γ σ4 H3 e3 D (match runs F n cb e3 t2 with
          | .nx e2 t2 => forRun (bindT ctg) (runs F n cb) (xs.drop (i + 1)) e2 t2
          | .cnt e2 t2 => forRun (bindT ctg) (runs F n cb) (xs.drop (i + 1)) e2 t2
          | .brk e2 t2 => .nx e2 t2
          | o => o) := postS.mono (show postS Γ σ2 H2 e2 D _ from q3) m4
        cases hr : runs F n cb e3 t2 with
        | nx e5 t5 => rw [hr] at q4; exact fun σ' H' g m => ⟨hlt, e5, t5, g, m2.trans (m4.trans m), postS.mono q4 m⟩
        | cnt e5 t5 => rw [hr] at q4; exact fun σ' H' g m => ⟨hlt, e5, t5, g, m2.trans (m4.trans m), postS.mono q4 m⟩
        | brk e5 t5 => rw [hr] at q4; exact q4
        | ret w t5 => rw [hr] at q4; exact q4
        | err k t5 => rw [hr] at q4; exact q4
        | bad => rw [hr] at q4; exact q4
    · have e : i = xs.length := by omega
      subst e
      rw [List.drop_length] at q2
      exact .inl ⟨wk.stops H2 _ (stw G2 m2), q2 σ2 H2 G2 .refl⟩
/-- a list is given free -/
theorem dss_frz {i : Nat} {sts : List Stmt} {cs : List S} (h : DSs X Γ F n sts cs) : DSs X Γ F n sts (.frz i :: cs) :=
  h.to fun D σ H ⟨env, t, G, q⟩ => by
    have q' : postS Γ σ H env D (Out.andThen (match env.getD i .un with
      | .own xs => .nx (env.set i (.d (.list xs))) t
      | _ => .bad) (runs F n cs)) := q
    cases he : env.getD i .un with
    | own xs =>
      rw [he] at q'
      obtain ⟨G2, m2⟩ := G.frz (getD_own he (fun e => by cases e))
      exact ⟨_, t, G2, postS.mono (show postS Γ σ H env D (runs F n cs (env.set i (.d (.list xs))) t) from q') m2⟩
    | un => rw [he] at q'; exact q'.elim
    | d _ => rw [he] at q'; exact q'.elim
    | tape => rw [he] at q'; exact q'.elim
    | fresh _ => rw [he] at q'; exact q'.elim
/-- where no error is allowed, a raise is never reached -/
theorem ds_raise0 {k : Nat} {st : Stmt} (hE : Γ.E = fun _ _ _ => False) : DS X Γ F n st (.raise k) := ⟨fun pins s σ H D I ⟨env, t, G, q⟩ => by
  have q' : ∀ H', Lv Γ H' t → Γ.E (Γ.ec k) none H' := q
  have := q' H G.lv
  rw [hE] at this
  exact this.elim⟩
end
end DL
/-! DLA: the tape: its length, its last item, unpacked, stored into. -/
namespace DL
open PySem PySem.Spec PyProof.Rows L2
section
variable {Γ : Cfg} {σ : L2.St} {H H' : Hp} {env : Ev} {t t' : DL.T}
theorem frame_tape {tp : Option Addr} {a : Addr} {o : HO} (e : tp = some a) : Frame tp H (upd H a o) :=
  ⟨fun b u h ht _ => by rw [upd_ne (fun z => ht (by rw [e, z]))]; exact h, fun b h => by
    by_cases z : b = a
    · subst z; rw [upd_same]; simp
    · rw [upd_ne z]; exact h⟩
/-- the tape is written -/
theorem Good.tapeUpd (G : Good Γ σ H env t) {a : Addr} {vs vs' : List V} {xs' : List PyData} (e : Γ.tp = some a) (h : H a = some (.lst vs)) (r : RpAll (Av Γ σ env) Γ.K H vs' xs') : Good Γ σ (upd H a (.lst vs')) env xs' := by
  have f : Frame Γ.tp H (upd H a (.lst vs')) := frame_tape e
  have tb : TabsG Γ.tabs (upd H a (.lst vs')) := fun P hP => by
    obtain ⟨ps, e1, k⟩ := G.tabs P hP
    exact ⟨ps, by rw [upd_ne (fun z => by rw [z, h] at e1; cases e1)]; exact e1, k⟩
  refine G.frame f tb fun b hb => ?_
  rw [e] at hb
  cases hb
  exact ⟨vs', upd_same, RpAll.moves (mvF f) _ _ r⟩
theorem tape_slot {i : Nat} {β : Type} {P : β → Prop} {f g : β} (hg : ¬ P g) (q : P (match env.getD i .un with
    | .tape => f
    | _ => g)) : env[i]? = some .tape ∧ P f := by
  cases h : env.getD i .un with
  | tape => rw [h] at q; exact ⟨getD_own h (fun e => by cases e), q⟩
  | _ => rw [h] at q; exact absurd q hg
end
section
variable {X : Cx} {Γ : Cfg} {F : Fn} {n : Nat} {i : Nat} {x : Str} {p p1 p2 pos apos cpos : Pos}
theorem _root_.DL.bad_postE {α β : Type} {P : Hp → β → α → Prop} {σ : L2.St} {H : Hp} {env : Ev} {Q : β → Hp → Prop} : ¬ postE Γ σ H env P Q R.bad := fun h => h
theorem de_tlen (hN : X.N[i]? = some x) (hv : Vis X.env.scope x) (hd : (x == ("__debug__" : Str)) = false) (hcd : (x == ("__classdict__" : Str)) = false) (hg : Gl X "len") (hm : X.mg "len" = none) : DE X Γ F (.Call (.Name "len" p) [.Name x p1] [] pos) (.tlen i) :=
  (pe_callB call_len_seq hg hm boot_len (pa_cons (pe_var hN hv hd hcd) pa_nil)).to fun σ H Q ⟨env, t, G, q⟩ => by
    obtain ⟨h1, q1⟩ := tape_slot (P := fun r => postE Γ σ H env (PW1 Γ σ env) Q r) bad_postE (by exact q)
    obtain ⟨a, e1, e2⟩ := G.tpe i h1
    obtain ⟨xs, e3, r⟩ := G.tape a e1
    refine ⟨.ref a, e2, a, xs, rfl, .inl (.inl (.inl e3)), ?_⟩
    rw [r.length]
    exact q1 (.int t.length) H Frame.refl G (.int _)
theorem last_get {α : Type} : ∀ {xs : List α} {x : α}, xs.getLast? = some x → xs[xs.length - 1]? = some x := fun {xs x} h => by
  rw [List.getLast?_eq_getElem?] at h
  exact h
theorem RpAll.dropLast {A : AP} {K : PySem.W.Frag} {H : Hp} {vs : List V} {ds : List PyData} (r : RpAll A K H vs ds) : RpAll A K H vs.dropLast ds.dropLast := by
  rw [List.dropLast_eq_take, List.dropLast_eq_take, r.length]
  exact r.take _
theorem de_tpop (hN : X.N[i]? = some x) (hv : Vis X.env.scope x) (hd : (x == ("__debug__" : Str)) = false) (hcd : (x == ("__classdict__" : Str)) = false)
    (hbase : attributeBase (.Name x p1) "pop" X.env (eval (.Name x p1) X.env) = eval (.Name x p1) X.env) (hline : (apos.endLine == cpos.line) = true) :
    DE X Γ F (.Call (.Attribute (.Name x p1) "pop" apos) [] [] cpos) (.tpop i) :=
  (pe_bm0 PySem.F.plainAttrs_list PySem.F.slot_list_pop PySem.F.type_list_pop mt_pop (pe_var hN hv hd hcd) hbase hline).to fun σ H Q ⟨env, t, G, q⟩ => by
    obtain ⟨h1, q1⟩ := tape_slot (P := fun r => postE Γ σ H env (PW1 Γ σ env) Q r) bad_postE (by exact q)
    obtain ⟨a, e1, e2⟩ := G.tpe i h1
    obtain ⟨xs, e3, r⟩ := G.tape a e1
    cases hl : t.getLast? with
    | none => rw [hl] at q1; exact q1.elim
    | some d =>
      rw [hl] at q1
      obtain ⟨v, hv', rv⟩ := r.get (last_get hl)
      refine ⟨.ref a, e2, .inl ⟨rfl, _, .inl (.inl e3)⟩, a, xs, v, rfl, rfl, e3, by rw [r.length]; exact hv', ?_⟩
      have f : Frame Γ.tp H (upd H a (.lst xs.dropLast)) := frame_tape e1
      exact q1 v _ f (G.tapeUpd e1 e3 r.dropLast) (Rp.moves (mvF f) _ _ rv)
/-- a, b, c = draws -/
theorem ds_tun {es : List Expr} {k : Nat} {tgs : List Tg} {pt : Pos} (hK : Γ.K = X.K) (hc : X.calm = true) (hN : X.N[i]? = some x) (hv : Vis X.env.scope x) (hd : (x == ("__debug__" : Str)) = false) (hcd : (x == ("__classdict__" : Str)) = false)
    (h : DGs X Γ es tgs) (hn : (assignEach es X.env).length = tgs.length) (hst : (assignEach es X.env).findIdx? (·.1) = none) (h1 : (assignEach [.Tuple es k pt] X.env).map (·.2) = [assign (.Tuple es k pt) X.env]) :
    DS X Γ F n (.Assign [.Tuple es k pt] (.Name x p1) pos) (.tun (.tup tgs) i) :=
  (ps_asg (pe_var hN hv hd hcd) (pg_unl hc h hn hst) rfl rfl h1).to fun D σ H _ ⟨env, t, G, q⟩ => by
    obtain ⟨h1, q1⟩ := tape_slot (g := Out.bad) (P := fun r => postS Γ σ H env D r) (fun z => z) (by exact q)
    obtain ⟨a, e1, e2⟩ := G.tpe i h1
    obtain ⟨xs, e3, r⟩ := G.tape a e1
    cases hb : bindT (.tup tgs) (.list t) env with
    | none => rw [hb] at q1; exact q1.elim
    | some e' =>
      rw [hb] at q1
      have hb' : (if t.length = tgs.length then bindTs tgs t env else none) = some e' := hb
      split at hb'
      · rename_i hl
        exact ⟨.ref a, e2, a, xs, rfl, .inl (.inl e3), by rw [r.length, hl], env, t, t, e', G, r, hl, hb', fun σ' G' _ s' => q1 σ' H G' (Moves.sub s')⟩
      · cases hb'
def tsetOut (env : Ev) (w j : W) (t : DL.T) : Out := match w, asInt j with
  | .d x, some z => match L2.ixN t.length z with
    | some p => .nx env (t.set p x)
    | none => .bad
  | _, _ => .bad
theorem tsetOut_ok {σ : L2.St} {H : Hp} {env : Ev} {t : DL.T} {D : Ends} {w j : W} (h : postS Γ σ H env D (tsetOut env w j t)) : ∃ x z p, w = .d x ∧ asInt j = some z ∧ L2.ixN t.length z = some p ∧ postS Γ σ H env D (.nx env (t.set p x)) := by
  cases w with
  | d x =>
    cases hj : asInt j with
    | none => unfold tsetOut at h; rw [hj] at h; exact h.elim
    | some z =>
      unfold tsetOut at h
      rw [hj] at h
      have h' : postS Γ σ H env D (match L2.ixN t.length z with
        | some p => .nx env (t.set p x)
        | none => .bad) := h
      cases hp : L2.ixN t.length z with
      | none => rw [hp] at h'; exact h'.elim
      | some p => rw [hp] at h'; exact ⟨x, z, p, rfl, rfl, hp, h'⟩
  | _ => exact h.elim
/-- draws[k] = e -/
theorem ds_tset {k e : Expr} {ck c : E} (hN : X.N[i]? = some x) (hv : Vis X.env.scope x) (hd : (x == ("__debug__" : Str)) = false) (hcd : (x == ("__classdict__" : Str)) = false) (he : DE X Γ F e c) (hk : DE X Γ F k ck) (hs : swapsWithSole [.Subscript (.Name x p1) k p2] e pos.line X.env = pure false)
    (hw : swappedStores [.Subscript (.Name x p1) k p2] e X.env = pure none) (h1 : (assignEach [.Subscript (.Name x p1) k p2] X.env).map (·.2) = [assign (.Subscript (.Name x p1) k p2) X.env])
    (ha : ∀ v, assign (.Subscript (.Name x p1) k p2) X.env v = (do
      let ov ← holding [v] (eval (.Name x p1) X.env)
      let iv ← holding [v, ov] (eval k X.env)
      standAt p2
      holding [v, ov, iv] (setItem ov iv v)
      release [v, ov, iv] [])) : DS X Γ F n (.Assign [.Subscript (.Name x p1) k p2] e pos) (.tset i ck c) :=
  (ps_asg he (pg_sub (pe_var hN hv hd hcd) hk set_list ha) hs hw h1).to fun D σ H _ ⟨env, t, G, q⟩ => by
    obtain ⟨h0, q1⟩ := tape_slot (g := Out.bad) (P := fun r => postS Γ σ H env D r) (f := (ev F c env t).out fun w t1 => (ev F ck env t1).out fun j t2 => tsetOut env w j t2) (fun z => z) (by exact q)
    refine tE.out G q1 fun v H1 w t1 f1 G1 r1 q2 => ?_
    obtain ⟨a, e1, e2⟩ := G.tpe i h0
    refine ⟨.ref a, e2, ?_⟩
    show tE Γ F ck σ H1 _
    refine tE.out (f := fun j t2 => tsetOut env w j t2) G1 q2 fun y H2 j t2 f2 G2 r2 q3 => ?_
    obtain ⟨d, z, p, rfl, ez, hp, q4⟩ := tsetOut_ok q3
    obtain rfl := int_of r2 ez
    obtain ⟨us, k2, k3⟩ := G2.tape a e1
    refine ⟨a, us, z, p, rfl, rfl, k2, by rw [k3.length]; exact hp, ?_⟩
    have G3 := G2.tapeUpd e1 k2 (k3.set (show Rp (Av Γ σ env) Γ.K H2 v d from r1.frame f2) p)
    exact q4 _ _ G3 (mvF (frame_tape e1))
/-- return x, x a list of one's own: a new list -/
theorem ds_retO (hN : X.N[i]? = some x) (hv : Vis X.env.scope x) (hd : (x == ("__debug__" : Str)) = false) (hcd : (x == ("__classdict__" : Str)) = false) : DS X Γ F n (.Return (some (.Name x p1)) pos) (.retO i) :=
  (ps_ret (pe_var hN hv hd hcd)).to fun D σ H _ ⟨env, t, G, q⟩ => by
    obtain ⟨xs, h1, q1⟩ := own_match (f := fun xs => Out.ret (.fresh xs) t) (by exact q)
    obtain ⟨a, vs, e1, e2, r, n1, n2, n3⟩ := G.own i xs h1
    have sub : ∀ b, (AT Γ.O Γ.tp b ∨ b = a) → Av Γ σ env b := fun b z => z.elim (fun z => z.elim .inl fun z => .inr (.inl z)) fun z => .inr (.inr ⟨i, xs, h1, by rw [z]; exact e1⟩)
    refine ⟨.ref a, e1, q1 _ H G.lv ⟨a, vs, rfl, n1, e2, fun b hb => ?_, RpAll.moves (Moves.sub sub) _ _ r⟩⟩
    obtain ⟨ys, k1, k2⟩ := G.tape b hb
    exact ⟨ys, k1, RpAll.moves (Moves.sub sub) _ _ k2⟩
end
end DL
/-! DLB: rows with new lists; a, b = x, y. -/
namespace DL
open PySem PySem.Spec PyProof.Rows L2
/-- some addresses more are kept apart -/
def Cfg.add (Γ : Cfg) (ps : List Addr) : Cfg := { Γ with O := fun a => Γ.O a ∨ a ∈ ps }
/-- a row's values: new lists where the flag says so -/
inductive RowW (A : AP) (K : PySem.W.Frag) (H : Hp) : List Addr → List Bool → List V → List PyData → Prop
  | nil : RowW A K H [] [] [] []
  | d {ps : List Addr} {fl : List Bool} {v : V} {vs : List V} {x : PyData} {ds : List PyData} : Rp A K H v x → RowW A K H ps fl vs ds → RowW A K H ps (false :: fl) (v :: vs) (x :: ds)
  | o {ps : List Addr} {fl : List Bool} {p : Addr} {us : List V} {vs : List V} {xs ds : List PyData} : H p = some (.lst us) → RpAll A K H us xs → p ∉ ps → RowW A K H ps fl vs ds → RowW A K H (p :: ps) (true :: fl) (.ref p :: vs) (.list xs :: ds)
section
variable {Γ : Cfg} {σ : L2.St} {H H' : Hp} {env : Ev} {t t' : DL.T} {A A' : AP} {K : PySem.W.Frag} {ps : List Addr} {fl : List Bool} {vs : List V} {ds : List PyData}
theorem RowW.sub (h : RowW A K H ps fl vs ds) (s : ∀ a, A' a → A a) : RowW A' K H ps fl vs ds := by
  induction h with
  | nil => exact .nil
  | d r _ ih => exact .d (Rp.moves (Moves.sub s) _ _ r) ih
  | o e r n _ ih => exact .o e (RpAll.moves (Moves.sub s) _ _ r) n ih
theorem RowW.length (h : RowW A K H ps fl vs ds) : vs.length = fl.length := by
  induction h with
  | nil => rfl
  | d _ _ ih => exact congrArg (· + 1) ih
  | o _ _ _ _ ih => exact congrArg (· + 1) ih
theorem Good.less (G : Good (Γ.add ps) σ H env t) : Good Γ σ H env t := by
  have sub : ∀ a, Av Γ σ env a → Av (Γ.add ps) σ env a := fun a z => z.elim (fun z => .inl (.inl z)) .inr
  refine ⟨G.len, G.fr, fun a h => G.oh a (.inl h), G.tabs, fun a h => ?_, fun i x h => ?_, fun i xs h => ?_, G.two, G.tpe⟩
  · obtain ⟨xs, e, r⟩ := G.tape a h
    exact ⟨xs, e, RpAll.moves (Moves.sub sub) _ _ r⟩
  · obtain ⟨v, e, r⟩ := G.dat i x h
    exact ⟨v, e, Rp.moves (Moves.sub sub) _ _ r⟩
  · obtain ⟨a, us, e1, e2, r, n1, n2, n3⟩ := G.own i xs h
    exact ⟨a, us, e1, e2, RpAll.moves (Moves.sub sub) _ _ r, n1, fun z => n2 (.inl z), n3⟩
/-- a new list is kept apart -/
theorem Good.more (G : Good Γ σ H' env t') {p : Addr} {us : List V} (f : Frame Γ.tp H H') (G0 : Good Γ σ H env t) (hp : H p = none) (hp' : H' p = some (.lst us)) (tr : TapeR (fun a => Av Γ σ env a ∨ a = p) Γ.tp Γ.K H' t') : Good (Γ.add [p]) σ H' env t' := by
  have sub : ∀ a, Av (Γ.add [p]) σ env a → Av Γ σ env a ∨ a = p := fun a z => by
    rcases z with (z | z) | z
    · exact .inl (.inl z)
    · exact .inr (List.mem_singleton.mp z)
    · exact .inl (.inr z)
  have mv : Moves (Av Γ σ env) (Av (Γ.add [p]) σ env) H H' := fun a o n h k =>
    ⟨f.keep a o h (fun e => n (avTape e)) k, fun z => (sub a z).elim n fun e => by rw [e, hp] at h; cases h⟩
  refine ⟨G.len, G.fr, fun a h => ?_, G.tabs, fun a h => ?_, fun i x h => ?_, fun i xs h => ?_, G.two, G.tpe⟩
  · rcases h with h | h
    · exact G.oh a h
    · rw [List.mem_singleton.mp h, hp']; simp
  · obtain ⟨xs, e, r⟩ := tr a h
    exact ⟨xs, e, RpAll.moves (Moves.sub sub) _ _ r⟩
  · obtain ⟨v, e, r⟩ := G0.dat i x h
    obtain ⟨v', e', _⟩ := G.dat i x h
    exact ⟨v, e, Rp.moves mv _ _ r⟩
  · obtain ⟨a, vs, e1, e2, r, n1, n2, n3⟩ := G0.own i xs h
    refine ⟨a, vs, e1, f.keep a _ e2 n3 (fun _ z => by cases z), RpAll.moves mv _ _ r, n1, fun z => ?_, n3⟩
    rcases z with z | z
    · exact n2 z
    · rw [List.mem_singleton.mp z, hp] at e2; cases e2
/-- a list kept apart becomes a slot's own -/
theorem Good.claim {p : Addr} {us : List V} {xs : List PyData} {i : Nat} (G : Good (Γ.add (p :: ps)) σ H env t) (hp' : H p = some (.lst us)) (r : RpAll (Av (Γ.add (p :: ps)) σ env) Γ.K H us xs) (h0 : Γ.H0 p = none) (nO : ¬ Γ.O p) (np : p ∉ ps) (nt : Γ.tp ≠ some p) (hi : i < σ.length) :
    Good (Γ.add ps) (σ.set i (some (.ref p))) H (env.set i (.own xs)) t ∧ ∀ a, Av (Γ.add ps) (σ.set i (some (.ref p))) (env.set i (.own xs)) a → Av (Γ.add (p :: ps)) σ env a := by
  have sub : ∀ a, Av (Γ.add ps) (σ.set i (some (.ref p))) (env.set i (.own xs)) a → Av (Γ.add (p :: ps)) σ env a := fun a z => by
    rcases z with (z | z) | z | ⟨j, ys, h1, h2⟩
    · exact .inl (.inl z)
    · exact .inl (.inr (List.mem_cons_of_mem _ z))
    · exact .inr (.inl z)
    · rcases get_set_eq h1 with ⟨rfl, _⟩ | ⟨hj, h1⟩
      · rw [List.getElem?_set_self hi] at h2
        cases h2; exact .inl (.inr List.mem_cons_self)
      · rw [List.getElem?_set_ne (Ne.symm hj)] at h2
        exact .inr (.inr ⟨j, ys, h1, h2⟩)
  have mv : Moves (Av (Γ.add (p :: ps)) σ env) (Av (Γ.add ps) (σ.set i (some (.ref p))) (env.set i (.own xs))) H H := Moves.sub sub
  have ne : ∀ {j : Nat} {ys : List PyData} {a : Addr}, env[j]? = some (.own ys) → σ[j]? = some (some (.ref a)) → a ≠ p := fun {j ys a} h1 h2 z => by
    obtain ⟨b, _, e1, _, _, _, n2, _⟩ := G.own j ys h1
    rw [h2] at e1; cases e1
    exact n2 (.inr (by rw [z]; exact List.mem_cons_self))
  refine ⟨⟨by rw [List.length_set, List.length_set]; exact G.len, G.fr, fun a h => G.oh a (h.elim .inl fun z => .inr (List.mem_cons_of_mem _ z)), G.tabs, fun a h => ?_, fun j x h => ?_, fun j ys h => ?_, fun j k ys zs a h1 h2 h3 h4 => ?_, fun j h => ?_⟩, sub⟩
  · obtain ⟨zs, e, r'⟩ := G.tape a h
    exact ⟨zs, e, RpAll.moves mv _ _ r'⟩
  · rcases get_set_eq h with ⟨_, e⟩ | ⟨hj, h⟩
    · cases e
    · obtain ⟨v, e, r'⟩ := G.dat j x h
      exact ⟨v, by rw [List.getElem?_set_ne (Ne.symm hj)]; exact e, Rp.moves mv _ _ r'⟩
  · rcases get_set_eq h with ⟨rfl, e⟩ | ⟨hj, h⟩
    · cases e
      exact ⟨p, us, by rw [List.getElem?_set_self hi], hp', RpAll.moves mv _ _ r, h0, fun z => z.elim nO np, nt⟩
    · obtain ⟨a, ws, e1, e2, r', n1, n2, n3⟩ := G.own j ys h
      exact ⟨a, ws, by rw [List.getElem?_set_ne (Ne.symm hj)]; exact e1, e2, RpAll.moves mv _ _ r', n1, fun z => n2 (z.elim .inl fun z => .inr (List.mem_cons_of_mem _ z)), n3⟩
  · rcases get_set_eq h1 with ⟨ej, _⟩ | ⟨hj, h1'⟩
    · rw [ej, List.getElem?_set_self hi] at h3
      cases h3
      rcases get_set_eq h2 with ⟨ek, _⟩ | ⟨hk, h2⟩
      · rw [ej, ek]
      · rw [List.getElem?_set_ne (Ne.symm hk)] at h4
        exact absurd rfl (ne h2 h4)
    · rw [List.getElem?_set_ne (Ne.symm hj)] at h3
      rcases get_set_eq h2 with ⟨ek, _⟩ | ⟨hk, h2'⟩
      · rw [ek, List.getElem?_set_self hi] at h4
        cases h4
        exact absurd rfl (ne h1' h3)
      · rw [List.getElem?_set_ne (Ne.symm hk)] at h4
        exact G.two j k ys zs a h1' h2' h3 h4
  · rcases get_set_eq h with ⟨_, e⟩ | ⟨hj, h⟩
    · cases e
    · obtain ⟨a, e1, e2⟩ := G.tpe j h
      exact ⟨a, e1, by rw [List.getElem?_set_ne (Ne.symm hj)]; exact e2⟩
theorem add_nil : Γ.add [] = Γ := by
  unfold Cfg.add
  have : (fun a => Γ.O a ∨ a ∈ ([] : List Addr)) = Γ.O := funext fun a => propext ⟨fun z => z.elim id fun z => (by cases z), .inl⟩
  rw [this]
theorem add_add {qs : List Addr} : (Γ.add ps).add qs = Γ.add (ps ++ qs) := by
  unfold Cfg.add
  have : (fun a => (Γ.O a ∨ a ∈ ps) ∨ a ∈ qs) = fun a => Γ.O a ∨ a ∈ ps ++ qs := funext fun a => propext ⟨fun z => z.elim (fun z => z.elim .inl fun z => .inr (List.mem_append_left _ z)) fun z => .inr (List.mem_append_right _ z), fun z => z.elim (fun z => .inl (.inl z)) fun z => (List.mem_append.mp z).elim (fun z => .inl (.inr z)) .inr⟩
  show ({ Γ with O := fun a => (Γ.O a ∨ a ∈ ps) ∨ a ∈ qs } : Cfg) = _
  rw [this]
/-- the stores -/
def setV : L2.St → List Nat → List V → L2.St
  | σ, i :: is, v :: vs => setV (σ.set i (some v)) is vs
  | σ, _, _ => σ
theorem rowSet : ∀ {ts : List (Nat × Bool)} {ps : List Addr} {vs : List V} {ds : List PyData} {σ : L2.St} {env env' : Ev} {A : AP}, Good (Γ.add ps) σ H env t → RowW A Γ.K H ps (ts.map (·.2)) vs ds → (∀ a, Av (Γ.add ps) σ env a → A a) →
    (∀ p ∈ ps, Γ.H0 p = none ∧ ¬ Γ.O p ∧ Γ.tp ≠ some p) → parE ts ds env = some env' → (∀ x ∈ ts, x.1 < σ.length) → Good Γ (setV σ (ts.map (·.1)) vs) H env' t ∧ ∀ a, Av Γ (setV σ (ts.map (·.1)) vs) env' a → A a
  | [], ps, vs, ds, σ, env, env', A, G, r, s, hn, e, hl => by
    cases r
    have e' : some env = some env' := e
    cases e'
    rw [add_nil] at G s
    exact ⟨G, s⟩
  | (i, false) :: ts, ps, vs, ds, σ, env, env', A, G, r, s, hn, e, hl => by
    cases r with
    | @d _ _ v vs x ds rv r =>
      have e' : parE ts ds (env.set i (.d x)) = some env' := e
      obtain ⟨G2, s2⟩ := G.set (i := i) (hl _ List.mem_cons_self) (show Rp (Av (Γ.add ps) σ env) Γ.K H v x from Rp.moves (Moves.sub s) _ _ rv)
      exact rowSet (σ := σ.set i (some v)) (env := env.set i (.d x)) (A := A) G2 r (fun a z => s a (s2 a z)) hn e' fun y hy => by rw [List.length_set]; exact hl y (List.mem_cons_of_mem _ hy)
  | (i, true) :: ts, ps, vs, ds, σ, env, env', A, G, r, s, hn, e, hl => by
    cases r with
    | @o ps _ p us vs xs ds hp' ru np r =>
      have e' : parE ts ds (env.set i (.own xs)) = some env' := e
      obtain ⟨h0, nO, nt⟩ := hn p List.mem_cons_self
      obtain ⟨G2, s2⟩ := G.claim (i := i) hp' (RpAll.moves (Moves.sub s) _ _ ru) h0 nO np nt (hl _ List.mem_cons_self)
      exact rowSet (σ := σ.set i (some (.ref p))) (env := env.set i (.own xs)) (A := A) G2 r (fun a z => s a (s2 a z)) (fun q hq => hn q (List.mem_cons_of_mem _ hq)) e' fun y hy => by rw [List.length_set]; exact hl y (List.mem_cons_of_mem _ hy)
end
/-! ### the row is reckoned -/
def postR (Γ : Cfg) (σ : L2.St) (H : Hp) (env : Ev) (fl : List Bool) (Q : List V → Hp → Prop) : R (List PyData) → Prop
  | .ok ds t' => ∀ vs H' ps, Frame Γ.tp H H' → Good (Γ.add ps) σ H' env t' → (∀ p ∈ ps, H p = none) → RowW (Av (Γ.add ps) σ env) Γ.K H' ps fl vs ds → Q vs H'
  | .err k t' => ∀ H', Frame Γ.tp H H' → Good Γ σ H' env t' → Γ.E (Γ.ec k) none H'
  | .bad => False
def tR (Γ : Cfg) (F : Fn) (fl : List Bool) (cs : List E) : TA := fun σ H Q => ∃ env t, Good Γ σ H env t ∧ postR Γ σ H env fl Q (evP F fl cs env t)
abbrev DR (X : Cx) (Γ : Cfg) (F : Fn) (fl : List Bool) (es : List Expr) (cs : List E) : Prop := PA X es (tR Γ F fl cs)
end DL
/-! DLC: rows reckoned; a, b = x, y. -/
namespace DL
open PySem PySem.Spec PyProof.Rows L2
section
variable {X : Cx} {Γ : Cfg} {F : Fn} {n : Nat} {fl : List Bool} {a : Expr} {es : List Expr} {ca : E} {cs : List E} {pos : Pos}
theorem dr_nil : DR X Γ F [] [] [] := pa_nil.to fun σ H Q ⟨env, t, G, q⟩ => by
  have q' : ∀ vs H' ps, Frame Γ.tp H H' → Good (Γ.add ps) σ H' env t → (∀ p ∈ ps, H p = none) → RowW (Av (Γ.add ps) σ env) Γ.K H' ps [] vs [] → Q vs H' := q
  exact q' [] H [] Frame.refl (by rw [add_nil]; exact G) (fun p hp => by cases hp) .nil
theorem dr_d (ha : DE X Γ F a ca) (hr : DR X Γ F fl es cs) (hs : starEach (a :: es) X.env = (false, eval a X.env) :: starEach es X.env) : DR X Γ F (false :: fl) (a :: es) (ca :: cs) :=
  (pa_cons ha hr hs).to fun σ H Q ⟨env, t, G, q⟩ => by
    have q0 : postR Γ σ H env (false :: fl) Q ((ev F ca env t).bind fun w t1 => (optR (w.flag false) t1).bind fun d t2 => (evP F fl cs env t2).bind fun ds t3 => .ok (d :: ds) t3) := q
    clear q
    refine ⟨env, t, G, ?_⟩
    cases hv : ev F ca env t with
    | err k t1 => rw [hv] at q0; exact q0
    | bad => rw [hv] at q0; exact q0
    | ok w t1 =>
      rw [hv] at q0
      refine fun v H1 f1 G1 r1 => ⟨env, t1, G1, ?_⟩
      have q1 : postR Γ σ H env (false :: fl) Q ((optR (w.flag false) t1).bind fun d t2 => (evP F fl cs env t2).bind fun ds t3 => .ok (d :: ds) t3) := q0
      clear q0 hv
      cases w with
      | d x =>
        have q' : postR Γ σ H env (false :: fl) Q ((evP F fl cs env t1).bind fun ds t3 => .ok (x :: ds) t3) := q1
        cases hw : evP F fl cs env t1 with
        | err k t2 => rw [hw] at q'; exact fun H2 f2 G2 => q' H2 (f1.trans f2) G2
        | bad => rw [hw] at q'; exact q'
        | ok ds t2 =>
          rw [hw] at q'
          refine fun vs H2 ps f2 G2 hp r2 => q' (v :: vs) H2 ps (f1.trans f2) G2 (fun p h => f1.free (hp p h)) (.d ?_ r2)
          have r1' : Rp (Av Γ σ env) Γ.K H1 v x := r1
          refine Rp.moves (fun b o n' h k => ⟨f2.keep b o h (fun e => n' (avTape e)) k, fun z => ?_⟩) _ _ r1'
          rcases z with (z | z) | z
          · exact n' (.inl z)
          · rw [hp b z] at h; cases h
          · exact n' (.inr z)
      | un => exact False.elim q1
      | own _ => exact False.elim q1
      | tape => exact False.elim q1
      | fresh _ => exact False.elim q1
theorem dr_o (ha : DF X Γ F a ca) (hr : ∀ p, DR X (Γ.add [p]) F fl es cs) (hs : starEach (a :: es) X.env = (false, eval a X.env) :: starEach es X.env) : DR X Γ F (true :: fl) (a :: es) (ca :: cs) := by
  -- the rest, whichever the new list
  have hall : PA X es fun σ H Q => ∃ p, tR (Γ.add [p]) F fl cs σ H Q := ⟨fun pos pins s σ H Q I ⟨p, h⟩ => (hr p).run pos pins s σ H Q I h⟩
  refine (pa_cons ha hall hs).to fun σ H Q ⟨env, t, G, q⟩ => ?_
  have q0 : postR Γ σ H env (true :: fl) Q ((ev F ca env t).bind fun w t1 => (optR (w.flag true) t1).bind fun d t2 => (evP F fl cs env t2).bind fun ds t3 => .ok (d :: ds) t3) := q
  clear q
  refine ⟨env, t, G, ?_⟩
  cases hv : ev F ca env t with
  | err k t1 => rw [hv] at q0; exact q0
  | bad => rw [hv] at q0; exact q0
  | ok w t1 =>
    rw [hv] at q0
    have q1 : postR Γ σ H env (true :: fl) Q ((optR (w.flag true) t1).bind fun d t2 => (evP F fl cs env t2).bind fun ds t3 => .ok (d :: ds) t3) := q0
    clear q0 hv
    by_cases z : ∃ xs, w = .d (.list xs)
    · obtain ⟨xs, rfl⟩ := z
      have q' : postR Γ σ H env (true :: fl) Q ((evP F fl cs env t1).bind fun ds t3 => .ok (.list xs :: ds) t3) := q1
      intro p us H1 hp hp' f1 G1 tr r
      refine ⟨p, env, t1, G1.more f1 G hp hp' tr, ?_⟩
      cases hw : evP F fl cs env t1 with
      | err k t2 => rw [hw] at q'; exact fun H2 f2 G2 => q' H2 (f1.trans f2) G2.less
      | bad => rw [hw] at q'; exact q'
      | ok ds t2 =>
        rw [hw] at q'
        intro vs H2 ps f2 G2 hps r2
        rw [add_add] at G2 r2
        have np : p ∉ ps := fun z => by
          have := hps p z
          rw [hp'] at this; cases this
        have nt : Γ.tp ≠ some p := fun z => by
          obtain ⟨_, e, _⟩ := G.tape p z
          rw [hp] at e; cases e
        have e2 : H2 p = some (.lst us) := f2.keep p _ hp' nt (fun _ z => by cases z)
        refine q' (.ref p :: vs) H2 (p :: ps) (f1.trans f2) G2 (fun b hb => ?_) (.o e2 ?_ np r2)
        · rcases List.mem_cons.mp hb with rfl | hb
          · exact hp
          · exact f1.free (hps b hb)
        · refine RpAll.moves (fun b o n' h k => ⟨f2.keep b o h (fun e => n' (.inl (avTape e))) k, fun z => ?_⟩) _ _ r
          rcases z with (z | z) | z
          · exact n' (.inl (.inl z))
          · rcases List.mem_cons.mp z with rfl | z
            · exact n' (.inr rfl)
            · rw [hps b z] at h; cases h
          · exact n' (.inl (.inr z))
    · -- no list: the row is bad
      have hb : w.flag true = none := by
        cases w with
        | d x => cases x <;> first | rfl | exact absurd ⟨_, rfl⟩ z
        | _ => rfl
      rw [hb] at q1
      exact False.elim q1
/-! ### the statements -/
/-- what a row of stores asks -/
theorem row_stores {σ : L2.St} {H H1 : Hp} {env : Ev} {t t1 : DL.T} {D : Ends} {ts : List (Nat × Bool)} {vs : List V} {ds : List PyData} {ps : List Addr} (G0 : Good Γ σ H env t) (hl : ∀ x ∈ ts, x.1 < σ.length)
    (q : postS Γ σ H env D (match parE ts ds env with
      | some e' => .nx e' t1
      | none => .bad)) (f1 : Frame Γ.tp H H1) (G1 : Good (Γ.add ps) σ H1 env t1) (hp : ∀ p ∈ ps, H p = none) (r : RowW (Av (Γ.add ps) σ env) Γ.K H1 ps (ts.map (·.2)) vs ds) : D.nx (setV σ (ts.map (·.1)) vs) H1 := by
  cases he : parE ts ds env with
  | none => rw [he] at q; exact False.elim q
  | some e' =>
    rw [he] at q
    obtain ⟨G2, s2⟩ := rowSet G1 r (fun a z => z) (fun p h => ⟨G0.fr.free (hp p h), fun z => G0.oh p z (hp p h), fun z => by
      obtain ⟨_, e, _⟩ := G0.tape p z
      rw [hp p h] at e; cases e⟩) he hl
    refine q _ H1 G2 fun b o n' h k => ⟨f1.keep b o h (fun e => n' (avTape e)) k, fun z => ?_⟩
    rcases s2 b z with (z | z) | z
    · exact n' (.inl z)
    · rw [hp b z] at h; cases h
    · exact n' (.inr z)
/-- the row, then the stores -/
theorem tR.of {σ : L2.St} {H : Hp} {env : Ev} {t : DL.T} {D : Ends} {ts : List (Nat × Bool)} {Q : List V → Hp → Prop} (G : Good Γ σ H env t) (hl : ∀ x ∈ ts, x.1 < σ.length)
    (q : postS Γ σ H env D ((evP F (ts.map (·.2)) cs env t).out fun xs t1 => match parE ts xs env with
      | some e' => .nx e' t1
      | none => .bad))
    (hq : ∀ vs H', vs.length = ts.length → D.nx (setV σ (ts.map (·.1)) vs) H' → Q vs H') : tR Γ F (ts.map (·.2)) cs σ H Q := by
  refine ⟨env, t, G, ?_⟩
  cases hv : evP F (ts.map (·.2)) cs env t with
  | err k t1 => rw [hv] at q; exact fun H2 f2 G2 => q H2 G2.lv
  | bad => rw [hv] at q; exact False.elim q
  | ok ds t1 =>
    rw [hv] at q
    exact fun vs H' ps f' G' hp r => hq vs H' (by rw [r.length, List.length_map]) (row_stores G hl q f' G' hp r)
theorem ds_par2 {i j : Nat} {fi fj : Bool} {x y : Str} {a b : Expr} {px py pt : Pos} {kt k2 pt2} (hc : X.calm = true) (hN : X.N.Nodup) (hi : X.N[i]? = some x) (hj : X.N[j]? = some y) (hij : i ≠ j)
    (hx : X.env.scope.names.lookup x = some .local) (hy : X.env.scope.names.lookup y = some .local) (ha : DR X Γ F [fi, fj] [a, b] cs)
    (hw : swappedStores [.Tuple [.Name x px, .Name y py] kt pt] (.Tuple [a, b] k2 pt2) X.env = pure (some [x, y])) :
    DS X Γ F n (.Assign [.Tuple [.Name x px, .Name y py] kt pt] (.Tuple [a, b] k2 pt2) pos) (.par [(i, fi), (j, fj)] cs) :=
  (ps_par hc hN hi hj hij hx hy ha hw rfl).to fun D σ H hlen ⟨env, t, G, q⟩ => by
    refine tR.of (ts := [(i, fi), (j, fj)]) G (fun x hx => ?_) (by exact q) fun vs H' hl h => ?_
    · rw [hlen]
      rcases List.mem_cons.mp hx with rfl | hx
      · exact (List.getElem?_eq_some_iff.mp hi).1
      · rcases List.mem_cons.mp hx with rfl | hx
        · exact (List.getElem?_eq_some_iff.mp hj).1
        · cases hx
    · match vs, hl with
      | [v, w], _ => exact ⟨v, w, rfl, h⟩
theorem ds_par3 {i j l : Nat} {fi fj fl' : Bool} {x y z : Str} {a b c : Expr} {px py pz pt : Pos} {kt k2 pt2} (hc : X.calm = true) (hN : X.N.Nodup) (hi : X.N[i]? = some x) (hj : X.N[j]? = some y) (hl : X.N[l]? = some z) (hij : i ≠ j) (hil : i ≠ l) (hjl : j ≠ l)
    (hx : X.env.scope.names.lookup x = some .local) (hy : X.env.scope.names.lookup y = some .local) (hz : X.env.scope.names.lookup z = some .local) (ha : DR X Γ F [fi, fj, fl'] [a, b, c] cs)
    (hw : swappedStores [.Tuple [.Name x px, .Name y py, .Name z pz] kt pt] (.Tuple [a, b, c] k2 pt2) X.env = pure (some [x, y, z])) :
    DS X Γ F n (.Assign [.Tuple [.Name x px, .Name y py, .Name z pz] kt pt] (.Tuple [a, b, c] k2 pt2) pos) (.par [(i, fi), (j, fj), (l, fl')] cs) :=
  (ps_par3 hc hN hi hj hl hij hil hjl hx hy hz ha hw rfl).to fun D σ H hlen ⟨env, t, G, q⟩ => by
    refine tR.of (ts := [(i, fi), (j, fj), (l, fl')]) G (fun x hx => ?_) (by exact q) fun vs H' hl' h => ?_
    · rw [hlen]
      rcases List.mem_cons.mp hx with rfl | hx
      · exact (List.getElem?_eq_some_iff.mp hi).1
      · rcases List.mem_cons.mp hx with rfl | hx
        · exact (List.getElem?_eq_some_iff.mp hj).1
        · rcases List.mem_cons.mp hx with rfl | hx
          · exact (List.getElem?_eq_some_iff.mp hl).1
          · cases hx
    · match vs, hl' with
      | [u, v, w], _ => exact ⟨u, v, w, rfl, h⟩
/-! through a tuple -/
/-- names in a row -/
inductive NamesG (X : Cx) : List Expr → List Nat → Prop
  | nil : NamesG X [] []
  | cons {x : Str} {p : Pos} {i : Nat} {es : List Expr} {is : List Nat} : X.N[i]? = some x → Loc X.env.scope x → (X.fn x = true ∨ X.env.scope.names.lookup x = some .local) → NamesG X es is → NamesG X (.Name x p :: es) (i :: is)
theorem NamesG.pg (hN : X.N.Nodup) : ∀ {es : List Expr} {is : List Nat}, NamesG X es is → PGs X es fun vs σ H Q => vs.length = is.length ∧ Q (setV σ is vs) H
  | _, _, .nil => pgs_nil.toG fun vs σ H Q ⟨hl, q⟩ => by
    cases vs with
    | nil => exact ⟨rfl, q⟩
    | cons _ _ => cases hl
  | _, _, .cons hi hx hf h => (pgs_cons (pg_name hN hi hx hf) (NamesG.pg hN h)).toG fun vs σ H Q ⟨hl, q⟩ => by
    cases vs with
    | nil => cases hl
    | cons v vs => exact ⟨v, vs, rfl, by simpa using hl, q⟩
theorem NamesG.lt : ∀ {es : List Expr} {is : List Nat}, NamesG X es is → ∀ i ∈ is, i < X.N.length
  | _, _, .nil, i, h => by cases h
  | _, _, .cons hi _ _ h, i, hm => by
    rcases List.mem_cons.mp hm with rfl | hm
    · exact (List.getElem?_eq_some_iff.mp hi).1
    · exact NamesG.lt h i hm
theorem NamesG.star : ∀ {es : List Expr} {is : List Nat}, NamesG X es is → (assignEach es X.env).length = is.length ∧ (assignEach es X.env).findIdx? (·.1) = none
  | _, _, .nil => ⟨rfl, rfl⟩
  | _, _, .cons (x := x) (p := p) (es := es) (is := is) _ _ _ h => by
    obtain ⟨h1, h2⟩ := NamesG.star h
    show ((false, assign (.Name x p) X.env) :: assignEach es X.env).length = _ ∧ ((false, assign (.Name x p) X.env) :: assignEach es X.env).findIdx? (·.1) = none
    refine ⟨by rw [List.length_cons, List.length_cons, h1], ?_⟩
    rw [List.findIdx?_cons, h2]
    rfl
theorem RowW.same {A : AP} {K : PySem.W.Frag} {H H' : Hp} {ps : List Addr} {fl : List Bool} {vs : List V} {ds : List PyData} (h : RowW A K H ps fl vs ds) (s : Same H H') : RowW A K H' ps fl vs ds := by
  induction h with
  | nil => exact .nil
  | d r _ ih => exact .d (Rp.moves (moves_same s) _ _ r) ih
  | o e r n _ ih => exact .o (s _ _ e) (RpAll.moves (moves_same s) _ _ r) n ih
theorem ds_parN {ts : List (Nat × Bool)} {es vs : List Expr} {kt k2 : Nat} {pt p2 : Pos} (hc : X.calm = true) (hN : X.N.Nodup) (hn : NamesG X es (ts.map (·.1))) (hz : ts.length ≤ 1000) (ha : DR X Γ F (ts.map (·.2)) vs cs)
    (hw : swappedStores [.Tuple es kt pt] (.Tuple vs k2 p2) X.env = pure none) : DS X Γ F n (.Assign [.Tuple es kt pt] (.Tuple vs k2 p2) pos) (.par ts cs) :=
  (ps_asg (pe_tup ha) (pg_tup hc (hn.pg hN) hn.star.1 hn.star.2) rfl hw rfl).to fun D σ H hlen ⟨env, t, G, q⟩ => by
    refine ⟨env, t, G, ?_⟩
    have hl : ∀ x ∈ ts, x.1 < σ.length := fun x hx => by
      rw [hlen]
      exact hn.lt x.1 (List.mem_map.mpr ⟨x, hx, rfl⟩)
    have q' : postS Γ σ H env D ((evP F (ts.map (·.2)) cs env t).out fun xs t1 => match parE ts xs env with
      | some e' => .nx e' t1
      | none => .bad) := q
    cases hv : evP F (ts.map (·.2)) cs env t with
    | err k t1 => rw [hv] at q'; exact fun H2 f2 G2 => q' H2 G2.lv
    | bad => rw [hv] at q'; exact False.elim q'
    | ok ds t1 =>
      rw [hv] at q'
      refine fun ws H' ps f' G' hp r => ?_
      have lw : ws.length = ts.length := by rw [r.length, List.length_map]
      refine ⟨by rw [lw, sizeLine_eq]; omega, fun p hpn => ⟨p, ws, rfl, .inl (.inl upd_same), by rw [lw, List.length_map], by rw [lw, List.length_map], ?_⟩⟩
      have sm : Same H' (upd H' p (.tup ws)) := same_upd' hpn
      exact row_stores G hl q' (f'.trans (same_frame sm)) (G'.same sm) hp (r.same sm)
end
end DL
/-! DLE: dict([(k, v), ..]) is walked. -/
namespace DL
open PySem PySem.Spec PyProof.Rows L2
/-- each once, the first place -/
def ddK : List Key → List Key
  | [] => []
  | x :: xs => x :: (ddK xs).filter fun y => !decide (y = x)
def inK (ks : List Key) (k : Key) : Bool := ks.any fun y => decide (y = k)
def fst (kvs : List (Key × V)) : List Key := kvs.map fun p => p.1
theorem inK_app (as bs : List Key) (k : Key) : inK (as ++ bs) k = (inK as k || inK bs k) := List.any_append ..
theorem putK_fst (kvs : List (Key × V)) (k : Key) (v : V) : fst (putK kvs k v) = if inK (fst kvs) k = true then fst kvs else fst kvs ++ [k] := by
  unfold putK fst
  have e : (kvs.any fun kv => decide (kv.1 = k)) = inK (kvs.map fun p => p.1) k := by
    unfold inK
    rw [List.any_map]
    rfl
  rw [e]
  by_cases h : inK (kvs.map fun p => p.1) k = true
  · rw [if_pos h, if_pos h, List.map_map]
    refine List.map_congr_left fun p _ => ?_
    show (if p.1 = k then (p.1, v) else p).1 = p.1
    split <;> rfl
  · rw [if_neg h, if_neg h, List.map_append]
    rfl
theorem merge_fst : ∀ (more kvs : List (Key × V)), fst (mergeK kvs more) = fst kvs ++ (ddK (fst more)).filter fun k => !inK (fst kvs) k
  | [], kvs => by
    show fst kvs = fst kvs ++ []
    rw [List.append_nil]
  | (k, v) :: r, kvs => by
    have ih := merge_fst r (putK kvs k v)
    rw [putK_fst] at ih
    show fst (mergeK (putK kvs k v) r) = fst kvs ++ (k :: (ddK (fst r)).filter fun y => !decide (y = k)).filter fun k => !inK (fst kvs) k
    rw [ih]
    cases h : inK (fst kvs) k with
    | true =>
      rw [if_pos rfl, List.filter_cons, if_neg (by rw [h]; decide), List.filter_filter]
      congr 1
      refine List.filter_congr fun y _ => ?_
      by_cases hy : y = k
      · subst hy; rw [h]; simp
      · rw [decide_eq_false hy]; simp
    | false =>
      rw [if_neg (by decide), List.filter_cons, if_pos (by rw [h]; rfl), List.filter_filter, List.append_assoc]
      congr 1
      show k :: _ = _
      congr 1
      refine List.filter_congr fun y _ => ?_
      have e : inK [k] y = decide (k = y) := by unfold inK; simp
      rw [inK_app, e]
      by_cases hy : y = k
      · subst hy; simp
      · have : ¬ k = y := fun z => hy z.symm
        rw [decide_eq_false hy, decide_eq_false this]; simp
def kD : Key → PyData
  | .inl i => PyData.int i
  | .inr x => PyData.str x
theorem dedup_int : ∀ ks : List Int, dedupD (ks.map PyData.int) = (ddK (ks.map Sum.inl)).map kD
  | [] => rfl
  | k :: ks => by
    show PyData.int k :: (dedupD (ks.map PyData.int)).filter (fun y => !PyData.eqv (PyData.int k) y) = PyData.int k :: ((ddK (ks.map Sum.inl)).filter fun y => !decide (y = Sum.inl k)).map kD
    rw [dedup_int ks, List.filter_map]
    congr 2
    refine List.filter_congr fun y _ => ?_
    cases y with
    | inl i =>
      show (!PyData.eqv (.int k) (.int i)) = !decide ((Sum.inl i : Key) = Sum.inl k)
      by_cases h : i = k
      · subst h; simp [PyData.eqv]
      · have : ¬ k = i := fun z => h z.symm
        simp [PyData.eqv, h, this]
    | inr x =>
      show (!PyData.eqv (.int k) (.str x)) = !decide ((Sum.inr x : Key) = Sum.inl k)
      simp [PyData.eqv]
/-- the pairs of a list -/
theorem pairs_in {A : AP} {K : PySem.W.Frag} {H : Hp} : ∀ {xs : List PyData} {ks : List PyData} {vs : List V}, keysOf xs = some ks → RpAll A K H vs xs →
    ∃ (ps : List Addr) (kvs : List (Key × V)) (is : List Int), vs = ps.map V.ref ∧ Paired (fun p kv => SqT K H p [kV kv.1, kv.2]) ps kvs ∧ ks = is.map PyData.int ∧ fst kvs = is.map Sum.inl
  | [], ks, vs, e, r => by
    cases e
    cases r
    exact ⟨[], [], [], rfl, .nil, rfl, rfl⟩
  | d :: xs, ks, vs, e, r => by
    have key : ∃ k y ks', d = .tuple [.int k, y] ∧ keysOf xs = some ks' ∧ ks = .int k :: ks' := by
      cases d with
      | tuple ys =>
        match ys, e with
        | [.int k, y], e =>
          have e' : (keysOf xs).map (PyData.int k :: ·) = some ks := e
          obtain ⟨ks', h1, h2⟩ := Option.map_eq_some_iff.mp e'
          exact ⟨k, y, ks', rfl, h1, h2.symm⟩
      | _ => cases e
    obtain ⟨k, y, ks', rfl, h1, rfl⟩ := key
    cases r with
    | cons r1 r2 =>
      obtain ⟨ps, kvs, is, rfl, h3, rfl, h5⟩ := pairs_in h1 r2
      cases r1 with
      | @tup a us _ ht ru =>
        cases ru with
        | cons u1 ru =>
          cases ru with
          | cons u2 ru =>
            cases ru
            cases u1
            exact ⟨a :: ps, (.inl k, _) :: kvs, k :: is, rfl, .cons ht.sq h3, rfl, by show Sum.inl k :: fst kvs = _; rw [h5]; rfl⟩
section
variable {X : Cx} {Γ : Cfg} {F : Fn} {o : Bool} {tg a e : Expr} {ca : E} {p pos : Pos}
/-- a value is locked for good -/
theorem pe_lockV {te : TE} (h : PE X e te) : PE X e fun σ H Q => te σ H fun v H1 => ∃ d u, v = .ref d ∧ H1 d = some u ∧ Mut (some u) ∧ ∀ od, Q v (upd H1 d (.frz od u)) :=
  ⟨fun pins s σ H Q I q => thn (h.run pins s σ H _ I q) fun v s1 ⟨x, H1, I1, r, d, u, e, hd, mu, q1⟩ => by
    obtain ⟨od, I2⟩ := I1.lock hd mu
    exact ⟨x, _, I2, r, q1 od⟩⟩
theorem di_dk (hK : Γ.K = X.K) (hc : X.calm = true) (hg : Gl X "dict") (hm : X.mg "dict" = none) (ha : DE X Γ F a ca) (hs : starEach [a] X.env = (false, eval a X.env) :: starEach [] X.env) : DI X Γ F o tg (.Call (.Name "dict" p) [a] [] pos) (.dk ca) := by
  refine PI.toI (pi_keys (pe_lockV (pe_callTy (call_dictP hc) hg hm PyProof.Rows.boot_dict (pa_cons ha pa_nil hs) (by decide) (by decide) hs rfl))) fun σ H R ⟨env, t, G, q⟩ => ?_
  show tE Γ F ca σ H _
  refine tE.of G q fun v H1 w t1 f1 G1 r1 q1 => ?_
  obtain ⟨xs, e1, q2⟩ := q1.opt
  obtain ⟨d, e2, e3⟩ := bind_of e1
  cases d with
  | list ys =>
    obtain ⟨ks, e4, rfl⟩ := map_of (show (keysOf ys).map dedupD = some xs from e3)
    obtain ⟨b, vs, rfl, hS, rr⟩ := (G1.rb r1 e2).list
    obtain ⟨ps, kvs, is, rfl, hp, rfl, hf⟩ := pairs_in e4 rr
    rw [hK] at hS hp
    refine ⟨b, ps, kvs, rfl, hS.sq, hp, fun c hn => ⟨c, _, rfl, upd_same, trivial, fun od => ⟨c, od, rfl, .inl ⟨mergeK [] kvs, upd_same, ?_⟩⟩⟩⟩
    have sm : Same H1 (upd (upd H1 c (.dK (mergeK [] kvs))) c (.frz od (.dK (mergeK [] kvs)))) := fun b' o' z => by
      rw [L2.upd_upd, upd_ne (ne_of_none z hn)]
      exact z
    refine q2 _ _ (same_frame sm) (G1.same sm) ?_
    have hx : dedupD (is.map PyData.int) = (mergeK [] kvs).map fun kv => kD kv.1 := by
      rw [dedup_int, ← hf]
      have := merge_fst kvs []
      rw [show fst ([] : List (Key × V)) = [] from rfl, List.nil_append] at this
      have e5 : ((ddK (fst kvs)).filter fun k => !inK [] k) = ddK (fst kvs) := List.filter_eq_self.mpr fun k _ => rfl
      rw [e5] at this
      rw [← this]
      unfold fst
      rw [List.map_map]
      rfl
    rw [hx]
    have st : ∀ H' A, StW o Γ.tp (Av Γ σ env) (upd (upd H1 c (.dK (mergeK [] kvs))) c (.frz od (.dK (mergeK [] kvs)))) H' A → H' c = some (.frz od (.dK (mergeK [] kvs))) := fun H' A g =>
      (g.1 c _ (G1.free hn) upd_same (fun _ z => by cases z)).1
    refine ⟨fun i H' A hi g => ⟨st H' A g, by simpa using hi⟩, fun H' A g => ⟨st H' A g, by simp⟩, fun i H' A x H'' hi g y => ?_⟩
    obtain ⟨rfl, k, v, hk, rfl⟩ := y
    refine ⟨Same.refl _, fun _ z => z, kD k, by rw [List.getElem?_map, hk]; rfl, ?_⟩
    cases k with
    | inl i => exact .int i
    | inr x => exact .str x
  | _ => cases e3
end
end DL
/-! DLF: {e for ..} of ints: the block's run. -/
namespace DL
open PySem PySem.Spec PyProof.Rows L2 PpSet
/-- the set at a holds the ints of S, m of them -/
abbrev IS (w : World) (a : Addr) (S : Int → Bool) (m : Nat) : HO := SetO w a S m
section
variable {X : Cx}
/-- the set grows -/
theorem grow {pins : List (Addr × Obj)} {σ : L2.St} {H : Hp} {s : Shared} {E : Value → Shared → Prop} {a : Addr} {S : Int → Bool} {m : Nat} {k : Int} {tk : Tok} {Q : Value → Shared → Prop} (I : Inv X pins σ H s) (ha : H a = some (IS X.w a S m))
    (hm : m + 1 < scanBound) (q : ∀ s', Inv X pins σ (upd H a (IS X.w a (fun j => S j || decide (j = k)) (if S k = true then m else m + 1))) s' → Q .none s') : wpAny (model X.prog X.w) X.A (call (.builtin "set.add") [.ref a, .int k tk]) Q E s :=
  setR_add (setO_get I ha) hm fun h' sb R' => by
    obtain ⟨o, _, _, _, ho, _⟩ := id R'
    refine q _ (I.write (e := a) (t' := s.toks + 1) (by rw [ha]; trivial) (.inl rfl) (fun b u hb hu => ?_) ⟨o, ho⟩ (setO_new R'))
    rw [sb.2 b hb]
    exact hu
/-- what a turn asks: J the walk, N what stands behind it -/
def turnI (w : World) (J : L2.It) (g : TG) (tt : TT) (te : TE) (vs : List Nat) (σ : L2.St) (D : Addr) (i : Nat) (H : Hp) (N : Hp → Prop) : Prop :=
  J.go i H ∧ ∀ x H', J.yld i H x H' → g x (L2.wipe σ vs) H' fun σ2 H2 => L2.wipe σ2 vs = L2.wipe σ vs ∧ tt σ2 H2 fun b H3 => if b = true then te σ2 H3 fun y H4 => ∃ (k : Int) (S : Int → Bool) (m : Nat), y = .int k ∧ H4 D = some (IS w D S m) ∧ m + 1 < scanBound ∧ N (upd H4 D (IS w D (fun j => S j || decide (j = k)) (if S k = true then m else m + 1))) else N H3
/-- the reading: an invariant W of the turn's place, a measure -/
def tSi (w : World) (wi : TI) (g : TG) (tt : TT) (te : TE) (vs : List Nat) : TE := fun σ H Q => wi σ H fun J H1 => ∀ D, H1 D = none → ∃ W : Nat → Nat → Hp → Prop, (∃ m, W 0 m (upd H1 D (IS w D (fun _ => false) 0))) ∧
  ∀ i m H, W i m H → (J.stop i H ∧ Q (.ref D) H) ∨ ∃ N : Hp → Prop, (∀ H', N H' → ∃ m', m' < m ∧ W (i + 1) m' H') ∧ turnI w J g tt te vs σ D i H N
/-- the block's own places stand behind a turn -/
theorem still {fp : List Addr} {scope : Scope} {ce : Env} {z : Shared} {Hz : Hp} {τ : L2.St} {H' : Hp} {s' : Shared} (I : Inv (X.blk z Hz scope ce fp) [] τ H' s') (n : ∀ b ∈ fp, H' b = none) : ∀ b ∈ fp, FpOk (X.blk z Hz scope ce fp) [] H' b := fun b hb => by
  have e := I.ok.exf b hb
  refine ⟨n b hb, e.1, I.ok.exfs b hb, .inl hb, fun x c q => e.2 x c q, fun p hp => ?_⟩
  cases (show p ∈ ([] : List (Addr × Obj)) from by simpa using hp)
/-- {elt for tg in iter if ..}, every elt an int -/
theorem pe_si {elt tg iter : Expr} {ifs : List Expr} {scope : Scope} {own : List (Str × Nat)} {pos : Pos} {wi : TI} {g : TG} {tt : TT} {te : TE} (hc : X.calm = true) (hN : X.N.Nodup) (hi : PI X tg iter wi) (ok : BlkOk X.N X.env.scope scope own)
    (hg : ∀ (s : Shared) (H : Hp) (C : Addr) (cl : List (Str × Addr)) (fp : List Addr), PG (X.blk s H scope (compEnvC scope cl C X.env) fp) tg g)
    (ht : ∀ (s : Shared) (H : Hp) (C : Addr) (cl : List (Str × Addr)) (fp : List Addr), PTs (X.blk s H scope (compEnvC scope cl C X.env) fp) ifs tt)
    (he : ∀ (s : Shared) (H : Hp) (C : Addr) (cl : List (Str × Addr)) (fp : List Addr), PE (X.blk s H scope (compEnvC scope cl C X.env) fp) elt te)
    (hs : ∀ x, foldedSetIterable iter X.env x = pure x) : PE X (.SetComp elt [⟨tg, iter, ifs, 0⟩] scope pos) (tSi X.w wi g tt te (own.map (·.2))) := by
  refine ⟨fun pins s σ H Q I h => ?_⟩
  rw [eval_SetComp]
  have closes : ∀ y ∈ scope.names, y.2 = .free → ∃ c, X.env.cells.lookup y.1 = some c := fun y hy e =>
    (ok.free y hy e).elim (fun k => I.ok.has _ (.inl k)) fun k => I.ok.has _ (.inr k)
  have laid := hi.run pins s σ H _ I h
  refine wpAny_comprehension_free (use := none) rfl hs (closure_ok closes) ok.kind (fun y hy e => by rw [ok.uniq y hy, e]) (thn laid fun xv s1 hx => thn hx fun itv sa ha => ?_)
  clear laid
  obtain ⟨it, fp, tn, J, Ha, ei, Ia, T, sta, fpa, q⟩ := ha
  subst ei
  refine newSet_ok (newEnv_comp ?_)
  -- the set's place
  have fresh : Ha sa.heap.objs.size = none := Ia.hok.fresh (Nat.le_refl _)
  obtain ⟨W, ⟨m0, w0⟩, turn⟩ := q sa.heap.objs.size fresh
  have new : SetR X.w (sa.heap.push { cls := .type "set", dict := none, data := .set #[] 0 (.fresh 0 0 (!X.w.params.followText "set-order")) }) sa.heap.objs.size (fun _ => false) 0 := by
    have z := setR_new_at (w := X.w) (ns := []) (Heap.get?_push_size sa.heap (o := { cls := .type "set", dict := none, data := .set #[] 0 (.fresh 0 0 (!X.w.params.followText "set-order")) }) rfl)
    have e : (fun j => decide (j ∈ ([] : List Int).take 0)) = fun _ => false := funext fun j => by simp
    rw [e] at z
    exact z
  have grown : ∀ b o, sa.heap.get? b = some o → (sa.heap.push { cls := .type "set", dict := none, data := .set #[] 0 (.fresh 0 0 (!X.w.params.followText "set-order")) }).get? b = some o := fun b o e => Heap.get?_push_of_some _ e
  have Ib := Ia.laid (t' := sa.toks) (a := sa.heap.objs.size) grown (Nat.le_refl _) (setO_new new)
  have young : ∀ b ∈ fp, b < sa.heap.objs.size := fun b hb => (T.obj _ _ sta b hb).elim fun o e => Heap.lt_size e.1
  have stb := T.keep _ _ _ sta fun b _ o e => grown b o e
  generalize hz : ({ sa with heap := sa.heap.push { cls := .type "set", dict := none, data := .set #[] 0 (.fresh 0 0 (!X.w.params.followText "set-order")) } } : Shared) = sb
  have hb1 : sb.heap = sa.heap.push { cls := .type "set", dict := none, data := .set #[] 0 (.fresh 0 0 (!X.w.params.followText "set-order")) } := by rw [← hz]
  have Ib' : Inv X pins σ (upd Ha sa.heap.objs.size (IS X.w sa.heap.objs.size (fun _ => false) 0)) sb := by rw [← hz]; exact Ib
  rw [← hb1] at stb
  have older : sa.heap.objs.size < sb.heap.objs.size := by rw [hb1, Heap.size_push]; exact Nat.lt_succ_self _
  clear Ib new grown
  generalize hD : sa.heap.objs.size = D at *
  generalize hHb : upd Ha D (IS X.w D (fun _ => false) 0) = Hb at *
  have fpb : ∀ b ∈ fp, FpOk X pins Hb b ∧ b < sb.heap.objs.size := fun b hb => by
    have lt := young b hb
    refine ⟨⟨?_, (fpa b hb).2⟩, Nat.lt_trans lt older⟩
    rw [← hHb, upd_ne (Nat.ne_of_lt lt)]
    exact (fpa b hb).1
  have Ic := block_start Ib' ok hN fpb
  clear hz
  generalize hvs : own.map (·.2) = vs at *
  generalize hcl : cellsFrom (sb.heap.objs.size + 1) scope.names (cloFrom X.env.cells scope.names []) = cl at *
  have rg := hg sb Hb sb.heap.objs.size cl fp
  have rt := ht sb Hb sb.heap.objs.size cl fp
  have re := he sb Hb sb.heap.objs.size cl fp
  show codeAny (model X.prog X.w) X.A (.compStart (.SetComp elt [⟨tg, iter, ifs, 0⟩] scope pos) 0 (.ref it) (.ref D) (compEnvC scope cl sb.heap.objs.size X.env)) _ { sb with heap := pushCells (sb.heap.push { cls := .type "dict", data := .dict #[] }) scope.names }
  have none_fp : ∀ b ∈ fp, Hb b = none := fun b hb => (fpb b hb).1.1
  have place : (compEnvC scope cl sb.heap.objs.size X.env).locals = sb.heap.objs.size := rfl
  generalize hce : compEnvC scope cl sb.heap.objs.size X.env = ce at *
  generalize hsc : ({ sb with heap := pushCells (sb.heap.push { cls := .type "dict", data := .dict #[] }) scope.names } : Shared) = sc at *
  have stc : tn 0 sc.heap := T.keep _ _ _ stb fun b _ o e => by rw [← hsc]; exact pushCells_keeps _ _ _ _ (Heap.get?_push_of_some _ e)
  have walk : codeAny (model X.prog X.w) X.A (.compLoop (.SetComp elt [⟨tg, iter, ifs, 0⟩] scope pos) 0 (.ref it) (.ref D) ce) (compPost (model X.prog X.w) X.A X.xe none (EP X pins σ Q) (.ref D) sb.heap.objs.size) sc := by
    refine compLoopS_any (fun m z => ∃ i Hz, Inv (X.blk sb Hb scope ce fp) [] (L2.wipe σ vs) Hz z ∧ tn i z.heap ∧ (∀ b ∈ fp, Hz b = none) ∧ W i m Hz) ?_ m0 ⟨0, Hb, Ic, stc, none_fp, w0⟩
    intro m z ⟨i, Hz, Iz, stz, nz, wz⟩
    rcases turn i m Hz wz with ⟨stop, qd⟩ | ⟨N, later, go, step⟩
    · have ends := T.done (X.blk sb Hb scope ce fp) rfl rfl rfl hc i [] z _ Hz (fun _ _ => False) Iz (still Iz nz) stz stop
      refine thnF ends fun r z1 ⟨hr, I1⟩ => ?_
      subst hr
      have J1 : Inv X pins σ Hz z1 := by
        refine Ib'.call' (ch := fp) I1.os I1.base I1.hok I1.bare fun b hb => ?_
        obtain ⟨f0, f1, f2, f3, f4, f5⟩ := (fpb b hb).1
        exact ⟨f3, f1, f4, f5⟩
      have nC : Hz sb.heap.objs.size = none := by
        have e : Hz ce.locals = none := I1.free
        rw [place] at e
        exact e
      obtain ⟨mm, hn, _⟩ := I1.loc
      have hn : z1.heap.Ns ce.locals mm := hn
      rw [place] at hn
      refine ⟨mm, hn, fun h2 same => ?_⟩
      obtain ⟨f0, f1, f2, f3, f4, f5⟩ := Ib'.fpOk (Nat.le_refl _) nC
      exact ⟨.ref D, Hz, J1.turned (t' := z1.toks) (fun b o hb e => by rw [same.2 b hb]; exact e) f0 f1 f3 f4 f5, rfl, qd⟩
    · have item := T.item (X.blk sb Hb scope ce fp) rfl rfl rfl hc i [] z _ Hz (fun _ _ => False) Iz (still Iz nz) stz go
      refine thnF item fun r z1 ⟨u, hr, h1⟩ => ?_
      subst hr
      refine thnF h1 fun _ z2 ⟨x, H2, I2, r2, y2, st2, n2⟩ => ?_
      have P2 := I2.pinned (still I2 n2) (T.obj _ _ st2)
      refine thnF (rg.run _ z2 _ H2 x u _ P2 r2 (step x H2 y2)) fun _ z3 ⟨σ3, H3, I3, w3, q3⟩ => ?_
      refine thnF (rt.run _ z3 σ3 H3 _ I3 q3) fun b z4 ⟨H4, I4, q4⟩ => ?_
      have back : ∀ {z' : Shared} {H' : Hp}, Inv (X.blk sb Hb scope ce fp) ([] ++ pinsAt fp z2.heap) σ3 H' z' → N H' → ∃ k, k < m ∧ ∃ i Hz, Inv (X.blk sb Hb scope ce fp) [] (L2.wipe σ vs) Hz z' ∧ tn i z'.heap ∧ (∀ b ∈ fp, Hz b = none) ∧ W i k Hz := fun {z' H'} I' nx => by
        obtain ⟨k, hk, wk⟩ := later H' nx
        have stay : ∀ b ∈ fp, ∀ o, z2.heap.get? b = some o → z'.heap.get? b = some o ∧ H' b = none := fun b hb o e => by
          have p := I'.pin (b, o) (List.mem_append_right _ (List.mem_append_right _ (mem_pinsAt hb e)))
          exact ⟨p.1, p.2.1⟩
        refine ⟨k, hk, i + 1, H', (I'.unpinned (pins := [])).weak (by rw [← w3, wipe_length]) (fun j v e => ?_), T.keep _ _ _ st2 fun b hb o e => (stay b hb o e).1, fun b hb => ?_, wk⟩
        · rw [← w3] at e
          exact (wipe_some e).1
        · obtain ⟨o, e, _⟩ := T.obj _ _ st2 b hb
          exact (stay b hb o e).2
      cases b with
      | false => exact back I4 (by simpa using q4)
      | true =>
        have q5 : te σ3 H4 fun y H5 => ∃ (k : Int) (S : Int → Bool) (m : Nat), y = .int k ∧ H5 D = some (IS X.w D S m) ∧ m + 1 < scanBound ∧ N (upd H5 D (IS X.w D (fun j => S j || decide (j = k)) (if S k = true then m else m + 1))) := by simpa using q4
        refine thnF (re.run _ z4 σ3 H4 _ I4 q5) fun v z5 ⟨y, H5, I5, r5, k, S, m5, ey, hD5, hm5, nx⟩ => ?_
        subst ey
        obtain ⟨tk, rfl⟩ : ∃ tk, v = Value.int k tk := r5
        exact grow (X := X.blk sb Hb scope ce fp) I5 hD5 hm5 fun z6 I6 => back I6 nx
  exact codeAny_compStart_set walk (T.self X.A 0 _ _ _ stc walk)
end
end DL
/-! DLG: sorted({..}) of ints: the plain part. -/
namespace DL
open PySem PySem.Spec PyProof.Rows L2
/-- ints in order, each once -/
def ddI : List Int → List Int
  | [] => []
  | x :: xs => x :: (ddI xs).filter fun y => !decide (y = x)
theorem dedup_ints : ∀ is : List Int, dedupD (is.map PyData.int) = (ddI is).map PyData.int
  | [] => rfl
  | k :: is => by
    show PyData.int k :: (dedupD (is.map PyData.int)).filter (fun y => !PyData.eqv (PyData.int k) y) = PyData.int k :: ((ddI is).filter fun y => !decide (y = k)).map PyData.int
    rw [dedup_ints is, List.filter_map]
    congr 2
    refine List.filter_congr fun i _ => ?_
    show (!PyData.eqv (.int k) (.int i)) = !decide (i = k)
    by_cases h : i = k
    · subst h; simp [PyData.eqv]
    · have : ¬ k = i := fun z => h z.symm
      simp [PyData.eqv, h, this]
theorem mem_ddI {k : Int} : ∀ {is : List Int}, k ∈ ddI is ↔ k ∈ is
  | [] => Iff.rfl
  | x :: is => by
    show k ∈ x :: (ddI is).filter (fun y => !decide (y = x)) ↔ _
    rw [List.mem_cons, List.mem_cons, List.mem_filter, mem_ddI (is := is)]
    constructor
    · rintro (h | h)
      · exact .inl h
      · exact .inr h.1
    · rintro (h | h)
      · exact .inl h
      · by_cases e : k = x
        · exact .inl e
        · exact .inr ⟨h, by simp [e]⟩
theorem nodup_ddI : ∀ is : List Int, (ddI is).Nodup
  | [] => List.nodup_nil
  | x :: is => by
    show (x :: (ddI is).filter fun y => !decide (y = x)).Nodup
    refine List.nodup_cons.mpr ⟨fun h => ?_, (nodup_ddI is).filter _⟩
    have := (List.mem_filter.mp h).2
    simp at this
theorem ddI_snoc (k : Int) : ∀ is : List Int, ddI (is ++ [k]) = if k ∈ is then ddI is else ddI is ++ [k]
  | [] => rfl
  | x :: is => by
    show x :: (ddI (is ++ [k])).filter (fun y => !decide (y = x)) = if k ∈ x :: is then x :: (ddI is).filter (fun y => !decide (y = x)) else (x :: (ddI is).filter fun y => !decide (y = x)) ++ [k]
    rw [ddI_snoc k is]
    by_cases h : k ∈ is
    · rw [if_pos h, if_pos (List.mem_cons_of_mem _ h)]
    · rw [if_neg h, List.filter_append]
      by_cases e : k = x
      · rw [if_pos (by rw [e]; exact List.mem_cons_self)]
        subst e
        simp
      · rw [if_neg (fun z => (List.mem_cons.mp z).elim e h)]
        simp [e]
/-- ascending lists of the same members -/
theorem asc_ext : ∀ {as bs : List Int}, as.Pairwise (· < ·) → bs.Pairwise (· < ·) → (∀ k, k ∈ as ↔ k ∈ bs) → as = bs
  | [], [], _, _, _ => rfl
  | [], b :: bs, _, _, h => by have := (h b).mpr List.mem_cons_self; cases this
  | a :: as, [], _, _, h => by have := (h a).mp List.mem_cons_self; cases this
  | a :: as, b :: bs, ha, hb, h => by
    have e : a = b := by
      have h1 := (h a).mp List.mem_cons_self
      have h2 := (h b).mpr List.mem_cons_self
      rcases List.mem_cons.mp h1 with h1 | h1
      · exact h1
      · rcases List.mem_cons.mp h2 with h2 | h2
        · exact h2.symm
        · have l1 := List.rel_of_pairwise_cons hb h1
          have l2 := List.rel_of_pairwise_cons ha h2
          omega
    subst e
    congr 1
    refine asc_ext ha.of_cons hb.of_cons fun k => ?_
    have hk := h k
    rw [List.mem_cons, List.mem_cons] at hk
    constructor
    · intro z
      rcases hk.mp (.inr z) with e | e
      · have := List.rel_of_pairwise_cons ha z
        omega
      · exact e
    · intro z
      rcases hk.mpr (.inr z) with e | e
      · have := List.rel_of_pairwise_cons hb z
        omega
      · exact e
theorem sort_int {is : List Int} : (is.map PyData.int).mergeSort (PySem.W.dataLe false id) = (is.mergeSort fun a b => decide (a ≤ b)).map PyData.int := by
  rw [List.map_mergeSort]
  intro a ha b hb
  have e := congrFun (congrFun (PySem.W.dataLe_int (fun x : Int => x)) a) b
  rw [← e]
  rfl
theorem asc_of {is : List Int} (h : is.Nodup) : (is.mergeSort fun a b => decide (a ≤ b)).Pairwise (· < ·) := by
  have p := List.pairwise_mergeSort (le := fun a b : Int => decide (a ≤ b)) (by intro a b c; simp; omega) (by intro a b; simp; omega) is
  have n : (is.mergeSort fun a b => decide (a ≤ b)).Nodup := (List.mergeSort_perm is _).nodup_iff.mpr h
  refine (p.and n).imp fun {a b} z => ?_
  have z1 := of_decide_eq_true z.1
  have z2 := z.2
  omega
/-- what sorted({..}) hands back -/
theorem sset_eq {is ns : List Int} {ds : List PyData} (h : sortD (dedupD (is.map PyData.int)) = some ds) (ha : ns.Pairwise (· < ·)) (hm : ∀ k, k ∈ ns ↔ k ∈ is) : ds = ns.map PyData.int := by
  rw [dedup_ints] at h
  unfold sortD at h
  split at h
  · cases h
    rw [sort_int]
    congr 1
    refine asc_ext (asc_of (nodup_ddI is)) ha fun k => ?_
    rw [List.mem_mergeSort, mem_ddI, hm]
  · cases h
end DL
/-! DLH: sorted({..}) of ints. -/
namespace DL
open PySem PySem.Spec PyProof.Rows L2
theorem intsOf_all : ∀ {ys : List PyData} {ns : List Int}, intsOf ys = some ns → ys = ns.map PyData.int
  | [], ns, h => by cases h; rfl
  | y :: ys, ns, h => by
    cases y with
    | int i =>
      obtain ⟨ms, h1, rfl⟩ := map_of (show (intsOf ys).map (i :: ·) = some ns from h)
      rw [intsOf_all h1]
      rfl
    | _ => cases h
theorem ddI_le (as : List Int) : ∀ bs : List Int, (ddI as).length ≤ (ddI (as ++ bs)).length
  | [] => by rw [List.append_nil]; exact Nat.le_refl _
  | b :: bs => by
    have h1 : (ddI as).length ≤ (ddI (as ++ [b])).length := by
      rw [ddI_snoc]
      split
      · exact Nat.le_refl _
      · rw [List.length_append]; omega
    have h2 := ddI_le (as ++ [b]) bs
    rw [List.append_assoc] at h2
    exact Nat.le_trans h1 h2
theorem ints_all {A : AP} {K : PySem.W.Frag} {H : Hp} : ∀ ns : List Int, RpAll A K H (ns.map V.int) (ns.map PyData.int)
  | [] => .nil
  | i :: ns => .cons (.int i) (ints_all ns)
section
variable {X : Cx} {Γ : Cfg} {F : Fn} {p pos gpos : Pos}
theorem sset_drive {scope : Scope} {own : List (Str × Nat)} {celt : E} {ctg : Tg} {cit : DL.It} {cifs : List E} (w : World) (ok : BlkOk X.N X.env.scope scope own) (hsl : ∀ i ∈ slotsT ctg, i ∈ own.map (·.2)) :
    ∀ σ H Q, σ.length = X.N.length → tF Γ F (.sset celt ctg cit cifs (own.map (·.2))) σ H Q → tSi w (tI Γ F true cit) (uG Γ ctg) (uTs Γ F cifs) (uE Γ F celt) (own.map (·.2)) σ H fun v H1 => rSortedSet w [v] H1 Q := by
  intro σ H Q hlen ⟨env, t, G, q⟩
  have q' : postF Γ σ H env Q ((evI F true cit env t).bind fun xs t1 => (compRun (bindT ctg) (evTs F cifs) (ev F celt) (wipeE env (own.map (·.2))) xs t1).calm.bind fun ys t2 => (optR (setD ys) t2).bind fun r t3 => .ok (.d (.list r)) t3) := q
  refine ⟨env, t, G, (postF.seq (P := fun H' J xs => WkD Γ.K (StW true Γ.tp (Av Γ σ env) H') J xs) q').mono Frame.refl fun J H1 ⟨xs, t1, f1, G1, wk, q1⟩ => ?_⟩
  intro D hD
  obtain ⟨ys, tf, hrun, q2⟩ := calm_ok (postF_bad q1)
  rw [hrun] at q1
  have q3 : postF Γ σ H1 env Q ((optR (setD ys) tf).bind fun r t3 => .ok (.d (.list r)) t3) := q1
  clear q1 q2 q' q
  obtain ⟨ds, hset, q4⟩ := postF.opt q3
  obtain ⟨js, hj, hs2⟩ := bind_of hset
  have hys := intsOf_all hj
  have hlt64 : (ddI js).length < 64 ∧ sortD (dedupD (js.map PyData.int)) = some ds := by
    have hs3 : (if decide ((dedupD ys).length < 64) then sortD (dedupD ys) else none) = some ds := hs2
    split at hs3
    · rename_i z
      have z' := of_decide_eq_true z
      rw [hys, dedup_ints, List.length_map] at z'
      rw [hys] at hs3
      exact ⟨z', hs3⟩
    · cases hs3
  have his : ∀ i ∈ own.map (·.2), i < σ.length := fun i hi => by
    obtain ⟨p, hp, rfl⟩ := List.mem_map.mp hi
    rw [hlen]
    exact (List.getElem?_eq_some_iff.mp (ok.ix p hp)).1
  generalize hvs : own.map (·.2) = vs at hrun his hsl ⊢
  have hH0 : Γ.H0 D = none := G1.fr.free hD
  have htpD : Γ.tp ≠ some D := fun z => by
    obtain ⟨_, e, _⟩ := G1.tape D z
    rw [hD] at e; cases e
  have GB := G1.blk (ob := IS w D (fun _ => false) 0) hD his
  have hO : (blkΓ Γ σ env vs D).O D := .inr (.inl rfl)
  have stw : ∀ {H2 : Hp} {t2 : DL.T}, Good (blkΓ Γ σ env vs D) (L2.wipe σ vs) H2 (wipeE env vs) t2 → Frame Γ.tp H1 H2 → StW true Γ.tp (Av Γ σ env) H1 H2 (Av (blkΓ Γ σ env vs D) (L2.wipe σ vs) (wipeE env vs)) := fun {H2 t2} G2 f2 =>
    ⟨fun a o n h k => ⟨f2.keep a o h (fun z => n (.inr (.inl z))) k, fun z => (blk_av.mp z).elim n fun e => by rw [e, hD] at h; cases h⟩, G2.avHas, fun _ => f2⟩
  -- how it stands before the i-th item
  let St : Nat → Hp → Prop := fun i H2 => ∃ t2 is S k rest, Good (blkΓ Γ σ env vs D) (L2.wipe σ vs) H2 (wipeE env vs) t2 ∧ H2 D = some (IS w D S k) ∧ (∀ j, S j = decide (j ∈ is)) ∧ k = (ddI is).length ∧ Frame Γ.tp H1 H2 ∧
    compRun (bindT ctg) (evTs F cifs) (ev F celt) (wipeE env vs) (xs.drop i) t2 = .ok rest tf ∧ is.map PyData.int ++ rest = ys
  refine ⟨fun i m H2 => m = xs.length - i ∧ i ≤ xs.length ∧ St i H2, ⟨xs.length, by simp, Nat.zero_le _, t1, [], fun _ => false, 0, ys, GB, upd_same, fun j => by simp, rfl, Frame.upd hD, hrun, rfl⟩, ?_⟩
  rintro i m H2 ⟨rfl, hi', t2, is, S, k, rest, G2, hD2, hS, hk, f2, hr2, hacc⟩
  by_cases hlt : i < xs.length
  · refine .inr ⟨fun H' => i + 1 ≤ xs.length ∧ St (i + 1) H', fun H' p' => ⟨xs.length - (i + 1), by omega, rfl, p'.1, p'.2⟩, wk.goes i H2 _ hlt (stw G2 f2), fun x H3 y => ?_⟩
    obtain ⟨sm, fb, d, hd, rd⟩ := wk.yields i H2 _ x H3 hlt (stw G2 f2) y
    have hdr : xs.drop i = d :: xs.drop (i + 1) := by
      rw [List.drop_eq_getElem_cons hlt]
      congr 1
      rw [List.getElem?_eq_getElem hlt] at hd
      exact Option.some.inj hd
    rw [hdr] at hr2
    obtain ⟨e1, hb, hcase⟩ := compRun_cons hr2
    have G3 := G2.same sm
    have f3 : Frame Γ.tp H2 H3 := same_frame sm
    have hD3 : H3 D = some (IS w D S k) := sm _ _ hD2
    refine ⟨blkΓ Γ σ env vs D, under_blk, wipeE env vs, t2, d, e1, G3, rd, hb, fun σ1 G4 off s4 => ⟨(off.wipe hsl).trans wipe_wipe, ?_⟩⟩
    have hown := ow_bind (σ := σ) hb off hsl
    refine ⟨blkΓ Γ σ env vs D, under_blk, e1, t2, G4, ?_⟩
    rcases hcase with ⟨t3, hc3, hr3⟩ | ⟨t3, yv, t4, zs, hc3, he3, hr3, hys2⟩
    · rw [hc3]
      intro b H4 f4 G5 pb
      have pb' : b = false := pb
      subst pb'
      rw [if_neg Bool.false_ne_true]
      have f4' : Frame Γ.tp H3 H4 := f4
      exact ⟨hlt, t3, is, S, k, rest, G3.back f4 G5 hown, f4'.keep D _ hD3 htpD (fun _ z => by cases z), hS, hk, f2.trans (f3.trans f4'), hr3, hacc⟩
    · rw [hc3]
      intro b H4 f4 G5 pb
      have pb' : b = true := pb
      subst pb'
      rw [if_pos rfl]
      refine ⟨blkΓ Γ σ env vs D, under_blk, e1, t3, G5, ?_⟩
      rw [he3]
      intro v H5 f5 G6 rv
      have rv' : Rp (Av (blkΓ Γ σ env vs D) σ1 e1) Γ.K H5 v yv := rv
      have f35 : Frame Γ.tp H3 H5 := Frame.trans (show Frame Γ.tp H3 H4 from f4) f5
      have hD5 : H5 D = some (IS w D S k) := f35.keep D _ hD3 htpD (fun _ z => by cases z)
      have G7 := G3.back f35 G6 hown
      -- the item is an int
      rw [hys2, hys] at hacc
      have hint : ∃ z, yv = .int z ∧ ∃ more, js = is ++ z :: more := by
        have e := hacc.symm
        obtain ⟨l1, l2, h1, h2, h3⟩ := List.map_eq_append_iff.mp e
        cases l2 with
        | nil => cases h3
        | cons z more =>
          rw [List.map_cons] at h3
          injection h3 with h4 h5
          have : l1 = is := by
            have inj : ∀ {as bs : List Int}, as.map PyData.int = bs.map PyData.int → as = bs := fun {as bs} h => by
              induction as generalizing bs with
              | nil => cases bs with
                | nil => rfl
                | cons _ _ => cases h
              | cons a as ih => cases bs with
                | nil => cases h
                | cons b bs =>
                  rw [List.map_cons, List.map_cons] at h
                  injection h with h1 h2
                  injection h1 with h1
                  rw [h1, ih h2]
            exact inj h2
          exact ⟨z, h4.symm, more, by rw [h1, this]⟩
      obtain ⟨z, rfl, more, hjs⟩ := hint
      cases rv'
      have hkb : k + 1 < PySem.scanBound := by
        have h1 := ddI_le is (z :: more)
        rw [← hjs] at h1
        have h2 := hlt64.1
        have h3 : PySem.scanBound = 4096 := rfl
        omega
      refine ⟨z, S, k, rfl, hD5, hkb, hlt, t4, is ++ [z], fun j => S j || decide (j = z), if S z = true then k else k + 1, zs, G7.updO hO hD5 (fun _ q => by cases q) hH0 htpD, upd_same, fun j => ?_, ?_, ?_, hr3, by rw [hys, ← hacc]; simp⟩
      · show (S j || decide (j = z)) = decide (j ∈ is ++ [z])
        rw [hS j]
        by_cases h1 : j ∈ is <;> by_cases h2 : j = z <;> simp [h1, h2]
      · rw [hS z, ddI_snoc, hk]
        by_cases h1 : z ∈ is
        · simp [h1]
        · simp [h1]
      · have fa : Frame Γ.tp H1 H5 := f2.trans (f3.trans f35)
        exact ⟨fun a o h hp kk => by rw [upd_ne (ne_of_none h hD)]; exact fa.keep a o h hp kk, fun a h => by
          by_cases q : a = D
          · subst q; rw [upd_same]; simp
          · rw [upd_ne q]; exact fa.there a h⟩
  · have e : i = xs.length := by omega
    subst e
    refine .inl ⟨wk.stops H2 _ (stw G2 f2), ?_⟩
    rw [List.drop_length] at hr2
    have hr2' : R.ok [] t2 = R.ok rest tf := hr2
    cases hr2'
    rw [List.append_nil, hys] at hacc
    have hmem : ∀ j, j ∈ is ↔ j ∈ js := fun j => by
      have h1 : PyData.int j ∈ is.map PyData.int ↔ PyData.int j ∈ js.map PyData.int := by rw [hacc]
      simpa using h1
    have hlen2 : (ddI is).length = (ddI js).length := by
      have h1 := congrArg dedupD hacc
      rw [dedup_ints, dedup_ints] at h1
      simpa using congrArg List.length h1
    refine ⟨D, S, k, rfl, hD2, by rw [hk, hlen2]; exact hlt64.1, fun ns p' hasc hns hnl hp => ?_⟩
    have hds := sset_eq hlt64.2 hasc fun j => by rw [hns j, hS j, decide_eq_true_eq, hmem j]
    subst hds
    have G8 : Good Γ σ H2 env tf := G1.frame f2 G2.tabs fun a h => by
      obtain ⟨zs, e1, r1⟩ := G2.tape a h
      exact ⟨zs, e1, RpAll.moves (Moves.sub fun a z => blk_av.mpr (.inl z)) _ _ r1⟩
    exact q4 p' (ns.map V.int) _ (f2.free hp) upd_same (f2.trans (Frame.upd hp)) (G8.same (same_upd' hp)) (G8.tapeNew hp (same_upd' hp)) (ints_all ns)
theorem df_sset {elt tg iter : Expr} {ifs : List Expr} {scope : Scope} {own : List (Str × Nat)} {celt : E} {ctg : Tg} {cit : DL.It} {cifs : List E} (hc : X.calm = true) (hN : X.N.Nodup) (hg0 : Gl X "sorted") (hm0 : X.mg "sorted" = none) (hi : DI X Γ F true tg iter cit) (ok : BlkOk X.N X.env.scope scope own)
    (hg : ∀ (s : Shared) (H : Hp) (C : Addr) (cl : List (Str × Addr)) (fp : List Addr) Γ', Under Γ Γ' → DG (X.blk s H scope (compEnvC scope cl C X.env) fp) Γ' tg ctg)
    (ht : ∀ (s : Shared) (H : Hp) (C : Addr) (cl : List (Str × Addr)) (fp : List Addr) Γ', Under Γ Γ' → DTs (X.blk s H scope (compEnvC scope cl C X.env) fp) Γ' F ifs cifs)
    (he : ∀ (s : Shared) (H : Hp) (C : Addr) (cl : List (Str × Addr)) (fp : List Addr) Γ', Under Γ Γ' → DE (X.blk s H scope (compEnvC scope cl C X.env) fp) Γ' F elt celt)
    (hs : ∀ x, foldedSetIterable iter X.env x = pure x) (hsl : ∀ i ∈ slotsT ctg, i ∈ own.map (·.2)) : DF X Γ F (.Call (.Name "sorted" p) [.SetComp elt [⟨tg, iter, ifs, 0⟩] scope gpos] [] pos) (.sset celt ctg cit cifs (own.map (·.2))) :=
  ⟨fun pins s σ H Q I q => (pe_callB (cr_sortedSet hc) hg0 hm0 PyProof.Rows.boot_sorted (pa_cons (pe_si hc hN hi ok (fun s H C cl fp => pg_under (hg s H C cl fp)) (fun s H C cl fp => pts_under (ht s H C cl fp)) (fun s H C cl fp => pe_under (he s H C cl fp)) hs) pa_nil)).run pins s σ H Q I
    (sset_drive X.w ok hsl σ H Q I.len q)⟩
end
end DL
/-! DLX: raise, try .. except .. as .. -/
namespace DL
open PySem PySem.Spec PyProof.Rows L2
/-- the built-in classes under an own error's -/
abbrev vet : List Value := [.type "ValueError", .type "Exception", .type "BaseException", .type "object"]
/-- the wish of a context's errors -/
abbrev WE0 (Γ : Cfg) : WX := fun cls d _ H => Γ.E cls d H
/-- the same with another wish of errors -/
def Cfg.err (Γ : Cfg) (E : XK) : Cfg := { Γ with E := E }
section
variable {X : Cx} {Γ : Cfg} {F : Fn} {n : Nat} {σ : L2.St} {H : Hp} {env : Ev} {t : DL.T} {D : Ends} {E : XK}
theorem Good.err (G : Good Γ σ H env t) : Good (Γ.err E) σ H env t := ⟨G.len, G.fr, G.oh, G.tabs, G.tape, G.dat, G.own, G.two, G.tpe⟩
theorem Good.unerr (G : Good (Γ.err E) σ H env t) : Good Γ σ H env t := ⟨G.len, G.fr, G.oh, G.tabs, G.tape, G.dat, G.own, G.two, G.tpe⟩
theorem Lv.unerr (l : Lv (Γ.err E) H t) : Lv Γ H t := ⟨l.fr, l.tabs, l.tape⟩
theorem takes_no (h : Γ.E = fun _ _ _ => False) : L2N.Takes X (WE0 Γ) := fun u s' ⟨_, _, _, _, _, _, _, _, _, _, _, _, _, _, _, _, z⟩ => by
  have z' : Γ.E _ _ _ := z
  rw [h] at z'
  exact z'.elim
/-- an own error is raised -/
theorem ds_raise {k : Nat} {C : Addr} {x m : Str} {j : Nat} {p p2 pos pos2 : Pos} (hc : X.calm = true) (tk : L2N.Takes X (WE0 Γ)) (q : PySem.W.excIn X.K C vet "ValueError.__new__" = true) (gC : X.mg x = some (.ref C)) (kC : PySem.W.keepIn X.K (.ref C) = true) (r : Raises X (.ref C))
    (hg : Gl X x) (hdb : (x == ("__debug__" : Str)) = false) (he : Γ.ec k = .ref C) : DS X Γ F n (.Raise (some (.Call (.Name x p) [.Constant (.str m) j p2] [] pos)) none pos2) (.raise k) :=
  (L2N.ps_raise hc tk (L2N.pmk_own PySem.F.excBase_ValueError q gC kC r hg hdb)).to fun D σ H _ ⟨env, t, G, q⟩ => by
    have q' : ∀ H', Lv Γ H' t → Γ.E (Γ.ec k) none H' := q
    show Γ.E (.ref C) none H
    rw [← he]
    exact q' H G.lv
/-- what a handler's suite must do: exceptions of the class cls give v -/
def tH (K : PySem.W.Frag) (i : Nat) (a : Addr) (v : PyData) : TS := fun D σ H => σ[i]? = some (some (.ref a)) ∧ ∀ x H', Same H H' → (∀ A, Rp A K H' x v) → D.rt x H'
/-- the suite does so for each class -/
def HandOk (X : Cx) (ec : Nat → Value) (i : Nat) (suite : List Stmt) (hs : List (Nat × PyData)) : Prop :=
  ∀ k v, (k, v) ∈ hs → ∀ (a : Addr) (oe : Obj) (pn : List (Addr × Obj)), L2N.Zn (ec k) none oe → (∃ vs, oe.data = .fields vs) → PSs (X.suite a ((a, oe) :: pn)) suite (tH X.K i a v)
def tHs (K : PySem.W.Frag) (ec : Nat → Value) (i : Nat) (hs : List (Nat × PyData)) (a : Addr) (cls : Value) (d : Option Addr) : TS := fun D σ H => ∃ k v, (k, v) ∈ hs ∧ cls = ec k ∧ d = none ∧ tH K i a v D σ H
theorem err_post {o : Out} {hs : List (Nat × PyData)} (h : postS Γ σ H env D (match o with
    | .err k t' => match hs.lookup k with
      | some v => .ret (.d v) t'
      | none => .bad
    | o => o)) (he : ∀ k t' v H', hs.lookup k = some v → Lv Γ H' t' → (∀ x H2, Lv Γ H2 t' → RpR (AT Γ.O Γ.tp) Γ.tp Γ.K Γ.H0 H2 t' x (.d v) → D.rt x H2) → E (Γ.ec k) none H') : postS (Γ.err E) σ H env D o := by
  cases o with
  | nx e t => exact fun σ' H' g m => h σ' H' g.unerr m
  | brk e t => exact fun σ' H' g m => h σ' H' g.unerr m
  | cnt e t => exact fun σ' H' g m => h σ' H' g.unerr m
  | ret w t => exact fun v H' l r => h v H' l.unerr r
  | bad => exact h
  | err k t' =>
    intro H' l
    cases hv : hs.lookup k with
    | none =>
      have h' : postS Γ σ H env D (match hs.lookup k with
        | some v => .ret (.d v) t'
        | none => .bad) := h
      rw [hv] at h'
      exact h'.elim
    | some v =>
      have h' : postS Γ σ H env D (match hs.lookup k with
        | some v => .ret (.d v) t'
        | none => .bad) := h
      rw [hv] at h'
      exact he k t' v H' hv l.unerr fun x H2 l2 r2 => h' x H2 l2 r2
theorem Lv.same {H' : Hp} (l : Lv Γ H t) (s : Same H H') : Lv Γ H' t := ⟨l.fr.trans (same_frame s), l.tabs.same s, fun a h => by
  obtain ⟨xs, e, r⟩ := l.tape a h
  exact ⟨xs, s _ _ e, RpAll.moves (moves_same s) _ _ r⟩⟩
theorem hs_mem {k : Nat} {v : PyData} : ∀ {hs : List (Nat × PyData)}, hs.lookup k = some v → (k, v) ∈ hs
  | (a, b) :: l, e => by
    rw [List.lookup_cons] at e
    cases q : (k == a) with
    | true =>
      rw [q] at e
      cases e
      rw [eq_of_beq q]
      exact List.mem_cons_self
    | false =>
      rw [q] at e
      exact List.mem_cons_of_mem _ (hs_mem e)
/-- try: .. except x as n: .. -/
theorem ds_try {x y : Str} {c : Value} {i : Nat} {body suite : List Stmt} {b₀ : Stmt} {np pos pos' : Pos} {cb : List S} {hs : List (Nat × PyData)} (hK : Γ.K = X.K) (hst : X.stack = X.env :: X.outer) (hf : X.env.frame = some X.env.locals) (hN : X.N.Nodup) (hi : X.N[i]? = some y)
    (hln : X.env.kindOf y = some .local) (hc : Names X x c) (hx : ∀ k v, (k, v) ∈ hs → PySem.W.exmOne X.K (Γ.ec k) c = some true)
    (hb : ∀ (E : XK) (pn : List (Addr × Obj)) (xe : Value → Shared → Prop), L2N.Takes (X.tr pn xe) (fun cls d _ H => E cls d H) → PassesOwn (model X.prog X.w) X.A X.env xe → DSs (X.tr pn xe) (Γ.err E) F n body cb)
    (hh : HandOk X Γ.ec i (b₀ :: suite) hs) :
    DS X Γ F n (.Try body [.ExceptHandler (some (.Name x np)) (some y) (b₀ :: suite) pos'] [] [] pos) (.tryr cb hs) :=
  (L2N.ps_try_as (tb := fun W => tSs (Γ.err fun cls d H => ∀ σ, σ.length = X.N.length → W cls d σ H) F n cb) (ts := tHs X.K Γ.ec i hs) (Wout := fun _ _ _ _ => False) hst hf hN hi hln hc (fun u s' ⟨_, _, _, _, _, _, _, _, _, _, _, _, _, _, _, _, z⟩ => z.elim)
    (fun W pn xe tk hp => hb _ pn xe (fun u s' ⟨a, B, sI, pins, σ, H, cls, d, e, I, nb, up, sky, na, os, ag, w⟩ => tk u s' ⟨a, B, sI, pins, σ, H, cls, d, e, I, nb, up, sky, na, os, ag, w σ I.len⟩) hp)
    (fun a oe cls d pn hz hf => ⟨fun pins s σ H D I ⟨k, v, hm, e1, e2, q⟩ => by
      subst e1
      subst e2
      exact (hh k v hm a oe pn hz hf).run pins s σ H D I q⟩)).to fun D σ H hlen ⟨env, t, G, q⟩ => by
    refine ⟨env, t, G.err, ?_⟩
    have q' : postS Γ σ H env D (match runs F n cb env t with
      | .err k t' => match hs.lookup k with
        | some v => .ret (.d v) t'
        | none => .bad
      | o => o) := q
    refine err_post q' fun k t' v H' hv l hr σ' hl' => ?_
    refine ⟨true, hx k v (hs_mem hv), fun _ a ha => ⟨k, v, hs_mem hv, rfl, rfl, ?_, fun x H2 s r => ?_⟩, fun z => by cases z⟩
    · have hi' : i < σ'.length := by
        rw [hl']
        exact (List.getElem?_eq_some_iff.mp hi).1
      rw [List.getElem?_set_self hi']
    · exact hr x H2 (l.same s) (by rw [hK]; exact r _)
end
end DL
/-! DL16: the text of a def against its core. -/
namespace DL
open PySem PySem.Spec PyProof.Rows L2
/-- exs: own errors that are raised, each with its number; isx: classes that are named, each with the numbers under it; hot: defs called with an error, what they give for each number -/
structure Mo where
  fns : List (Str × Nat)
  glb : List (Str × PyData)
  blt : List Str
  exs : List (Str × Nat)
  isx : List (Str × List Nat)
  hot : List (Str × List (Nat × PyData))
structure Ci where
  M : Mo
  N : List Str
  sc : Scope
  g : Nat
  cod : Bool
/-- an own error's class -/
structure ExK (K : PySem.W.Frag) (mg : Str → Option Value) (ec : Nat → Value) (x : Str) (k : Nat) : Prop where
  at_ : ∃ C, mg x = some (.ref C) ∧ PySem.W.keepIn K (.ref C) = true ∧ PySem.W.excIn K C vet "ValueError.__new__" = true ∧ PySem.W.subIn K (.ref C) (.type "BaseException") = some true ∧ PySem.W.typeIn K (.ref C) = some (.type "type") ∧ ec k = .ref C ∧ ExcC K C
/-- a class that is named by an except, an isinstance -/
structure IsK (K : PySem.W.Frag) (mg : Str → Option Value) (ec : Nat → Value) (exs : List (Str × Nat)) (x : Str) (ks : List Nat) : Prop where
  at_ : ∃ C, mg x = some (.ref C) ∧ ∀ y k, exs.lookup y = some k → PySem.W.exmOne K (ec k) (.ref C) = some (decide (k ∈ ks)) ∧ PySem.W.kitOne K (ec k) (.ref C) = some (decide (k ∈ ks))
/-- a def called with an error that is handled: what it gives -/
def HotFn (P : Program) (w : World) (K : PySem.W.Frag) (mg : Str → Option Value) (base : Heap) (kH : Nat) (f : Addr) (ec : Nat → Value) (tab : List (Nat × PyData)) : Prop :=
  ∀ k v, (k, v) ∈ tab → ∀ (A : Around) (outer : List Env) (s : Shared) (H : Hp) (a : Addr) (oe : Obj) (Q : VK) (E : XK), L2H.RoomH kH A → L2H.Hot1 A (a, oe) → L2H.PinOk outer H s (a, oe) → L2N.Zn (ec k) none oe → Env0 P w K mg base A outer s H →
    (∀ x H', Same H H' → (∀ A, Rp A K H' x v) → Q x H') → codeAny (model P w) A (.call (.ref f) ⟨[.ref a], []⟩) (CR CX0 outer P w H s Q E) s
structure CtxOk (k0 : Nat) (ci : Ci) (X : Cx) (Γ : Cfg) (F : Fn) : Prop where
  K : Γ.K = X.K
  N : X.N = ci.N
  nd : X.N.Nodup
  calm : X.calm = true
  tk : L2N.Takes X (WE0 Γ)
  rm : Room (k0 + ci.g) X.A
  vis : ∀ x k, ci.sc.names.lookup x = some k → k = .local ∨ k = .cell ∨ k = .free → Vis X.env.scope x
  loc : ∀ x, ci.sc.names.lookup x = some .local → X.env.scope.names.lookup x = some .local
  cel : ∀ x, ci.sc.names.lookup x = some .cell → X.env.scope.names.lookup x = some .cell ∧ X.fn x = true
  fre : ∀ x, ci.sc.names.lookup x = some .free → X.env.scope.names.lookup x = some .cell ∨ X.env.scope.names.lookup x = some .free
  gl : ∀ x, ci.sc.names.lookup x = some .globalImplicit → Gl X x
  fns : ∀ x j, ci.M.fns.lookup x = some j → ∃ f, X.mg x = some (.ref f) ∧ PySem.W.keepIn X.K (.ref f) = true ∧ FnR X.prog X.w X.K X.mg X.base (L2N.CX X.prog X.w) k0 f (spD X.K Γ.tabs Γ.ec (F j))
  glb : ∀ x d, ci.M.glb.lookup x = some d → ∃ v u, X.mg x = some u ∧ RelV v u ∧ ∀ A H, Rp A Γ.K H v d
  blt : ∀ x, x ∈ ci.M.blt → X.mg x = none
  cod : ci.cod = true → ∃ c P, GxR.TabB X.base X.mg c P ∧ X.env.code = .ref c ∧ P ∈ Γ.tabs
  exs : ∀ x k, ci.M.exs.lookup x = some k → ExK X.K X.mg Γ.ec x k
  isx : ∀ x ks, ci.M.isx.lookup x = some ks → IsK X.K X.mg Γ.ec ci.M.exs x ks
  hot : ∀ x tab, ci.M.hot.lookup x = some tab → ∃ f, X.mg x = some (.ref f) ∧ PySem.W.keepIn X.K (.ref f) = true ∧ HotFn X.prog X.w X.K X.mg X.base 3 f Γ.ec tab
/-! ### small facts of the text -/
def isStar : Expr → Bool
  | .Starred .. => true
  | _ => false
def isSetX : Expr → Bool
  | .Set .. => true
  | _ => false
def isLstX : Expr → Bool
  | .List .. => true
  | _ => false
def isSlcX : Expr → Bool
  | .Slice .. => true
  | _ => false
def isCompX : Expr → Bool
  | .ListComp .. => true
  | .SetComp .. => true
  | .DictComp .. => true
  | _ => false
def isTestX : Expr → Bool
  | .UnaryOp .Not .. => true
  | .BoolOp .. => true
  | .IfExp .. => true
  | .Compare .. => true
  | _ => false
theorem star_cons {e : Expr} {es : List Expr} {env : Env} (h : isStar e = false) : starEach (e :: es) env = (false, eval e env) :: starEach es env := by
  cases e <;> first | rfl | cases h
theorem assign_cons {e : Expr} {es : List Expr} {env : Env} (h : isStar e = false) : assignEach (e :: es) env = (false, assign e env) :: assignEach es env := by
  cases e <;> first | rfl | cases h
theorem star_any {env : Env} {pos : Pos} : ∀ {es : List Expr}, es.all (fun e => !isStar e) = true → (backTo pos (starEach es env)).any (·.1) = false
  | [], _ => rfl
  | e :: es, h => by
    rw [List.all_cons, Bool.and_eq_true] at h
    have h1 : isStar e = false := by simpa using h.1
    rw [star_cons h1]
    have ih := star_any (env := env) (pos := pos) h.2
    unfold backTo at ih ⊢
    rw [List.map_cons, List.any_cons, ih]
    rfl
theorem assign_len {env : Env} : ∀ {es : List Expr}, es.all (fun e => !isStar e) = true → (assignEach es env).length = es.length ∧ (assignEach es env).findIdx? (·.1) = none
  | [], _ => ⟨rfl, rfl⟩
  | e :: es, h => by
    rw [List.all_cons, Bool.and_eq_true] at h
    have h1 : isStar e = false := by simpa using h.1
    rw [assign_cons h1]
    obtain ⟨i1, i2⟩ := assign_len (env := env) h.2
    refine ⟨by rw [List.length_cons, List.length_cons, i1], ?_⟩
    rw [List.findIdx?_cons, i2]
    rfl
theorem marks_of {op : CmpOp} {b : Expr} (h : isSetX b = false) : behindInMarks op b = false := by
  cases b <;> first | rfl | cases h
theorem plain_ix {b : Expr} (h : isSlcX b = false) : PlainIx b := by
  intro o i
  cases b <;> first | rfl | cases h
theorem folded_of {e : Expr} {env : Env} (h : isSetX e = false) : ∀ x, foldedSetIterable e env x = pure x := by
  intro x
  cases e <;> first | rfl | cases h
theorem genFold_of {e : Expr} {env : Env} (h : isSetX e = false) (h2 : isLstX e = false) : ∀ x, genFold e env x = pure x := by
  intro x
  cases e <;> first | rfl | (cases h; done) | (cases h2; done)
theorem test_of {e : Expr} {env : Env} (h : isTestX e = false) : ∀ whole, isTrue e env whole = (do let v ← whole; standAt e.pos; holding [v] (truthy v)) := by
  intro whole
  cases e with
  | UnaryOp op a p => cases op <;> first | rfl | cases h
  | BoolOp _ _ _ => cases h
  | IfExp _ _ _ _ => cases h
  | Compare _ _ _ _ => cases h
  | _ => rfl
theorem swaps_of {e : Expr} {t : Option Expr} {l : Nat} {env : Env} (h : isCompX e = false) : swapsWith e t l env = pure false := by
  cases e <;> first | rfl | cases h
def okName (x : Str) : Bool := !(x == ("__debug__" : Str)) && !(x == ("__classdict__" : Str)) && !(x == ("__name__" : Str))
theorem okName_of {x : Str} (h : okName x = true) : (x == ("__debug__" : Str)) = false ∧ (x == ("__classdict__" : Str)) = false ∧ x ≠ "__name__" := by
  unfold okName at h
  rw [Bool.and_eq_true, Bool.and_eq_true] at h
  refine ⟨by simpa using h.1.1, by simpa using h.1.2, fun e => ?_⟩
  rw [e] at h
  exact absurd h.2 (by decide)
/-! the slots of a block -/
def ownP (N : List Str) : List Nat → List (Str × Nat)
  | [] => []
  | i :: is => match N[i]? with
    | some x => (x, i) :: ownP N is
    | none => ownP N is
theorem ownP_ix {N : List Str} : ∀ {is : List Nat}, ∀ p ∈ ownP N is, N[p.2]? = some p.1
  | [], p, h => by cases h
  | i :: is, p, h => by
    unfold ownP at h
    split at h
    · rename_i x e
      rcases List.mem_cons.mp h with rfl | h
      · exact e
      · exact ownP_ix p h
    · exact ownP_ix p h
theorem ownP_snd {N : List Str} : ∀ {is : List Nat}, is.all (fun i => decide (i < N.length)) = true → (ownP N is).map (·.2) = is
  | [], _ => rfl
  | i :: is, h => by
    rw [List.all_cons, Bool.and_eq_true] at h
    have hi : i < N.length := of_decide_eq_true h.1
    unfold ownP
    rw [List.getElem?_eq_getElem hi]
    show i :: (ownP N is).map (·.2) = _
    rw [ownP_snd h.2]
def isFn : ScopeKind → Bool
  | .function => true
  | _ => false
def blkS (N : List Str) (sc scope : Scope) (is : List Nat) : Bool :=
  isFn scope.kind && is.all (fun i => decide (i < N.length)) && scope.names.all fun y => decide (scope.names.lookup y.1 = some y.2) && match y.2 with
    | .free => decide (sc.names.lookup y.1 = some .cell) || decide (sc.names.lookup y.1 = some .free)
    | .local => decide (y.1 ∈ (ownP N is).map (·.1)) || decide (y.1 ∉ N)
    | .cell => decide (y.1 ∈ (ownP N is).map (·.1)) || decide (y.1 ∉ N)
    | _ => true
theorem blkS_of {k0 : Nat} {ci : Ci} {X : Cx} {Γ : Cfg} {F : Fn} {scope : Scope} {is : List Nat} (C : CtxOk k0 ci X Γ F) (h : blkS ci.N ci.sc scope is = true) : BlkOk X.N X.env.scope scope (ownP ci.N is) ∧ (ownP ci.N is).map (·.2) = is := by
  unfold blkS at h
  rw [Bool.and_eq_true, Bool.and_eq_true] at h
  obtain ⟨⟨h1, h2⟩, h3⟩ := h
  replace h3 := List.all_eq_true.mp h3
  refine ⟨⟨?_, fun y hy => ?_, fun p hp => by rw [C.N]; exact ownP_ix p hp, fun y hy e => ?_, fun y hy e => ?_⟩, ownP_snd h2⟩
  · cases hk : scope.kind <;> rw [hk] at h1 <;> first | rfl | cases h1
  · have := h3 y hy
    rw [Bool.and_eq_true] at this
    exact of_decide_eq_true this.1
  · have q := h3 y hy
    rw [Bool.and_eq_true] at q
    have q2 := q.2
    rw [e] at q2
    have q3 : (decide (ci.sc.names.lookup y.1 = some .cell) || decide (ci.sc.names.lookup y.1 = some .free)) = true := q2
    rw [Bool.or_eq_true] at q3
    rcases q3 with q3 | q3
    · exact .inl (C.cel _ (of_decide_eq_true q3)).1
    · exact C.fre _ (of_decide_eq_true q3)
  · have q := h3 y hy
    rw [Bool.and_eq_true] at q
    have q2 := q.2
    rw [C.N]
    rcases e with e | e <;>
    · rw [e] at q2
      have q3 : (decide (y.1 ∈ (ownP ci.N is).map (·.1)) || decide (y.1 ∉ ci.N)) = true := q2
      rw [Bool.or_eq_true] at q3
      rcases q3 with q3 | q3
      · exact .inl (of_decide_eq_true q3)
      · exact .inr (of_decide_eq_true q3)
theorem relS_look {sc : Scope} : ∀ {names : List (Str × NameKind)} {x : Str} {k : NameKind}, names.lookup x = some k →
    (names.map fun (n, k) => if (k == NameKind.free && sc.kind == .function && sc.names.lookup n == some .cell) then (n, NameKind.cell) else (n, k)).lookup x = some k ∨ (k = .free ∧
    (names.map fun (n, k) => if (k == NameKind.free && sc.kind == .function && sc.names.lookup n == some .cell) then (n, NameKind.cell) else (n, k)).lookup x = some .cell)
  | [], _, _, h => by cases h
  | (n, k₀) :: r, x, k, h => by
    have ih := @relS_look sc r x k
    show List.lookup x ((if (k₀ == NameKind.free && sc.kind == .function && sc.names.lookup n == some .cell) = true then (n, NameKind.cell) else (n, k₀)) :: (r.map _)) = some k ∨ (k = .free ∧ List.lookup x ((if (k₀ == NameKind.free && sc.kind == .function && sc.names.lookup n == some .cell) = true then (n, NameKind.cell) else (n, k₀)) :: (r.map _)) = some .cell)
    cases hx : x == n with
    | true =>
      simp only [List.lookup_cons, hx] at h
      cases h
      by_cases hc : (k₀ == NameKind.free && sc.kind == .function && sc.names.lookup n == some .cell) = true
      · rw [if_pos hc]
        simp only [Bool.and_eq_true, beq_iff_eq] at hc
        exact .inr ⟨hc.1.1, by simp only [List.lookup_cons, hx]⟩
      · rw [if_neg hc]
        exact .inl (by simp only [List.lookup_cons, hx])
    | false =>
      simp only [List.lookup_cons, hx] at h
      rcases ih h with ih | ⟨e, ih⟩
      · refine .inl ?_
        split <;> (simp only [List.lookup_cons, hx]; exact ih)
      · refine .inr ⟨e, ?_⟩
        split <;> (simp only [List.lookup_cons, hx]; exact ih)
section
variable {k0 : Nat} {ci : Ci} {X : Cx} {Γ Γ' : Cfg} {F : Fn} {scope : Scope}
theorem CtxOk.blk (C : CtxOk k0 ci X Γ F) (hu : Under Γ Γ') (s : Shared) (H : Hp) (Cc : Addr) (cl : List (Str × Addr)) (fp : List Addr) : CtxOk k0 { ci with sc := scope } (X.blk s H scope (compEnvC scope cl Cc X.env) fp) Γ' F := by
  have look : ∀ {x : Str} {k : NameKind}, scope.names.lookup x = some k → (X.blk s H scope (compEnvC scope cl Cc X.env) fp).env.scope.names.lookup x = some k ∨ (k = .free ∧ (X.blk s H scope (compEnvC scope cl Cc X.env) fp).env.scope.names.lookup x = some .cell) := fun h => relS_look (sc := X.env.scope) h
  refine ⟨hu.K.trans C.K, C.N, C.nd, C.calm, takes_no hu.E, C.rm, fun x k h hk => ?_, fun x h => ?_, fun x h => ?_, fun x h => ?_, fun x h => ?_, fun x j h => ?_, fun x d h => ?_, C.blt, fun h => ?_, fun x k h => (by rw [hu.ec]; exact C.exs x k h), fun x ks h => (by rw [hu.ec]; exact C.isx x ks h), fun x tab h => (by rw [hu.ec]; exact C.hot x tab h)⟩
  · rcases look h with z | ⟨_, z⟩
    · rcases hk with rfl | rfl | rfl
      · exact .inl z
      · exact .inr (.inl z)
      · exact .inr (.inr z)
    · exact .inr (.inl z)
  · rcases look h with z | ⟨e, _⟩
    · exact z
    · cases e
  · rcases look h with z | ⟨e, _⟩
    · exact ⟨z, by show (scope.names.lookup x == some .cell) = true; rw [h]; rfl⟩
    · cases e
  · rcases look h with z | ⟨_, z⟩
    · exact .inr z
    · exact .inl z
  · rcases look h with z | ⟨e, _⟩
    · exact z
    · cases e
  · obtain ⟨f, h1, h2, h3⟩ := C.fns x j h
    exact ⟨f, h1, h2, by rw [hu.tabs, hu.ec]; exact h3⟩
  · obtain ⟨v, u, h1, h2, h3⟩ := C.glb x d h
    exact ⟨v, u, h1, h2, by rw [hu.K]; exact h3⟩
  · obtain ⟨c, P, h1, h2, h3⟩ := C.cod h
    exact ⟨c, P, h1, h2, by rw [hu.tabs]; exact h3⟩
theorem CtxOk.gen {g : Nat} (C : CtxOk k0 ci X Γ F) (hu : Under Γ Γ') (hcell : ∀ y ∈ scope.names, y.2 ≠ .cell) {A : Around} (hr : Room (k0 + g) A) (s : Shared) (H : Hp) (code : Value) (fp : List Addr) :
    CtxOk k0 { ci with sc := scope, g := g, cod := false } (gblk X A s H scope (genv X scope s code) fp) Γ' F := by
  refine ⟨hu.K.trans C.K, C.N, C.nd, C.calm, takes_no hu.E, hr, fun x k h hk => ?_, fun x h => h, fun x h => absurd rfl (hcell _ (PySem.mem_of_lookup h)), fun x h => .inr h, fun x h => h, fun x j h => ?_, fun x d h => ?_, C.blt, fun h => (by cases h), fun x k h => (by rw [hu.ec]; exact C.exs x k h), fun x ks h => (by rw [hu.ec]; exact C.isx x ks h), fun x tab h => (by rw [hu.ec]; exact C.hot x tab h)⟩
  · rcases hk with rfl | rfl | rfl
    · exact .inl h
    · exact .inr (.inl h)
    · exact .inr (.inr h)
  · obtain ⟨f, h1, h2, h3⟩ := C.fns x j h
    exact ⟨f, h1, h2, by rw [hu.tabs, hu.ec]; exact h3⟩
  · obtain ⟨v, u, h1, h2, h3⟩ := C.glb x d h
    exact ⟨v, u, h1, h2, by rw [hu.K]; exact h3⟩
theorem CtxOk.rmX (C : CtxOk k0 ci X Γ F) : Rm X := by
  have := C.rm.un
  unfold Rm
  omega
theorem CtxOk.rm0 (C : CtxOk k0 ci X Γ F) : Room k0 X.A := C.rm.mono (Nat.le_add_right _ _)
end
end DL
/-! DL17: the check of a text against its core, and that it is sound: expressions. -/
namespace DL
open PySem PySem.Spec PyProof.Rows L2
def bopOf : Operator → Option Bop
  | .Add => some .add
  | .Sub => some .sub
  | .Mult => some .mul
  | .FloorDiv => some .fdiv
  | .Mod => some .mod
  | .Pow => some .pow
  | .BitAnd => some .band
  | .BitOr => some .bor
  | .BitXor => some .bxor
  | .LShift => some .shl
  | .RShift => some .shr
  | _ => none
def copOf : CmpOp → Cop
  | .Eq => .eq
  | .NotEq => .ne
  | .Lt => .lt
  | .LtE => .le
  | .Gt => .gt
  | .GtE => .ge
  | .Is => .is
  | .IsNot => .isnot
  | .In => .isin
  | .NotIn => .notin
theorem op_of {X : Cx} {op : Operator} {o : Bop} (h : bopOf op = some o) : OpD X (binaryOp op) (binD o) := by
  cases op <;> cases h
  · exact od_add
  · exact od_sub
  · exact od_mul
  · exact od_mod
  · exact od_pow
  · exact od_shl
  · exact od_shr
  · exact od_or
  · exact od_xor
  · exact od_and
  · exact od_fdiv
theorem cop_of {X : Cx} (hu : Rm X) (op : CmpOp) : CmpOk X op (copOf op) := by
  cases op
  · exact co_eq hu
  · exact co_ne hu
  · exact co_lt hu
  · exact co_le hu
  · exact co_gt hu
  · exact co_ge hu
  · exact co_is
  · exact co_isnot
  · exact co_in hu
  · exact co_notin hu
def litD : Const → Option PyData
  | .none => some .none
  | .bool b => some (.bool b)
  | .int i => some (.int i)
  | .str x => some (.str x)
  | _ => none
/-- a built-in by its name -/
def bltN : Blt → Str
  | .len => "len"
  | .abs => "abs"
  | .int => "int"
  | .sum => "sum"
  | .min => "min"
  | .max => "max"
  | .tuple => "tuple"
  | .list => "list"
  | .sorted => "sorted"
  | .any => "any"
  | .all => "all"
  | .min2 => "min"
  | .max2 => "max"
def tyN : Ty → Str
  | .int => "int"
  | .bool => "bool"
  | .str => "str"
  | .tuple => "tuple"
  | .list => "list"
mutual
def dEq : PyData → PyData → Bool
  | .none, .none => true
  | .bool a, .bool b => decide (a = b)
  | .int a, .int b => decide (a = b)
  | .str a, .str b => decide (a = b)
  | .list a, .list b => dEqs a b
  | .tuple a, .tuple b => dEqs a b
  | _, _ => false
def dEqs : List PyData → List PyData → Bool
  | [], [] => true
  | a :: as, b :: bs => dEq a b && dEqs as bs
  | _, _ => false
end
mutual
theorem dEq_of : ∀ {a b : PyData}, dEq a b = true → a = b
  | .none, b, h => by cases b <;> first | rfl | exact (Bool.false_ne_true h).elim
  | .bool x, b, h => by
    cases b with
    | bool y => exact congrArg PyData.bool (of_decide_eq_true (by simpa only [dEq] using h))
    | _ => exact (Bool.false_ne_true (by simpa only [dEq] using h)).elim
  | .int x, b, h => by
    cases b with
    | int y => exact congrArg PyData.int (of_decide_eq_true (by simpa only [dEq] using h))
    | _ => exact (Bool.false_ne_true (by simpa only [dEq] using h)).elim
  | .str x, b, h => by
    cases b with
    | str y => exact congrArg PyData.str (of_decide_eq_true (by simpa only [dEq] using h))
    | _ => exact (Bool.false_ne_true (by simpa only [dEq] using h)).elim
  | .list x, b, h => by
    cases b with
    | list y => exact congrArg PyData.list (dEqs_of (by simpa only [dEq] using h))
    | _ => exact (Bool.false_ne_true (by simpa only [dEq] using h)).elim
  | .tuple x, b, h => by
    cases b with
    | tuple y => exact congrArg PyData.tuple (dEqs_of (by simpa only [dEq] using h))
    | _ => exact (Bool.false_ne_true (by simpa only [dEq] using h)).elim
  | .dict _, b, h => by cases b <;> exact (Bool.false_ne_true (by simpa only [dEq] using h)).elim
theorem dEqs_of : ∀ {a b : List PyData}, dEqs a b = true → a = b
  | [], b, h => by cases b with
    | nil => rfl
    | cons _ _ => exact (Bool.false_ne_true (by simpa only [dEqs] using h)).elim
  | x :: xs, b, h => by
    cases b with
    | nil => exact (Bool.false_ne_true (by simpa only [dEqs] using h)).elim
    | cons y ys =>
      have h' : dEq x y = true ∧ dEqs xs ys = true := by simpa only [dEqs, Bool.and_eq_true] using h
      rw [dEq_of h'.1, dEqs_of h'.2]
end
def isVis (sc : Scope) (x : Str) : Bool := match sc.names.lookup x with
  | some .local => true
  | some .cell => true
  | some .free => true
  | _ => false
def isLocC (sc : Scope) (x : Str) : Bool := match sc.names.lookup x with
  | some .local => true
  | some .cell => true
  | _ => false
def isGl (sc : Scope) (x : Str) : Bool := match sc.names.lookup x with
  | some .globalImplicit => true
  | _ => false
def gB (ci : Ci) (x : Str) : Bool := isGl ci.sc x && ci.M.blt.contains x
mutual
def chkG : Nat → Ci → Tg → Expr → Bool
  | 0, _, _, _ => false
  | n + 1, ci, .nm i, e => match e with
    | .Name x _ => decide (ci.N[i]? = some x) && isLocC ci.sc x
    | _ => false
  | n + 1, ci, .tup ts, e => match e with
    | .Tuple es _ _ => chkGs n ci ts es && es.all (fun e => !isStar e)
    | _ => false
def chkGs : Nat → Ci → List Tg → List Expr → Bool
  | 0, _, _, _ => false
  | n + 1, ci, [], es => match es with
    | [] => true
    | _ => false
  | n + 1, ci, t :: ts, es => match es with
    | e :: es => chkG n ci t e && chkGs n ci ts es
    | _ => false
end
/-- what is left of a row of and, or -/
def oneB (op : BoolOp) (y : Expr) (r : List Expr) (p : Pos) : Expr := match r with
  | [] => y
  | _ => .BoolOp op (y :: r) p
/-- f of the arguments es -/
def isCallOf (x : Str) (e : Expr) : Option (List Expr) := match e with
  | .Call (.Name y _) es [] _ => if x = y then some es else none
  | _ => none
mutual
def chkE : Nat → Ci → E → Expr → Bool
  | 0, _, _, _ => false
  | n + 1, ci, c, e => match c with
    | .var i => match e with
      | .Name x _ => decide (ci.N[i]? = some x) && isVis ci.sc x && okName x
      | _ => false
    | .lit d => match e with
      | .Constant k _ _ => match litD k, d with
        | some .none, .none => true
        | some (.bool a), .bool b => decide (a = b)
        | some (.int a), .int b => decide (a = b)
        | some (.str a), .str b => decide (a = b)
        | _, _ => false
      | _ => false
    | .glob d => match e with
      | .Name x _ => isGl ci.sc x && okName x && match ci.M.glb.lookup x with
        | some d' => dEq d d'
        | none => false
      | _ => false
    | .tup cs => match e with
      | .Tuple es _ _ => chkEs n ci cs es && decide (cs.length ≤ 1000)
      | _ => false
    | .bin o a b => match e with
      | .BinOp x op y _ => decide (bopOf op = some o) && chkE n ci a x && chkE n ci b y
      | _ => false
    | .neg a => match e with
      | .UnaryOp .USub x _ => chkE n ci a x
      | _ => false
    | .not a => match e with
      | .UnaryOp .Not x _ => chkE n ci a x
      | _ => false
    | .and a b => match e with
      | .BoolOp .And (x :: y :: r) p => chkE n ci a x && chkE n ci b (oneB .And y r p)
      | .BoolOp .And [x] p => chkE n ci (.and a b) x
      | _ => false
    | .or a b => match e with
      | .BoolOp .Or (x :: y :: r) p => chkE n ci a x && chkE n ci b (oneB .Or y r p)
      | .BoolOp .Or [x] p => chkE n ci (.or a b) x
      | _ => false
    | .ite k a b => match e with
      | .IfExp z x y _ => chkT n ci k z && chkE n ci a x && chkE n ci b y
      | _ => false
    | .cmp o a b => match e with
      | .Compare x [op] [y] _ => decide (copOf op = o) && chkE n ci a x && chkE n ci b y && !isSetX y
      | _ => false
    | .chain o o' a b d => match e with
      | .Compare x [op, op'] [y, z] _ => decide (copOf op = o) && decide (copOf op' = o') && chkE n ci a x && chkE n ci b y && chkE n ci d z && !isSetX z
      | _ => false
    | .idx a i => match e with
      | .Subscript x y _ => chkE n ci a x && chkE n ci i y && !isSlcX y
      | _ => false
    | .slc a lo hi => match e with
      | .Subscript x (.Slice l h none _) _ => chkE n ci a x && chkO n ci lo l && chkO n ci hi h
      | _ => false
    | .isa a ty => match e with
      | .Call (.Name f _) [x, .Name y _] [] _ => decide (f = ("isinstance" : Str)) && gB ci f && chkE n ci a x && decide (y = tyN ty) && gB ci y && !isStar x
      | _ => false
    | .call j cs => match e with
      | .Call (.Name f _) es [] _ => isGl ci.sc f && okName f && decide (ci.M.fns.lookup f = some j) && chkEs n ci cs es
      | _ => false
    | .blt b cs => match e with
      | .Call (.Name f _) (x :: es) [] _ => decide (f = bltN b) && gB ci f && chkEs n ci cs (x :: es)
      | _ => false
    | .gen b elt tg it ifs is => match e with
      | .Call (.Name f _) [.GeneratorExp ex [⟨tx, ix, fx, 0⟩] sc _] [] _ => decide (3 ≤ ci.g) && ci.cod && decide (f = bltN b) && gB ci f && (decide (b = .all) || decide (b = .any)) && blkS ci.N ci.sc sc is && sc.names.all (fun y => !decide (y.2 = .cell)) && !sc.isCoroutine &&
          decide (sc.names.lookup (".0" : Str) = some .local) && !isSetX ix && !isLstX ix && chkI n ci it tx ix && chkG n { ci with sc := sc, g := ci.g - 3, cod := false } tg tx && chkTs n { ci with sc := sc, g := ci.g - 3, cod := false } ifs fx && chkE n { ci with sc := sc, g := ci.g - 3, cod := false } elt ex && (slotsT tg).all (fun i => is.contains i)
      | _ => false
    | .tlen i => match e with
      | .Call (.Name f _) [.Name x _] [] _ => decide (f = ("len" : Str)) && gB ci f && decide (ci.N[i]? = some x) && isVis ci.sc x && okName x
      | _ => false
    | .tpop i => match e with
      | .Call (.Attribute (.Name x _) m ap) [] [] cp => decide (m = ("pop" : Str)) && (ap.endLine == cp.line) && decide (ci.N[i]? = some x) && isVis ci.sc x && okName x
      | _ => false
    | .sset elt tg it ifs is => chkF n ci (.sset elt tg it ifs is) e
    | .lst cs => chkF n ci (.lst cs) e
    | .callF j cs => chkF n ci (.callF j cs) e
    | .comp elt tg it ifs is => chkF n ci (.comp elt tg it ifs is) e
    | _ => false
/-- a new list -/
def chkF : Nat → Ci → E → Expr → Bool
  | 0, _, _, _ => false
  | n + 1, ci, c, e => match c with
    | .lst cs => match e with
      | .List es _ => chkEs n ci cs es && decide (cs.length ≤ 1000)
      | _ => false
    | .comp elt tg it ifs is => match e with
      | .ListComp ex [⟨tx, ix, fx, 0⟩] sc _ => blkS ci.N ci.sc sc is && !isSetX ix && chkI n ci it tx ix && chkG n { ci with sc := sc } tg tx && chkTs n { ci with sc := sc } ifs fx && chkE n { ci with sc := sc } elt ex && (slotsT tg).all (fun i => is.contains i)
      | _ => false
    | .sset elt tg it ifs is => match e with
      | .Call (.Name f _) [.SetComp ex [⟨tx, ix, fx, 0⟩] sc _] [] _ => decide (f = ("sorted" : Str)) && gB ci f && blkS ci.N ci.sc sc is && !isSetX ix && chkI n ci it tx ix && chkG n { ci with sc := sc } tg tx && chkTs n { ci with sc := sc } ifs fx && chkE n { ci with sc := sc } elt ex && (slotsT tg).all (fun i => is.contains i)
      | _ => false
    | .callF j cs => match e with
      | .Call (.Name f _) es [] _ => isGl ci.sc f && okName f && decide (ci.M.fns.lookup f = some j) && chkEs n ci cs es
      | _ => false
    | .blt b cs => match e with
      | .Call (.Name f _) (x :: es) [] _ => (decide (b = .list) || decide (b = .sorted)) && decide (f = bltN b) && gB ci f && chkEs n ci cs (x :: es)
      | _ => false
    | _ => false
def chkEs : Nat → Ci → List E → List Expr → Bool
  | 0, _, _, _ => false
  | n + 1, ci, cs, es => match cs with
    | [] => match es with
      | [] => true
      | _ => false
    | c :: cs => match es with
      | e :: es => chkE n ci c e && chkEs n ci cs es && !isStar e
      | _ => false
def chkO : Nat → Ci → E → Option Expr → Bool
  | 0, _, _, _ => false
  | n + 1, ci, c, e => match e with
    | none => isOmit c
    | some e => !isOmit c && chkE n ci c e
/-- as a test -/
def chkT : Nat → Ci → E → Expr → Bool
  | 0, _, _, _ => false
  | n + 1, ci, c, e => match c with
    | .not a => match e with
      | .UnaryOp .Not x _ => chkT n ci a x
      | _ => false
    | .and a b => match e with
      | .BoolOp .And es _ => chkB n ci .And (.and a b) es
      | _ => false
    | .or a b => match e with
      | .BoolOp .Or es _ => chkB n ci .Or (.or a b) es
      | _ => false
    | .ite k a b => match e with
      | .IfExp z x y _ => chkT n ci k z && chkT n ci a x && chkT n ci b y
      | _ => false
    | .cmp o a b => match e with
      | .Compare x [op] [y] _ => decide (copOf op = o) && chkE n ci a x && chkE n ci b y && !isSetX y
      | _ => false
    | .chain o o' a b d => match e with
      | .Compare x [op, op'] [y, z] _ => decide (copOf op = o) && decide (copOf op' = o') && chkE n ci a x && chkE n ci b y && chkE n ci d z && !isSetX z
      | _ => false
    | c => !isTestX e && chkE n ci c e
def chkB : Nat → Ci → BoolOp → E → List Expr → Bool
  | 0, _, _, _, _ => false
  | n + 1, ci, op, c, es => match es with
    | [x] => chkT n ci c x
    | x :: y :: r => match op, c with
      | .And, .and a b => chkT n ci a x && chkB n ci .And b (y :: r)
      | .Or, .or a b => chkT n ci a x && chkB n ci .Or b (y :: r)
      | _, _ => false
    | _ => false
def chkTs : Nat → Ci → List E → List Expr → Bool
  | 0, _, _, _ => false
  | n + 1, ci, cs, es => match cs with
    | [] => match es with
      | [] => true
      | _ => false
    | c :: cs => match es with
      | e :: es => chkT n ci c e && chkTs n ci cs es
      | _ => false
def chkI : Nat → Ci → It → Expr → Expr → Bool
  | 0, _, _, _, _ => false
  | n + 1, ci, it, tx, e => match it with
    | .seq c => chkE n ci c e
    | .rng a b => match e with
      | .Call (.Name f _) [x, y] [] _ => decide (f = ("range" : Str)) && gB ci f && chkE n ci a x && chkE n ci b y && !isStar x && !isStar y
      | _ => false
    | .rng1 b => match e with
      | .Call (.Name f _) [y] [] _ => decide (f = ("range" : Str)) && gB ci f && chkE n ci b y && !isStar y
      | _ => false
    | .enum a => match tx, e with
      | .Tuple _ _ _, .Call (.Name f _) [x] [] _ => decide (f = ("enumerate" : Str)) && gB ci f && chkE n ci a x && !isStar x
      | _, _ => false
    | .zip a b => match tx, e with
      | .Tuple _ _ _, .Call (.Name f _) [x, y] [] _ => decide (f = ("zip" : Str)) && gB ci f && chkE n ci a x && chkE n ci b y && !isStar x && !isStar y
      | _, _ => false
    | .rev a => match e with
      | .Call (.Name f _) [x] [] _ => decide (f = ("reversed" : Str)) && gB ci f && chkE n ci a x && !isStar x
      | _ => false
    | .dk a => match e with
      | .Call (.Name f _) [x] [] _ => decide (f = ("dict" : Str)) && gB ci f && chkE n ci a x && !isStar x
      | _ => false
end
end DL
/-! DL18: the check is sound: expressions. -/
namespace DL
open PySem PySem.Spec PyProof.Rows L2
theorem no {b : Bool} {α : Prop} (h : b = true) (e : b = false) : α := by rw [e] at h; cases h
section
variable {k0 : Nat} {F : Fn}
theorem CtxOk.vis' {ci : Ci} {X : Cx} {Γ : Cfg} (C : CtxOk k0 ci X Γ F) {x : Str} (h : isVis ci.sc x = true) : Vis X.env.scope x := by
  unfold isVis at h
  split at h
  · exact C.vis x _ (by assumption) (.inl rfl)
  · exact C.vis x _ (by assumption) (.inr (.inl rfl))
  · exact C.vis x _ (by assumption) (.inr (.inr rfl))
  · cases h
theorem CtxOk.loc' {ci : Ci} {X : Cx} {Γ : Cfg} (C : CtxOk k0 ci X Γ F) {x : Str} (h : isLocC ci.sc x = true) : L2.Loc X.env.scope x ∧ (X.fn x = true ∨ X.env.scope.names.lookup x = some .local) := by
  unfold isLocC at h
  split at h
  · have := C.loc x (by assumption)
    exact ⟨.inl this, .inr this⟩
  · have := C.cel x (by assumption)
    exact ⟨.inr this.1, .inl this.2⟩
  · cases h
theorem CtxOk.gl' {ci : Ci} {X : Cx} {Γ : Cfg} (C : CtxOk k0 ci X Γ F) {x : Str} (h : isGl ci.sc x = true) : Gl X x := by
  unfold isGl at h
  split at h
  · exact C.gl x (by assumption)
  · cases h
theorem CtxOk.gB' {ci : Ci} {X : Cx} {Γ : Cfg} (C : CtxOk k0 ci X Γ F) {x : Str} (h : gB ci x = true) : Gl X x ∧ X.mg x = none := by
  unfold gB at h
  rw [Bool.and_eq_true] at h
  exact ⟨C.gl' h.1, C.blt x (List.contains_iff_mem.mp h.2)⟩
mutual
theorem chkG_ok : ∀ (n : Nat) {ci : Ci} {X : Cx} {Γ : Cfg} {t : Tg} {e : Expr}, CtxOk k0 ci X Γ F → chkG n ci t e = true → DG X Γ e t
  | 0, _, _, _, _, _, _, h => by cases h
  | n + 1, ci, X, Γ, .nm i, e, C, h => by
    cases e with
    | Name x p =>
      have h' : (decide (ci.N[i]? = some x) && isLocC ci.sc x) = true := h
      rw [Bool.and_eq_true] at h'
      obtain ⟨h1, h2⟩ := C.loc' h'.2
      exact dg_nm C.nd (by rw [C.N]; exact of_decide_eq_true h'.1) h1 h2
    | _ => exact (Bool.false_ne_true h).elim
  | n + 1, ci, X, Γ, .tup ts, e, C, h => by
    cases e with
    | Tuple es k p =>
      have h' : (chkGs n ci ts es && es.all (fun e => !isStar e)) = true := h
      rw [Bool.and_eq_true] at h'
      obtain ⟨h1, h2⟩ := chkGs_ok n C h'.1 h'.2
      obtain ⟨h3, h4⟩ := assign_len (env := X.env) h'.2
      exact dg_tup C.K C.calm h1 (h3.trans h2) h4
    | _ => exact (Bool.false_ne_true h).elim
theorem chkGs_ok : ∀ (n : Nat) {ci : Ci} {X : Cx} {Γ : Cfg} {ts : List Tg} {es : List Expr}, CtxOk k0 ci X Γ F → chkGs n ci ts es = true → es.all (fun e => !isStar e) = true → DGs X Γ es ts ∧ es.length = ts.length
  | 0, _, _, _, _, _, _, h, _ => by cases h
  | n + 1, ci, X, Γ, [], es, C, h, hs => by
    cases es with
    | nil => exact ⟨dgs_nil, rfl⟩
    | cons _ _ => exact (Bool.false_ne_true h).elim
  | n + 1, ci, X, Γ, t :: ts, es, C, h, hs => by
    cases es with
    | nil => exact (Bool.false_ne_true h).elim
    | cons e es =>
      have h' : (chkG n ci t e && chkGs n ci ts es) = true := h
      rw [Bool.and_eq_true] at h'
      rw [List.all_cons, Bool.and_eq_true] at hs
      obtain ⟨h1, h2⟩ := chkGs_ok n C h'.2 hs.2
      refine ⟨dgs_cons (chkG_ok n C h'.1) h1 ?_, by rw [List.length_cons, List.length_cons, h2]⟩
      rw [assign_cons (by simpa using hs.1)]
      rfl
end
/-- what is shown of all checks at n -/
structure Snd (k0 : Nat) (F : Fn) (n : Nat) : Prop where
  e : ∀ {ci : Ci} {X : Cx} {Γ : Cfg} {c : E} {e : Expr}, CtxOk k0 ci X Γ F → chkE n ci c e = true → DE X Γ F e c
  f : ∀ {ci : Ci} {X : Cx} {Γ : Cfg} {c : E} {e : Expr}, CtxOk k0 ci X Γ F → chkF n ci c e = true → DF X Γ F e c ∧ ∀ env t w t', ev F c env t = .ok w t' → ∃ xs, w = .d (.list xs)
  es : ∀ {ci : Ci} {X : Cx} {Γ : Cfg} {cs : List E} {es : List Expr}, CtxOk k0 ci X Γ F → chkEs n ci cs es = true → DA X Γ F es cs ∧ es.all (fun e => !isStar e) = true
  o : ∀ {ci : Ci} {X : Cx} {Γ : Cfg} {c : E} {e : Option Expr}, CtxOk k0 ci X Γ F → chkO n ci c e = true → DO X Γ F e c
  t : ∀ {ci : Ci} {X : Cx} {Γ : Cfg} {c : E} {e : Expr}, CtxOk k0 ci X Γ F → chkT n ci c e = true → DT X Γ F e c
  b : ∀ {ci : Ci} {X : Cx} {Γ : Cfg} {op : BoolOp} {c : E} {es : List Expr} {pos : Pos}, CtxOk k0 ci X Γ F → chkB n ci op c es = true → ∀ wh (pins : List (Addr × Obj)) (s : Shared) (σ : L2.St) (H : Hp) (Q : Bool → Hp → Prop), Inv X pins σ H s → tT Γ F c σ H Q → wpAny (model X.prog X.w) X.A (isTrue (.BoolOp op es pos) X.env wh) (TP X pins σ Q) X.xe s
  ts : ∀ {ci : Ci} {X : Cx} {Γ : Cfg} {cs : List E} {es : List Expr}, CtxOk k0 ci X Γ F → chkTs n ci cs es = true → DTs X Γ F es cs
  i : ∀ {ci : Ci} {X : Cx} {Γ : Cfg} {it : DL.It} {tx e : Expr} {o : Bool}, CtxOk k0 ci X Γ F → chkI n ci it tx e = true → DI X Γ F o tx e it
theorem snd_zero : Snd k0 F 0 := ⟨fun _ h => (by cases h), fun _ h => (by cases h), fun _ h => (by cases h), fun _ h => (by cases h), fun _ h => (by cases h), fun _ h => (by cases h), fun _ h => (by cases h), fun _ h => (by cases h)⟩
section
variable {n : Nat} (Sd : Snd k0 F n) {ci : Ci} {X : Cx} {Γ : Cfg} (C : CtxOk k0 ci X Γ F)
include Sd C
theorem snd_es {cs : List E} {es : List Expr} (h : chkEs (n + 1) ci cs es = true) : DA X Γ F es cs ∧ es.all (fun e => !isStar e) = true := by
  cases cs with
  | nil =>
    cases es with
    | nil => exact ⟨da_nil, rfl⟩
    | cons _ _ => exact (Bool.false_ne_true h).elim
  | cons c cs =>
    cases es with
    | nil => exact (Bool.false_ne_true h).elim
    | cons e es =>
      have h' : (chkE n ci c e && chkEs n ci cs es && !isStar e) = true := h
      rw [Bool.and_eq_true, Bool.and_eq_true] at h'
      obtain ⟨h1, h2⟩ := Sd.es C h'.1.2
      have h3 : isStar e = false := by simpa using h'.2
      exact ⟨da_cons (Sd.e C h'.1.1) h1 (star_cons h3), by rw [List.all_cons, h2, h'.2]; rfl⟩
theorem snd_o {c : E} {e : Option Expr} (h : chkO (n + 1) ci c e = true) : DO X Γ F e c := by
  cases e with
  | none =>
    have h' : isOmit c = true := h
    cases c <;> first | exact do_none | cases h'
  | some e =>
    have h' : (!isOmit c && chkE n ci c e) = true := h
    rw [Bool.and_eq_true] at h'
    exact do_some (Sd.e C h'.2) (by simpa using h'.1)
theorem snd_ts {cs : List E} {es : List Expr} (h : chkTs (n + 1) ci cs es = true) : DTs X Γ F es cs := by
  cases cs with
  | nil =>
    cases es with
    | nil => exact dts_nil
    | cons _ _ => exact (Bool.false_ne_true h).elim
  | cons c cs =>
    cases es with
    | nil => exact (Bool.false_ne_true h).elim
    | cons e es =>
      have h' : (chkT n ci c e && chkTs n ci cs es) = true := h
      rw [Bool.and_eq_true] at h'
      exact dts_cons (Sd.t C h'.1) (Sd.ts C h'.2)
theorem snd_b {op : BoolOp} {c : E} {es : List Expr} {pos : Pos} (h : chkB (n + 1) ci op c es = true) : ∀ wh (pins : List (Addr × Obj)) (s : Shared) (σ : L2.St) (H : Hp) (Q : Bool → Hp → Prop), Inv X pins σ H s → tT Γ F c σ H Q → wpAny (model X.prog X.w) X.A (isTrue (.BoolOp op es pos) X.env wh) (TP X pins σ Q) X.xe s := by
  cases es with
  | nil => exact (Bool.false_ne_true h).elim
  | cons x r =>
    cases r with
    | nil =>
      have h' : chkT n ci c x = true := h
      cases op with
      | And => exact dt_last_and (Sd.t C h')
      | Or => exact dt_last_or (Sd.t C h')
    | cons y r =>
      cases op with
      | And =>
        cases c with
        | and a b =>
          have h' : (chkT n ci a x && chkB n ci .And b (y :: r)) = true := h
          rw [Bool.and_eq_true] at h'
          exact dt_and (Sd.t C h'.1) (Sd.b C h'.2)
        | _ => exact (Bool.false_ne_true h).elim
      | Or =>
        cases c with
        | or a b =>
          have h' : (chkT n ci a x && chkB n ci .Or b (y :: r)) = true := h
          rw [Bool.and_eq_true] at h'
          exact dt_or (Sd.t C h'.1) (Sd.b C h'.2)
        | _ => exact (Bool.false_ne_true h).elim
theorem snd_t {c : E} {e : Expr} (h : chkT (n + 1) ci c e = true) : DT X Γ F e c := by
  have plain : ∀ (h' : (!isTestX e && chkE n ci c e) = true), DT X Γ F e c := fun h' => by
    rw [Bool.and_eq_true] at h'
    exact dt_plain C.K (Sd.e C h'.2) (test_of (by simpa using h'.1))
  cases c with
  | not a =>
    cases e with
    | UnaryOp op x p =>
      cases op with
      | Not => exact dt_not (Sd.t C (show chkT n ci a x = true from h))
      | _ => exact (Bool.false_ne_true h).elim
    | _ => exact (Bool.false_ne_true h).elim
  | and a b =>
    cases e with
    | BoolOp op es p =>
      cases op with
      | And => exact ⟨fun pins s σ H Q I q => Sd.b C (show chkB n ci .And (.and a b) es = true from h) _ pins s σ H Q I q⟩
      | _ => exact (Bool.false_ne_true h).elim
    | _ => exact (Bool.false_ne_true h).elim
  | or a b =>
    cases e with
    | BoolOp op es p =>
      cases op with
      | Or => exact ⟨fun pins s σ H Q I q => Sd.b C (show chkB n ci .Or (.or a b) es = true from h) _ pins s σ H Q I q⟩
      | _ => exact (Bool.false_ne_true h).elim
    | _ => exact (Bool.false_ne_true h).elim
  | ite k a b =>
    cases e with
    | IfExp z x y p =>
      have h' : (chkT n ci k z && chkT n ci a x && chkT n ci b y) = true := h
      rw [Bool.and_eq_true, Bool.and_eq_true] at h'
      exact dt_ite (Sd.t C h'.1.1) (Sd.t C h'.1.2) (Sd.t C h'.2)
    | _ => exact (Bool.false_ne_true h).elim
  | cmp o a b =>
    cases e with
    | Compare x ops ys p =>
      match ops, ys, h with
      | [op], [y], h =>
        have h' : (decide (copOf op = o) && chkE n ci a x && chkE n ci b y && !isSetX y) = true := h
        simp only [Bool.and_eq_true, decide_eq_true_eq, Bool.not_eq_true'] at h'
        obtain ⟨⟨⟨rfl, h2⟩, h3⟩, h4⟩ := h'
        exact dt_cmp C.K (cop_of C.rmX op) (Sd.e C h2) (Sd.e C h3) (marks_of h4)
      | [], _, h => exact (Bool.false_ne_true h).elim
      | [_], [], h => exact (Bool.false_ne_true h).elim
      | [_], _ :: _ :: _, h => exact (Bool.false_ne_true h).elim
      | _ :: _ :: _, _, h => exact (Bool.false_ne_true h).elim
    | _ => exact (Bool.false_ne_true h).elim
  | chain o o' a b d =>
    cases e with
    | Compare x ops ys p =>
      match ops, ys, h with
      | [op, op'], [y, z], h =>
        have h' : (decide (copOf op = o) && decide (copOf op' = o') && chkE n ci a x && chkE n ci b y && chkE n ci d z && !isSetX z) = true := h
        simp only [Bool.and_eq_true, decide_eq_true_eq, Bool.not_eq_true'] at h'
        obtain ⟨⟨⟨⟨⟨rfl, rfl⟩, h2⟩, h3⟩, h4⟩, h5⟩ := h'
        exact dt_chain C.K (cop_of C.rmX op) (cop_of C.rmX op') (Sd.e C h2) (Sd.e C h3) (Sd.e C h4) (marks_of (op := op') h5)
      | [], _, h => exact (Bool.false_ne_true h).elim
      | [_], _, h => exact (Bool.false_ne_true h).elim
      | [_, _], [], h => exact (Bool.false_ne_true h).elim
      | [_, _], [_], h => exact (Bool.false_ne_true h).elim
      | [_, _], _ :: _ :: _ :: _, h => exact (Bool.false_ne_true h).elim
      | _ :: _ :: _ :: _, _, h => exact (Bool.false_ne_true h).elim
    | _ => exact (Bool.false_ne_true h).elim
  | _ => exact plain h
end
end
end DL
/-! DL19: the check is sound: calls, walks, comprehensions. -/
namespace DL
open PySem PySem.Spec PyProof.Rows L2
section
variable {k0 : Nat} {F : Fn} {n : Nat} (Sd : Snd k0 F n) {ci : Ci} {X : Cx} {Γ : Cfg} (C : CtxOk k0 ci X Γ F)
theorem boot_bi : (bootBuiltins "len" = some (.builtin "len") ∧ bootBuiltins "abs" = some (.builtin "abs") ∧ bootBuiltins "sum" = some (.builtin "sum") ∧ bootBuiltins "min" = some (.builtin "min") ∧ bootBuiltins "max" = some (.builtin "max") ∧ bootBuiltins "sorted" = some (.builtin "sorted") ∧ bootBuiltins "any" = some (.builtin "any") ∧ bootBuiltins "all" = some (.builtin "all")) := by decide +kernel
theorem boot_ty : (bootBuiltins "int" = some (.type "int") ∧ bootBuiltins "tuple" = some (.type "tuple") ∧ bootBuiltins "list" = some (.type "list") ∧ bootBuiltins "bool" = some (.type "bool") ∧ bootBuiltins "str" = some (.type "str")) := by decide +kernel
include Sd C
theorem snd_i {it : DL.It} {tx e : Expr} {o : Bool} (h : chkI (n + 1) ci it tx e = true) : DI X Γ F o tx e it := by
  cases it with
  | dk a =>
    cases e with
    | Call f args kws p =>
      cases f with
      | Name f q =>
        match args, kws, h with
        | [x], [], h =>
          have h' : (decide (f = ("dict" : Str)) && gB ci f && chkE n ci a x && !isStar x) = true := h
          simp only [Bool.and_eq_true, decide_eq_true_eq, Bool.not_eq_true'] at h'
          obtain ⟨⟨⟨rfl, h1⟩, h2⟩, h4⟩ := h'
          obtain ⟨g1, g2⟩ := C.gB' h1
          exact di_dk C.K C.calm g1 g2 (Sd.e C h2) (star_cons h4)
        | [], _, h => exact (Bool.false_ne_true h).elim
        | [_], _ :: _, h => exact (Bool.false_ne_true h).elim
        | _ :: _ :: _, _, h => exact (Bool.false_ne_true h).elim
      | _ => exact (Bool.false_ne_true h).elim
    | _ => exact (Bool.false_ne_true h).elim
  | seq c => exact di_seq C.K (Sd.e C (show chkE n ci c e = true from h))
  | rng a b =>
    cases e with
    | Call f args kws p =>
      cases f with
      | Name f q =>
        match args, kws, h with
        | [x, y], [], h =>
          have h' : (decide (f = ("range" : Str)) && gB ci f && chkE n ci a x && chkE n ci b y && !isStar x && !isStar y) = true := h
          simp only [Bool.and_eq_true, decide_eq_true_eq, Bool.not_eq_true'] at h'
          obtain ⟨⟨⟨⟨⟨rfl, h1⟩, h2⟩, h3⟩, h4⟩, h5⟩ := h'
          obtain ⟨g1, g2⟩ := C.gB' h1
          exact di_rng g1 g2 (Sd.e C h2) (Sd.e C h3) (by rw [star_cons h4, star_cons h5]; rfl) (by rw [star_cons h5]; rfl)
        | [], _, h => exact (Bool.false_ne_true h).elim
        | [_], _, h => exact (Bool.false_ne_true h).elim
        | [_, _], _ :: _, h => exact (Bool.false_ne_true h).elim
        | _ :: _ :: _ :: _, _, h => exact (Bool.false_ne_true h).elim
      | _ => exact (Bool.false_ne_true h).elim
    | _ => exact (Bool.false_ne_true h).elim
  | rng1 b =>
    cases e with
    | Call f args kws p =>
      cases f with
      | Name f q =>
        match args, kws, h with
        | [y], [], h =>
          have h' : (decide (f = ("range" : Str)) && gB ci f && chkE n ci b y && !isStar y) = true := h
          simp only [Bool.and_eq_true, decide_eq_true_eq, Bool.not_eq_true'] at h'
          obtain ⟨⟨⟨rfl, h1⟩, h3⟩, h5⟩ := h'
          obtain ⟨g1, g2⟩ := C.gB' h1
          exact di_rng1 g1 g2 (Sd.e C h3) (by rw [star_cons h5]; rfl)
        | [], _, h => exact (Bool.false_ne_true h).elim
        | [_], _ :: _, h => exact (Bool.false_ne_true h).elim
        | _ :: _ :: _, _, h => exact (Bool.false_ne_true h).elim
      | _ => exact (Bool.false_ne_true h).elim
    | _ => exact (Bool.false_ne_true h).elim
  | enum a =>
    cases tx with
    | Tuple ts k q0 =>
      cases e with
      | Call f args kws p =>
        cases f with
        | Name f q =>
          match args, kws, h with
          | [x], [], h =>
            have h' : (decide (f = ("enumerate" : Str)) && gB ci f && chkE n ci a x && !isStar x) = true := h
            simp only [Bool.and_eq_true, decide_eq_true_eq, Bool.not_eq_true'] at h'
            obtain ⟨⟨⟨rfl, h1⟩, h2⟩, h4⟩ := h'
            obtain ⟨g1, g2⟩ := C.gB' h1
            exact di_enum C.K g1 g2 (Sd.e C h2) (star_cons h4)
          | [], _, h => exact (Bool.false_ne_true h).elim
          | [_], _ :: _, h => exact (Bool.false_ne_true h).elim
          | _ :: _ :: _, _, h => exact (Bool.false_ne_true h).elim
        | _ => exact (Bool.false_ne_true h).elim
      | _ => exact (Bool.false_ne_true h).elim
    | _ => exact (Bool.false_ne_true h).elim
  | zip a b =>
    cases tx with
    | Tuple ts k q0 =>
      cases e with
      | Call f args kws p =>
        cases f with
        | Name f q =>
          match args, kws, h with
          | [x, y], [], h =>
            have h' : (decide (f = ("zip" : Str)) && gB ci f && chkE n ci a x && chkE n ci b y && !isStar x && !isStar y) = true := h
            simp only [Bool.and_eq_true, decide_eq_true_eq, Bool.not_eq_true'] at h'
            obtain ⟨⟨⟨⟨⟨rfl, h1⟩, h2⟩, h3⟩, h4⟩, h5⟩ := h'
            obtain ⟨g1, g2⟩ := C.gB' h1
            exact di_zip C.K g1 g2 (Sd.e C h2) (Sd.e C h3) (star_cons h4) (star_cons h5) (star_any (by rw [List.all_cons, h5]; rfl))
          | [], _, h => exact (Bool.false_ne_true h).elim
          | [_], _, h => exact (Bool.false_ne_true h).elim
          | [_, _], _ :: _, h => exact (Bool.false_ne_true h).elim
          | _ :: _ :: _ :: _, _, h => exact (Bool.false_ne_true h).elim
        | _ => exact (Bool.false_ne_true h).elim
      | _ => exact (Bool.false_ne_true h).elim
    | _ => exact (Bool.false_ne_true h).elim
  | rev a =>
    cases e with
    | Call f args kws p =>
      cases f with
      | Name f q =>
        match args, kws, h with
        | [x], [], h =>
          have h' : (decide (f = ("reversed" : Str)) && gB ci f && chkE n ci a x && !isStar x) = true := h
          simp only [Bool.and_eq_true, decide_eq_true_eq, Bool.not_eq_true'] at h'
          obtain ⟨⟨⟨rfl, h1⟩, h2⟩, h4⟩ := h'
          obtain ⟨g1, g2⟩ := C.gB' h1
          exact di_rev C.K g1 g2 (Sd.e C h2) (star_cons h4)
        | [], _, h => exact (Bool.false_ne_true h).elim
        | [_], _ :: _, h => exact (Bool.false_ne_true h).elim
        | _ :: _ :: _, _, h => exact (Bool.false_ne_true h).elim
      | _ => exact (Bool.false_ne_true h).elim
    | _ => exact (Bool.false_ne_true h).elim
/-- a call of a def -/
theorem snd_call {f : Str} {q p : Pos} {es : List Expr} {j : Nat} {cs : List E} (h : (isGl ci.sc f && okName f && decide (ci.M.fns.lookup f = some j) && chkEs n ci cs es) = true) :
    PE X (.Call (.Name f q) es [] p) (tCallR (spD X.K Γ.tabs Γ.ec (F j)) Γ.E (tA Γ F cs)) := by
  simp only [Bool.and_eq_true, decide_eq_true_eq] at h
  obtain ⟨⟨⟨h1, h2⟩, h3⟩, h4⟩ := h
  obtain ⟨a, m1, m2, m3⟩ := C.fns f j h3
  obtain ⟨ha, hs⟩ := Sd.es C h4
  obtain ⟨n1, n2, n3⟩ := okName_of h2
  have hx : Passes (L2N.CX X.prog X.w) X Γ.E := L2N.passes_call C.tk fun _ _ _ _ z => z
  cases es with
  | nil =>
    have hcs : cs = [] := by
      cases n with
      | zero => cases h4
      | succ n =>
        cases cs with
        | nil => rfl
        | cons _ _ => exact (Bool.false_ne_true h4).elim
    subst hcs
    exact (pe_callR0 m3 C.rm0 (C.gl' h1) m1 m2 (E := Γ.E) hx n1).to fun σ H Q ⟨env, t, G, q⟩ => q [] H Frame.refl G .nil
  | cons x es =>
    rw [List.all_cons, Bool.and_eq_true] at hs
    exact pe_callR m3 C.rm0 (C.gl' h1) m1 m2 hx ha n1 (star_cons (by simpa using hs.1)) (star_any hs.2)
theorem snd_bltOk {b : Blt} {x : Expr} {es : List Expr} {p q : Pos} (hg : gB ci (bltN b) = true) (hs : (x :: es).all (fun e => !isStar e) = true) {t : TA} (pa : PA X (x :: es) t) : PE X (.Call (.Name (bltN b) q) (x :: es) [] p) (tCB (rB X b) t) := by
  obtain ⟨g1, g2⟩ := C.gB' hg
  rw [List.all_cons, Bool.and_eq_true] at hs
  have h1 : isStar x = false := by simpa using hs.1
  obtain ⟨b1, b2, b3, b4, b5, b6, b7, b8⟩ := boot_bi
  obtain ⟨c1, c2, c3, _, _⟩ := boot_ty
  cases b
  · exact pe_callB bo_len.rule g1 g2 b1 pa (by decide) (by decide) (star_cons h1) (star_any hs.2)
  · exact pe_callB bo_abs.rule g1 g2 b2 pa (by decide) (by decide) (star_cons h1) (star_any hs.2)
  · exact pe_callTy bo_int.rule g1 g2 c1 pa (by decide) (by decide) (star_cons h1) (star_any hs.2)
  · exact pe_callB (bo_sum C.calm).rule g1 g2 b3 pa (by decide) (by decide) (star_cons h1) (star_any hs.2)
  · exact pe_callB (bo_min C.calm C.rmX).rule g1 g2 b4 pa (by decide) (by decide) (star_cons h1) (star_any hs.2)
  · exact pe_callB (bo_max C.calm C.rmX).rule g1 g2 b5 pa (by decide) (by decide) (star_cons h1) (star_any hs.2)
  · exact pe_callTy bo_tuple.rule g1 g2 c2 pa (by decide) (by decide) (star_cons h1) (star_any hs.2)
  · exact pe_callTy bn_list.ok.rule g1 g2 c3 pa (by decide) (by decide) (star_cons h1) (star_any hs.2)
  · exact pe_callB (bn_sorted C.rmX).ok.rule g1 g2 b6 pa (by decide) (by decide) (star_cons h1) (star_any hs.2)
  · exact pe_callB (bo_any C.calm).rule g1 g2 b7 pa (by decide) (by decide) (star_cons h1) (star_any hs.2)
  · exact pe_callB (bo_all C.calm).rule g1 g2 b8 pa (by decide) (by decide) (star_cons h1) (star_any hs.2)
  · exact pe_callB (bo_min2 C.calm).rule g1 g2 b4 pa (by decide) (by decide) (star_cons h1) (star_any hs.2)
  · exact pe_callB (bo_max2 C.calm).rule g1 g2 b5 pa (by decide) (by decide) (star_cons h1) (star_any hs.2)
theorem snd_bltNew {b : Blt} {x : Expr} {es : List Expr} {p q : Pos} (hb : b = .list ∨ b = .sorted) (hg : gB ci (bltN b) = true) (hs : (x :: es).all (fun e => !isStar e) = true) {t : TA} (pa : PA X (x :: es) t) : PE X (.Call (.Name (bltN b) q) (x :: es) [] p) (tCB (rBN X b) t) := by
  obtain ⟨g1, g2⟩ := C.gB' hg
  rw [List.all_cons, Bool.and_eq_true] at hs
  have h1 : isStar x = false := by simpa using hs.1
  obtain ⟨_, _, _, _, _, b6, _, _⟩ := boot_bi
  obtain ⟨_, _, c3, _, _⟩ := boot_ty
  rcases hb with rfl | rfl
  · exact pe_callTy bn_list.rule g1 g2 c3 pa (by decide) (by decide) (star_cons h1) (star_any hs.2)
  · exact pe_callB (bn_sorted C.rmX).rule g1 g2 b6 pa (by decide) (by decide) (star_cons h1) (star_any hs.2)
omit Sd C in
theorem blt_list {b : Blt} (hb : b = .list ∨ b = .sorted) : ∀ xs c, bltD b xs = some c → ∃ ds, c = .list ds := by
  intro xs c h
  obtain ⟨x, rfl, h2⟩ := b1_of (by rcases hb with rfl | rfl <;> decide) (by rcases hb with rfl | rfl <;> decide) h
  rcases hb with rfl | rfl
  · obtain ⟨ys, _, rfl⟩ := map_of (show (seqOf x).map PyData.list = some c from h2)
    exact ⟨ys, rfl⟩
  · have h3 : sortedD x = some c := h2
    cases x with
    | list ys =>
      obtain ⟨ds, _, rfl⟩ := map_of (show (sortD ys).map PyData.list = some c from h3)
      exact ⟨ds, rfl⟩
    | _ => cases h3
theorem snd_f {c : E} {e : Expr} (h : chkF (n + 1) ci c e = true) : DF X Γ F e c ∧ ∀ env t w t', ev F c env t = .ok w t' → ∃ xs, w = .d (.list xs) := by
  cases c with
  | sset elt tg it ifs is =>
    have h0 : (match (generalizing := false) e with
      | .Call (.Name f _) [.SetComp ex [⟨tx, ix, fx, 0⟩] sc _] [] _ => decide (f = ("sorted" : Str)) && gB ci f && blkS ci.N ci.sc sc is && !isSetX ix && chkI n ci it tx ix && chkG n { ci with sc := sc } tg tx && chkTs n { ci with sc := sc } ifs fx && chkE n { ci with sc := sc } elt ex && (slotsT tg).all (fun i => is.contains i)
      | _ => false) = true := h
    split at h0
    · simp only [Bool.and_eq_true, Bool.not_eq_true', decide_eq_true_eq] at h0
      obtain ⟨⟨⟨⟨⟨⟨⟨⟨rfl, g0⟩, h1⟩, h2⟩, h3⟩, h4⟩, h5⟩, h6⟩, h7⟩ := h0
      obtain ⟨g1, g2⟩ := C.gB' g0
      obtain ⟨ok, ei⟩ := blkS_of C h1
      refine ⟨?_, fun env t w t' r => ?_⟩
      · rename_i q1 ex tx ix fx sc q2 q3
        have := df_sset (p := q1) (pos := q3) (gpos := q2) (celt := elt) (ctg := tg) (cit := it) (cifs := ifs) C.calm C.nd g1 g2 (Sd.i C h3) ok (fun s H Cc cl fp Γ' hu => chkG_ok n (C.blk hu s H Cc cl fp) h4) (fun s H Cc cl fp Γ' hu => Sd.ts (C.blk hu s H Cc cl fp) h5) (fun s H Cc cl fp Γ' hu => Sd.e (C.blk hu s H Cc cl fp) h6) (folded_of h2) (fun i hi => by
          rw [ei]
          exact List.contains_iff_mem.mp (List.all_eq_true.mp h7 i hi))
        rw [ei] at this
        exact this
      · obtain ⟨xs, t1, _, h2⟩ := bind_ok (show ((evI F true it env t).bind fun xs t1 => (compRun (bindT tg) (evTs F ifs) (ev F elt) (wipeE env is) xs t1).calm.bind fun ys t2 => (optR (setD ys) t2).bind fun r t3 => R.ok (W.d (.list r)) t3) = R.ok w t' from r)
        obtain ⟨ys, t2, _, h3⟩ := bind_ok h2
        obtain ⟨zs, t3, _, h4⟩ := bind_ok h3
        cases h4
        exact ⟨_, rfl⟩
    · cases h0
  | lst cs =>
    cases e with
    | List es p =>
      have h' : (chkEs n ci cs es && decide (cs.length ≤ 1000)) = true := h
      simp only [Bool.and_eq_true, decide_eq_true_eq] at h'
      refine ⟨df_lst (Sd.es C h'.1).1 h'.2, fun env t w t' r => ?_⟩
      obtain ⟨ws, t1, _, h2⟩ := bind_ok (show ((evs F cs env t).bind fun ws t1 => (optR (allD ws) t1).bind fun xs t2 => R.ok (W.d (.list xs)) t2) = R.ok w t' from r)
      obtain ⟨ys, t2, _, h3⟩ := bind_ok h2
      cases h3
      exact ⟨_, rfl⟩
    | _ => exact (Bool.false_ne_true h).elim
  | callF j cs =>
    cases e with
    | Call f es kws p =>
      cases f with
      | Name f q =>
        cases kws with
        | nil =>
          refine ⟨df_callR C.K (snd_call Sd C (show _ = true from h)), fun env t w t' r => ?_⟩
          obtain ⟨ws, t1, _, h2⟩ := bind_ok (show ((evs F cs env t).bind fun ws t1 => if ws.all W.arg then (F j ws t1).bind fun w t2 => match w with
            | .fresh xs => .ok (.d (.list xs)) t2
            | _ => .bad
          else .bad) = R.ok w t' from r)
          split at h2
          · obtain ⟨w2, t2, _, h3⟩ := bind_ok h2
            cases w2 with
            | fresh xs => cases h3; exact ⟨_, rfl⟩
            | _ => cases h3
          · cases h2
        | cons _ _ => exact (Bool.false_ne_true h).elim
      | _ => exact (Bool.false_ne_true h).elim
    | _ => exact (Bool.false_ne_true h).elim
  | blt b cs =>
    cases e with
    | Call f es kws p =>
      cases f with
      | Name f q =>
        match es, kws, h with
        | x :: es, [], h =>
          have h' : ((decide (b = .list) || decide (b = .sorted)) && decide (f = bltN b) && gB ci f && chkEs n ci cs (x :: es)) = true := h
          simp only [Bool.and_eq_true, Bool.or_eq_true, decide_eq_true_eq] at h'
          obtain ⟨⟨⟨hb, rfl⟩, h2⟩, h3⟩ := h'
          obtain ⟨ha, hs⟩ := Sd.es C h3
          refine ⟨df_bltR C.K (fun pa => snd_bltNew Sd C hb h2 hs pa) ha (blt_list hb), fun env t w t' r => ?_⟩
          obtain ⟨ws, t1, _, h2⟩ := bind_ok (show ((evs F cs env t).bind fun ws t1 => (optR ((allDat ws).bind fun xs => bltD b xs) t1).bind fun r t2 => R.ok (W.d r) t2) = R.ok w t' from r)
          cases hq : (allDat ws).bind fun xs => bltD b xs with
          | none => rw [hq] at h2; cases h2
          | some c =>
            rw [hq] at h2
            cases h2
            obtain ⟨ys, _, h5⟩ := bind_of hq
            obtain ⟨ds, rfl⟩ := blt_list hb _ _ h5
            exact ⟨ds, rfl⟩
        | [], _, h => exact (Bool.false_ne_true h).elim
        | _ :: _, _ :: _, h => exact (Bool.false_ne_true h).elim
      | _ => exact (Bool.false_ne_true h).elim
    | _ => exact (Bool.false_ne_true h).elim
  | comp elt tg it ifs is =>
    cases e with
    | ListComp ex gs sc p =>
      match gs, h with
      | [⟨tx, ix, fx, 0⟩], h =>
        have h' : (blkS ci.N ci.sc sc is && !isSetX ix && chkI n ci it tx ix && chkG n { ci with sc := sc } tg tx && chkTs n { ci with sc := sc } ifs fx && chkE n { ci with sc := sc } elt ex && (slotsT tg).all (fun i => is.contains i)) = true := h
        simp only [Bool.and_eq_true, Bool.not_eq_true'] at h'
        obtain ⟨⟨⟨⟨⟨⟨h1, h2⟩, h3⟩, h4⟩, h5⟩, h6⟩, h7⟩ := h'
        obtain ⟨ok, ei⟩ := blkS_of C h1
        refine ⟨?_, fun env t w t' r => ?_⟩
        · have := df_lc (pos := p) (celt := elt) (ctg := tg) (cit := it) (cifs := ifs) C.K C.calm C.nd (Sd.i C h3) ok (fun s H Cc cl fp Γ' hu => chkG_ok n (C.blk hu s H Cc cl fp) h4) (fun s H Cc cl fp Γ' hu => Sd.ts (C.blk hu s H Cc cl fp) h5) (fun s H Cc cl fp Γ' hu => Sd.e (C.blk hu s H Cc cl fp) h6) (folded_of h2) (fun i hi => by
            rw [ei]
            exact List.contains_iff_mem.mp (List.all_eq_true.mp h7 i hi))
          rw [ei] at this
          exact this
        · obtain ⟨xs, t1, _, h2⟩ := bind_ok (show ((evI F true it env t).bind fun xs t1 => (compRun (bindT tg) (evTs F ifs) (ev F elt) (wipeE env is) xs t1).calm.bind fun ys t2 => if lenOk ys.length then R.ok (W.d (.list ys)) t2 else .bad) = R.ok w t' from r)
          obtain ⟨ys, t2, _, h3⟩ := bind_ok h2
          split at h3
          · cases h3; exact ⟨_, rfl⟩
          · cases h3
      | [], h => exact (Bool.false_ne_true h).elim
      | [⟨_, _, _, .ofNat (_ + 1)⟩], h => exact (Bool.false_ne_true h).elim
      | [⟨_, _, _, .negSucc _⟩], h => exact (Bool.false_ne_true h).elim
      | ⟨_, _, _, .ofNat 0⟩ :: _ :: _, h => exact (Bool.false_ne_true h).elim
      | ⟨_, _, _, .ofNat (_ + 1)⟩ :: _ :: _, h => exact (Bool.false_ne_true h).elim
      | ⟨_, _, _, .negSucc _⟩ :: _ :: _, h => exact (Bool.false_ne_true h).elim
    | _ => exact (Bool.false_ne_true h).elim
  | _ => exact (Bool.false_ne_true h).elim
end
end DL
/-! DL20: the check is sound: expressions, all together. -/
namespace DL
open PySem PySem.Spec PyProof.Rows L2
section
variable {k0 : Nat} {F : Fn} {n : Nat} (Sd : Snd k0 F n) {ci : Ci} {X : Cx} {Γ : Cfg} (C : CtxOk k0 ci X Γ F)
include Sd C
theorem snd_lit {d : PyData} {k : Const} {j : Nat} {p : Pos} (h : (match litD k, d with
        | some .none, .none => true
        | some (.bool a), .bool b => decide (a = b)
        | some (.int a), .int b => decide (a = b)
        | some (.str a), .str b => decide (a = b)
        | _, _ => false) = true) : DE X Γ F (.Constant k j p) (.lit d) := by
  cases k with
  | none =>
    cases d with
    | none => exact de_lit pe_non fun _ _ => .non
    | _ => cases h
  | bool a =>
    cases d with
    | bool b =>
      obtain rfl : a = b := of_decide_eq_true h
      exact de_lit pe_bl fun _ _ => .bl a
    | _ => cases h
  | int a =>
    cases d with
    | int b =>
      obtain rfl : a = b := of_decide_eq_true h
      exact de_lit pe_int fun _ _ => .int a
    | _ => cases h
  | str a =>
    cases d with
    | str b =>
      obtain rfl : a = b := of_decide_eq_true h
      exact de_lit pe_str fun _ _ => .str a
    | _ => cases h
  | _ => cases h
theorem snd_gen {b : Blt} {elt : E} {tg : Tg} {it : DL.It} {ifs : List E} {is : List Nat} {f : Str} {q gp p : Pos} {ex tx ix : Expr} {fx : List Expr} {sc : Scope} (h : (decide (3 ≤ ci.g) && ci.cod && decide (f = bltN b) && gB ci f && (decide (b = .all) || decide (b = .any)) && blkS ci.N ci.sc sc is && sc.names.all (fun y => !decide (y.2 = .cell)) && !sc.isCoroutine &&
          decide (sc.names.lookup (".0" : Str) = some .local) && !isSetX ix && !isLstX ix && chkI n ci it tx ix && chkG n { ci with sc := sc, g := ci.g - 3, cod := false } tg tx && chkTs n { ci with sc := sc, g := ci.g - 3, cod := false } ifs fx && chkE n { ci with sc := sc, g := ci.g - 3, cod := false } elt ex && (slotsT tg).all (fun i => is.contains i)) = true) :
    DE X Γ F (.Call (.Name f q) [.GeneratorExp ex [⟨tx, ix, fx, 0⟩] sc gp] [] p) (.gen b elt tg it ifs is) := by
  simp only [Bool.and_eq_true, Bool.not_eq_true', decide_eq_true_eq, Bool.or_eq_true] at h
  obtain ⟨⟨⟨⟨⟨⟨⟨⟨⟨⟨⟨⟨⟨⟨⟨h1, h2⟩, rfl⟩, h4⟩, h5⟩, h6⟩, h7⟩, h8⟩, h9⟩, h10⟩, h11⟩, h12⟩, h13⟩, h14⟩, h15⟩, h16⟩ := h
  obtain ⟨ok, ei⟩ := blkS_of C h6
  obtain ⟨cc, P, tb, hcode, hP⟩ := C.cod h2
  obtain ⟨g1, g2⟩ := C.gB' h4
  have hcell : ∀ y ∈ sc.names, y.2 ≠ .cell := fun y hy e => by
    have := List.all_eq_true.mp h7 y hy
    rw [e] at this
    exact absurd this (by decide)
  have hr : Room (k0 + (ci.g - 3) + 3) X.A := by
    have e : k0 + (ci.g - 3) + 3 = k0 + ci.g := by omega
    rw [e]; exact C.rm
  have gs : GenSc X sc (ownP ci.N is) tg := ⟨ok, hcell, h8, h9, fun i hi => by
    rw [ei]
    exact List.contains_iff_mem.mp (List.all_eq_true.mp h16 i hi)⟩
  have gk : GenOk X Γ F (k0 + (ci.g - 3)) sc (ownP ci.N is) ex tx fx elt tg ifs := ⟨fun A s H code fp Γ' hA hu => chkG_ok n (C.gen hu hcell hA s H code fp) h13, fun A s H code fp Γ' hA hu => Sd.ts (C.gen hu hcell hA s H code fp) h14, fun A s H code fp Γ' hA hu => Sd.e (C.gen hu hcell hA s H code fp) h15⟩
  rcases h5 with rfl | rfl
  · have := de_all (p := q) (pos := p) (gpos := gp) (cit := it) hr C.K C.calm C.nd tb hcode hP g1 g2 gs gk (Sd.i C h12) (genFold_of h10 h11) (star_cons rfl)
    rw [ei] at this
    exact this
  · have := de_any (p := q) (pos := p) (gpos := gp) (cit := it) hr C.K C.calm C.nd tb hcode hP g1 g2 gs gk (Sd.i C h12) (genFold_of h10 h11) (star_cons rfl)
    rw [ei] at this
    exact this
theorem snd_isa {a : E} {ty : Ty} {f y : Str} {x : Expr} {q1 q2 p : Pos} (h : (decide (f = ("isinstance" : Str)) && gB ci f && chkE n ci a x && decide (y = tyN ty) && gB ci y && !isStar x) = true) : DE X Γ F (.Call (.Name f q1) [x, .Name y q2] [] p) (.isa a ty) := by
  simp only [Bool.and_eq_true, Bool.not_eq_true', decide_eq_true_eq] at h
  obtain ⟨⟨⟨⟨⟨rfl, h1⟩, h2⟩, rfl⟩, h3⟩, h4⟩ := h
  obtain ⟨g1, g2⟩ := C.gB' h1
  obtain ⟨g3, g4⟩ := C.gB' h3
  obtain ⟨c1, c2, c3, c4, c5⟩ := boot_ty
  cases ty
  · exact de_isa C.K g1 g2 g3 g4 c1 (by decide) (by decide) (Sd.e C h2) (star_cons h4)
  · exact de_isa C.K g1 g2 g3 g4 c4 (by decide) (by decide) (Sd.e C h2) (star_cons h4)
  · exact de_isa C.K g1 g2 g3 g4 c5 (by decide) (by decide) (Sd.e C h2) (star_cons h4)
  · exact de_isa C.K g1 g2 g3 g4 c2 (by decide) (by decide) (Sd.e C h2) (star_cons h4)
  · exact de_isa C.K g1 g2 g3 g4 c3 (by decide) (by decide) (Sd.e C h2) (star_cons h4)
theorem snd_e {c : E} {e : Expr} (h : chkE (n + 1) ci c e = true) : DE X Γ F e c := by
  cases c with
  | var i =>
    cases e with
    | Name x p =>
      have h' : (decide (ci.N[i]? = some x) && isVis ci.sc x && okName x) = true := h
      simp only [Bool.and_eq_true, decide_eq_true_eq] at h'
      obtain ⟨n1, n2, n3⟩ := okName_of h'.2
      exact de_var (by rw [C.N]; exact h'.1.1) (C.vis' h'.1.2) n1 n2
    | _ => exact (Bool.false_ne_true h).elim
  | lit d =>
    cases e with
    | Constant k j p => exact snd_lit Sd C h
    | _ => exact (Bool.false_ne_true h).elim
  | glob d =>
    cases e with
    | Name x p =>
      have h' : (isGl ci.sc x && okName x && match ci.M.glb.lookup x with
        | some d' => dEq d d'
        | none => false) = true := h
      rw [Bool.and_eq_true, Bool.and_eq_true] at h'
      obtain ⟨n1, n2, n3⟩ := okName_of h'.1.2
      cases hl : ci.M.glb.lookup x with
      | none =>
        have h2 := h'.2
        rw [hl] at h2
        cases h2
      | some d' =>
        have h2 := h'.2
        rw [hl] at h2
        obtain rfl := dEq_of h2
        obtain ⟨v, u, m1, m2, m3⟩ := C.glb x d hl
        exact de_glob (pe_glob (C.gl' h'.1.1) m1 m2 n1) m3
    | _ => exact (Bool.false_ne_true h).elim
  | «omit» => exact (Bool.false_ne_true h).elim
  | tup cs =>
    cases e with
    | Tuple es k p =>
      have h' : (chkEs n ci cs es && decide (cs.length ≤ 1000)) = true := h
      simp only [Bool.and_eq_true, decide_eq_true_eq] at h'
      exact de_tup (Sd.es C h'.1).1 h'.2
    | _ => exact (Bool.false_ne_true h).elim
  | bin o a b =>
    cases e with
    | BinOp x op y p =>
      have h' : (decide (bopOf op = some o) && chkE n ci a x && chkE n ci b y) = true := h
      simp only [Bool.and_eq_true, decide_eq_true_eq] at h'
      exact de_bin C.K (op_of h'.1.1) (Sd.e C h'.1.2) (Sd.e C h'.2)
    | _ => exact (Bool.false_ne_true h).elim
  | neg a =>
    cases e with
    | UnaryOp op x p =>
      cases op with
      | USub => exact de_neg (Sd.e C (show chkE n ci a x = true from h))
      | _ => exact (Bool.false_ne_true h).elim
    | _ => exact (Bool.false_ne_true h).elim
  | not a =>
    cases e with
    | UnaryOp op x p =>
      cases op with
      | Not => exact de_not C.K (Sd.e C (show chkE n ci a x = true from h))
      | _ => exact (Bool.false_ne_true h).elim
    | _ => exact (Bool.false_ne_true h).elim
  | and a b =>
    cases e with
    | BoolOp op es p =>
      cases op with
      | And =>
        match es, h with
        | [], h => exact (Bool.false_ne_true h).elim
        | [x], h => exact de_one (Sd.e C (show chkE n ci (.and a b) x = true from h))
        | x :: y :: r, h =>
          have h' : (chkE n ci a x && chkE n ci b (oneB .And y r p)) = true := h
          rw [Bool.and_eq_true] at h'
          refine de_and C.K (Sd.e C h'.1) ?_
          cases r with
          | nil => exact de_one (Sd.e C h'.2)
          | cons z r => exact Sd.e C h'.2
      | _ => exact (Bool.false_ne_true h).elim
    | _ => exact (Bool.false_ne_true h).elim
  | or a b =>
    cases e with
    | BoolOp op es p =>
      cases op with
      | Or =>
        match es, h with
        | [], h => exact (Bool.false_ne_true h).elim
        | [x], h => exact de_one (Sd.e C (show chkE n ci (.or a b) x = true from h))
        | x :: y :: r, h =>
          have h' : (chkE n ci a x && chkE n ci b (oneB .Or y r p)) = true := h
          rw [Bool.and_eq_true] at h'
          refine de_or C.K (Sd.e C h'.1) ?_
          cases r with
          | nil => exact de_one (Sd.e C h'.2)
          | cons z r => exact Sd.e C h'.2
      | _ => exact (Bool.false_ne_true h).elim
    | _ => exact (Bool.false_ne_true h).elim
  | ite k a b =>
    cases e with
    | IfExp z x y p =>
      have h' : (chkT n ci k z && chkE n ci a x && chkE n ci b y) = true := h
      rw [Bool.and_eq_true, Bool.and_eq_true] at h'
      exact de_ite (Sd.t C h'.1.1) (Sd.e C h'.1.2) (Sd.e C h'.2)
    | _ => exact (Bool.false_ne_true h).elim
  | cmp o a b =>
    cases e with
    | Compare x ops ys p =>
      match ops, ys, h with
      | [op], [y], h =>
        have h' : (decide (copOf op = o) && chkE n ci a x && chkE n ci b y && !isSetX y) = true := h
        simp only [Bool.and_eq_true, decide_eq_true_eq, Bool.not_eq_true'] at h'
        obtain ⟨⟨⟨rfl, h2⟩, h3⟩, h4⟩ := h'
        exact de_cmp C.K (cop_of C.rmX op) (Sd.e C h2) (Sd.e C h3) (marks_of h4)
      | [], _, h => exact (Bool.false_ne_true h).elim
      | [_], [], h => exact (Bool.false_ne_true h).elim
      | [_], _ :: _ :: _, h => exact (Bool.false_ne_true h).elim
      | _ :: _ :: _, _, h => exact (Bool.false_ne_true h).elim
    | _ => exact (Bool.false_ne_true h).elim
  | chain o o' a b d =>
    cases e with
    | Compare x ops ys p =>
      match ops, ys, h with
      | [op, op'], [y, z], h =>
        have h' : (decide (copOf op = o) && decide (copOf op' = o') && chkE n ci a x && chkE n ci b y && chkE n ci d z && !isSetX z) = true := h
        simp only [Bool.and_eq_true, decide_eq_true_eq, Bool.not_eq_true'] at h'
        obtain ⟨⟨⟨⟨⟨rfl, rfl⟩, h2⟩, h3⟩, h4⟩, h5⟩ := h'
        exact de_chain C.K (cop_of C.rmX op) (cop_of C.rmX op') (Sd.e C h2) (Sd.e C h3) (Sd.e C h4) (marks_of (op := op') h5)
      | [], _, h => exact (Bool.false_ne_true h).elim
      | [_], _, h => exact (Bool.false_ne_true h).elim
      | [_, _], [], h => exact (Bool.false_ne_true h).elim
      | [_, _], [_], h => exact (Bool.false_ne_true h).elim
      | [_, _], _ :: _ :: _ :: _, h => exact (Bool.false_ne_true h).elim
      | _ :: _ :: _ :: _, _, h => exact (Bool.false_ne_true h).elim
    | _ => exact (Bool.false_ne_true h).elim
  | idx a i =>
    cases e with
    | Subscript x y p =>
      have h' : (chkE n ci a x && chkE n ci i y && !isSlcX y) = true := h
      simp only [Bool.and_eq_true, Bool.not_eq_true'] at h'
      exact de_idx C.K (plain_ix h'.2) (Sd.e C h'.1.1) (Sd.e C h'.1.2)
    | _ => exact (Bool.false_ne_true h).elim
  | slc a lo hi =>
    cases e with
    | Subscript x y p =>
      cases y with
      | Slice l hh st p2 =>
        cases st with
        | none =>
          have h' : (chkE n ci a x && chkO n ci lo l && chkO n ci hi hh) = true := h
          rw [Bool.and_eq_true, Bool.and_eq_true] at h'
          exact de_slc C.K (Sd.e C h'.1.1) (Sd.o C h'.1.2) (Sd.o C h'.2)
        | some _ => exact (Bool.false_ne_true h).elim
      | _ => exact (Bool.false_ne_true h).elim
    | _ => exact (Bool.false_ne_true h).elim
  | isa a ty =>
    have h' : (match (generalizing := false) e with
      | .Call (.Name f _) [x, .Name y _] [] _ => decide (f = ("isinstance" : Str)) && gB ci f && chkE n ci a x && decide (y = tyN ty) && gB ci y && !isStar x
      | _ => false) = true := h
    split at h'
    · exact snd_isa Sd C h'
    · cases h'
  | revl _ => exact (Bool.false_ne_true h).elim
  | tlen i =>
    have h' : (match (generalizing := false) e with
      | .Call (.Name f _) [.Name x _] [] _ => decide (f = ("len" : Str)) && gB ci f && decide (ci.N[i]? = some x) && isVis ci.sc x && okName x
      | _ => false) = true := h
    split at h'
    · simp only [Bool.and_eq_true, decide_eq_true_eq] at h'
      obtain ⟨⟨⟨⟨rfl, h2⟩, h3⟩, h4⟩, h5⟩ := h'
      obtain ⟨n1, n2, n3⟩ := okName_of h5
      obtain ⟨g1, g2⟩ := C.gB' h2
      exact de_tlen (by rw [C.N]; exact h3) (C.vis' h4) n1 n2 g1 g2
    · cases h'
  | tpop i =>
    have h' : (match (generalizing := false) e with
      | .Call (.Attribute (.Name x _) m ap) [] [] cp => decide (m = ("pop" : Str)) && (ap.endLine == cp.line) && decide (ci.N[i]? = some x) && isVis ci.sc x && okName x
      | _ => false) = true := h
    split at h'
    · simp only [Bool.and_eq_true, decide_eq_true_eq] at h'
      obtain ⟨⟨⟨⟨rfl, h2⟩, h3⟩, h4⟩, h5⟩ := h'
      obtain ⟨n1, n2, n3⟩ := okName_of h5
      exact de_tpop (by rw [C.N]; exact h3) (C.vis' h4) n1 n2 rfl h2
    · cases h'
  | call j cs =>
    cases e with
    | Call f es kws p =>
      cases f with
      | Name f q =>
        cases kws with
        | nil => exact de_callR C.K (snd_call Sd C (show _ = true from h))
        | cons _ _ => exact (Bool.false_ne_true h).elim
      | _ => exact (Bool.false_ne_true h).elim
    | _ => exact (Bool.false_ne_true h).elim
  | blt b cs =>
    cases e with
    | Call f es kws p =>
      cases f with
      | Name f q =>
        match es, kws, h with
        | x :: es, [], h =>
          have h' : (decide (f = bltN b) && gB ci f && chkEs n ci cs (x :: es)) = true := h
          simp only [Bool.and_eq_true, decide_eq_true_eq] at h'
          obtain ⟨⟨rfl, h2⟩, h3⟩ := h'
          obtain ⟨ha, hs⟩ := Sd.es C h3
          exact de_bltR (t := tNil) C.K (fun pa => snd_bltOk Sd C h2 hs pa) ha
        | [], _, h => exact (Bool.false_ne_true h).elim
        | _ :: _, _ :: _, h => exact (Bool.false_ne_true h).elim
      | _ => exact (Bool.false_ne_true h).elim
    | _ => exact (Bool.false_ne_true h).elim
  | gen b elt tg it ifs is =>
    have h' : (match (generalizing := false) e with
      | .Call (.Name f _) [.GeneratorExp ex [⟨tx, ix, fx, 0⟩] sc _] [] _ => decide (3 ≤ ci.g) && ci.cod && decide (f = bltN b) && gB ci f && (decide (b = .all) || decide (b = .any)) && blkS ci.N ci.sc sc is && sc.names.all (fun y => !decide (y.2 = .cell)) && !sc.isCoroutine &&
          decide (sc.names.lookup (".0" : Str) = some .local) && !isSetX ix && !isLstX ix && chkI n ci it tx ix && chkG n { ci with sc := sc, g := ci.g - 3, cod := false } tg tx && chkTs n { ci with sc := sc, g := ci.g - 3, cod := false } ifs fx && chkE n { ci with sc := sc, g := ci.g - 3, cod := false } elt ex && (slotsT tg).all (fun i => is.contains i)
      | _ => false) = true := h
    split at h'
    · exact snd_gen Sd C h'
    · cases h'
  | lst cs =>
    obtain ⟨h1, h2⟩ := Sd.f C (show chkF n ci (.lst cs) e = true from h)
    exact de_of_df h1 h2
  | callF j cs =>
    obtain ⟨h1, h2⟩ := Sd.f C (show chkF n ci (.callF j cs) e = true from h)
    exact de_of_df h1 h2
  | comp elt tg it ifs is =>
    obtain ⟨h1, h2⟩ := Sd.f C (show chkF n ci (.comp elt tg it ifs is) e = true from h)
    exact de_of_df h1 h2
  | sset elt tg it ifs is =>
    obtain ⟨h1, h2⟩ := Sd.f C (show chkF n ci (.sset elt tg it ifs is) e = true from h)
    exact de_of_df h1 h2
end
theorem snd (k0 : Nat) (F : Fn) : ∀ n, Snd k0 F n
  | 0 => snd_zero
  | n + 1 => by
    have Sd := snd k0 F n
    exact ⟨fun C h => snd_e Sd C h, fun C h => snd_f Sd C h, fun C h => snd_es Sd C h, fun C h => snd_o Sd C h, fun C h => snd_t Sd C h, fun C h => snd_b Sd C h, fun C h => snd_ts Sd C h, fun C h => snd_i Sd C h⟩
end DL
/-! DLD: which stores are swapped. -/
namespace DL
open PySem PySem.Spec PyProof.Rows L2
section
variable {env : Env} {x y z : Str} {px py pz pt p2 : Pos} {a b c : Expr} {kt k2 : Nat}
theorem star1 {e : Expr} {l : List Expr} (h : isStar e = false) : ((e :: l).any fun | .Starred .. => true | _ => false) = (l.any fun | .Starred .. => true | _ => false) := by
  cases e <;> first | rfl | (cases h; done)
theorem sw2 (hf : env.blockKind = .function) (hx : env.kindOf x = some .local) (hy : env.kindOf y = some .local) (hl : (px.line == py.line) = true) (hxy : x ≠ y) (sa : isStar a = false) (sb : isStar b = false)
    (h1 : (foldedForSure 8 a && foldedForSure 8 b) = false) (h2 : (constantsAlone 8 a && constantsAlone 8 b) = false) :
    swappedStores [.Tuple [.Name x px, .Name y py] kt pt] (.Tuple [a, b] k2 p2) env = pure (some [x, y]) := by
  have hst := (star1 (l := [b]) sa).trans ((star1 (l := []) sb).trans rfl)
  have hl' : py.line = px.line := (eq_of_beq hl).symm
  have he : ([x, y].eraseDups.length != [x, y].length) = false := by
    have : [x, y].eraseDups = [x, y] := by
      simp [List.eraseDups_cons, Ne.symm hxy]
    rw [this]; rfl
  have hn : ([Expr.Name x px, Expr.Name y py].filterMap fun
    | .Name id pos => if env.kindOf id == some .local && pos.line == px.line then some id else none
    | _ => none) = [x, y] := by
    simp [hx, hy, hl']
  have f1 : ([a, b].all (foldedForSure 8)) = false := by
    rw [List.all_cons, List.all_cons, List.all_nil, Bool.and_true]; exact h1
  have f2 : ([a, b].all (constantsAlone 8)) = false := by
    rw [List.all_cons, List.all_cons, List.all_nil, Bool.and_true]; exact h2
  have hk : (env.blockKind != .function) = false := by rw [hf]; rfl
  show (do
    if !(([Expr.Name x px, Expr.Name y py]).length == 2 || ([Expr.Name x px, Expr.Name y py]).length == 3) || [a, b].length != [Expr.Name x px, Expr.Name y py].length || env.blockKind != .function then return none
    if [a, b].any fun | .Starred .. => true | _ => false then return none
    let names := [Expr.Name x px, Expr.Name y py].filterMap fun
      | .Name id pos => if env.kindOf id == some .local && pos.line == px.line then some id else none
      | _ => none
    if names.length != [Expr.Name x px, Expr.Name y py].length || names.eraseDups.length != names.length then return none
    if [a, b].all (foldedForSure 8) then return none
    if [a, b].all (constantsAlone 8) then unsupported "assign.tuple-of-constant-expressions:order-of-the-stores"
    return some names : Sem (Option (List Str))) = _
  rw [hk, hst, hn, f1, f2]
  dsimp only
  rw [he]
  rfl
theorem sw3 (hf : env.blockKind = .function) (hx : env.kindOf x = some .local) (hy : env.kindOf y = some .local) (hz : env.kindOf z = some .local) (hl : (px.line == py.line) = true) (hl2 : (px.line == pz.line) = true) (hxy : x ≠ y) (hxz : x ≠ z) (hyz : y ≠ z)
    (sa : isStar a = false) (sb : isStar b = false) (sc : isStar c = false)
    (h1 : (foldedForSure 8 a && (foldedForSure 8 b && foldedForSure 8 c)) = false) (h2 : (constantsAlone 8 a && (constantsAlone 8 b && constantsAlone 8 c)) = false) :
    swappedStores [.Tuple [.Name x px, .Name y py, .Name z pz] kt pt] (.Tuple [a, b, c] k2 p2) env = pure (some [x, y, z]) := by
  have hst := (star1 (l := [b, c]) sa).trans ((star1 (l := [c]) sb).trans ((star1 (l := []) sc).trans rfl))
  have hl' : py.line = px.line := (eq_of_beq hl).symm
  have hl2' : pz.line = px.line := (eq_of_beq hl2).symm
  have he : ([x, y, z].eraseDups.length != [x, y, z].length) = false := by
    have : [x, y, z].eraseDups = [x, y, z] := by
      simp [List.eraseDups_cons, Ne.symm hxy, Ne.symm hxz, Ne.symm hyz]
    rw [this]; rfl
  have hn : ([Expr.Name x px, Expr.Name y py, Expr.Name z pz].filterMap fun
    | .Name id pos => if env.kindOf id == some .local && pos.line == px.line then some id else none
    | _ => none) = [x, y, z] := by
    simp [hx, hy, hz, hl', hl2']
  have f1 : ([a, b, c].all (foldedForSure 8)) = false := by
    rw [List.all_cons, List.all_cons, List.all_cons, List.all_nil, Bool.and_true]; exact h1
  have f2 : ([a, b, c].all (constantsAlone 8)) = false := by
    rw [List.all_cons, List.all_cons, List.all_cons, List.all_nil, Bool.and_true]; exact h2
  have hk : (env.blockKind != .function) = false := by rw [hf]; rfl
  show (do
    if !(([Expr.Name x px, Expr.Name y py, Expr.Name z pz]).length == 2 || ([Expr.Name x px, Expr.Name y py, Expr.Name z pz]).length == 3) || [a, b, c].length != [Expr.Name x px, Expr.Name y py, Expr.Name z pz].length || env.blockKind != .function then return none
    if [a, b, c].any fun | .Starred .. => true | _ => false then return none
    let names := [Expr.Name x px, Expr.Name y py, Expr.Name z pz].filterMap fun
      | .Name id pos => if env.kindOf id == some .local && pos.line == px.line then some id else none
      | _ => none
    if names.length != [Expr.Name x px, Expr.Name y py, Expr.Name z pz].length || names.eraseDups.length != names.length then return none
    if [a, b, c].all (foldedForSure 8) then return none
    if [a, b, c].all (constantsAlone 8) then unsupported "assign.tuple-of-constant-expressions:order-of-the-stores"
    return some names : Sem (Option (List Str))) = _
  rw [hk, hst, hn, f1, f2]
  dsimp only
  rw [he]
  rfl
theorem sw_form {es vs : List Expr} : swappedStores [.Tuple es kt pt] (.Tuple vs k2 p2) env = (do
    if !(es.length == 2 || es.length == 3) || vs.length != es.length || env.blockKind != .function then return none
    if vs.any fun | .Starred .. => true | _ => false then return none
    let names := es.filterMap fun
      | .Name id pos => if env.kindOf id == some .local && pos.line == (es.head?.map (·.pos.line)).getD 0 then some id else none
      | _ => none
    if names.length != es.length || names.eraseDups.length != names.length then return none
    if vs.all (foldedForSure 8) then return none
    if vs.all (constantsAlone 8) then unsupported "assign.tuple-of-constant-expressions:order-of-the-stores"
    return some names : Sem (Option (List Str))) := rfl
theorem fm_lt {α β : Type} {f : α → Option β} : ∀ {es : List α}, (∃ e ∈ es, f e = none) → (es.filterMap f).length < es.length
  | [], ⟨_, h, _⟩ => by cases h
  | e :: es, ⟨x, hx, hn⟩ => by
    have le : (es.filterMap f).length ≤ es.length := List.length_filterMap_le f es
    rcases List.mem_cons.mp hx with rfl | hx
    · rw [List.filterMap_cons, hn]
      show (es.filterMap f).length < es.length + 1
      omega
    · have ih := fm_lt ⟨x, hx, hn⟩
      rw [List.filterMap_cons]
      cases f e with
      | none => show (es.filterMap f).length < es.length + 1; omega
      | some b => show (b :: es.filterMap f).length < es.length + 1; rw [List.length_cons]; omega
/-- the row is of another length, or some name is no plain local, or all is written out -/
theorem swN {es vs : List Expr} (h : (es.length ≠ 2 ∧ es.length ≠ 3) ∨ (∃ x p, Expr.Name x p ∈ es ∧ env.kindOf x ≠ some .local) ∨ vs.all (foldedForSure 8) = true) : swappedStores [.Tuple es kt pt] (.Tuple vs k2 p2) env = pure none := by
  rw [sw_form]
  rcases h with h | ⟨x, p, hm, hk⟩ | h
  · have : (!(es.length == 2 || es.length == 3)) = true := by simp [h.1, h.2]
    rw [this, Bool.true_or, Bool.true_or]
    rfl
  · have hf : (es.filterMap fun
      | .Name id pos => if env.kindOf id == some .local && pos.line == (es.head?.map (·.pos.line)).getD 0 then some id else none
      | _ => none).length < es.length := by
      refine fm_lt ⟨_, hm, ?_⟩
      have e : (env.kindOf x == some .local) = false := by
        cases q : env.kindOf x == some .local with
        | false => rfl
        | true => exact absurd (eq_of_beq q) hk
      show (if env.kindOf x == some .local && p.line == (es.head?.map (·.pos.line)).getD 0 then some x else none) = none
      rw [e]; rfl
    have hne : ((es.filterMap fun
      | .Name id pos => if env.kindOf id == some .local && pos.line == (es.head?.map (·.pos.line)).getD 0 then some id else none
      | _ => none).length != es.length) = true := by
      rw [bne_iff_ne]; omega
    dsimp only
    rw [hne, Bool.true_or]
    split
    · rfl
    · split
      · rfl
      · rfl
  · dsimp only
    rw [h]
    split
    · rfl
    · split
      · rfl
      · split
        · rfl
        · rfl
end
end DL
/-! DLY: what a handler does: return f(e). -/
namespace DL
open PySem PySem.Spec PyProof.Rows L2
section
variable {k0 : Nat} {F : Fn} {ci : Ci} {X : Cx} {Γ : Cfg}
theorem hand_call (h3 : 3 ≤ ci.g) {f y : Str} {i : Nat} {q p pos pos2 : Pos} {hs tab : List (Nat × PyData)} (C : CtxOk k0 ci X Γ F) (hi : X.N[i]? = some y) (hv : Vis X.env.scope y) (hy : (y == ("__debug__" : Str)) = false) (hy2 : (y == ("__classdict__" : Str)) = false) (hg : Gl X f) (hdb : (f == ("__debug__" : Str)) = false)
    (ht : ci.M.hot.lookup f = some tab) (hm : ∀ k v, (k, v) ∈ hs → (k, v) ∈ tab) : HandOk X Γ.ec i [.Return (some (.Call (.Name f q) [.Name y p] [] pos)) pos2] hs := fun k v hkv a oe pn hz hf => by
  obtain ⟨fa, m1, m2, m3⟩ := C.hot f tab ht
  have pe : PE (X.suite a ((a, oe) :: pn)) (.Call (.Name f q) [.Name y p] [] pos) (fun σ H Q => σ[i]? = some (some (.ref a)) ∧ ∀ x H', Same H H' → (∀ A, Rp A X.K H' x v) → Q x H') := by
    refine ⟨fun pins s σ H Q I ⟨hσ, h⟩ => ?_⟩
    have ha : PA (X.suite a ((a, oe) :: pn)) [.Name y p] (tCons (tVar i) tNil) := pa_cons (pe_var (X := X.suite a ((a, oe) :: pn)) hi hv hy hy2) pa_nil
    refine wpAny_Call_Name_kw (ld_glob I hg m1 ?_ hdb)
    refine PySem.W.callWith_K (h₀ := X.base) I.ok.mod.kin m2 (thn (ha.run pos pins s σ H (fun vs H1 => vs = [V.ref a] ∧ H1 = H) I ⟨_, hσ, rfl, rfl⟩) fun us s1 hh => ?_) rfl rfl
    obtain ⟨vs, H1, I1, r, rfl, rfl⟩ := hh
    refine ⟨I1.kIn, ?_⟩
    cases r with
    | cons ru rn =>
      cases rn
      obtain rfl := ru
      have P1 := I1.pin (a, oe) (List.mem_append_left _ List.mem_cons_self)
      have hpin : L2H.PinOk X.stack H1 s1 (a, oe) := ⟨P1.1, P1.2.1, fun hm => (List.mem_cons.mp (I1.stkSub a hm)).elim P1.2.2.1 P1.2.2.2.1, P1.2.2.2.2⟩
      obtain ⟨vs, hvs⟩ := hf
      have rm : Room 3 X.A := C.rm.mono (by omega)
      refine wpAny_call (codeAny_mono (m3 k v (hm k v hkv) _ _ s1 H1 a oe Q (fun _ _ _ => False) ⟨rm.dp, rm.un⟩ ⟨rfl, vs, hvs, hz.2.2 vs hvs⟩ hpin hz I1.env0 h) fun r s' hq => ?_)
      cases r with
      | error e => exact hq.elim
      | ok fl =>
        cases fl with
        | ret u => exact I1.after hq
        | next => exact False.elim hq
        | brk => exact False.elim hq
        | cont => exact False.elim hq
  refine pss_one ((ps_ret pe).to fun D σ H _ ⟨hσ, h⟩ => ⟨hσ, h⟩)
end
end DL
/-! DL21: the check of statements, and that it is sound. -/
namespace DL
open PySem PySem.Spec PyProof.Rows L2
def isTupX : Expr → Bool
  | .Tuple .. => true
  | .List .. => true
  | _ => false
def isStr : Expr → Bool
  | .Constant (.str _) _ _ => true
  | _ => false
def ipOf : Operator → Option Bop
  | .Add => some .add
  | .Sub => some .sub
  | .Mult => some .mul
  | .Mod => some .mod
  | .FloorDiv => some .fdiv
  | .BitXor => some .bxor
  | _ => none
theorem ip_of {X : Cx} {op : Operator} {o : Bop} (h : ipOf op = some o) : PIp X op (ipO o) := by
  cases op <;> cases h
  · exact ipo_add
  · exact ipo_sub
  · exact ipo_mul
  · exact ipo_mod
  · exact ipo_xor
  · exact ipo_fdiv
def isLocal (sc : Scope) (x : Str) : Bool := match sc.names.lookup x with
  | some .local => true
  | _ => false
def isCellN (sc : Scope) (x : Str) : Bool := match sc.names.lookup x with
  | some .cell => true
  | _ => false
/-- is the store of name = [..] swapped with the block's end? -/
def swB (x : Str) (p : Pos) (q : Pos) (sc : Scope) : Bool := p.line == q.line && !(sc.names.any fun y => y.1 == x && (y.2 == .local || y.2 == .cell))
/-- names in a row -/
def chkN (ci : Ci) : List Nat → List Expr → Bool
  | [], [] => true
  | i :: is, .Name x _ :: es => decide (ci.N[i]? = some x) && isLocC ci.sc x && chkN ci is es
  | _, _ => false
/-- a row of values, some of them new lists -/
def chkP (n : Nat) (ci : Ci) : List Bool → List E → List Expr → Bool
  | [], [], [] => true
  | f :: fl, c :: cs, e :: es => (match f with
    | true => chkF n ci c e
    | false => chkE n ci c e) && !isStar e && chkP n ci fl cs es
  | _, _, _ => false
/-- how the stores of a, b = x, y go: some true: swapped; some false: by a tuple -/
def parK (ci : Ci) (is : List Nat) (es vs : List Expr) : Option Bool :=
  if vs.all (foldedForSure 8) then some false else match is, es, vs with
  | [i, j], [.Name x px, .Name y py], [a, b] => if isLocal ci.sc x && isLocal ci.sc y then (if (px.line == py.line) && decide (x ≠ y) && decide (i ≠ j) && !isStar a && !isStar b && !(foldedForSure 8 a && foldedForSure 8 b) && !(constantsAlone 8 a && constantsAlone 8 b) then some true else none)
    else if isCellN ci.sc x || isCellN ci.sc y then some false else none
  | [i, j, l], [.Name x px, .Name y py, .Name z pz], [a, b, c] => if isLocal ci.sc x && isLocal ci.sc y && isLocal ci.sc z then (if (px.line == py.line) && (px.line == pz.line) && decide (x ≠ y) && decide (x ≠ z) && decide (y ≠ z) && decide (i ≠ j) && decide (i ≠ l) && decide (j ≠ l) && !isStar a && !isStar b && !isStar c && !(foldedForSure 8 a && (foldedForSure 8 b && foldedForSure 8 c)) && !(constantsAlone 8 a && (constantsAlone 8 b && constantsAlone 8 c)) then some true else none)
    else if isCellN ci.sc x || isCellN ci.sc y || isCellN ci.sc z then some false else none
  | _, es, _ => if decide (es.length ≠ 2) && decide (es.length ≠ 3) then some false else none
def isSliceX : Expr → Bool
  | .Slice .. => true
  | _ => false
theorem sub_plain {x : Str} {p1 p2 : Pos} {y : Expr} {env : Env} (h : isSliceX y = false) (v : Value) : assign (.Subscript (.Name x p1) y p2) env v = (do
      let ov ← holding [v] (eval (.Name x p1) env)
      let iv ← holding [v, ov] (eval y env)
      standAt p2
      holding [v, ov, iv] (setItem ov iv v)
      release [v, ov, iv] []) := by
  cases y <;> first | rfl | cases h
/-- where a name stands -/
def ixOf (N : List Str) (y : Str) : Nat := (N.findIdx? fun z => decide (z = y)).getD N.length
/-- each error that is caught is of the class x, and is known -/
def exB (ci : Ci) (x : Str) (hs : List (Nat × PyData)) : Bool := match ci.M.isx.lookup x with
  | some ks => hs.all fun p => decide (p.1 ∈ ks) && ci.M.exs.any fun q => decide (q.2 = p.1) && decide (ci.M.exs.lookup q.1 = some p.1)
  | none => false
def sameStr : PyData → PyData → Bool
  | .str a, .str b => decide (a = b)
  | _, _ => false
theorem sameStr_eq {a b : PyData} (h : sameStr a b = true) : a = b := by
  cases a <;> cases b <;> first
    | exact congrArg PyData.str (of_decide_eq_true h)
    | cases h
/-- what the handler gives -/
def handB (ci : Ci) (y : Str) (suite : List Stmt) (hs : List (Nat × PyData)) : Bool := match suite with
  | [.Return (some (.Call (.Name f _) [.Name z _] [] _)) _] => decide (z = y) && isGl ci.sc f && okName f && match ci.M.hot.lookup f with
    | some tab => hs.all fun p => tab.any fun q => decide (q.1 = p.1) && sameStr q.2 p.2
    | none => false
  | _ => false
mutual
def chkS : Nat → Ci → S → Stmt → Bool
  | 0, _, _, _ => false
  | n + 1, ci, c, st => match c with
    | .asg tg c => match st with
      | .Assign [tx] e _ => chkG n ci tg tx && chkE n ci c e && !isCompX e && !(isTupX tx && isTupX e) && !isStar tx
      | _ => false
    | .own i c => match st with
      | .Assign [.Name x p] (.ListComp ex [⟨tx, ix, fx, 0⟩] sc q) _ => match c with
        | .comp elt tg it ifs is => if (isLocal ci.sc x && swB x p q sc) = false then decide (ci.N[i]? = some x) && isLocC ci.sc x && chkF n ci (.comp elt tg it ifs is) (.ListComp ex [⟨tx, ix, fx, 0⟩] sc q) else decide (ci.N[i]? = some x) && isLocal ci.sc x && swB x p q sc && blkS ci.N ci.sc sc is && !isSetX ix && chkI n ci it tx ix && chkG n { ci with sc := sc } tg tx && chkTs n { ci with sc := sc } ifs fx && chkE n { ci with sc := sc } elt ex && (slotsT tg).all (fun i => is.contains i)
        | _ => false
      | .Assign [.Name x _] e _ => decide (ci.N[i]? = some x) && isLocC ci.sc x && chkF n ci c e && !isCompX e
      | _ => false
    | .app i c => match st with
      | .Expr (.Call (.Attribute (.Name x _) m ap) [e] [] cp) _ => decide (ci.N[i]? = some x) && isVis ci.sc x && okName x && decide (m = ("append" : Str)) && (ap.endLine == cp.line) && chkE n ci c e && !isStar e
      | _ => false
    | .aug i o c => match st with
      | .AugAssign (.Name x _) op e _ => decide (ci.N[i]? = some x) && isLocC ci.sc x && decide (ipOf op = some o) && chkE n ci c e
      | _ => false
    | .ext i c => match st with
      | .AugAssign (.Name x _) .Add e _ => decide (ci.N[i]? = some x) && isLocC ci.sc x && chkF n ci c e
      | _ => false
    | .seti i k c => match st with
      | .Assign [.Subscript (.Name x _) y _] e _ => decide (ci.N[i]? = some x) && isVis ci.sc x && okName x && chkE n ci k y && chkE n ci c e && !isCompX e && !isSliceX y
      | _ => false
    | .ret c => match st with
      | .Return (some e) _ => chkE n ci c e
      | _ => false
    | .retF c => match st with
      | .Return (some e) _ => chkF n ci c e
      | _ => false
    | .retN => match st with
      | .Return none _ => true
      | _ => false
    | .ifs c a b => match st with
      | .If e x y _ => chkT n ci c e && chkSs n ci a x && chkSs n ci b y
      | _ => false
    | .forr tg it body => match st with
      | .For tx ix x [] _ => chkI n ci it tx ix && chkG n ci tg tx && !isSetX ix && chkSs n ci body x
      | _ => false
    | .whil c body => match st with
      | .While e x [] _ => chkT n ci c e && chkSs n ci body x
      | _ => false
    | .expr c => match st with
      | .Expr e _ => chkE n ci c e && !isCompX e
      | _ => false
    | .raise k => match st with
      | .Raise (some (.Call (.Name x _) [.Constant (.str _) _ _] [] _)) none _ => isGl ci.sc x && okName x && decide (ci.M.exs.lookup x = some k)
      | _ => false
    | .tryr cb hs => match st with
      | .Try body [.ExceptHandler (some (.Name x _)) (some y) (b₀ :: suite) _] [] [] _ => isGl ci.sc x && okName x && isLocal ci.sc y && okName y && decide (ci.N[ixOf ci.N y]? = some y) && exB ci x hs && handB ci y (b₀ :: suite) hs && chkSs n ci cb body && decide (3 ≤ ci.g)
      | _ => false
    | .brk => match st with
      | .Break _ => true
      | _ => false
    | .cnt => match st with
      | .Continue _ => true
      | _ => false
    | .pass => match st with
      | .Pass _ => true
      | .Expr e _ => isStr e
      | _ => false
    | .frz _ => false
    | .par ts cs => match st with
      | .Assign [.Tuple es _ _] (.Tuple vs _ _) _ => chkP n ci (ts.map (·.2)) cs vs && chkN ci (ts.map (·.1)) es && decide (ts.length ≤ 1000) && (parK ci (ts.map (·.1)) es vs).isSome
      | _ => false
    | .tun tg i => match tg with
      | .tup ts => match st with
        | .Assign [.Tuple es _ _] (.Name x _) _ => chkGs n ci ts es && es.all (fun e => !isStar e) && decide (ci.N[i]? = some x) && isVis ci.sc x && okName x
        | _ => false
      | _ => false
    | .tset i k c => match st with
      | .Assign [.Subscript (.Name x _) y _] e _ => decide (ci.N[i]? = some x) && isVis ci.sc x && okName x && chkE n ci k y && chkE n ci c e && !isCompX e && !isSliceX y
      | _ => false
    | .retO i => match st with
      | .Return (some (.Name x _)) _ => decide (ci.N[i]? = some x) && isVis ci.sc x && okName x
      | _ => false
def chkSs : Nat → Ci → List S → List Stmt → Bool
  | 0, _, _, _ => false
  | n + 1, ci, cs, sts => match cs with
    | [] => match sts with
      | [] => true
      | _ => false
    | c :: cs => match c with
      | .frz _ => chkSs n ci cs sts
      | c => match sts with
        | st :: sts => chkS n ci c st && chkSs n ci cs sts
        | _ => false
end
theorem CtxOk.add {k0 : Nat} {F : Fn} {ci : Ci} {X : Cx} {Γ : Cfg} (C : CtxOk k0 ci X Γ F) (ps : List Addr) : CtxOk k0 ci X (Γ.add ps) F :=
  ⟨C.K, C.N, C.nd, C.calm, C.tk, C.rm, C.vis, C.loc, C.cel, C.fre, C.gl, C.fns, C.glb, C.blt, C.cod, C.exs, C.isx, C.hot⟩
theorem chkN_ok {k0 : Nat} {F : Fn} {ci : Ci} {X : Cx} {Γ : Cfg} (C : CtxOk k0 ci X Γ F) : ∀ {is : List Nat} {es : List Expr}, chkN ci is es = true → NamesG X es is
  | [], [], _ => .nil
  | [], _ :: _, h => (Bool.false_ne_true h).elim
  | _ :: _, [], h => (Bool.false_ne_true h).elim
  | i :: is, e :: es, h => by
    cases e with
    | Name x p =>
      have h' : (decide (ci.N[i]? = some x) && isLocC ci.sc x && chkN ci is es) = true := h
      simp only [Bool.and_eq_true, decide_eq_true_eq] at h'
      obtain ⟨l1, l2⟩ := C.loc' h'.1.2
      exact .cons (by rw [C.N]; exact h'.1.1) l1 l2 (chkN_ok C h'.2)
    | _ => exact (Bool.false_ne_true h).elim
theorem chkP_ok {k0 : Nat} {F : Fn} {n : Nat} {ci : Ci} {X : Cx} : ∀ {fl : List Bool} {cs : List E} {es : List Expr} {Γ : Cfg}, CtxOk k0 ci X Γ F → chkP n ci fl cs es = true → DR X Γ F fl es cs
  | [], [], [], _, _, _ => dr_nil
  | [], [], _ :: _, _, _, h => (Bool.false_ne_true h).elim
  | [], _ :: _, [], _, _, h => (Bool.false_ne_true h).elim
  | [], _ :: _, _ :: _, _, _, h => (Bool.false_ne_true h).elim
  | true :: _, [], _, _, _, h => (Bool.false_ne_true h).elim
  | false :: _, [], _, _, _, h => (Bool.false_ne_true h).elim
  | true :: _, _ :: _, [], _, _, h => (Bool.false_ne_true h).elim
  | false :: _, _ :: _, [], _, _, h => (Bool.false_ne_true h).elim
  | true :: fl, c :: cs, e :: es, Γ, C, h => by
    have h' : (chkF n ci c e && !isStar e && chkP n ci fl cs es) = true := h
    simp only [Bool.and_eq_true, Bool.not_eq_true'] at h'
    exact dr_o ((snd k0 F n).f C h'.1.1).1 (fun p => chkP_ok (C.add [p]) h'.2) (star_cons h'.1.2)
  | false :: fl, c :: cs, e :: es, Γ, C, h => by
    have h' : (chkE n ci c e && !isStar e && chkP n ci fl cs es) = true := h
    simp only [Bool.and_eq_true, Bool.not_eq_true'] at h'
    exact dr_d ((snd k0 F n).e C h'.1.1) (chkP_ok C h'.2) (star_cons h'.1.2)
theorem isLocal_of {k0 : Nat} {F : Fn} {ci : Ci} {X : Cx} {Γ : Cfg} (C : CtxOk k0 ci X Γ F) {x : Str} (h : isLocal ci.sc x = true) : X.env.kindOf x = some .local := by
  unfold isLocal at h
  split at h
  · exact C.loc x (by assumption)
  · cases h
theorem isCell_of {k0 : Nat} {F : Fn} {ci : Ci} {X : Cx} {Γ : Cfg} (C : CtxOk k0 ci X Γ F) {x : Str} (h : isCellN ci.sc x = true) : X.env.kindOf x ≠ some .local := by
  unfold isCellN at h
  split at h
  · have e : X.env.kindOf x = some .cell := (C.cel x (by assumption)).1
    rw [e]
    intro z; cases z
  · cases h
theorem snd_par {k0 : Nat} {F : Fn} {fuel n : Nat} {ci : Ci} {X : Cx} {Γ : Cfg} (C : CtxOk k0 ci X Γ F) (hfn : X.env.blockKind = .function) {ts : List (Nat × Bool)} {cs : List E} {st : Stmt} (h : chkS (n + 1) ci (.par ts cs) st = true) : DS X Γ F fuel st (.par ts cs) := by
  have h' : (match (generalizing := false) st with
    | .Assign [.Tuple es _ _] (.Tuple vs _ _) _ => chkP n ci (ts.map (·.2)) cs vs && chkN ci (ts.map (·.1)) es && decide (ts.length ≤ 1000) && (parK ci (ts.map (·.1)) es vs).isSome
    | _ => false) = true := h
  split at h'
  · rename_i es k pt vs k2 p2 sp
    simp only [Bool.and_eq_true, decide_eq_true_eq] at h'
    obtain ⟨⟨⟨h1, h2⟩, h3⟩, h4⟩ := h'
    have R := chkP_ok C h1
    have Nn := chkN_ok C h2
    have gen : swappedStores [.Tuple es k pt] (.Tuple vs k2 p2) X.env = pure none → DS X Γ F fuel (.Assign [.Tuple es k pt] (.Tuple vs k2 p2) sp) (.par ts cs) := fun hw => ds_parN C.calm C.nd Nn h3 R hw
    unfold parK at h4
    by_cases hf : vs.all (foldedForSure 8) = true
    · exact gen (swN (.inr (.inr hf)))
    · rw [if_neg hf] at h4
      split at h4
      · rename_i i j x px y py a b e1
        have key : ∃ fi fj, ts = [(i, fi), (j, fj)] := by
          match ts, e1 with
          | [(_, fi), (_, fj)], e1 =>
            cases e1
            exact ⟨fi, fj, rfl⟩
        obtain ⟨fi, fj, rfl⟩ := key
        have hi : ci.N[i]? = some x ∧ ci.N[j]? = some y := by
          have : (decide (ci.N[i]? = some x) && isLocC ci.sc x && (decide (ci.N[j]? = some y) && isLocC ci.sc y && true)) = true := h2
          simp only [Bool.and_eq_true, decide_eq_true_eq] at this
          exact ⟨this.1.1, this.2.1.1⟩
        split at h4
        · rename_i hl
          rw [Bool.and_eq_true] at hl
          split at h4
          · rename_i hc
            simp only [Bool.and_eq_true, decide_eq_true_eq, Bool.not_eq_true'] at hc
            obtain ⟨⟨⟨⟨⟨⟨c1, c2⟩, c3⟩, c4⟩, c5⟩, c6⟩, c7⟩ := hc
            exact ds_par2 C.calm C.nd (by rw [C.N]; exact hi.1) (by rw [C.N]; exact hi.2) c3 (isLocal_of C hl.1) (isLocal_of C hl.2) R (sw2 hfn (isLocal_of C hl.1) (isLocal_of C hl.2) c1 c2 c4 c5 c6 c7)
          · cases h4
        · split at h4
          · rename_i hc
            rw [Bool.or_eq_true] at hc
            rcases hc with hc | hc
            · exact gen (swN (.inr (.inl ⟨x, px, List.mem_cons_self, isCell_of C hc⟩)))
            · exact gen (swN (.inr (.inl ⟨y, py, List.mem_cons_of_mem _ List.mem_cons_self, isCell_of C hc⟩)))
          · cases h4
      · rename_i i j l x px y py z pz a b c e1
        have key : ∃ fi fj fl, ts = [(i, fi), (j, fj), (l, fl)] := by
          match ts, e1 with
          | [(_, fi), (_, fj), (_, fl)], e1 =>
            cases e1
            exact ⟨fi, fj, fl, rfl⟩
        obtain ⟨fi, fj, fl, rfl⟩ := key
        have hi : ci.N[i]? = some x ∧ ci.N[j]? = some y ∧ ci.N[l]? = some z := by
          have : (decide (ci.N[i]? = some x) && isLocC ci.sc x && (decide (ci.N[j]? = some y) && isLocC ci.sc y && (decide (ci.N[l]? = some z) && isLocC ci.sc z && true))) = true := h2
          simp only [Bool.and_eq_true, decide_eq_true_eq] at this
          exact ⟨this.1.1, this.2.1.1, this.2.2.1.1⟩
        split at h4
        · rename_i hl
          rw [Bool.and_eq_true, Bool.and_eq_true] at hl
          split at h4
          · rename_i hc
            simp only [Bool.and_eq_true, decide_eq_true_eq, Bool.not_eq_true'] at hc
            obtain ⟨⟨⟨⟨⟨⟨⟨⟨⟨⟨⟨⟨c1, c2⟩, c3⟩, c4⟩, c5⟩, c6⟩, c7⟩, c8⟩, c9⟩, c10⟩, c11⟩, c12⟩, c13⟩ := hc
            exact ds_par3 C.calm C.nd (by rw [C.N]; exact hi.1) (by rw [C.N]; exact hi.2.1) (by rw [C.N]; exact hi.2.2) c6 c7 c8 (isLocal_of C hl.1.1) (isLocal_of C hl.1.2) (isLocal_of C hl.2) R
              (sw3 hfn (isLocal_of C hl.1.1) (isLocal_of C hl.1.2) (isLocal_of C hl.2) c1 c2 c3 c4 c5 c9 c10 c11 c12 c13)
          · cases h4
        · split at h4
          · rename_i hc
            rw [Bool.or_eq_true, Bool.or_eq_true] at hc
            rcases hc with (hc | hc) | hc
            · exact gen (swN (.inr (.inl ⟨x, px, List.mem_cons_self, isCell_of C hc⟩)))
            · exact gen (swN (.inr (.inl ⟨y, py, List.mem_cons_of_mem _ List.mem_cons_self, isCell_of C hc⟩)))
            · exact gen (swN (.inr (.inl ⟨z, pz, List.mem_cons_of_mem _ (List.mem_cons_of_mem _ List.mem_cons_self), isCell_of C hc⟩)))
          · cases h4
      · split at h4
        · rename_i hc
          rw [Bool.and_eq_true, decide_eq_true_eq, decide_eq_true_eq] at hc
          exact gen (swN (.inl hc))
        · cases h4
  · cases h'
/-- a def's own frame is the topmost -/
def Stk (X : Cx) : Prop := X.stack = X.env :: X.outer ∧ X.env.frame = some X.env.locals
theorem CtxOk.tr {k0 : Nat} {F : Fn} {ci : Ci} {X : Cx} {Γ : Cfg} (C : CtxOk k0 ci X Γ F) {E : XK} {pn : List (Addr × Obj)} {xe : Value → Shared → Prop} (tk : L2N.Takes (X.tr pn xe) (fun cls d _ H => E cls d H)) : CtxOk k0 ci (X.tr pn xe) (Γ.err E) F :=
  ⟨C.K, C.N, C.nd, C.calm, tk, C.rm, C.vis, C.loc, C.cel, C.fre, C.gl, C.fns, C.glb, C.blt, C.cod, C.exs, C.isx, C.hot⟩
structure SndS (k0 : Nat) (F : Fn) (fuel n : Nat) : Prop where
  s : ∀ {ci : Ci} {X : Cx} {Γ : Cfg} {c : S} {st : Stmt}, CtxOk k0 ci X Γ F → PassesOwn (model X.prog X.w) X.A X.env X.xe → X.env.blockKind = .function → Stk X → chkS n ci c st = true → DS X Γ F fuel st c
  ss : ∀ {ci : Ci} {X : Cx} {Γ : Cfg} {cs : List S} {sts : List Stmt}, CtxOk k0 ci X Γ F → PassesOwn (model X.prog X.w) X.A X.env X.xe → X.env.blockKind = .function → Stk X → chkSs n ci cs sts = true → DSs X Γ F fuel sts cs
section
variable {k0 : Nat} {F : Fn} {fuel n : Nat} (Ss : SndS k0 F fuel n) {ci : Ci} {X : Cx} {Γ : Cfg} (C : CtxOk k0 ci X Γ F) (hp : PassesOwn (model X.prog X.w) X.A X.env X.xe) (hfn : X.env.blockKind = .function) (hst : Stk X)
include Ss C hp hfn hst
theorem snd_ss {cs : List S} {sts : List Stmt} (h : chkSs (n + 1) ci cs sts = true) : DSs X Γ F fuel sts cs := by
  cases cs with
  | nil =>
    cases sts with
    | nil => exact dss_nil
    | cons _ _ => exact (Bool.false_ne_true h).elim
  | cons c cs =>
    have gen : ∀ (h' : (match (generalizing := false) sts with
      | st :: sts => chkS n ci c st && chkSs n ci cs sts
      | _ => false) = true), DSs X Γ F fuel sts (c :: cs) := fun h' => by
      cases sts with
      | nil => cases h'
      | cons st sts =>
        have h2 : (chkS n ci c st && chkSs n ci cs sts) = true := h'
        rw [Bool.and_eq_true] at h2
        exact dss_cons (Ss.s C hp hfn hst h2.1) (Ss.ss C hp hfn hst h2.2)
    cases c with
    | frz i => exact dss_frz (Ss.ss C hp hfn hst (show chkSs n ci cs sts = true from h))
    | _ => exact gen h
theorem snd_own {i : Nat} {c : E} {st : Stmt} (h : chkS (n + 1) ci (.own i c) st = true) : DS X Γ F fuel st (.own i c) := by
  have h' : (match (generalizing := false) st with
      | .Assign [.Name x p] (.ListComp ex [⟨tx, ix, fx, 0⟩] sc q) _ => match (generalizing := false) c with
        | .comp elt tg it ifs is => if (isLocal ci.sc x && swB x p q sc) = false then decide (ci.N[i]? = some x) && isLocC ci.sc x && chkF n ci (.comp elt tg it ifs is) (.ListComp ex [⟨tx, ix, fx, 0⟩] sc q) else decide (ci.N[i]? = some x) && isLocal ci.sc x && swB x p q sc && blkS ci.N ci.sc sc is && !isSetX ix && chkI n ci it tx ix && chkG n { ci with sc := sc } tg tx && chkTs n { ci with sc := sc } ifs fx && chkE n { ci with sc := sc } elt ex && (slotsT tg).all (fun i => is.contains i)
        | _ => false
      | .Assign [.Name x _] e _ => decide (ci.N[i]? = some x) && isLocC ci.sc x && chkF n ci c e && !isCompX e
      | _ => false) = true := h
  split at h'
  · rename_i x p ex tx ix fx sc q sp
    cases c with
    | comp elt tg it ifs is =>
      by_cases hsp : (isLocal ci.sc x && swB x p q sc) = false
      · have h0 := (if_pos hsp).symm.trans (show (if (isLocal ci.sc x && swB x p q sc) = false then decide (ci.N[i]? = some x) && isLocC ci.sc x && chkF n ci (.comp elt tg it ifs is) (.ListComp ex [⟨tx, ix, fx, 0⟩] sc q) else decide (ci.N[i]? = some x) && isLocal ci.sc x && swB x p q sc && blkS ci.N ci.sc sc is && !isSetX ix && chkI n ci it tx ix && chkG n { ci with sc := sc } tg tx && chkTs n { ci with sc := sc } ifs fx && chkE n { ci with sc := sc } elt ex && (slotsT tg).all (fun i => is.contains i)) = true from h')
        simp only [Bool.and_eq_true, decide_eq_true_eq] at h0
        obtain ⟨⟨h1, h2⟩, h3⟩ := h0
        obtain ⟨l1, l2⟩ := C.loc' h2
        have hno : swapsWith (.ListComp ex [⟨tx, ix, fx, 0⟩] sc q) (some (.Name x p)) sp.line X.env = pure false := by
          have e : (X.env.blockKind == .function && X.env.kindOf x == some .local && p.line == q.line && !(sc.names.any fun y => y.1 == x && (y.2 == .local || y.2 == .cell))) = false := by
            rw [hfn]
            cases hL : isLocal ci.sc x with
            | true =>
              rw [hL, Bool.true_and] at hsp
              rw [isLocal_of C hL, Bool.and_assoc]
              unfold swB at hsp
              rw [hsp, Bool.and_false]
            | false =>
              have hne : X.env.kindOf x ≠ some .local := by
                refine isCell_of C ?_
                unfold isLocC at h2
                unfold isLocal at hL
                unfold isCellN
                split at h2
                · rename_i z; rw [z] at hL; cases hL
                · rename_i z; rw [z]
                · cases h2
              have e1 : (X.env.kindOf x == some .local) = false := by
                cases z : X.env.kindOf x == some .local with
                | false => rfl
                | true => exact absurd (eq_of_beq z) hne
              rw [e1, Bool.and_false, Bool.false_and, Bool.false_and]
          show (pure (X.env.blockKind == .function && X.env.kindOf x == some .local && p.line == q.line && !(sc.names.any fun y => y.1 == x && (y.2 == .local || y.2 == .cell))) : Sem Bool) = pure false
          rw [e]
        exact ds_own C.nd (by rw [C.N]; exact h1) l1 ((snd k0 F n).f C h3).1 hno l2
      have h' := (if_neg hsp).symm.trans (show (if (isLocal ci.sc x && swB x p q sc) = false then decide (ci.N[i]? = some x) && isLocC ci.sc x && chkF n ci (.comp elt tg it ifs is) (.ListComp ex [⟨tx, ix, fx, 0⟩] sc q) else decide (ci.N[i]? = some x) && isLocal ci.sc x && swB x p q sc && blkS ci.N ci.sc sc is && !isSetX ix && chkI n ci it tx ix && chkG n { ci with sc := sc } tg tx && chkTs n { ci with sc := sc } ifs fx && chkE n { ci with sc := sc } elt ex && (slotsT tg).all (fun i => is.contains i)) = true from h')
      have h2 : (decide (ci.N[i]? = some x) && isLocal ci.sc x && swB x p q sc && blkS ci.N ci.sc sc is && !isSetX ix && chkI n ci it tx ix && chkG n { ci with sc := sc } tg tx && chkTs n { ci with sc := sc } ifs fx && chkE n { ci with sc := sc } elt ex && (slotsT tg).all (fun i => is.contains i)) = true := h'
      simp only [Bool.and_eq_true, decide_eq_true_eq, Bool.not_eq_true'] at h2
      obtain ⟨⟨⟨⟨⟨⟨⟨⟨⟨h1, h2⟩, h3⟩, h4⟩, h5⟩, h6⟩, h7⟩, h8⟩, h9⟩, h10⟩ := h2
      obtain ⟨ok, ei⟩ := blkS_of C h4
      have hl : X.env.scope.names.lookup x = some .local := by
        unfold isLocal at h2
        split at h2
        · exact C.loc x (by assumption)
        · cases h2
      have hsw : swapsWith (.ListComp ex [⟨tx, ix, fx, 0⟩] sc q) (some (.Name x p)) sp.line X.env = pure true := by
        have e : (X.env.blockKind == .function && X.env.kindOf x == some .local && p.line == q.line && !(sc.names.any fun y => y.1 == x && (y.2 == .local || y.2 == .cell))) = true := by
          rw [hfn, show X.env.kindOf x = some .local from hl, Bool.and_assoc]
          unfold swB at h3
          rw [h3]
          rfl
        show (pure (X.env.blockKind == .function && X.env.kindOf x == some .local && p.line == q.line && !(sc.names.any fun y => y.1 == x && (y.2 == .local || y.2 == .cell))) : Sem Bool) = pure true
        rw [e]
      have := ds_setLc (n := fuel) (py := p) (celt := elt) (ctg := tg) (cit := it) (cifs := ifs) C.K C.calm C.nd (by rw [C.N]; exact h1) hl hsw ((snd k0 F n).i C h6) ok (fun s H Cc cl fp Γ' hu => chkG_ok n (C.blk hu s H Cc cl fp) h7) (fun s H Cc cl fp Γ' hu => (snd k0 F n).ts (C.blk hu s H Cc cl fp) h8) (fun s H Cc cl fp Γ' hu => (snd k0 F n).e (C.blk hu s H Cc cl fp) h9) (folded_of h5) (fun i hi => by
        rw [ei]
        exact List.contains_iff_mem.mp (List.all_eq_true.mp h10 i hi))
      rw [ei] at this
      exact this
    | _ => cases h'
  · rename_i x p e sp _
    simp only [Bool.and_eq_true, decide_eq_true_eq, Bool.not_eq_true'] at h'
    obtain ⟨⟨⟨h1, h2⟩, h3⟩, h4⟩ := h'
    obtain ⟨l1, l2⟩ := C.loc' h2
    exact ds_own C.nd (by rw [C.N]; exact h1) l1 ((snd k0 F n).f C h3).1 (swaps_of h4) l2
  · cases h'
theorem snd_s {c : S} {st : Stmt} (h : chkS (n + 1) ci c st = true) : DS X Γ F fuel st c := by
  cases c with
  | asg tg c =>
    have h' : (match (generalizing := false) st with
      | .Assign [tx] e _ => chkG n ci tg tx && chkE n ci c e && !isCompX e && !(isTupX tx && isTupX e) && !isStar tx
      | _ => false) = true := h
    split at h'
    · rename_i tx e sp
      simp only [Bool.and_eq_true, Bool.not_eq_true'] at h'
      obtain ⟨⟨⟨⟨h1, h2⟩, h3⟩, h4⟩, h5⟩ := h'
      refine ds_asg ((snd k0 F n).e C h2) (chkG_ok n C h1) (swaps_of h3) ?_ (by rw [assign_cons h5]; rfl)
      cases tx with
      | Tuple ts k p =>
        cases e with
        | Tuple _ _ _ => cases h4
        | _ => rfl
      | List ts p =>
        cases e with
        | Tuple _ _ _ => cases h4
        | _ => rfl
      | _ => rfl
    · cases h'
  | own i c => exact snd_own Ss C hp hfn hst h
  | app i c =>
    have h' : (match (generalizing := false) st with
      | .Expr (.Call (.Attribute (.Name x _) m ap) [e] [] cp) _ => decide (ci.N[i]? = some x) && isVis ci.sc x && okName x && decide (m = ("append" : Str)) && (ap.endLine == cp.line) && chkE n ci c e && !isStar e
      | _ => false) = true := h
    split at h'
    · rename_i x p1 m ap e cp sp
      simp only [Bool.and_eq_true, decide_eq_true_eq, Bool.not_eq_true'] at h'
      obtain ⟨⟨⟨⟨⟨⟨h1, h2⟩, h3⟩, rfl⟩, h5⟩, h6⟩, h7⟩ := h'
      obtain ⟨n1, n2, n3⟩ := okName_of h3
      exact ds_app (by rw [C.N]; exact h1) (C.vis' h2) n1 n2 ((snd k0 F n).e C h6) (star_cons h7) rfl h5 (by rw [star_cons h7]; rfl) rfl
    · cases h'
  | aug i o c =>
    have h' : (match (generalizing := false) st with
      | .AugAssign (.Name x _) op e _ => decide (ci.N[i]? = some x) && isLocC ci.sc x && decide (ipOf op = some o) && chkE n ci c e
      | _ => false) = true := h
    split at h'
    · simp only [Bool.and_eq_true, decide_eq_true_eq] at h'
      obtain ⟨⟨⟨h1, h2⟩, h3⟩, h4⟩ := h'
      obtain ⟨l1, l2⟩ := C.loc' h2
      exact ds_aug C.nd (by rw [C.N]; exact h1) l1 (ip_of h3) ((snd k0 F n).e C h4) l2
    · cases h'
  | ext i c =>
    have h' : (match (generalizing := false) st with
      | .AugAssign (.Name x _) .Add e _ => decide (ci.N[i]? = some x) && isLocC ci.sc x && chkF n ci c e
      | _ => false) = true := h
    split at h'
    · simp only [Bool.and_eq_true, decide_eq_true_eq] at h'
      obtain ⟨⟨h1, h2⟩, h3⟩ := h'
      obtain ⟨l1, l2⟩ := C.loc' h2
      exact ds_ext C.nd (by rw [C.N]; exact h1) l1 ((snd k0 F n).f C h3).1 l2
    · cases h'
  | seti i k c =>
    have h' : (match (generalizing := false) st with
      | .Assign [.Subscript (.Name x _) y _] e _ => decide (ci.N[i]? = some x) && isVis ci.sc x && okName x && chkE n ci k y && chkE n ci c e && !isCompX e && !isSliceX y
      | _ => false) = true := h
    split at h'
    · rename_i x p1 y p2 e sp
      simp only [Bool.and_eq_true, decide_eq_true_eq, Bool.not_eq_true'] at h'
      obtain ⟨⟨⟨⟨⟨⟨h1, h2⟩, h3⟩, h4⟩, h5⟩, h6⟩, hsl⟩ := h'
      obtain ⟨n1, n2, n3⟩ := okName_of h3
      exact ds_seti (by rw [C.N]; exact h1) (C.vis' h2) n1 n2 ((snd k0 F n).e C h5) ((snd k0 F n).e C h4) (by rw [show swapsWithSole [.Subscript (.Name x p1) y p2] e sp.line X.env = swapsWith e (some (.Subscript (.Name x p1) y p2)) sp.line X.env from rfl]; exact swaps_of h6) rfl rfl (sub_plain hsl)
    · cases h'
  | ret c =>
    cases st with
    | Return v p =>
      cases v with
      | some e => exact ds_ret ((snd k0 F n).e C (show chkE n ci c e = true from h))
      | none => exact (Bool.false_ne_true h).elim
    | _ => exact (Bool.false_ne_true h).elim
  | retF c =>
    cases st with
    | Return v p =>
      cases v with
      | some e => exact ds_retF ((snd k0 F n).f C (show chkF n ci c e = true from h)).1
      | none => exact (Bool.false_ne_true h).elim
    | _ => exact (Bool.false_ne_true h).elim
  | retN =>
    cases st with
    | Return v p =>
      cases v with
      | none => exact ds_retN
      | some e => exact (Bool.false_ne_true h).elim
    | _ => exact (Bool.false_ne_true h).elim
  | ifs c a b =>
    cases st with
    | If e x y p =>
      have h' : (chkT n ci c e && chkSs n ci a x && chkSs n ci b y) = true := h
      rw [Bool.and_eq_true, Bool.and_eq_true] at h'
      exact ds_if ((snd k0 F n).t C h'.1.1) (Ss.ss C hp hfn hst h'.1.2) (Ss.ss C hp hfn hst h'.2)
    | _ => exact (Bool.false_ne_true h).elim
  | forr tg it body =>
    cases st with
    | For tx ix x els p =>
      cases els with
      | nil =>
        have h' : (chkI n ci it tx ix && chkG n ci tg tx && !isSetX ix && chkSs n ci body x) = true := h
        simp only [Bool.and_eq_true, Bool.not_eq_true'] at h'
        obtain ⟨⟨⟨h1, h2⟩, h3⟩, h4⟩ := h'
        exact ds_for hp C.K C.calm ((snd k0 F n).i C h1) (chkG_ok n C h2) (Ss.ss C hp hfn hst h4) (folded_of h3)
      | cons _ _ => exact (Bool.false_ne_true h).elim
    | _ => exact (Bool.false_ne_true h).elim
  | whil c body =>
    cases st with
    | While e x els p =>
      cases els with
      | nil =>
        have h' : (chkT n ci c e && chkSs n ci body x) = true := h
        rw [Bool.and_eq_true] at h'
        exact ds_while hp ((snd k0 F n).t C h'.1) (Ss.ss C hp hfn hst h'.2)
      | cons _ _ => exact (Bool.false_ne_true h).elim
    | _ => exact (Bool.false_ne_true h).elim
  | expr c =>
    cases st with
    | Expr e p =>
      have h' : (chkE n ci c e && !isCompX e) = true := h
      simp only [Bool.and_eq_true, Bool.not_eq_true'] at h'
      exact ds_expr ((snd k0 F n).e C h'.1) (swaps_of h'.2)
    | _ => exact (Bool.false_ne_true h).elim
  | raise k =>
    have h' : (match (generalizing := false) st with
      | .Raise (some (.Call (.Name x _) [.Constant (.str _) _ _] [] _)) none _ => isGl ci.sc x && okName x && decide (ci.M.exs.lookup x = some k)
      | _ => false) = true := h
    split at h'
    · simp only [Bool.and_eq_true, decide_eq_true_eq] at h'
      obtain ⟨⟨h1, h2⟩, h3⟩ := h'
      obtain ⟨Ca, m1, m2, m3, m4, m5, m6, _⟩ := (C.exs _ _ h3).at_
      exact ds_raise C.calm C.tk m3 m1 m2 (raises_own m4 m5) (C.gl' h1) (okName_of h2).1 m6
    · cases h'
  | tryr cb hs =>
    have h' : (match (generalizing := false) st with
      | .Try body [.ExceptHandler (some (.Name x _)) (some y) (b₀ :: suite) _] [] [] _ => isGl ci.sc x && okName x && isLocal ci.sc y && okName y && decide (ci.N[ixOf ci.N y]? = some y) && exB ci x hs && handB ci y (b₀ :: suite) hs && chkSs n ci cb body && decide (3 ≤ ci.g)
      | _ => false) = true := h
    split at h'
    · rename_i body x px y b₀ suite ph pt
      simp only [Bool.and_eq_true, decide_eq_true_eq] at h'
      obtain ⟨⟨⟨⟨⟨⟨⟨⟨h1, h2⟩, h3⟩, h4⟩, h5⟩, h6⟩, h7⟩, h8⟩, h9⟩ := h'
      unfold exB at h6
      split at h6
      · rename_i ks hks
        obtain ⟨Ca, m1, m2⟩ := (C.isx x ks hks).at_
        have hl := isLocal_of C h3
        refine ds_try C.K hst.1 hst.2 C.nd (by rw [C.N]; exact h5) hl ⟨C.gl' h1, (okName_of h2).1, .inl m1⟩ (fun k v hm => ?_) (fun E pn xe tk hp' => Ss.ss (C.tr tk) hp' hfn hst h8) ?_
        · have z := List.all_eq_true.mp h6 (k, v) hm
          simp only [Bool.and_eq_true, decide_eq_true_eq, List.any_eq_true] at z
          obtain ⟨z1, q, _, z2, z3⟩ := z
          have := (m2 q.1 k z3).1
          rw [decide_eq_true z1] at this
          exact this
        · unfold handB at h7
          split at h7
          · rename_i f qf z pz pc pr hsu
            simp only [Bool.and_eq_true, decide_eq_true_eq] at h7
            obtain ⟨⟨⟨rfl, g1⟩, g2⟩, g3⟩ := h7
            split at g3
            · rename_i tab htab
              rw [hsu]
              refine hand_call h9 C (by rw [C.N]; exact h5) (.inl (by first | exact hl | exact hl)) (okName_of h4).1 (okName_of h4).2.1 (C.gl' g1) (okName_of g2).1 htab fun k v hm => ?_
              have z := List.all_eq_true.mp g3 (k, v) hm
              obtain ⟨⟨q1, q2⟩, hq, e⟩ := List.any_eq_true.mp z
              rw [Bool.and_eq_true, decide_eq_true_eq] at e
              have e1 : q1 = k := e.1
              have e2 : q2 = v := sameStr_eq e.2
              rw [← e1, ← e2]
              exact hq
            · cases g3
          · cases h7
      · cases h6
    · cases h'
  | brk =>
    cases st with
    | Break p => exact ds_brk
    | _ => exact (Bool.false_ne_true h).elim
  | cnt =>
    cases st with
    | Continue p => exact ds_cnt
    | _ => exact (Bool.false_ne_true h).elim
  | pass =>
    cases st with
    | Pass p => exact ds_pass
    | Expr e p =>
      cases e with
      | Constant k j q =>
        cases k with
        | str x => exact ds_doc
        | _ => exact (Bool.false_ne_true h).elim
      | _ => exact (Bool.false_ne_true h).elim
    | _ => exact (Bool.false_ne_true h).elim
  | frz i => exact (Bool.false_ne_true h).elim
  | par ts cs => exact snd_par C hfn h
  | tun tg i =>
    cases tg with
    | nm _ => exact (Bool.false_ne_true h).elim
    | tup ts =>
      have h' : (match (generalizing := false) st with
        | .Assign [.Tuple es _ _] (.Name x _) _ => chkGs n ci ts es && es.all (fun e => !isStar e) && decide (ci.N[i]? = some x) && isVis ci.sc x && okName x
        | _ => false) = true := h
      split at h'
      · rename_i es k pt x p1 sp
        simp only [Bool.and_eq_true, decide_eq_true_eq] at h'
        obtain ⟨⟨⟨⟨h1, h2⟩, h3⟩, h4⟩, h5⟩ := h'
        obtain ⟨n1, n2, n3⟩ := okName_of h5
        obtain ⟨g1, g2⟩ := assign_len (env := X.env) h2
        obtain ⟨d1, d2⟩ := chkGs_ok n C h1 h2
        exact ds_tun C.K C.calm (by rw [C.N]; exact h3) (C.vis' h4) n1 n2 d1 (g1.trans d2) g2 rfl
      · cases h'
  | tset i k c =>
    have h' : (match (generalizing := false) st with
      | .Assign [.Subscript (.Name x _) y _] e _ => decide (ci.N[i]? = some x) && isVis ci.sc x && okName x && chkE n ci k y && chkE n ci c e && !isCompX e && !isSliceX y
      | _ => false) = true := h
    split at h'
    · rename_i x p1 y p2 e sp
      simp only [Bool.and_eq_true, decide_eq_true_eq, Bool.not_eq_true'] at h'
      obtain ⟨⟨⟨⟨⟨⟨h1, h2⟩, h3⟩, h4⟩, h5⟩, h6⟩, hsl⟩ := h'
      obtain ⟨n1, n2, n3⟩ := okName_of h3
      exact ds_tset (by rw [C.N]; exact h1) (C.vis' h2) n1 n2 ((snd k0 F n).e C h5) ((snd k0 F n).e C h4) (by rw [show swapsWithSole [.Subscript (.Name x p1) y p2] e sp.line X.env = swapsWith e (some (.Subscript (.Name x p1) y p2)) sp.line X.env from rfl]; exact swaps_of h6) rfl rfl (sub_plain hsl)
    · cases h'
  | retO i =>
    have h' : (match (generalizing := false) st with
      | .Return (some (.Name x _)) _ => decide (ci.N[i]? = some x) && isVis ci.sc x && okName x
      | _ => false) = true := h
    split at h'
    · simp only [Bool.and_eq_true, decide_eq_true_eq] at h'
      obtain ⟨⟨h1, h2⟩, h3⟩ := h'
      obtain ⟨n1, n2, n3⟩ := okName_of h3
      exact ds_retO (by rw [C.N]; exact h1) (C.vis' h2) n1 n2
    · cases h'
end
theorem sndS (k0 : Nat) (F : Fn) (fuel : Nat) : ∀ n, SndS k0 F fuel n
  | 0 => ⟨fun _ _ _ _ h => (by cases h), fun _ _ _ _ h => (by cases h)⟩
  | n + 1 => by
    have Ss := sndS k0 F fuel n
    exact ⟨fun C hp hf h => snd_s Ss C hp hf h, fun C hp hf h => snd_ss Ss C hp hf h⟩
end DL
/-! DL22: a def of the text keeps its core's promise. -/
namespace DL
open PySem PySem.Spec PyProof.Rows L2
/-- a def's core: parameters, slots, body -/
structure Df where
  m : Nat
  l : Nat
  body : List S
/-- the program of cores, to a depth of calls -/
def Fd (prog : List Df) (fu : Nat) : Nat → Fn
  | 0 => fun _ _ _ => .bad
  | k + 1 => fun i ws t => match prog[i]? with
    | some d => if ws.length = d.m then callRun (Fd prog fu k) fu d.l d.body ws t else .bad
    | none => .bad
/-- where a def stands: its name, its names in order, its parameters -/
structure Tx where
  x : Str
  qual : Str
  st : Stmt
  N : List Str
  ps : List Str
  gen : Bool
structure FunC (K : PySem.W.Frag) (cs : List (Addr × Addr)) (tx : Tx) (f : Addr) : Prop where
  ex : ∃ (oc : Value) (od : Option Addr) (kV doc pm : Value) (an : Option Addr) (cdv ct : Value) (osl : Array (Option Value)),
    K.lookup f = some ⟨oc, od, .func (PySem.W.fnOf tx.x tx.qual (defArgs tx.st) (defBody tx.st) (defScope tx.st) .none kV doc pm an cdv ct), osl⟩ ∧ PySem.W.codeIn K cdv tx.qual = true ∧ (tx.gen = true → ∃ c P, cdv = .ref c ∧ (c, P) ∈ cs)
  kp : PySem.W.keepIn K (.ref f) = true
  bnd : ∀ (kV doc pm : Value) (an : Option Addr) (cdv ct : Value) (us : List Value), us.length = tx.ps.length → bindArgs (PySem.W.fnOf tx.x tx.qual (defArgs tx.st) (defBody tx.st) (defScope tx.st) .none kV doc pm an cdv ct) ⟨us, []⟩ = pure (tx.ps.zip us)
/-- the check of a def -/
def txOk (M : Mo) (gm n : Nat) (tx : Tx) (d : Df) : Bool :=
  isFn (defScope tx.st).kind && !(defScope tx.st).isCoroutine && !(defScope tx.st).isGenerator && decide tx.N.Nodup && decide (tx.N.take tx.ps.length = tx.ps) &&
    tx.ps.all (fun x => decide ((defScope tx.st).names.lookup x = some .local) || decide ((defScope tx.st).names.lookup x = some .cell)) && (defScope tx.st).names.all (fun y => decide (y.2 ≠ .free)) &&
    decide (d.m = tx.ps.length) && decide (d.l = tx.N.length) && chkSs n ⟨M, tx.N, defScope tx.st, gm, tx.gen⟩ d.body (defBody tx.st)
/-- the tables of a state of the module -/
structure Env1 (P : Program) (w : World) (K : PySem.W.Frag) (mg : Str → Option Value) (base : Heap) (cs : List (Addr × Addr)) (M : Mo) (txs : List Tx) (prog : List Df) (gm n : Nat) (ec : Nat → Value) : Prop where
  at_ : ∀ x j, M.fns.lookup x = some j → ∃ f tx d, mg x = some (.ref f) ∧ txs[j]? = some tx ∧ prog[j]? = some d ∧ tx.x = x ∧ FunC K cs tx f ∧ txOk M gm n tx d = true
  glb : ∀ x d, M.glb.lookup x = some d → ∃ v u, mg x = some u ∧ RelV v u ∧ ∀ A H, Rp A K H v d
  blt : ∀ x, x ∈ M.blt → mg x = none
  tb : ∀ p ∈ cs, GxR.TabB base mg p.1 p.2
  exs : ∀ x k, M.exs.lookup x = some k → ExK K mg ec x k
  isx : ∀ x ks, M.isx.lookup x = some ks → IsK K mg ec M.exs x ks
  hot : ∀ x tab, M.hot.lookup x = some tab → ∃ f, mg x = some (.ref f) ∧ PySem.W.keepIn K (.ref f) = true ∧ HotFn P w K mg base 3 f ec tab
theorem ArgsR.len {A : AP} {tp : Option Addr} {K : PySem.W.Frag} {H : Hp} {vs : List V} {ws : List W} (h : ArgsR A tp K H vs ws) : vs.length = ws.length := by
  induction h with
  | nil => rfl
  | d _ _ ih => exact congrArg (· + 1) ih
  | tape _ _ ih => exact congrArg (· + 1) ih
theorem ArgsR.at_ {A : AP} {tp : Option Addr} {K : PySem.W.Frag} {H : Hp} {vs : List V} {ws : List W} (h : ArgsR A tp K H vs ws) : ∀ (i : Nat) w, ws[i]? = some w → (∃ v x, vs[i]? = some v ∧ w = .d x ∧ Rp A K H v x) ∨ (∃ a, w = .tape ∧ vs[i]? = some (.ref a) ∧ tp = some a) := by
  induction h with
  | nil => intro i w h; cases h
  | @d v vs x ws r _ ih =>
    intro i w h
    cases i with
    | zero => cases h; exact .inl ⟨_, _, rfl, rfl, r⟩
    | succ i => exact ih i w h
  | @tape a vs ws e _ ih =>
    intro i w h
    cases i with
    | zero => cases h; exact .inr ⟨_, rfl, rfl, e⟩
    | succ i => exact ih i w h
section
variable {P : Program} {w : World} {K : PySem.W.Frag} {mg : Str → Option Value} {base : Heap} {cs : List (Addr × Addr)} {M : Mo} {txs : List Tx} {prog : List Df} {gm n fu : Nat} {ec : Nat → Value}
/-- the entry -/
theorem start_good {O : AP} {tp : Option Addr} {H : Hp} {vs : List V} {ws : List W} {t : DL.T} {N : List Str} {l : Nat} {tabs : List Addr} {E : XK} (r : ArgsR (AT O tp) tp K H vs ws) (hl : l = N.length) (hle : ws.length ≤ N.length) (ht : TabsG tabs H) (hO : ∀ a, O a → H a ≠ none) (tR : TapeR (AT O tp) tp K H t) :
    Good ⟨K, O, tp, tabs, H, E, ec⟩ (L2.start N vs) H (ws ++ List.replicate (l - ws.length) .un) t := by
  have key : ∀ (i : Nat) w, (ws ++ List.replicate (l - ws.length) W.un)[i]? = some w → w ≠ .un → ws[i]? = some w ∧ ∀ v, vs[i]? = some v → (L2.start N vs)[i]? = some (some v) := fun i w h hw => by
    by_cases hi : i < ws.length
    · rw [List.getElem?_append_left hi] at h
      refine ⟨h, fun v hv => ?_⟩
      unfold L2.start
      rw [List.getElem?_append_left (by rw [List.length_map, r.len]; exact hi), List.getElem?_map, hv] <;> rfl
    · rw [List.getElem?_append_right (by omega), List.getElem?_replicate] at h
      split at h
      · cases h; exact absurd rfl hw
      · cases h
  have noO : ∀ (i : Nat) xs, (ws ++ List.replicate (l - ws.length) W.un)[i]? ≠ some (.own xs) := fun i xs h => by
    obtain ⟨h1, _⟩ := key i _ h (by simp)
    rcases r.at_ i _ h1 with ⟨v, x, _, e, _⟩ | ⟨a, e, _⟩ <;> cases e
  have av : ∀ a, Av ⟨K, O, tp, tabs, H, E, ec⟩ (L2.start N vs) (ws ++ List.replicate (l - ws.length) .un) a → AT O tp a := fun a z => by
    rcases z with z | z | ⟨i, xs, z, _⟩
    · exact .inl z
    · exact .inr z
    · exact absurd z (noO i xs)
  refine ⟨?_, Frame.refl, hO, ht, fun a e => ?_, fun i x h => ?_, fun i xs h => absurd h (noO i xs), fun i j xs ys a h => absurd h (noO i xs), fun i h => ?_⟩
  · unfold L2.start
    rw [List.length_append, List.length_append, List.length_map, List.length_replicate, List.length_replicate, r.len]
    omega
  · obtain ⟨xs, e1, e2⟩ := tR a e
    exact ⟨xs, e1, RpAll.moves (Moves.sub av) _ _ e2⟩
  · obtain ⟨h1, h2⟩ := key i _ h (by simp)
    rcases r.at_ i _ h1 with ⟨v, y, e1, e, q⟩ | ⟨a, e, _⟩
    · cases e
      exact ⟨v, h2 v e1, Rp.moves (Moves.sub av) _ _ q⟩
    · cases e
  · obtain ⟨h1, h2⟩ := key i _ h (by simp)
    rcases r.at_ i _ h1 with ⟨v, y, e1, e, q⟩ | ⟨a, _, e1, e2⟩
    · cases e
    · exact ⟨a, e2, h2 _ e1⟩
/-- each def, at each depth -/
theorem def_ok (En : Env1 P w K mg base cs M txs prog gm n ec) : ∀ (k : Nat) (x : Str) (j : Nat), M.fns.lookup x = some j → ∃ f, mg x = some (.ref f) ∧ PySem.W.keepIn K (.ref f) = true ∧ FnR P w K mg base (L2N.CX P w) ((gm + 1) * k) f (spD K (cs.map (·.2)) ec (Fd prog fu k j))
  | 0, x, j, hx => by
    obtain ⟨f, tx, d, h1, h2, h3, h4, F, h6⟩ := En.at_ x j hx
    refine ⟨f, h1, F.kp, fun A outer s H us vs Q E hr e0 r hsp => ?_⟩
    obtain ⟨O, tp, ws, t, _, _, _, _, q⟩ := hsp
    exact q.elim
  | k + 1, x, j, hx => by
    have ih := def_ok En k
    obtain ⟨f, tx, d, h1, h2, h3, h4, F, h6⟩ := En.at_ x j hx
    refine ⟨f, h1, F.kp, ?_⟩
    unfold txOk at h6
    simp only [Bool.and_eq_true, Bool.not_eq_true', decide_eq_true_eq, List.all_eq_true, Bool.or_eq_true] at h6
    obtain ⟨⟨⟨⟨⟨⟨⟨⟨⟨c1, c2⟩, c3⟩, c4⟩, c5⟩, c6⟩, c7⟩, c8⟩, c9⟩, c10⟩ := h6
    have hk : (defScope tx.st).kind = .function := by
      cases q : (defScope tx.st).kind <;> rw [q] at c1 <;> first | rfl | cases c1
    have S : FnScope tx.N tx.ps (defScope tx.st) := ⟨hk, c2, c3, c4, c5, c6, c7⟩
    obtain ⟨oc, od, kV, doc, pm, an, cdv, ct, osl, lk, hcd, hgen⟩ := F.ex
    have len : ∀ vs H Q E, spD K (cs.map (·.2)) ec (Fd prog fu (k + 1) j) vs H Q E → vs.length = tx.ps.length := fun vs H Q E ⟨O, tp, ws, t, r, _, _, _, q⟩ => by
      have q' : postD O tp K (cs.map (·.2)) H ec Q E (match prog[j]? with
        | some d => if ws.length = d.m then callRun (Fd prog fu k) fu d.l d.body ws t else .bad
        | none => .bad) := q
      rw [h3] at q'
      have q2 : postD O tp K (cs.map (·.2)) H ec Q E (if ws.length = d.m then callRun (Fd prog fu k) fu d.l d.body ws t else .bad) := q'
      by_cases hw : ws.length = d.m
      · rw [r.len, hw, c8]
      · rw [if_neg hw] at q2; exact q2.elim
    have ok : FnOk P w K mg base (L2N.CX P w) ((gm + 1) * (k + 1)) f (PySem.W.fnOf tx.x tx.qual (defArgs tx.st) (defBody tx.st) (defScope tx.st) .none kV doc pm an cdv ct) tx.ps (spD K (cs.map (·.2)) ec (Fd prog fu (k + 1) j)) := by
      have e : (gm + 1) * (k + 1) = ((gm + 1) * k + gm) + 1 := by rw [Nat.mul_add, Nat.mul_one]; omega
      rw [e]
      refine fn_of lk hcd S len fun A outer s H vs Q E hr hsp => ?_
      have hl := len _ _ _ _ hsp
      obtain ⟨O, tp, ws, t, r, ht, hO, tR, q⟩ := hsp
      have q' : postD O tp K (cs.map (·.2)) H ec Q E (match prog[j]? with
        | some d => if ws.length = d.m then callRun (Fd prog fu k) fu d.l d.body ws t else .bad
        | none => .bad) := q
      rw [h3] at q'
      have hw : ws.length = d.m := by rw [← r.len, hl, c8]
      have q2 : postD O tp K (cs.map (·.2)) H ec Q E (if ws.length = d.m then callRun (Fd prog fu k) fu d.l d.body ws t else .bad) := q'
      rw [if_pos hw] at q2
      have hN : tx.ps.length ≤ tx.N.length := by rw [← c5, List.length_take]; omega
      have G := start_good (ec := ec) (E := E) r c9 (by omega) ht hO tR
      refine ⟨tSs ⟨K, O, tp, cs.map (·.2), H, E, ec⟩ (Fd prog fu k) fu d.body, ?_, _, t, G, ?_⟩
      · refine (sndS ((gm + 1) * k) (Fd prog fu k) fu n).ss (ci := ⟨M, tx.N, defScope tx.st, gm, tx.gen⟩) ⟨rfl, rfl, c4, rfl, L2N.takes_of rfl rfl rfl rfl, hr, fun x k hx hk => ?_, fun x hx => hx, fun x hx => ⟨hx, rfl⟩, fun x hx => .inr hx, fun x hx => hx, fun x j hx => ih x j hx, En.glb, En.blt, fun hc => ?_, En.exs, En.isx, En.hot⟩ ?_ ?_ ⟨rfl, rfl⟩ c10
        · rcases hk with rfl | rfl | rfl
          · exact .inl hx
          · exact .inr (.inl hx)
          · exact .inr (.inr hx)
        · obtain ⟨c, P', e1, e2⟩ := hgen hc
          exact ⟨c, P', En.tb _ e2, e1, List.mem_map.mpr ⟨_, e2, rfl⟩⟩
        · exact passes_of rfl
        · show (if (defScope tx.st).kind.isAnnotationScope then ScopeKind.function else (defScope tx.st).kind) = .function
          rw [hk]; rfl
      · unfold callRun at q2
        cases ho : runs (Fd prog fu k) fu d.body (ws ++ List.replicate (d.l - ws.length) .un) t with
        | nx e' t' =>
          rw [ho] at q2
          exact fun σ' H' G' _ => q2 .non H' G'.fr G'.tabs G'.lv.tape .non
        | ret w' t' =>
          rw [ho] at q2
          exact fun v H' L r' => q2 v H' L.fr L.tabs L.tape r'
        | err k' t' =>
          rw [ho] at q2
          exact fun H' L => q2 H' L.fr L.tabs L.tape
        | brk e' t' => rw [ho] at q2; exact q2.elim
        | cnt e' t' => rw [ho] at q2; exact q2.elim
        | bad => rw [ho] at q2; exact q2.elim
    have raw := ok.raw (ds := []) (dvs := []) (Binds.all (F.bnd kV doc pm an cdv ct)) .nil
    exact raw.imp fun vs H Q E h => by rw [List.append_nil]; exact h
end
end DL
/-! DL23: a law: its draws are laid, become the tape, the rest is run. -/
namespace DL
open PySem PySem.Spec PyProof.Rows L2
/-- a law's core: the draws' slot, what lays them, the rest, the slots -/
structure Lw where
  i : Nat
  c : E
  rest : List S
  l : Nat
def lawEnv (L : Lw) (ns : List Int) : Ev := [W.d (.list (ns.map PyData.int))] ++ List.replicate (L.l - 1) .un
def lawRun (F : Fn) (fu : Nat) (L : Lw) (ns : List Int) : Out := match ev F L.c (lawEnv L ns) [] with
  | .ok (.d (.list xs)) [] => runs F fu L.rest ((lawEnv L ns).set L.i .tape) xs
  | _ => .bad
/-- the check of a law's def -/
def lawOk (M : Mo) (gm n : Nat) (tx : Tx) (L : Lw) : Bool :=
  isFn (defScope tx.st).kind && !(defScope tx.st).isCoroutine && !(defScope tx.st).isGenerator && decide tx.N.Nodup && decide (tx.N.take tx.ps.length = tx.ps) &&
    tx.ps.all (fun x => decide ((defScope tx.st).names.lookup x = some .local) || decide ((defScope tx.st).names.lookup x = some .cell)) && (defScope tx.st).names.all (fun y => decide (y.2 ≠ .free)) &&
    decide (tx.ps.length = 1) && decide (L.l = tx.N.length) && decide (L.i < L.l) && (match defBody tx.st with
      | st :: rest => chkS (n + 1) ⟨M, tx.N, defScope tx.st, gm, tx.gen⟩ (.own L.i L.c) st && chkSs n ⟨M, tx.N, defScope tx.st, gm, tx.gen⟩ L.rest rest
      | _ => false)
section
variable {P : Program} {w : World} {K : PySem.W.Frag} {mg : Str → Option Value} {base : Heap} {cs : List (Addr × Addr)} {M : Mo} {txs : List Tx} {prog : List Df} {gm n fu k : Nat} {tx : Tx} {L : Lw} {f : Addr} {ec : Nat → Value}
/-- before, behind the draws -/
def Γ1 (K : PySem.W.Frag) (cs : List (Addr × Addr)) (ec : Nat → Value) (H : Hp) : Cfg := ⟨K, fun _ => False, none, cs.map (·.2), H, fun _ _ _ => False, ec⟩
def Γ2 (K : PySem.W.Frag) (cs : List (Addr × Addr)) (ec : Nat → Value) (H : Hp) (p : Addr) : Cfg := ⟨K, fun _ => False, some p, cs.map (·.2), H, fun _ _ _ => False, ec⟩
theorem lawEnv_at {ns : List Int} {i : Nat} {w : W} (h : (lawEnv L ns)[i]? = some w) : (i = 0 ∧ w = .d (.list (ns.map PyData.int))) ∨ w = .un := by
  unfold lawEnv at h
  cases i with
  | zero => exact .inl ⟨rfl, (Option.some.inj h).symm⟩
  | succ i =>
    rw [List.getElem?_append_right (by simp)] at h
    rw [List.getElem?_replicate] at h
    split at h
    · exact .inr (Option.some.inj h).symm
    · cases h
/-- the draws become the tape -/
theorem good_tape {σ : L2.St} {H H1 : Hp} {ns : List Int} {xs : List PyData} {i : Nat} (hi : i < σ.length) (G : Good (Γ1 K cs ec H) σ H1 ((lawEnv L ns).set i (.own xs)) []) : ∃ p, Good (Γ2 K cs ec H p) σ H1 ((lawEnv L ns).set i .tape) xs := by
  have hlen : (lawEnv L ns).length = σ.length := by have := G.len; rw [List.length_set] at this; exact this
  have hi' : i < (lawEnv L ns).length := by omega
  obtain ⟨p, vs, e1, e2, r, n1, n2, n3⟩ := G.own i xs (by rw [List.getElem?_set_self hi'])
  have none_own : ∀ {j : Nat} {ys : List PyData}, ((lawEnv L ns).set i .tape)[j]? ≠ some (.own ys) := fun {j ys} h => by
    rcases get_set_eq h with ⟨_, e⟩ | ⟨_, h⟩
    · cases e
    · rcases lawEnv_at h with ⟨_, e⟩ | e <;> cases e
  have sub : ∀ a, Av (Γ2 K cs ec H p) σ ((lawEnv L ns).set i .tape) a → Av (Γ1 K cs ec H) σ ((lawEnv L ns).set i (.own xs)) a := fun a z => by
    rcases z with z | z | ⟨j, ys, h1, _⟩
    · exact z.elim
    · have e : p = a := Option.some.inj z
      exact .inr (.inr ⟨i, xs, by rw [List.getElem?_set_self hi'], by rw [← e]; exact e1⟩)
    · exact absurd h1 none_own
  refine ⟨p, by rw [List.length_set]; exact hlen, ⟨fun a o h _ k => G.fr.keep a o h (fun z => by cases z) k, G.fr.there⟩, fun a z => z.elim, G.tabs, fun a h => ?_, fun j x h => ?_, fun j ys h => absurd h none_own, fun j k ys zs a h => absurd h none_own, fun j h => ?_⟩
  · have e : p = a := Option.some.inj h
    subst e
    exact ⟨vs, e2, RpAll.moves (Moves.sub sub) _ _ r⟩
  · rcases get_set_eq h with ⟨_, e⟩ | ⟨hj, h⟩
    · cases e
    · obtain ⟨v, e, r'⟩ := G.dat j x (by rw [List.getElem?_set_ne (Ne.symm hj)]; exact h)
      exact ⟨v, e, Rp.moves (Moves.sub sub) _ _ r'⟩
  · rcases get_set_eq h with ⟨rfl, _⟩ | ⟨_, h⟩
    · exact ⟨p, rfl, e1⟩
    · rcases lawEnv_at h with ⟨_, e⟩ | e <;> cases e
theorem ints_rp {A : AP} {H : Hp} : ∀ ns : List Int, RpAll A K H (ns.map V.int) (ns.map PyData.int)
  | [] => .nil
  | i :: ns => .cons (.int i) (ints_rp ns)
/-- the law's promise -/
def spLaw (K : PySem.W.Frag) (cs : List (Addr × Addr)) (F : Fn) (fu : Nat) (L : Lw) : Sp := fun vs H Q _ => ∃ a ns, vs = [.ref a] ∧ SL K H a (ns.map V.int) ∧ (∀ p ∈ cs, H p.2 = some (.tbl #[])) ∧ (∃ t, lawRun F fu L ns = .ret (.d (.bool true)) t) ∧ ∀ H', Q (.bl true) H'
theorem law_fn (En : Env1 P w K mg base cs M txs prog gm n ec) (ok : lawOk M gm n tx L = true) {oc : Value} {od : Option Addr} {kV doc pm cdv ct : Value} {an : Option Addr} {osl : Array (Option Value)}
    (lk : K.lookup f = some ⟨oc, od, .func (PySem.W.fnOf tx.x tx.qual (defArgs tx.st) (defBody tx.st) (defScope tx.st) .none kV doc pm an cdv ct), osl⟩) (hcd : PySem.W.codeIn K cdv tx.qual = true) (hgen : tx.gen = true → ∃ c P, cdv = .ref c ∧ (c, P) ∈ cs) :
    FnOk P w K mg base CX0 ((gm + 1) * k + gm + 1) f (PySem.W.fnOf tx.x tx.qual (defArgs tx.st) (defBody tx.st) (defScope tx.st) .none kV doc pm an cdv ct) tx.ps (spLaw K cs (Fd prog fu k) fu L) := by
  have ih := def_ok (fu := fu) En k
  unfold lawOk at ok
  simp only [Bool.and_eq_true, Bool.not_eq_true', decide_eq_true_eq, List.all_eq_true, Bool.or_eq_true] at ok
  obtain ⟨⟨⟨⟨⟨⟨⟨⟨⟨⟨c1, c2⟩, c3⟩, c4⟩, c5⟩, c6⟩, c7⟩, c8⟩, c9⟩, c10⟩, c11⟩ := ok
  have hk : (defScope tx.st).kind = .function := by
    cases q : (defScope tx.st).kind <;> rw [q] at c1 <;> first | rfl | cases c1
  have S : FnScope tx.N tx.ps (defScope tx.st) := ⟨hk, c2, c3, c4, c5, c6, c7⟩
  have len : ∀ vs H Q E, spLaw K cs (Fd prog fu k) fu L vs H Q E → vs.length = tx.ps.length := fun vs H Q E ⟨a, ns, e, _⟩ => by rw [e, c8]; rfl
  refine fn_of lk hcd S len fun A outer s H vs Q E hr hsp => ?_
  obtain ⟨a, ns, rfl, hS, hT, ⟨t', hrun⟩, hQ⟩ := hsp
  cases hb : defBody tx.st with
  | nil => rw [hb] at c11; exact (Bool.false_ne_true c11).elim
  | cons st0 rest =>
    rw [hb] at c11
    have c11' : (chkS (n + 1) ⟨M, tx.N, defScope tx.st, gm, tx.gen⟩ (.own L.i L.c) st0 && chkSs n ⟨M, tx.N, defScope tx.st, gm, tx.gen⟩ L.rest rest) = true := c11
    rw [Bool.and_eq_true] at c11'
    have C : ∀ Γ : Cfg, Γ.K = K → Γ.tabs = cs.map (·.2) → Γ.ec = ec → (Γ.E = fun _ _ _ => False) →
        CtxOk ((gm + 1) * k) ⟨M, tx.N, defScope tx.st, gm, tx.gen⟩ (cxOf CX0 P w K mg base tx.N tx.qual (defScope tx.st) f cdv A outer s H E).nox Γ (Fd prog fu k) := fun Γ k1 k2 k3 k4 => by
      obtain ⟨ΓK, ΓO, Γtp, Γtabs, ΓH0, ΓE, Γec⟩ := Γ
      cases k1; cases k2; cases k3; cases k4
      refine ⟨rfl, rfl, c4, rfl, takes_no rfl, hr, fun x k hx hk => ?_, fun x hx => hx, fun x hx => ⟨hx, rfl⟩, fun x hx => .inr hx, fun x hx => hx, fun x j hx => ih x j hx, En.glb, En.blt, fun hc => ?_, En.exs, En.isx, En.hot⟩
      · rcases hk with rfl | rfl | rfl
        · exact .inl hx
        · exact .inr (.inl hx)
        · exact .inr (.inr hx)
      · obtain ⟨c, P', e1, e2⟩ := hgen hc
        exact ⟨c, P', En.tb _ e2, e1, List.mem_map.mpr ⟨_, e2, rfl⟩⟩
    have hfn : (cxOf CX0 P w K mg base tx.N tx.qual (defScope tx.st) f cdv A outer s H E).nox.env.blockKind = .function := by
      show (if (defScope tx.st).kind.isAnnotationScope then ScopeKind.function else (defScope tx.st).kind) = .function
      rw [hk]; rfl
    have first := (sndS ((gm + 1) * k) (Fd prog fu k) fu (n + 1)).s (C (Γ1 K cs ec H) rfl rfl rfl rfl) PassesOwn.never hfn ⟨rfl, rfl⟩ c11'.1
    have behind : PSs (cxOf CX0 P w K mg base tx.N tx.qual (defScope tx.st) f cdv A outer s H E).nox rest fun D σ H' => ∃ p, tSs (Γ2 K cs ec H p) (Fd prog fu k) fu L.rest D σ H' :=
      ⟨fun pins s σ H' D I ⟨p, h⟩ => ((sndS ((gm + 1) * k) (Fd prog fu k) fu n).ss (C (Γ2 K cs ec H p) rfl rfl rfl rfl) PassesOwn.never hfn ⟨rfl, rfl⟩ c11'.2).run pins s σ H' D I h⟩
    refine ⟨_, PSs.nox (pss_cons first behind), ?_⟩
    have hN : 1 ≤ tx.N.length := by omega
    have r : ArgsR (AT (fun _ => False) none) none K H [V.ref a] [W.d (.list (ns.map PyData.int))] := .d (.lst (hS.imp (fun z => ⟨fun z => z.elim id fun z => (by cases z), z⟩) id) (ints_rp ns)) .nil
    have G : Good (Γ1 K cs ec H) (L2.start tx.N [V.ref a]) H (lawEnv L ns) [] := start_good (l := L.l) r c9 hN (fun P' hP => by
      obtain ⟨p, hp, rfl⟩ := List.mem_map.mp hP
      exact ⟨#[], hT p hp, trivial⟩) (fun a z => z.elim) (fun a z => by cases z)
    refine ⟨lawEnv L ns, [], G, ?_⟩
    unfold lawRun at hrun
    have e : run (Fd prog fu k) fu (.own L.i L.c) (lawEnv L ns) [] = (ev (Fd prog fu k) L.c (lawEnv L ns) []).out fun w t1 => match w with
      | .d (.list xs) => .nx ((lawEnv L ns).set L.i (.own xs)) t1
      | _ => .bad := rfl
    rw [e]
    cases hv : ev (Fd prog fu k) L.c (lawEnv L ns) [] with
    | err _ _ => rw [hv] at hrun; cases hrun
    | bad => rw [hv] at hrun; cases hrun
    | ok w1 t1 =>
      rw [hv] at hrun
      have key : ∃ xs, w1 = .d (.list xs) ∧ t1 = [] ∧ runs (Fd prog fu k) fu L.rest ((lawEnv L ns).set L.i .tape) xs = .ret (.d (.bool true)) t' := by
        cases w1 with
        | d x =>
          cases x with
          | list xs =>
            cases t1 with
            | nil => exact ⟨xs, rfl, rfl, hrun⟩
            | cons _ _ => cases hrun
          | _ => cases hrun
        | _ => cases hrun
      obtain ⟨xs, rfl, rfl, h3⟩ := key
      intro σ' H' G' _
      obtain ⟨p, G2⟩ := good_tape (by
        have := G'.len
        rw [List.length_set] at this
        have l2 : (lawEnv L ns).length = L.l := by
          unfold lawEnv
          rw [List.length_append, List.length_replicate, List.length_singleton]
          omega
        omega) G'
      refine ⟨p, _, _, G2, ?_⟩
      rw [h3]
      intro v H2 _ rv
      have rv' : Rp (AT (fun _ => False) (some p)) K H2 v (.bool true) := rv
      cases rv'
      exact hQ H2
end
end DL
/-! DL24: the end of a law: the head's facts by names, the call of the law. -/
namespace DL
open PySem PySem.Spec PyProof.Rows L2
mutual
/-- what the module's name holds is this data -/
def glbB (K : PySem.W.Frag) : Nat → Value → PyData → Bool
  | 0, _, _ => false
  | n + 1, u, d => match u, d with
    | .none, .none => true
    | .bool a, .bool b => decide (a = b)
    | .int i _, .int j => decide (i = j)
    | .str x _, .str y => decide (x = y)
    | .ref a, .tuple ds => match K.lookup a with
      | some ⟨.type c, _, .seq its _, _⟩ => decide (c = "tuple") && decide (its.size ≤ sizeLine) && glbBs K n its.toList ds
      | _ => false
    | .ref a, .list ds => match K.lookup a with
      | some ⟨.type c, none, .seq its _, sl⟩ => decide (c = "list") && sl.isEmpty && decide (its.size ≤ sizeLine) && glbBs K n its.toList ds
      | _ => false
    | _, _ => false
def glbBs (K : PySem.W.Frag) : Nat → List Value → List PyData → Bool
  | 0, _, _ => false
  | n + 1, us, ds => match us, ds with
    | [], [] => true
    | u :: us, d :: ds => glbB K n u d && glbBs K n us ds
    | _, _ => false
end
mutual
theorem glbB_ok {K : PySem.W.Frag} : ∀ (n : Nat) {u : Value} {d : PyData}, glbB K n u d = true → ∃ v, RelV v u ∧ ∀ A H, Rp A K H v d
  | 0, _, _, h => by cases h
  | n + 1, u, d, h => by
    cases d with
    | none =>
      cases u with
      | none => exact ⟨.non, rfl, fun _ _ => .non⟩
      | _ => exact (Bool.false_ne_true h).elim
    | bool b =>
      cases u with
      | bool a =>
        have e : a = b := of_decide_eq_true h
        exact ⟨.bl a, rfl, fun _ _ => by rw [e]; exact .bl b⟩
      | _ => exact (Bool.false_ne_true h).elim
    | int j =>
      cases u with
      | int i t =>
        have e : i = j := of_decide_eq_true h
        exact ⟨.int i, ⟨t, rfl⟩, fun _ _ => by rw [e]; exact .int j⟩
      | _ => exact (Bool.false_ne_true h).elim
    | str y =>
      cases u with
      | str x t =>
        have e : x = y := of_decide_eq_true h
        exact ⟨.str x, ⟨t, rfl⟩, fun _ _ => by rw [e]; exact .str y⟩
      | _ => exact (Bool.false_ne_true h).elim
    | dict _ => cases u <;> exact (Bool.false_ne_true h).elim
    | tuple ds =>
      cases u with
      | ref a =>
        have h' : (match K.lookup a with
          | some ⟨.type c, _, .seq its _, _⟩ => decide (c = "tuple") && decide (its.size ≤ sizeLine) && glbBs K n its.toList ds
          | _ => false) = true := h
        split at h'
        · rename_i c od its k sl e
          simp only [Bool.and_eq_true, decide_eq_true_eq] at h'
          obtain ⟨⟨rfl, h2⟩, h3⟩ := h'
          obtain ⟨vs, rv, r⟩ := glbBs_ok n h3
          exact ⟨.ref a, rfl, fun A H => .tup (.inr ⟨_, its, k, e, rfl, rfl, h2, rv⟩) (r A H)⟩
        · cases h'
      | _ => exact (Bool.false_ne_true h).elim
    | list ds =>
      cases u with
      | ref a =>
        have h' : (match K.lookup a with
          | some ⟨.type c, none, .seq its _, sl⟩ => decide (c = "list") && sl.isEmpty && decide (its.size ≤ sizeLine) && glbBs K n its.toList ds
          | _ => false) = true := h
        split at h'
        · rename_i c its k sl e
          simp only [Bool.and_eq_true, decide_eq_true_eq] at h'
          obtain ⟨⟨⟨rfl, hs⟩, h2⟩, h3⟩ := h'
          obtain ⟨vs, rv, r⟩ := glbBs_ok n h3
          rw [Array.isEmpty_iff.mp hs] at e
          exact ⟨.ref a, rfl, fun A H => .lst (.inr ⟨its, k, e, h2, rv⟩) (r A H)⟩
        · cases h'
      | _ => exact (Bool.false_ne_true h).elim
theorem glbBs_ok {K : PySem.W.Frag} : ∀ (n : Nat) {us : List Value} {ds : List PyData}, glbBs K n us ds = true → ∃ vs, Vals vs us ∧ ∀ A H, RpAll A K H vs ds
  | 0, _, _, h => by cases h
  | n + 1, us, ds, h => by
    cases us with
    | nil =>
      cases ds with
      | nil => exact ⟨[], .nil, fun _ _ => .nil⟩
      | cons _ _ => exact (Bool.false_ne_true h).elim
    | cons u us =>
      cases ds with
      | nil => exact (Bool.false_ne_true h).elim
      | cons d ds =>
        have h' : (glbB K n u d && glbBs K n us ds) = true := h
        rw [Bool.and_eq_true] at h'
        obtain ⟨v, r1, r2⟩ := glbB_ok n h'.1
        obtain ⟨vs, r3, r4⟩ := glbBs_ok n h'.2
        exact ⟨v :: vs, .cons r1 r3, fun A H => .cons (r2 A H) (r4 A H)⟩
end
/-- how a def's arguments bind -/
def Bnd (tx : Tx) : Prop := ∀ (kV doc pm : Value) (an : Option Addr) (cdv ct : Value) (us : List Value), us.length = tx.ps.length → bindArgs (PySem.W.fnOf tx.x tx.qual (defArgs tx.st) (defBody tx.st) (defScope tx.st) .none kV doc pm an cdv ct) ⟨us, []⟩ = pure (tx.ps.zip us)
/-- a law with the defs that it reaches -/
structure Lk where
  M : Mo
  txs : List Tx
  prog : List Df
  ltx : Tx
  L : Lw
  gm : Nat
  n : Nat
def defD (tx : Tx) : He.DefD := ⟨(tx.x, none), tx.x, tx.qual, defArgs tx.st, defBody tx.st, defScope tx.st, [], []⟩
def Lk.fn (Q : Lk) : List He.DefD := (Q.ltx :: Q.txs).map defD
def Lk.fa (Q : Lk) : List He.Fa := (Q.ltx :: Q.txs).map (fun tx => .glo tx.x) ++ Q.M.blt.map .free
def Lk.tf (Q : Lk) : List He.Defn := ((Q.ltx :: Q.txs).filter (·.gen)).map fun tx => (tx.x, none)
/-- the errors' classes, by their numbers -/
def ecK (K : PySem.W.Frag) (M : Mo) (k : Nat) : Value := match M.exs.find? fun p => decide (p.2 = k) with
  | some p => match PySem.W.nsIn K mainGlobals p.1 with
    | some (some u) => u
    | _ => .none
  | none => .none
def excB (K : PySem.W.Frag) (D : Addr) : Bool :=
  decide (PySem.W.findIn K (.ref D) "__getattribute__" = some (some (.builtin "BaseException.__getattribute__"))) && decide (PySem.W.findIn K (.ref D) "__getattr__" = some none) && decide (PySem.W.subIn K (.ref D) (.type "BaseException") = some true) &&
    PySem.W.hasDictIn K D && decide (PySem.W.findIn K (.ref D) "__class__" = some (some (.builtin "object.__class__"))) && decide (PySem.W.specialIn K (.builtin "object.__class__") "__get__" = some (some (.builtin "getset_descriptor.__get__"))) &&
    decide (PySem.W.takesIn K (.builtin "object.__class__") = some true) && decide (PySem.W.mroIn K D (.type "object") = some true)
theorem excB_ok {K : PySem.W.Frag} {D : Addr} (h : excB K D = true) : ExcC K D := by
  unfold excB at h
  simp only [Bool.and_eq_true, decide_eq_true_eq] at h
  obtain ⟨⟨⟨⟨⟨⟨⟨h1, h2⟩, h3⟩, h4⟩, h5⟩, h6⟩, h7⟩, h8⟩ := h
  exact ⟨h1, h2, h3, h4, h5, h6, h7, h8⟩
/-- an own error's class stands as it must -/
def exkB (K : PySem.W.Frag) (M : Mo) (x : Str) (k : Nat) : Bool := match PySem.W.nsIn K mainGlobals x with
  | some (some (.ref C)) => PySem.W.keepIn K (.ref C) && PySem.W.excIn K C vet "ValueError.__new__" && decide (PySem.W.subIn K (.ref C) (.type "BaseException") = some true) && decide (PySem.W.typeIn K (.ref C) = some (.type "type")) && decide (ecK K M k = .ref C) && excB K C
  | _ => false
def iskB (K : PySem.W.Frag) (M : Mo) (x : Str) (ks : List Nat) : Bool := match PySem.W.nsIn K mainGlobals x with
  | some (some (.ref C)) => M.exs.all fun p => decide (PySem.W.exmOne K (ecK K M p.2) (.ref C) = some (decide (p.2 ∈ ks))) && decide (PySem.W.kitOne K (ecK K M p.2) (.ref C) = some (decide (p.2 ∈ ks)))
  | _ => false
def Lk.ex (Q : Lk) (K : PySem.W.Frag) : Bool := (Q.M.glb.all fun p => match PySem.W.nsIn K mainGlobals p.1 with
  | some (some u) => glbB K 40 u p.2
  | _ => false) && (Q.M.exs.all fun p => exkB K Q.M p.1 p.2) && (Q.M.isx.all fun p => iskB K Q.M p.1 p.2)
/-- what a def that is called with an error may lean on -/
structure HotEnv (K : PySem.W.Frag) (mg : Str → Option Value) (cs : List (Addr × Addr)) (M : Mo) (txs : List Tx) (ec : Nat → Value) : Prop where
  exs : ∀ x k, M.exs.lookup x = some k → ExK K mg ec x k
  isx : ∀ x ks, M.isx.lookup x = some ks → IsK K mg ec M.exs x ks
  blt : ∀ x, x ∈ M.blt → mg x = none
  fns : ∀ tx ∈ txs, ∃ f, mg tx.x = some (.ref f) ∧ FunC K cs tx f
/-- the check of the whole -/
def Lk.ok (Q : Lk) : Bool := (Q.M.fns.all fun p => match Q.txs[p.2]?, Q.prog[p.2]? with
    | some tx, some d => decide (tx.x = p.1) && txOk Q.M Q.gm Q.n tx d
    | _, _ => false) && lawOk Q.M Q.gm Q.n Q.ltx Q.L
section
variable {Q : Lk} {P : Program} {w : World} {K : PySem.W.Frag} {mg : Str → Option Value} {h : Heap}
theorem look_mem {α β : Type} [BEq α] [LawfulBEq α] {x : α} {y : β} : ∀ {l : List (α × β)}, l.lookup x = some y → (x, y) ∈ l
  | (a, b) :: l, e => by
    rw [List.lookup_cons] at e
    cases q : (x == a) with
    | true =>
      rw [q] at e
      cases e
      rw [eq_of_beq q]
      exact List.mem_cons_self
    | false =>
      rw [q] at e
      exact List.mem_cons_of_mem _ (look_mem e)
theorem Lk.funC (c : He.SaysX Q.fa Q.fn [] Q.tf Q.ex w h K) {tx : Tx} (hm : tx ∈ Q.ltx :: Q.txs) (b : Bnd tx) : FunC K (Q.tf.map (He.cT K)) tx (He.ga K tx.x) := by
  obtain ⟨fd, F⟩ := c.t.d.defs (d := defD tx) (List.mem_map.mpr ⟨tx, hm, rfl⟩)
  obtain ⟨oc, od, dV, kV, doc, pm, an, cdv, ct, osl, e, lk, hcd, hD, hK⟩ := F.ex
  have hd : dV = .none := by
    rcases hD with ⟨_, z⟩ | ⟨z, _⟩
    · exact z
    · exact absurd rfl z
  subst hd
  refine ⟨⟨oc, od, kV, doc, pm, an, cdv, ct, osl, by rw [e] at lk; exact lk, hcd, fun hg => ?_⟩, F.kp, b⟩
  obtain ⟨cc, hc⟩ := He.codeIn_ref hcd
  have e2 : He.codeOf K (tx.x, none) = cc := He.codeOf_eq (p := (tx.x, none)) lk (by rw [e]; exact hc)
  refine ⟨cc, He.tabOf K cc, hc, List.mem_map.mpr ⟨(tx.x, none), List.mem_map.mpr ⟨tx, List.mem_filter.mpr ⟨hm, hg⟩, rfl⟩, ?_⟩⟩
  unfold He.cT
  rw [e2]
theorem Lk.ex3 (c : He.SaysX Q.fa Q.fn [] Q.tf Q.ex w h K) : (Q.M.glb.all fun p => match PySem.W.nsIn K mainGlobals p.1 with
  | some (some u) => glbB K 40 u p.2
  | _ => false) = true ∧ (Q.M.exs.all fun p => exkB K Q.M p.1 p.2) = true ∧ (Q.M.isx.all fun p => iskB K Q.M p.1 p.2) = true := by
  have z := c.more
  unfold Lk.ex at z
  rw [Bool.and_eq_true, Bool.and_eq_true] at z
  exact ⟨z.1.1, z.1.2, z.2⟩
theorem Lk.exs (X : K.In h) (G : h.Ns mainGlobals mg) (c : He.SaysX Q.fa Q.fn [] Q.tf Q.ex w h K) : ∀ x k, Q.M.exs.lookup x = some k → ExK K mg (ecK K Q.M) x k := fun x k hx => by
  have z := List.all_eq_true.mp (Lk.ex3 c).2.1 (x, k) (look_mem hx)
  have z' : (match PySem.W.nsIn K mainGlobals x with
    | some (some (.ref C)) => PySem.W.keepIn K (.ref C) && PySem.W.excIn K C vet "ValueError.__new__" && decide (PySem.W.subIn K (.ref C) (.type "BaseException") = some true) && decide (PySem.W.typeIn K (.ref C) = some (.type "type")) && decide (ecK K Q.M k = .ref C) && excB K C
    | _ => false) = true := z
  split at z'
  · rename_i C e
    simp only [Bool.and_eq_true, decide_eq_true_eq] at z'
    obtain ⟨⟨⟨⟨⟨h1, h2⟩, h3⟩, h4⟩, h5⟩, h6⟩ := z'
    exact ⟨C, PySem.W.mg_of X G e, h1, h2, h3, h4, h5, excB_ok h6⟩
  · cases z'
theorem Lk.isx (X : K.In h) (G : h.Ns mainGlobals mg) (c : He.SaysX Q.fa Q.fn [] Q.tf Q.ex w h K) : ∀ x ks, Q.M.isx.lookup x = some ks → IsK K mg (ecK K Q.M) Q.M.exs x ks := fun x ks hx => by
  have z := List.all_eq_true.mp (Lk.ex3 c).2.2 (x, ks) (look_mem hx)
  have z' : (match PySem.W.nsIn K mainGlobals x with
    | some (some (.ref C)) => Q.M.exs.all fun p => decide (PySem.W.exmOne K (ecK K Q.M p.2) (.ref C) = some (decide (p.2 ∈ ks))) && decide (PySem.W.kitOne K (ecK K Q.M p.2) (.ref C) = some (decide (p.2 ∈ ks)))
    | _ => false) = true := z
  split at z'
  · rename_i C e
    refine ⟨C, PySem.W.mg_of X G e, fun y k hy => ?_⟩
    have q := List.all_eq_true.mp z' (y, k) (look_mem hy)
    rw [Bool.and_eq_true, decide_eq_true_eq, decide_eq_true_eq] at q
    exact q
  · cases z'
theorem Lk.free (X : K.In h) (G : h.Ns mainGlobals mg) (c : He.SaysX Q.fa Q.fn [] Q.tf Q.ex w h K) : ∀ x, x ∈ Q.M.blt → mg x = none := fun x hx =>
  He.free_ok X G (c.t.d.facts (f := .free x) (List.mem_append_right _ (List.mem_map.mpr ⟨x, hx, rfl⟩)))
theorem Lk.hotEnv (bnd : ∀ tx ∈ Q.ltx :: Q.txs, Bnd tx) (X : K.In h) (G : h.Ns mainGlobals mg) (c : He.SaysX Q.fa Q.fn [] Q.tf Q.ex w h K) : HotEnv K mg (Q.tf.map (He.cT K)) Q.M Q.txs (ecK K Q.M) :=
  ⟨Lk.exs X G c, Lk.isx X G c, Lk.free X G c, fun tx hm => ⟨He.ga K tx.x, He.glo_ok X G (c.t.d.facts (f := .glo tx.x) (List.mem_append_left _ (List.mem_map.mpr ⟨tx, List.mem_cons_of_mem _ hm, rfl⟩))), Lk.funC c (List.mem_cons_of_mem _ hm) (bnd tx (List.mem_cons_of_mem _ hm))⟩⟩
/-- what must be known of the defs that are called with an error -/
def HotAll (Q : Lk) : Prop := ∀ (P : Program) (w : World) (K : PySem.W.Frag) (mg : Str → Option Value) (base : Heap) (cs : List (Addr × Addr)), HotEnv K mg cs Q.M Q.txs (ecK K Q.M) →
  ∀ x tab, Q.M.hot.lookup x = some tab → ∃ f, mg x = some (.ref f) ∧ PySem.W.keepIn K (.ref f) = true ∧ HotFn P w K mg base 3 f (ecK K Q.M) tab
theorem hotAll_nil {Q : Lk} (h : Q.M.hot = []) : HotAll Q := fun P w K mg base cs E x tab e => by
  rw [h] at e
  cases e
theorem Lk.env1 (ok : Q.ok = true) (bnd : ∀ tx ∈ Q.ltx :: Q.txs, Bnd tx) (X : K.In h) (G : h.Ns mainGlobals mg) (c : He.SaysX Q.fa Q.fn [] Q.tf Q.ex w h K) {base : Heap} (tb : ∀ p ∈ Q.tf.map (He.cT K), LamX.TabB base mg p.1 p.2)
    (hot : ∀ x tab, Q.M.hot.lookup x = some tab → ∃ f, mg x = some (.ref f) ∧ PySem.W.keepIn K (.ref f) = true ∧ HotFn P w K mg base 3 f (ecK K Q.M) tab) : Env1 P w K mg base (Q.tf.map (He.cT K)) Q.M Q.txs Q.prog Q.gm Q.n (ecK K Q.M) := by
  have ok' := (Bool.and_eq_true_iff.mp ok).1
  refine ⟨fun x j hx => ?_, fun x d hx => ?_, fun x hx => ?_, fun p hp => ⟨(tb p hp).code, (tb p hp).bm, (tb p hp).gP⟩, Lk.exs X G c, Lk.isx X G c, hot⟩
  · have z : (match Q.txs[j]?, Q.prog[j]? with
      | some tx, some d => decide (tx.x = x) && txOk Q.M Q.gm Q.n tx d
      | _, _ => false) = true := List.all_eq_true.mp ok' (x, j) (look_mem hx)
    cases e1 : Q.txs[j]? with
    | none => rw [e1] at z; exact (Bool.false_ne_true z).elim
    | some tx =>
      cases e2 : Q.prog[j]? with
      | none => rw [e1, e2] at z; exact (Bool.false_ne_true z).elim
      | some d =>
        rw [e1, e2] at z
        have z' : (decide (tx.x = x) && txOk Q.M Q.gm Q.n tx d) = true := z
        rw [Bool.and_eq_true, decide_eq_true_eq] at z'
        have hm : tx ∈ Q.ltx :: Q.txs := List.mem_cons_of_mem _ (List.mem_of_getElem? e1)
        refine ⟨He.ga K tx.x, tx, d, ?_, rfl, rfl, z'.1, Lk.funC c hm (bnd tx hm), z'.2⟩
        rw [← z'.1]
        exact He.glo_ok X G (c.t.d.facts (f := .glo tx.x) (List.mem_append_left _ (List.mem_map.mpr ⟨tx, hm, rfl⟩)))
  · have z := List.all_eq_true.mp (Lk.ex3 c).1 (x, d) (look_mem hx)
    have z' : (match PySem.W.nsIn K mainGlobals x with
      | some (some u) => glbB K 40 u d
      | _ => false) = true := z
    split at z'
    · rename_i u e
      obtain ⟨v, r1, r2⟩ := glbB_ok 40 z'
      exact ⟨v, u, PySem.W.mg_of X G e, r1, r2⟩
    · cases z'
  · exact He.free_ok X G (c.t.d.facts (f := .free x) (List.mem_append_right _ (List.mem_map.mpr ⟨x, hx, rfl⟩)))
/-- THE END -/
theorem Lk.walk {l : PySem.W.OpenLaw} {nm N k fu : Nat} {q : Program} {loose : List Str} {XP : (Str → Option Value) → Heap → Prop} {d : DefRec} {x : Str} (Q : Lk) (hn : l.most = some nm) (hn2 : nm ≤ sizeLine) (hdf : d.params.defaults = []) (hr : Room ((Q.gm + 1) * k + Q.gm + 1) callerA)
    (ok : Q.ok = true) (bnd : ∀ tx ∈ Q.ltx :: Q.txs, Bnd tx) (hname : d.name = Q.ltx.x) (hps : Q.ltx.ps = [x])
    (hot : HotAll Q) (law : ∀ ns : List Int, ns.length ≤ nm → (∀ z ∈ ns, Builtin.Int.intBits z ≤ 1048576) → ∃ t, lawRun (Fd Q.prog fu k) fu Q.L ns = .ret (.d (.bool true)) t) :
    PySem.W.WalkO q loose XP (He.hookX N Q.fa Q.fn [] Q.tf Q.ex).says l.row.toRowW d [] (fun f vs => PySem.call f vs) := by
  refine Att.attach_callB hn hdf fun w s₀ s₁ mg mb fa o pm cd doc a vs ns G Y ho hd hcd hmg hobj hints hlen hbits hg => ?_
  obtain ⟨K, KX, c⟩ := Y
  have hm : Q.ltx ∈ Q.ltx :: Q.txs := List.mem_cons_self
  have Fl := Lk.funC c hm (bnd _ hm)
  obtain ⟨oc, od, kV, doc', pm', an, cdv, ct, osl, lk, hcd', hgen⟩ := Fl.ex
  have efa : fa = He.ga K Q.ltx.x := by
    rw [hname] at hmg
    have gl : mg Q.ltx.x = some (.ref (He.ga K Q.ltx.x)) := He.glo_ok KX G.T.g (c.t.d.facts (f := .glo Q.ltx.x) (List.mem_append_left _ (List.mem_map.mpr ⟨Q.ltx, hm, rfl⟩)))
    exact Value.ref.inj (Option.some.inj (hmg.symm.trans gl))
  rw [← efa] at lk
  refine LamX.law_callTs (fd := PySem.W.fnOf Q.ltx.x Q.ltx.qual (defArgs Q.ltx.st) (defBody Q.ltx.st) (defScope Q.ltx.st) .none kV doc' pm' an cdv ct) (cs := Q.tf.map (He.cT K)) (x := x) (sp := spLaw K (Q.tf.map (He.cT K)) (Fd Q.prog fu k) fu Q.L) (CX := CX0) (k := (Q.gm + 1) * k + Q.gm + 1) KX G.T.g G.T.b G.T.builtins G.T.nolimit hg (fun p hp => ?_) (fun p hp => ?_) (fun p hp => ?_) G.T.bmain hobj hints (Nat.le_trans hlen hn2) hr
    (fun base KB GB tb => ?_) (fun s u => .of_eq ?_) (fun H hH hS => ⟨a, ns, rfl, ?_, hH, law ns hlen hbits, fun _ => rfl⟩) fun H e s' z => z
  · obtain ⟨y, hy, rfl⟩ := List.mem_map.mp hp
    exact c.empty y hy
  · obtain ⟨y, hy, rfl⟩ := List.mem_map.mp hp
    exact c.out y hy
  · obtain ⟨y, hy, rfl⟩ := List.mem_map.mp hp
    exact PySem.W.codeHd_of_K KX (c.hd y hy)
  · have z := law_fn (fu := fu) (k := k) (f := fa) (Lk.env1 (P := l.prog) ok bnd KX G.T.g c tb (hot _ _ _ _ _ _ (Lk.hotEnv bnd KX G.T.g c))) (Bool.and_eq_true_iff.mp ok).2 lk hcd' hgen
    rw [hps] at z
    exact z
  · have z := bnd _ hm kV doc' pm' an cdv ct [u] (by rw [hps]; rfl)
    rw [hps] at z
    exact z
  · rcases hS with hS | ⟨o', its, m, hk, hc, hd', hs, hz, r⟩
    · exact .inl hS
    · have e := KX a o' hk
      rw [hobj] at e
      have e' := Option.some.inj e
      subst e'
      have e2 : Data.seq vs.toArray 0 = Data.seq its m := hs
      cases e2
      exact .inr ⟨_, _, hk, hz, r⟩
end
end DL
/-! DLV: while an error is handled: the end of a walk over a list; list comprehensions. -/
namespace DL
open PySem PySem.Spec PyProof.Rows L2 HotX
section
variable {prog : Program} {w : World} {A : Around} {E : Value → Shared → Prop} {s : Shared}
theorem next_list_hot {it l x1 : Addr} {i : Nat} {items : Array Value} {Q : Option Value → Shared → Prop} (hot : HotAt A x1 s.heap) (hne : x1 ≠ it)
    (hit : s.heap.IsListIter it l i) (hl : s.heap.IsList l items) (hx : items[i]? = none)
    (hQ : ∀ h', (∀ b o, b ≠ it → s.heap.get? b = some o → h'.get? b = some o) → Q none { s with heap := h' }) : wpAny (model prog w) A (pyNext (.ref it)) Q E s := by
  obtain ⟨oi, hoi, hci, hdi⟩ := id hit
  obtain ⟨ol, hol, _, nl, hdl⟩ := hl
  obtain ⟨hh, o1, vs1, e1, d1, c1⟩ := hot
  unfold pyNext
  refine wpAny_bind (wpAny_attempt (wpAny_callSpecial?_slot (name := Str.ofString "__next__") hit.typeIs slot_listiter_next (wpAny_call_entry slot_listiter_next hit.typeIs entry_listiter_next ?_ (args_listiter_next _))))
  show wpAny _ _ (field (.ref it) 0 >>= _) _ _ s
  refine wpAny_bind (wpAny_field hoi hdi (x := .ref l) rfl ?_)
  show wpAny _ _ (if (Value.ref l == Value.none) = true then _ else _) _ _ s
  rw [if_neg (show ¬ ((Value.ref l == Value.none) = true) from Bool.false_ne_true)]
  show wpAny _ _ (field (.ref it) 1 >>= _) _ _ s
  refine wpAny_bind (wpAny_field hoi hdi (x := .int i 0) rfl ?_)
  show wpAny _ _ (seqItems? (.ref l) >>= _) _ _ s
  refine wpAny_bind (wpAny_seqItems hol hdl ?_)
  simp only [Int.toNat_natCast, hx]
  refine wpAny_bind (wpAny_rule (wpAny_bind (wpAny_setField hoi hdi (by simp) ?_)))
  generalize hg : s.heap.update it _ = g
  have up : ∀ b o, b ≠ it → s.heap.get? b = some o → g.get? b = some o := fun b o hb e => by
    rw [← hg, Heap.get?_update_other _ _ (Ne.symm hb)]
    exact e
  show wpAny _ _ (newExc (.type "StopIteration") [] >>= _) _ _ _
  refine wpAny_bind ?_
  simp only [newExc, newTuple]
  refine wpAny_bind (wpAny_newObj_type ?_ (by size_fits))
  refine wpAny_bind (m := firstArgMember _ _) (wpAny_of_eq (a := Value.none) (by first | rfl | (simp only [firstArgMember]; rfl)) ?_)
  refine wpAny_newObj_type ?_ (by size_fits)
  have e1' := up _ _ hne e1
  refine raiseNew_hot ⟨hh, o1, vs1, Heap.get?_push_of_some _ (Heap.get?_push_of_some _ e1'), d1, c1⟩ (Nat.ne_of_lt (Heap.lt_size (Heap.get?_push_of_some _ e1'))) (Heap.get?_push_size _ rfl) rfl (by first | (simp; done) | (simp; omega) | (simp only [Array.size_append]; simp; omega)) ?_
  refine wpAny_bind (wpAny_isInstance (T := "StopIteration") (b := true) ⟨_, Heap.get?_update_self _ (Heap.get?_push_size _ rfl) rfl, rfl⟩ isSubtype_stop ?_)
  refine wpAny_pure (hQ _ fun b o hb e => ?_)
  have e' := up b o hb e
  rw [Heap.get?_update_other _ _ (Nat.ne_of_gt (Heap.lt_size (Heap.get?_push_of_some _ e')))]
  exact Heap.get?_push_of_some _ (Heap.get?_push_of_some _ e')
theorem next_tup_hot {it l x1 : Addr} {i : Nat} {items : Array Value} {Q : Option Value → Shared → Prop} (hot : HotAt A x1 s.heap) (hne : x1 ≠ it)
    (hit : s.heap.IsTupleIter it l i) (hl : s.heap.IsTuple l items) (hx : items[i]? = none)
    (hQ : ∀ h', (∀ b o, b ≠ it → s.heap.get? b = some o → h'.get? b = some o) → Q none { s with heap := h' }) : wpAny (model prog w) A (pyNext (.ref it)) Q E s := by
  obtain ⟨oi, hoi, hci, hdi⟩ := id hit
  obtain ⟨ol, hol, _, nl, hdl⟩ := hl
  obtain ⟨hh, o1, vs1, e1, d1, c1⟩ := hot
  unfold pyNext
  refine wpAny_bind (wpAny_attempt (wpAny_callSpecial?_slot (name := Str.ofString "__next__") hit.typeIs PySem.F.slot_tuple_iterator_next (wpAny_call_entry PySem.F.slot_tuple_iterator_next hit.typeIs PySem.F.entry_tuple_iterator_next ?_ (PySem.F.args_tuple_iterator_next_1 _))))
  show wpAny _ _ (field (.ref it) 0 >>= _) _ _ s
  refine wpAny_bind (wpAny_field hoi hdi (x := .ref l) rfl ?_)
  show wpAny _ _ (if (Value.ref l == Value.none) = true then _ else _) _ _ s
  rw [if_neg (show ¬ ((Value.ref l == Value.none) = true) from Bool.false_ne_true)]
  show wpAny _ _ (field (.ref it) 1 >>= _) _ _ s
  refine wpAny_bind (wpAny_field hoi hdi (x := .int i 0) rfl ?_)
  show wpAny _ _ (seqItems? (.ref l) >>= _) _ _ s
  refine wpAny_bind (wpAny_seqItems hol hdl ?_)
  simp only [Int.toNat_natCast, hx]
  refine wpAny_bind (wpAny_rule (wpAny_bind (wpAny_setField hoi hdi (by simp) ?_)))
  generalize hg : s.heap.update it _ = g
  have up : ∀ b o, b ≠ it → s.heap.get? b = some o → g.get? b = some o := fun b o hb e => by
    rw [← hg, Heap.get?_update_other _ _ (Ne.symm hb)]
    exact e
  show wpAny _ _ (newExc (.type "StopIteration") [] >>= _) _ _ _
  refine wpAny_bind ?_
  simp only [newExc, newTuple]
  refine wpAny_bind (wpAny_newObj_type ?_ (by size_fits))
  refine wpAny_bind (m := firstArgMember _ _) (wpAny_of_eq (a := Value.none) (by first | rfl | (simp only [firstArgMember]; rfl)) ?_)
  refine wpAny_newObj_type ?_ (by size_fits)
  have e1' := up _ _ hne e1
  refine raiseNew_hot ⟨hh, o1, vs1, Heap.get?_push_of_some _ (Heap.get?_push_of_some _ e1'), d1, c1⟩ (Nat.ne_of_lt (Heap.lt_size (Heap.get?_push_of_some _ e1'))) (Heap.get?_push_size _ rfl) rfl (by first | (simp; done) | (simp; omega) | (simp only [Array.size_append]; simp; omega)) ?_
  refine wpAny_bind (wpAny_isInstance (T := "StopIteration") (b := true) ⟨_, Heap.get?_update_self _ (Heap.get?_push_size _ rfl) rfl, rfl⟩ isSubtype_stop ?_)
  refine wpAny_pure (hQ _ fun b o hb e => ?_)
  have e' := up b o hb e
  rw [Heap.get?_update_other _ _ (Nat.ne_of_gt (Heap.lt_size (Heap.get?_push_of_some _ e')))]
  exact Heap.get?_push_of_some _ (Heap.get?_push_of_some _ e')
/-- a tuple is unpacked while an error is handled -/
theorem unpack_hot {t x1 : Addr} {items : Array Value} {targets : List (Bool × (Value → Sem Unit))} {Q : Unit → Shared → Prop} (hot : HotAt A x1 s.heap) (ht : s.heap.IsTuple t items) (hn : targets.length = items.size) (hstar : targets.findIdx? (·.1) = none)
    (h : ∀ h', (∀ b o, s.heap.get? b = some o → h'.get? b = some o) → wpAny (model prog w) A (assignInOrder (targets.map (·.2)) items.toList) Q E { s with heap := h' }) : wpAny (model prog w) A (unpack (.ref t) targets) Q E s := by
  have tne : t ≠ s.heap.objs.size := ht.elim fun o e => Nat.ne_of_lt (Heap.lt_size e.1)
  unfold unpack
  rw [hn, hstar]
  refine wpAny_bind (wpAny_holding ?_)
  unfold unpackItems
  refine wpAny_bind ?_
  unfold notIterableAtAll
  refine wpAny_bind (wpAny_specialOf ht.typeIs PySem.F.slot_tuple_iter.lookup (wpAny_pure ?_))
  simp only [Bool.false_eq_true, if_false]
  refine wpAny_bind (wpAny_holding (wpAny_pyIter_tuple ht ?_))
  refine wpAny_bind (wpAny_holding (wpAny_draw_tuple tne items.size 0 _ _ ⟨_, Heap.get?_push_size _ rfl, rfl, rfl⟩ (ht.push _) (by omega) fun g itg same => ?_))
  have whole : (items.toList.drop 0).take items.size = items.toList := by
    rw [List.drop_zero]
    exact List.take_of_length_le (by simp)
  rw [whole, if_neg (by simp)]
  have tg : g.IsTuple t items := (ht.push _).extBut same.extBut tne
  obtain ⟨hh, o1, vs1, e1, d1, k1⟩ := hot
  have ne1 : x1 ≠ s.heap.objs.size := Nat.ne_of_lt (Heap.lt_size e1)
  have up : ∀ b o, s.heap.get? b = some o → g.get? b = some o := fun b o e => same.extBut b o (Nat.ne_of_lt (Heap.lt_size e)) (Heap.get?_push_of_some _ e)
  refine wpAny_bind (wpAny_holding (next_tup_hot ⟨hh, o1, vs1, up _ _ e1, d1, k1⟩ ne1 itg tg (by simp) fun h2 keep => ?_))
  simp only [Option.isSome_none, Bool.false_eq_true, if_false]
  exact wpAny_pure (h h2 fun b o e => keep b o (Nat.ne_of_lt (Heap.lt_size e)) (up b o e))
end
/-- the walk of a list comprehension over a list: the reading -/
def tLcH (K : PySem.W.Frag) (tl : TE) (g : TG) (tt : TT) (te : TE) (vs : List Nat) : TE := fun σ H Q => tl σ H fun v H1 => ∃ (a : Addr) (xs : List V), v = .ref a ∧ SqL K H1 a xs ∧ ∀ D, H1 D = none → ∃ W : Nat → Hp → Prop, W 0 (upd H1 D (.lst [])) ∧
  ∀ i H, W i H → SqL K H a xs ∧ (i = xs.length → Q (.ref D) H) ∧ ∀ x, xs[i]? = some x → g x (L2.wipe σ vs) H fun σ2 H2 => L2.wipe σ2 vs = L2.wipe σ vs ∧ tt σ2 H2 fun b H3 =>
    if b = true then te σ2 H3 fun y H4 => ∃ acc, H4 D = some (.lst acc) ∧ acc.length < sizeLine ∧ W (i + 1) (upd H4 D (.lst (acc ++ [y]))) else W (i + 1) H3
/-- a target, p pinned -/
structure PGP (X : Cx) (p : Addr × Obj) (target : Expr) (t : TG) : Prop where
  run : ∀ (pins : List (Addr × Obj)) (s : Shared) (σ : L2.St) (H : Hp) (v : V) (u : Value) (Q : L2.St → Hp → Prop), p ∈ X.pn ++ pins → Inv X pins σ H s → RelV v u → t v σ H Q →
    wpAny (model X.prog X.w) X.A (assign target X.env u) (fun _ s' => ∃ σ' H', Inv X pins σ' H' s' ∧ Q σ' H') X.xe s
theorem _root_.L2.PG.toP {X : Cx} {p : Addr × Obj} {target : Expr} {t : TG} (h : PG X target t) : PGP X p target t := ⟨fun pins s σ H v u Q _ I r q => h.run pins s σ H v u Q I r q⟩
theorem pgp_tup {X : Cx} {p : Addr × Obj} {es : List Expr} {k n : Nat} {t : TGs} {pos : Pos} (hot : L2H.Hot1 X.A p) (h : PGs X es t) (hn : (assignEach es X.env).length = n) (hst : (assignEach es X.env).findIdx? (·.1) = none) : PGP X p (.Tuple es k pos) (gTup X.K n t) := by
  refine ⟨fun pins s σ H v u Q hm I r hw => ?_⟩
  obtain ⟨a, xs, rfl, hq, hl, hw⟩ := hw
  obtain rfl : u = Value.ref a := r
  obtain ⟨its, rv, ht, hz⟩ := I.tuple hq
  obtain ⟨hh, vs, e1, c1⟩ := hot
  rw [assign_Tuple]
  refine wpAny_bind (wpAny_standAt (unpack_hot (x1 := p.1) ⟨hh, p.2, vs, (I.pin p hm).1, e1, c1⟩ ht (by rw [hn, ← hl]; simp [rv.length]) hst fun h' keep => ?_))
  exact h.run pins _ σ H xs _ Q (I.kept (t' := s.toks) keep) (by simpa using rv) hw
/-- the handled error is pinned -/
def HotP (X : Cx) (p : Addr × Obj) : Prop := L2H.Hot1 X.A p ∧ p ∈ X.pn
section
variable {X : Cx}
/-- the block's own places and the pinned error stand behind a turn -/
theorem stillP {it : Addr} {scope : Scope} {ce : Env} {z : Shared} {Hz : Hp} {τ : L2.St} {H' : Hp} {s' : Shared} {p : Addr × Obj} (I : Inv (X.blk z Hz scope ce [it]) [p] τ H' s') (n : H' it = none) (hne : p.1 ≠ it) : ∀ b ∈ [it], FpOk (X.blk z Hz scope ce [it]) [p] H' b := fun b hb => by
  obtain rfl : b = it := by simpa using hb
  have e := I.ok.exf b List.mem_cons_self
  refine ⟨n, e.1, I.ok.exfs b List.mem_cons_self, .inl List.mem_cons_self, fun x c q => e.2 x c q, fun q hq => ?_⟩
  obtain rfl : q = p := by simpa using (show q ∈ ([] : List (Addr × Obj)) ++ [p] from hq)
  exact hne
theorem lcH_core {pins : List (Addr × Obj)} {s : Shared} {σ : L2.St} {H : Hp} {Q : VK} {elt tg iter : Expr} {ifs : List Expr} {scope : Scope} {own : List (Str × Nat)} {pos pos' : Pos} {tl : TE} {g : TG} {tt : TT} {te : TE} {use : Option (Value → Sem Unit)} {Qf : Value → Shared → Prop} {p : Addr × Obj}
    (hp : HotP X p) (hN : X.N.Nodup) (I : Inv X pins σ H s) (hl : PE X iter tl) (ok : BlkOk X.N X.env.scope scope own)
    (hg : ∀ (s : Shared) (H : Hp) (C : Addr) (cl : List (Str × Addr)) (fp : List Addr), PGP (X.blk s H scope (compEnvC scope cl C X.env) fp) p tg g)
    (ht : ∀ (s : Shared) (H : Hp) (C : Addr) (cl : List (Str × Addr)) (fp : List Addr), PTs (X.blk s H scope (compEnvC scope cl C X.env) fp) ifs tt)
    (he : ∀ (s : Shared) (H : Hp) (C : Addr) (cl : List (Str × Addr)) (fp : List Addr), PE (X.blk s H scope (compEnvC scope cl C X.env) fp) elt te)
    (hs : ∀ x, foldedSetIterable iter X.env x = pure x) (h : tLcH X.K tl g tt te (own.map (·.2)) σ H Q)
    (hRR : ∀ D C s' m H', Inv X pins σ H' s' → Q (.ref D) H' → s'.heap.Ns C m → FpOk X pins H' C → compPost (model X.prog X.w) X.A X.xe use Qf (.ref D) C (.ok .next) s') :
    wpAny (model X.prog X.w) X.A (comprehension (.ListComp elt [⟨tg, iter, ifs, 0⟩] scope pos) scope X.env pos' (newList []) false (eval iter X.env) use) Qf X.xe s := by
  have closes : ∀ y ∈ scope.names, y.2 = .free → ∃ c, X.env.cells.lookup y.1 = some c := fun y hy e =>
    (ok.free y hy e).elim (fun k => I.ok.has _ (.inl k)) fun k => I.ok.has _ (.inr k)
  refine wpAny_comprehension_free (use := use) rfl hs (closure_ok closes) ok.kind (fun y hy e => by rw [ok.uniq y hy, e]) (thn (hl.run pins s σ H _ I h) fun xv s1 hx => ?_)
  obtain ⟨v1, H1, I1, r1, a, xs, rfl, hq, q⟩ := hx
  obtain rfl : xv = Value.ref a := r1
  obtain ⟨its, rv, pl, hz⟩ := I1.list hq
  refine wpAny_pyIter_list pl.isList ?_
  generalize hit : s1.heap.objs.size = it
  generalize hsa : ({ s1 with heap := s1.heap.push { cls := .type "list_iterator", data := .fields #[.ref a, .int 0 0] } } : Shared) = sa
  have ha : sa.heap = s1.heap.push { cls := .type "list_iterator", data := .fields #[.ref a, .int 0 0] } := by rw [← hsa]
  have Ia : Inv X pins σ H1 sa := by
    rw [← hsa]
    exact I1.kept (t' := s1.toks) fun b o e => Heap.get?_push_of_some _ e
  have sta : sa.heap.IsListIter it a 0 := by
    rw [ha, ← hit]
    exact ⟨_, Heap.get?_push_size _ rfl, rfl, rfl⟩
  have fpa : FpOk X pins H1 it := by
    rw [← hit]
    exact I1.fpOk (Nat.le_refl _) (I1.hok.fresh (Nat.le_refl _))
  have hpne : p.1 ≠ it := fpa.2.2.2.2.2 p (List.mem_append_left _ hp.2)
  refine wpAny_newObj_type (newEnv_comp ?_) (by show 0 ≤ sizeLine; decide)
  have young : it < sa.heap.objs.size := by rw [ha, Heap.size_push, hit]; exact Nat.lt_succ_self _
  generalize hD : sa.heap.objs.size = D
  have hDn : H1 D = none := Ia.hok.fresh (Nat.le_of_eq hD)
  obtain ⟨W, w0, turn⟩ := q D hDn
  generalize hsb : ({ sa with heap := sa.heap.push { cls := .type "list", data := .seq ([] : List Value).toArray } } : Shared) = sb
  have hb1 : sb.heap = sa.heap.push { cls := .type "list", data := .seq ([] : List Value).toArray } := by rw [← hsb]
  have Ib : Inv X pins σ (upd H1 D (.lst [])) sb := by
    rw [← hsb]
    refine Ia.laid (t' := sa.toks) (fun b o e => Heap.get?_push_of_some _ e) (Nat.le_of_eq hD) ⟨Nat.zero_le _, [], 0, .nil, ?_⟩
    rw [← hD]
    exact Heap.get?_push_size _ rfl
  have fpb : ∀ b ∈ [it], FpOk X pins (upd H1 D (.lst [])) b ∧ b < sb.heap.objs.size := fun b hb => by
    obtain rfl : b = it := by simpa using hb
    refine ⟨⟨?_, fpa.2⟩, by rw [hb1, Heap.size_push]; exact Nat.lt_succ_of_lt young⟩
    rw [upd_ne (by rw [← hD]; exact Nat.ne_of_lt young)]
    exact fpa.1
  have stb : sb.heap.IsListIter it a 0 := sta.at fun o e => by rw [hb1]; exact Heap.get?_push_of_some _ e
  have Ic0 := block_start Ib ok hN fpb
  have P1 := Ib.pin p (List.mem_append_left _ hp.2)
  generalize hvs : own.map (·.2) = vs at *
  generalize hcl : cellsFrom (sb.heap.objs.size + 1) scope.names (cloFrom X.env.cells scope.names []) = cl at *
  generalize hHb : upd H1 D (.lst []) = Hb at *
  have rg := hg sb Hb sb.heap.objs.size cl [it]
  have rt := ht sb Hb sb.heap.objs.size cl [it]
  have re := he sb Hb sb.heap.objs.size cl [it]
  show codeAny (model X.prog X.w) X.A (.compStart (.ListComp elt [⟨tg, iter, ifs, 0⟩] scope pos) 0 (.ref it) (.ref D) (compEnvC scope cl sb.heap.objs.size X.env)) (compPost (model X.prog X.w) X.A X.xe use Qf (.ref D) sb.heap.objs.size) { sb with heap := pushCells (sb.heap.push { cls := .type "dict", data := .dict #[] }) scope.names }
  have place : (compEnvC scope cl sb.heap.objs.size X.env).locals = sb.heap.objs.size := rfl
  generalize hce : compEnvC scope cl sb.heap.objs.size X.env = ce at *
  have kc : ∀ b o, sb.heap.get? b = some o → (pushCells (sb.heap.push { cls := .type "dict", data := .dict #[] }) scope.names).get? b = some o := fun b o e => pushCells_keeps _ _ _ _ (Heap.get?_push_of_some _ e)
  generalize hsc : ({ sb with heap := pushCells (sb.heap.push { cls := .type "dict", data := .dict #[] }) scope.names } : Shared) = sc at *
  have kc' : ∀ b o, sb.heap.get? b = some o → sc.heap.get? b = some o := by rw [← hsc]; exact kc
  have stc : sc.heap.IsListIter it a 0 := stb.at fun o e => kc' _ _ e
  have Ic : Inv (X.blk sb Hb scope ce [it]) [p] (L2.wipe σ vs) Hb sc := Ic0.pins_of fun q hq => by
    obtain rfl : q = p := by simpa using hq
    refine ⟨kc' _ _ P1.1, P1.2.1, ?_, fun z => ?_, P1.2.2.2.2⟩
    · show q.1 ≠ ce.locals
      rw [place]
      exact Nat.ne_of_lt (Heap.lt_size P1.1)
    · exact (List.mem_cons.mp (Ib.stkSub q.1 z)).elim P1.2.2.1 P1.2.2.2.1
  have walk : codeAny (model X.prog X.w) X.A (.compLoop (.ListComp elt [⟨tg, iter, ifs, 0⟩] scope pos) 0 (.ref it) (.ref D) ce) (compPost (model X.prog X.w) X.A X.xe use Qf (.ref D) sb.heap.objs.size) sc := by
    refine compLoop_any (fun n z => ∃ i Hz, n + i = xs.length ∧ Inv (X.blk sb Hb scope ce [it]) [p] (L2.wipe σ vs) Hz z ∧ z.heap.IsListIter it a i ∧ Hz it = none ∧ W i Hz) ?_ xs.length ⟨0, Hb, rfl, Ic, stc, (fpb it List.mem_cons_self).1.1, w0⟩
    intro n z ⟨i, Hz, hni, Iz, stz, nz, wz⟩
    obtain ⟨hqz, stop, step⟩ := turn i Hz wz
    obtain ⟨itz, rvz, plz, hzz⟩ := Iz.list hqz
    have lenz := rvz.length
    obtain ⟨f0, f1, f2, f3, f4, f5⟩ := stillP Iz nz hpne it List.mem_cons_self
    by_cases hend : i = xs.length
    · have hotz : HotX.HotAt X.A p.1 z.heap := by
        obtain ⟨hh, vz, e1, c1⟩ := hp.1
        exact ⟨hh, p.2, vz, (Iz.pin p (List.mem_append_right _ List.mem_cons_self)).1, e1, c1⟩
      refine next_list_hot hotz hpne stz plz.isList (by simp; omega) fun h' eb => ?_
      have I1' : Inv (X.blk sb Hb scope ce [it]) [p] (L2.wipe σ vs) Hz { z with heap := h' } := Iz.turned (t' := z.toks) (fun b o hb e => eb b o hb e) f0 f1 f3 f4 f5
      have J1 : Inv X pins σ Hz { z with heap := h' } := by
        refine Ib.call' (ch := [it]) I1'.os I1'.base I1'.hok I1'.bare fun b hb => ?_
        obtain ⟨g0, g1, g2, g3, g4, g5⟩ := (fpb b hb).1
        exact ⟨g3, g1, g4, g5⟩
      have nC : Hz sb.heap.objs.size = none := by
        have e : Hz ce.locals = none := I1'.free
        rw [place] at e
        exact e
      obtain ⟨mm, hn, _⟩ := I1'.loc
      have hn : h'.Ns ce.locals mm := hn
      rw [place] at hn
      exact hRR D sb.heap.objs.size _ mm Hz J1 (stop hend) hn (Ib.fpOk (Nat.le_refl _) nC)
    · have hi : i < xs.length := by
        have : i ≤ xs.length := by omega
        omega
      obtain ⟨x, hx⟩ : ∃ x, xs[i]? = some x := ⟨xs[i], List.getElem?_eq_getElem hi⟩
      obtain ⟨u, hu, ru⟩ := rvz.get hx
      refine wpAny_pyNext_list_item stz plz.isList (x := u) (by simpa using hu) fun h' st' sbu => ?_
      have I2 : Inv (X.blk sb Hb scope ce [it]) [p] (L2.wipe σ vs) Hz { z with heap := h' } := Iz.turned (t' := z.toks) (fun b o hb e => (sbu.2 b hb).trans e) f0 f1 f3 f4 f5
      obtain ⟨oi, eo, co, dq⟩ := id st'
      refine go_of (s := { z with heap := h' }) eo co dq (by decide) ?_
      have P2 := I2.pinned (stillP I2 nz hpne) fun b hb => by
        obtain rfl : b = it := by simpa using hb
        exact ⟨oi, eo, fun v q => by rw [dq] at q; cases q⟩
      refine thnF (rg.run _ _ _ Hz x u _ (List.mem_append_right _ (List.mem_append_left _ List.mem_cons_self)) P2 ru (step x hx)) fun _ z3 ⟨σ3, H3, I3, w3, q3⟩ => ?_
      refine thnF (rt.run _ z3 σ3 H3 _ I3 q3) fun b z4 ⟨H4, I4, q4⟩ => ?_
      have back : ∀ {z' : Shared} {H' : Hp}, Inv (X.blk sb Hb scope ce [it]) ([p] ++ pinsAt [it] h') σ3 H' z' → W (i + 1) H' → ∃ k, k < n ∧ ∃ i Hz, k + i = xs.length ∧ Inv (X.blk sb Hb scope ce [it]) [p] (L2.wipe σ vs) Hz z' ∧ z'.heap.IsListIter it a i ∧ Hz it = none ∧ W i Hz := fun {z' H'} I' w' => by
        have pp := I'.pin (it, oi) (List.mem_append_right _ (List.mem_append_right _ (mem_pinsAt List.mem_cons_self eo)))
        refine ⟨n - 1, by omega, i + 1, H', by omega, (I'.unpinned (pins := [p])).weak (by rw [← w3, wipe_length]) (fun j v e => ?_), st'.at fun o e => ?_, pp.2.1, w'⟩
        · rw [← w3] at e
          exact (wipe_some e).1
        · rw [eo] at e
          cases e
          exact pp.1
      cases b with
      | false => exact back I4 (by simpa using q4)
      | true =>
        have q5 : te σ3 H4 fun y H5 => ∃ acc, H5 D = some (.lst acc) ∧ acc.length < sizeLine ∧ W (i + 1) (upd H5 D (.lst (acc ++ [y]))) := by simpa using q4
        refine thnF (re.run _ z4 σ3 H4 _ I4 q5) fun v z5 ⟨y, H5, I5, r5, acc, hD5, hz5, w5⟩ => ?_
        exact app_ok (X := X.blk sb Hb scope ce [it]) I5 hD5 hz5 r5 fun z6 I6 => back I6 w5
  exact codeAny_compStart_list walk (wpAny_pyIter_listiter stc walk)
section
variable {elt tg iter : Expr} {ifs : List Expr} {scope : Scope} {own : List (Str × Nat)} {pos : Pos} {tl : TE} {g : TG} {tt : TT} {te : TE} {p : Addr × Obj}
theorem pe_lcH (hp : HotP X p) (hN : X.N.Nodup) (hl : PE X iter tl) (ok : BlkOk X.N X.env.scope scope own)
    (hg : ∀ (s : Shared) (H : Hp) (C : Addr) (cl : List (Str × Addr)) (fp : List Addr), PGP (X.blk s H scope (compEnvC scope cl C X.env) fp) p tg g)
    (ht : ∀ (s : Shared) (H : Hp) (C : Addr) (cl : List (Str × Addr)) (fp : List Addr), PTs (X.blk s H scope (compEnvC scope cl C X.env) fp) ifs tt)
    (he : ∀ (s : Shared) (H : Hp) (C : Addr) (cl : List (Str × Addr)) (fp : List Addr), PE (X.blk s H scope (compEnvC scope cl C X.env) fp) elt te)
    (hs : ∀ x, foldedSetIterable iter X.env x = pure x) : PE X (.ListComp elt [⟨tg, iter, ifs, 0⟩] scope pos) (tLcH X.K tl g tt te (own.map (·.2))) := by
  refine ⟨fun pins s σ H Q I h => ?_⟩
  rw [eval_ListComp]
  refine lcH_core hp hN I hl ok hg ht he hs h fun D C s' m H' I' q hn f => ?_
  refine ⟨m, hn, fun h2 same => ⟨.ref D, H', ?_, rfl, q⟩⟩
  exact I'.turned (t' := s'.toks) (fun b o hb e => by rw [same.2 b hb]; exact e) f.1 f.2.1 f.2.2.2.1 f.2.2.2.2.1 f.2.2.2.2.2
theorem ps_setLcH {i : Nat} {y : Str} {py spos : Pos} (hp : HotP X p) (hN : X.N.Nodup) (hy : X.N[i]? = some y) (hyl : X.env.scope.names.lookup y = some .local)
    (hsw : swapsWith (.ListComp elt [⟨tg, iter, ifs, 0⟩] scope pos) (some (.Name y py)) spos.line X.env = pure true) (hl : PE X iter tl) (ok : BlkOk X.N X.env.scope scope own)
    (hg : ∀ (s : Shared) (H : Hp) (C : Addr) (cl : List (Str × Addr)) (fp : List Addr), PGP (X.blk s H scope (compEnvC scope cl C X.env) fp) p tg g)
    (ht : ∀ (s : Shared) (H : Hp) (C : Addr) (cl : List (Str × Addr)) (fp : List Addr), PTs (X.blk s H scope (compEnvC scope cl C X.env) fp) ifs tt)
    (he : ∀ (s : Shared) (H : Hp) (C : Addr) (cl : List (Str × Addr)) (fp : List Addr), PE (X.blk s H scope (compEnvC scope cl C X.env) fp) elt te)
    (hs : ∀ x, foldedSetIterable iter X.env x = pure x) : PS X (.Assign [.Name y py] (.ListComp elt [⟨tg, iter, ifs, 0⟩] scope pos) spos) (tAsg (tLcH X.K tl g tt te (own.map (·.2))) (gName i)) := by
  refine ⟨fun pins s σ H D I h => ?_⟩
  have h' : tLcH X.K tl g tt te (own.map (·.2)) σ H (fun x H1 => gName i x σ H1 D.nx) := h
  rw [exec_Assign_Name_used _ _ _ _ hsw]
  refine wpAny_bind (wpAny_standAt (wpAny_bind ?_))
  show wpAny _ X.A (do let _ ← comprehension (.ListComp elt [⟨tg, iter, ifs, 0⟩] scope pos) scope X.env (firstIterPos [⟨tg, iter, ifs, 0⟩] pos) (newList []) false (eval iter X.env) (some (assign (.Name y py) X.env))) _ _ s
  refine wpAny_bind (thn (lcH_core (Qf := fun _ s' => SP X pins D .next s') hp hN I hl ok hg ht he hs h' fun L C s' m H' I' q hn f => ?_) fun _ s' hq => wpAny_pure (wpAny_pure hq))
  show wpAny _ _ (assign (.Name y py) X.env (.ref L)) _ _ _
  refine wpAny_assign_Name (store_ok2 (v := V.ref L) I' hN hy (.inl hyl) rfl (fun s2 I2 ⟨a, sb, ha⟩ => ?_) (.inr hyl))
  have away : C ≠ a := ha.elim (fun z => by rw [z]; exact f.2.1) fun z e => f.2.2.2.2.1 y a z e.symm
  refine ⟨m, hn.sameBut sb away, fun h3 same => ⟨_, H', ?_, q⟩⟩
  exact I2.turned (t' := s2.toks) (fun b o hb e => by rw [same.2 b hb]; exact e) f.1 f.2.1 f.2.2.2.1 f.2.2.2.2.1 f.2.2.2.2.2
end
end
/-! ### a def that is called with the handled error -/
section
variable {P : Program} {w : World} {K : PySem.W.Frag} {mg : Str → Option Value} {base : Heap}
/-- the def's own context, at the entry -/
abbrev cxE (P : Program) (w : World) (K : PySem.W.Frag) (mg : Str → Option Value) (base : Heap) (N : List Str) (qual : Str) (scope : Scope) (f : Addr) (cd : Value) (A : Around) (outer : List Env) (s : Shared) (H : Hp) (p : Addr × Obj) : Cx :=
  L2H.cxH CX0 P w K mg base N qual scope f cd A outer s H E0 p
theorem hotFn_of {k : Nat} {f : Addr} {name qual : Str} {params : Arguments} {body : List Stmt} {scope : Scope} {dV kV doc pm cdv ct oc : Value} {an od : Option Addr} {osl : Array (Option Value)} {N : List Str} {x : Str} {ec : Nat → Value} {tab : List (Nat × PyData)}
    (lk : K.lookup f = some ⟨oc, od, .func (PySem.W.fnOf name qual params body scope dV kV doc pm an cdv ct), osl⟩) (hcd : PySem.W.codeIn K cdv qual = true) (S : FnScope N [x] scope)
    (hb : ∀ (s : Shared) (u : Value), BindsTo s (PySem.W.fnOf name qual params body scope dV kV doc pm an cdv ct) ⟨[u], []⟩ [(x, u)])
    (hbody : ∀ k' v, (k', v) ∈ tab → ∀ (A : Around) (outer : List Env) (s : Shared) (H : Hp) (a : Addr) (oe : Obj) (Q : VK), L2H.Hot1 A (a, oe) → L2H.RoomH k (A.deeper (envOfC qual scope s.heap.objs.size f cdv)) → L2N.Zn (ec k') none oe →
      (∀ x H', Same H H' → (∀ A, Rp A K H' x v) → Q x H') → ∃ t, PSs (cxE P w K mg base N qual scope f cdv A outer s H (a, oe)) body t ∧ t { nx := fun _ H' => Q .non H', rt := Q } (L2.start N [V.ref a]) H) :
    HotFn P w K mg base (k + 1) f ec tab := fun k' v hm A outer s H a oe Q E hr hot hpin hz e0 hq => by
  have KX : K.In s.heap := e0.mod.kin.keeps fun b o e => (e0.bs b o e).1
  have lim : s.heap.NoLimit := e0.mod.nolimit.keeps fun b o e => (e0.bs b o e).1
  have hkind : ∀ y ∈ [x].zip [Value.ref a], scope.names.lookup y.1 = some .local ∨ (scope.names.lookup y.1 = some .cell ∧ ((cellsFrom (s.heap.objs.size + 1) scope.names []).lookup y.1).isSome = true) := fun y hy => by
    obtain ⟨n, v⟩ := y
    rcases S.par n (List.of_mem_zip hy).1 with q | q
    · exact .inl q
    · exact .inr ⟨q, PySem.W.cellsFrom_some _ _ _ (.inl q)⟩
  refine codeAny_call_function hr.depth (KX _ _ lk) rfl S.co S.gen rfl (PySem.W.codeRec_of KX hcd) (hb _ _ _ _ _ _ ?_)
  refine wpAny_newFunctionEnv_cells S.kind hkind fun env he s1 z => ?_
  subst he
  refine ⟨lim.keeps z.toInCall.keep, codeAny_func ?_⟩
  obtain ⟨t, ht, hgo⟩ := hbody k' v hm A outer s H a oe Q hot (hr.deeper _) hz hq
  have I : Inv (cxE P w K mg base N qual scope f cdv A outer s H (a, oe)) [] (L2.start N [V.ref a]) H s1 := L2H.inv_startH S hpin e0 rfl (.cons rfl .nil) z
  refine wpAny_mono (ht.run [] s1 _ H _ I hgo) (fun fl s' hs => ?_) fun e s' hs => hs
  have fin : ∀ {σ' : L2.St} {H' : Hp} {v : V} {u : Value}, Inv (cxE P w K mg base N qual scope f cdv A outer s H (a, oe)) [] σ' H' s' → RelV v u → Q v H' → CE outer P w H s Q u s' := fun {σ' H' v u} J rv q => ⟨v, H', J.os, J.bare, J.base, J.hok, rv, q⟩
  cases fl with
  | ret u =>
    obtain ⟨v, σ', H', J, rv, q⟩ := hs
    exact fin J rv q
  | next =>
    obtain ⟨σ', H', J, q⟩ := hs
    exact fin (v := V.non) (u := Value.none) J rfl q
  | brk =>
    obtain ⟨_, _, _, q⟩ := hs
    exact False.elim q
  | cont =>
    obtain ⟨_, _, _, q⟩ := hs
    exact False.elim q
end
end DL
/-! DLW: what the laws' own words for errors give: kinds = [isinstance(e, C), ..]; one of them; its word. -/
namespace DL
open PySem PySem.Spec PyProof.Rows L2
section
variable {X : Cx}
/-- isinstance, the first argument the handled error -/
theorem isE_rule {a D : Addr} {oe : Obj} (hp : HotP X (a, oe)) (ex : ExcC X.K D) (hz : Zc (.ref D) none oe) : CallR X (.builtin "isinstance") (rIsE X.K D a) := by
  intro pins s σ H xs us Q I r h
  obtain ⟨c, cv, b, rfl, hcv, e, q⟩ := h
  obtain ⟨⟨_, vs, hvs, _⟩, hm⟩ := hp
  have hget := (I.pin (a, oe) (List.mem_append_left _ hm)).1
  cases r with
  | cons rx rr =>
    cases rr with
    | cons rt rr =>
      cases rr
      cases rx
      obtain rfl := hcv _ rt
      have J : PySem.W.InstAt s.heap a oe D none := by
        obtain ⟨oc, od, oda, osl⟩ := oe
        obtain ⟨h1, h2⟩ := hz
        have h3 : oda = .fields vs := hvs
        have h1 : oc = .ref D := h1
        have h2 : od = none := h2
        subst h1 h2 h3
        exact ⟨hget, rfl, rfl, trivial⟩
      exact PySem.W.kia_one (PySem.W.handS_kitx_exc ex.hg ex.hk ex.hs ex.hd ex.ha ex.hn ex.ht ex.hm) I.kIn J e (fun z => nomatch z) fun tk => ⟨.bl b, H, I.kept (t' := tk) fun _ _ z => z, rfl, q⟩
theorem pe_isE {y C : Str} {i : Nat} {a D Cc : Addr} {oe : Obj} {b : Bool} {q p1 p2 pos : Pos} (hp : HotP X (a, oe)) (ex : ExcC X.K D) (hz : Zc (.ref D) none oe) (hi : X.N[i]? = some y) (hv : Vis X.env.scope y) (hy : okName y = true)
    (hg : Gl X "isinstance") (hm : X.mg "isinstance" = none) (hC : Gl X C) (hC2 : okName C = true) (hmC : X.mg C = some (.ref Cc)) (hk : PySem.W.kitOne X.K (.ref D) (.ref Cc) = some b) :
    PE X (.Call (.Name "isinstance" q) [.Name y p1, .Name C p2] [] pos) (fun σ H Q => σ[i]? = some (some (.ref a)) ∧ Q (.bl b) H) :=
  (pe_callB (isE_rule hp ex hz) hg hm PyProof.Rows.boot_isinstance (pa_cons (pe_var hi hv (okName_of hy).1 (okName_of hy).2.1) (pa_cons (pe_glob (v := .ref Cc) hC hmC rfl (okName_of hC2).1) pa_nil))).to fun σ H Q ⟨hσ, h⟩ => by
    exact ⟨_, hσ, .ref Cc, .ref Cc, b, rfl, fun u r => r, hk, h⟩
end
/-- isinstance(y, C), C .. -/
def isCall1 (y : Str) : Expr → Option Str
  | .Call (.Name f _) [.Name z _, .Name C _] [] _ => if f = ("isinstance" : Str) ∧ z = y then some C else none
  | _ => none
def isCalls (y : Str) : List Expr → Option (List Str)
  | [] => some []
  | e :: es => match isCall1 y e, isCalls y es with
    | some C, some cs => some (C :: cs)
    | _, _ => none
def strsOf : List Expr → Option (List Str)
  | [] => some []
  | .Constant (.str s) _ _ :: es => (strsOf es).map (s :: ·)
  | _ :: _ => none
theorem isCall1_of {y C : Str} {e : Expr} (h : isCall1 y e = some C) : ∃ p1 p2 p3 p4, e = .Call (.Name "isinstance" p1) [.Name y p2, .Name C p3] [] p4 := by
  unfold isCall1 at h
  split at h
  · split at h
    · rename_i hc
      obtain ⟨rfl, rfl⟩ := hc
      cases h
      exact ⟨_, _, _, _, rfl⟩
    · cases h
  · cases h
section
variable {X : Cx}
theorem pa_isEs {y : Str} {i : Nat} {a D : Addr} {oe : Obj} (hp : HotP X (a, oe)) (ex : ExcC X.K D) (hz : Zc (.ref D) none oe) (hi : X.N[i]? = some y) (hv : Vis X.env.scope y) (hy : okName y = true) (hg : Gl X "isinstance") (hm : X.mg "isinstance" = none) (fl : Str → Bool) :
    ∀ (es : List Expr) (cls : List Str), isCalls y es = some cls → (∀ C ∈ cls, Gl X C ∧ okName C = true ∧ ∃ Cc, X.mg C = some (.ref Cc) ∧ PySem.W.kitOne X.K (.ref D) (.ref Cc) = some (fl C)) →
    PA X es (fun σ H Q => σ[i]? = some (some (.ref a)) ∧ Q ((cls.map fl).map V.bl) H)
  | [], cls, h, _ => by
    cases h
    exact pa_nil.to fun σ H Q ⟨_, q⟩ => q
  | e :: es, cls, h, hc => by
    have h' : (match isCall1 y e, isCalls y es with
      | some C, some cs => some (C :: cs)
      | _, _ => none) = some cls := h
    cases h1 : isCall1 y e with
    | none => rw [h1] at h'; cases h'
    | some C =>
      cases h2 : isCalls y es with
      | none => rw [h1, h2] at h'; cases h'
      | some cs =>
        rw [h1, h2] at h'
        cases h'
        obtain ⟨p1, p2, p3, p4, rfl⟩ := isCall1_of h1
        obtain ⟨c1, c2, Cc, c3, c4⟩ := hc C List.mem_cons_self
        exact (pa_cons (pe_isE hp ex hz hi hv hy hg hm c1 c2 c3 c4) (pa_isEs hp ex hz hi hv hy hg hm fl es cs h2 fun C hC => hc C (List.mem_cons_of_mem _ hC))).to fun σ H Q ⟨hσ, q⟩ => ⟨hσ, hσ, q⟩
theorem pa_strs : ∀ (es : List Expr) (ss : List Str), strsOf es = some ss → PA X es (fun σ H Q => Q (ss.map V.str) H)
  | [], ss, h => by
    cases h
    exact pa_nil
  | e :: es, ss, h => by
    unfold strsOf at h
    split at h
    · rename_i heq
      cases heq
    · rename_i s j p es' heq
      cases heq
      cases hr : strsOf es with
      | none => rw [hr] at h; cases h
      | some r =>
        rw [hr] at h
        cases h
        exact (pa_cons pe_str (pa_strs es r hr)).to fun σ H Q q => q
    · cases h
end
/-- the word -/
def wordV (many : Str) (ws : List Str) (bs : List Bool) : Str := if (bs.filter id).length = 1 then (ws[bs.findIdx id]?).getD many else many
/-- the flags of the error k -/
def flagsOf (M : Mo) (cls : List Str) (k : Nat) : List Bool := cls.map fun C => decide (k ∈ (M.isx.lookup C).getD [])
def isLocB (sc : Scope) (x : Str) : Bool := match sc.names.lookup x with
  | some .local => true
  | _ => false
theorem isLocB_of {sc : Scope} {x : Str} (h : isLocB sc x = true) : sc.names.lookup x = some .local := by
  unfold isLocB at h
  split at h
  · assumption
  · cases h
def isGlB (sc : Scope) (x : Str) : Bool := match sc.names.lookup x with
  | some .globalImplicit => true
  | _ => false
theorem isGlB_of {sc : Scope} {x : Str} (h : isGlB sc x = true) : sc.names.lookup x = some .globalImplicit := by
  unfold isGlB at h
  split at h
  · assumption
  · cases h
/-- the check of such a def, and of its table -/
def wordB (M : Mo) (tx : Tx) (cls ws : List Str) (many : Str) (tab : List (Nat × PyData)) : Bool :=
  isFn (defScope tx.st).kind && !(defScope tx.st).isCoroutine && !(defScope tx.st).isGenerator && (defScope tx.st).names.all (fun y => decide (y.2 ≠ .free)) && M.blt.contains "isinstance" && M.blt.contains "len" && isGlB (defScope tx.st) "isinstance" && isGlB (defScope tx.st) "len" &&
    cls.all (fun C => isGlB (defScope tx.st) C && okName C && (M.isx.lookup C).isSome) && decide (cls.length ≤ 1000) && decide (ws.length = cls.length) &&
    tab.all (fun p => M.exs.any (fun q => decide (q.2 = p.1) && decide (M.exs.lookup q.1 = some p.1)) && sameStr p.2 (.str (wordV many ws (flagsOf M cls p.1)))) && (match tx.N, tx.ps, defBody tx.st with
    | [y0, y1, z], [y0'], [.Assign [.Name a1 _] (.List es _) _, .If (.Compare (.Call (.Name f _) [.ListComp (.Name z1 _) [⟨.Name z2 _, .Name a2 _, [.Name z3 _], 0⟩] sc _] [] _) [.NotEq] [.Constant (.int 1) _ _] _) [.Return (some (.Constant (.str m) _ _)) _] [] _,
        .Return (some (.Subscript (.List ss _) (.Call (.Attribute (.Name a3 _) g ap) [.Constant (.bool true) _ _] [] cp) _)) _] =>
      decide (y0' = y0) && decide (a1 = y1) && decide (a2 = y1) && decide (a3 = y1) && decide (z1 = z) && decide (z2 = z) && decide (z3 = z) && decide (f = ("len" : Str)) && decide (g = ("index" : Str)) && decide (m = many) && (ap.endLine == cp.line) &&
        decide (isCalls y0 es = some cls) && decide (strsOf ss = some ws) && isLocB (defScope tx.st) y0 && isLocB (defScope tx.st) y1 && okName y0 && okName y1 && okName z && decide ([y0, y1, z].Nodup) && blkC [y0, y1, z] (defScope tx.st) sc [(z, 2)] && isLocB sc z
    | _, _, _ => false)
section
variable {P : Program} {w : World} {K : PySem.W.Frag} {mg : Str → Option Value} {base : Heap} {cs : List (Addr × Addr)} {M : Mo} {txs : List Tx} {ec : Nat → Value} {tx : Tx} {f : Addr} {cls ws : List Str} {many : Str} {tab : List (Nat × PyData)}
theorem upd_at {H : Hp} {a b : Addr} {o o' : HO} (h : H a = some o) (hb : H b = none) : upd H b o' a = some o := by
  have : a ≠ b := fun e => by rw [e, hb] at h; cases h
  rw [upd_ne this]
  exact h
theorem filter_take {bs : List Bool} {i : Nat} {b : Bool} (h : bs[i]? = some b) : (bs.take (i + 1)).filter id = (bs.take i).filter id ++ (if b then [b] else []) := by
  rw [List.take_add_one, h, List.filter_append]
  cases b <;> rfl
theorem word_hot (En : HotEnv K mg cs M txs ec) (Fc : FunC K cs tx f) (h : wordB M tx cls ws many tab = true) : HotFn P w K mg base 3 f ec tab := by
  unfold wordB at h
  simp only [Bool.and_eq_true, Bool.not_eq_true', List.all_eq_true, decide_eq_true_eq] at h
  obtain ⟨⟨⟨⟨⟨⟨⟨⟨⟨⟨⟨⟨c1, c2⟩, c3⟩, c4⟩, c5⟩, c6⟩, c7⟩, c8⟩, c9⟩, c10⟩, c11⟩, c12⟩, c13⟩ := h
  split at c13
  · rename_i y0 y1 z y0' a1 pa1 es pes pas fl pfl z1 pz1 z2 pz2 a2 pa2 z3 pz3 sc psc pcl j1 pj1 pcmp m jm pm pret pif ss pss a3 pa3 g ap jb pb cp psub pret2 hN hps hbd
    simp only [Bool.and_eq_true, decide_eq_true_eq] at c13
    obtain ⟨⟨⟨⟨⟨⟨⟨⟨⟨⟨⟨⟨⟨⟨⟨⟨⟨⟨⟨⟨rfl, rfl⟩, rfl⟩, rfl⟩, rfl⟩, rfl⟩, rfl⟩, rfl⟩, rfl⟩, rfl⟩, d11⟩, d12⟩, d13⟩, d14⟩, d15⟩, d16⟩, d17⟩, d18⟩, d19⟩, d20⟩, d21⟩ := c13
    have hk : (defScope tx.st).kind = .function := by
      cases q : (defScope tx.st).kind <;> rw [q] at c1 <;> first | rfl | cases c1
    have S : FnScope [y0', a3, z3] [y0'] (defScope tx.st) := ⟨hk, c2, c3, d19, rfl, fun x hx => by
      obtain rfl : x = y0' := by simpa using hx
      exact .inl (isLocB_of d14), c4⟩
    obtain ⟨oc, od, kV, doc, pm', an, cdv, ct, osl, lk, hcd, _⟩ := Fc.ex
    have hb : ∀ (s : Shared) (u : Value), BindsTo s (PySem.W.fnOf tx.x tx.qual (defArgs tx.st) (defBody tx.st) (defScope tx.st) .none kV doc pm' an cdv ct) ⟨[u], []⟩ [(y0', u)] := fun s u => by
      have := Fc.bnd kV doc pm' an cdv ct [u] (by rw [hps]; rfl)
      rw [hps] at this
      exact .of_eq this
    refine hotFn_of (k := 2) (N := [y0', a3, z3]) (x := y0') lk hcd S hb fun k v hkv A outer s H a oe Q hot hr hz hq => ?_
    have t1 := c12 (k, v) hkv
    obtain ⟨t1, t2⟩ := t1
    obtain ⟨⟨xk, _⟩, _, t3⟩ := List.any_eq_true.mp t1
    rw [Bool.and_eq_true, decide_eq_true_eq, decide_eq_true_eq] at t3
    obtain ⟨D, e1, e2, e3, e4, e5, e6, ex⟩ := (En.exs xk k t3.2).at_
    have hv : v = .str (wordV m ws (flagsOf M cls k)) := sameStr_eq t2
    subst hv
    rw [hbd]
    generalize hX : cxE P w K mg base [y0', a3, z3] tx.qual (defScope tx.st) f cdv A outer s H (a, oe) = X
    have xN : X.N = [y0', a3, z3] := by rw [← hX]; rfl
    have xS : X.env.scope = defScope tx.st := by rw [← hX]; rfl
    have xK : X.K = K := by rw [← hX]; rfl
    have xM : X.mg = mg := by rw [← hX]; rfl
    have hp : HotP X (a, oe) := by rw [← hX]; exact ⟨hot, List.mem_cons_self⟩
    have gl : ∀ x, isGlB (defScope tx.st) x = true → Gl X x := fun x hx => by
      show X.env.scope.names.lookup x = _
      rw [xS]
      exact isGlB_of hx
    have nd : X.N.Nodup := by rw [xN]; exact d19
    have i0 : X.N[0]? = some y0' := by rw [xN]; rfl
    have i1 : X.N[1]? = some a3 := by rw [xN]; rfl
    have i2 : X.N[2]? = some z3 := by rw [xN]; rfl
    have v0 : X.env.scope.names.lookup y0' = some .local := by rw [xS]; exact isLocB_of d14
    have v1 : X.env.scope.names.lookup a3 = some .local := by rw [xS]; exact isLocB_of d15
    have hz' : Zc (.ref D) none oe := by rw [← e6]; exact hz.zc
    have hcl : ∀ C ∈ cls, Gl X C ∧ okName C = true ∧ ∃ Cc, X.mg C = some (.ref Cc) ∧ PySem.W.kitOne X.K (.ref D) (.ref Cc) = some (decide (k ∈ (M.isx.lookup C).getD [])) := fun C hC => by
      obtain ⟨⟨q1, q2⟩, q3⟩ := c9 C hC
      obtain ⟨ks, hks⟩ := Option.isSome_iff_exists.mp q3
      obtain ⟨Cc, m1, m2⟩ := (En.isx C ks hks).at_
      refine ⟨gl C q1, q2, Cc, by rw [xM]; exact m1, ?_⟩
      have := (m2 xk k t3.2).2
      rw [e6] at this
      rw [xK, this, hks]
      rfl
    have exX : ExcC X.K D := by rw [xK]; exact ex
    have fI : X.mg "isinstance" = none := by rw [xM]; exact En.blt _ (List.contains_iff_mem.mp c5)
    have fL : X.mg "len" = none := by rw [xM]; exact En.blt _ (List.contains_iff_mem.mp c6)
    have okB : BlkOk X.N X.env.scope sc [(z3, 2)] := by rw [xN, xS]; exact blkOk_by d20
    have zl : ∀ (s : Shared) (H : Hp) (C : Addr) (cl : List (Str × Addr)) (fp : List Addr), (X.blk s H sc (compEnvC sc cl C X.env) fp).env.scope.names.lookup z3 = some .local := fun s H C cl fp => by
      rcases relS_look (sc := X.env.scope) (isLocB_of d21) with z | ⟨z, _⟩
      · exact z
      · cases z
    have p1 := ps_set (X := X) (x := a3) (pos := pas) (pos' := pa1) nd i1 (.inl v1) (pe_lst (pos := pes) (pa_isEs hp exX hz' i0 (.inl v0) d16 (gl _ c7) fI _ es cls d12 hcl)) (swaps_of rfl) (.inr v1)
    have pc := pe_lcH (pos := psc) (own := [(z3, 2)]) hp nd (pe_var (pos := pa2) i1 (.inl v1) (okName_of d17).1 (okName_of d17).2.1) okB (fun s H C cl fp => (pg_name (X := X.blk s H sc (compEnvC sc cl C X.env) fp) (pos := pz2) (i := 2) nd i2 (.inl (zl s H C cl fp)) (.inr (zl s H C cl fp))).toP)
      (fun s H C cl fp => pts_one (pt_val (pe_var (X := X.blk s H sc (compEnvC sc cl C X.env) fp) (pos := pz3) i2 (.inl (zl s H C cl fp)) (okName_of d18).1 (okName_of d18).2.1))) (fun s H C cl fp => pe_var (X := X.blk s H sc (compEnvC sc cl C X.env) fp) (pos := pz1) i2 (.inl (zl s H C cl fp)) (okName_of d18).1 (okName_of d18).2.1) (fun _ => rfl)
    have p2 := ps_if (pos := pif) (pt_cmpR (pos := pcmp) op_ne (pe_callB (p := pfl) (pos := pcl) call_len_seq (gl _ c8) fL boot_len (pa_cons pc pa_nil)) (pe_int (i := 1) (j := j1) (pos := pj1)) rfl) (pss_one (ps_ret (pos := pret) (pe_str (X := X) (x := m) (j := jm) (pos := pm)))) pss_nil
    have p3 := ps_ret (pos := pret2) (pe_ix (pos := psub) ix_seq (pe_lst (pos := pss) (pa_strs (X := X) ss ws d13)) (pe_bm (apos := ap) (cpos := cp) PySem.F.plainAttrs_list PySem.F.slot_list_index PySem.F.type_list_index mt_index (pe_var (pos := pa3) i1 (.inl v1) (okName_of d17).1 (okName_of d17).2.1) (pa_cons (pe_bl (b := true) (j := jb) (pos := pb)) pa_nil) rfl rfl d11) (fun _ _ => rfl))
    refine ⟨_, pss_cons p1 (pss_cons p2 (pss_one p3)), ?_⟩
    clear p1 pc p2 p3 hX
    rw [xK]
    generalize hbs : cls.map (fun C => decide (k ∈ (M.isx.lookup C).getD [])) = bs
    have hbs' : flagsOf M cls k = bs := hbs
    rw [hbs'] at hq
    have lb : bs.length = cls.length := by rw [← hbs, List.length_map]
    have lbs : bs.length ≤ 1000 := by rw [← hbs, List.length_map]; exact c10
    have hsz : ∀ n : Nat, n ≤ 1000 → n ≤ sizeLine := fun n h => by rw [sizeLine_eq]; omega
    refine ⟨rfl, hsz _ (by rw [List.length_map]; exact lbs), fun p0 hp0 => ?_⟩
    generalize hH1 : upd H p0 (.lst (bs.map V.bl)) = H1
    have s1 : Same H H1 := by rw [← hH1]; exact fun b o e => upd_at e hp0
    have k1 : H1 p0 = some (.lst (bs.map V.bl)) := by rw [← hH1]; exact upd_same
    refine ⟨V.ref p0, rfl, p0, bs.map V.bl, rfl, SqL.of k1, fun Dn hDn => ?_⟩
    refine ⟨fun i Hz => Same H1 Hz ∧ Hz Dn = some (.lst (((bs.take i).filter id).map V.bl)), ⟨fun b o e => upd_at e hDn, upd_same⟩, fun i Hz ⟨w1, w2⟩ => ?_⟩
    have kz : Hz p0 = some (.lst (bs.map V.bl)) := w1 _ _ k1
    refine ⟨SqL.of kz, fun hi => ?_, fun x hx => ?_⟩
    · rw [List.length_map] at hi
      subst hi
      rw [List.take_length] at w2
      refine ⟨Dn, ((bs.filter id).map V.bl), rfl, .inl (SqL.of w2), rfl, ?_⟩
      rw [List.length_map]
      have dd : (!decide (V.int ((bs.filter id).length : Int) = V.int 1)) = !decide ((bs.filter id).length = 1) := by
        congr 1
        by_cases e : (bs.filter id).length = 1
        · rw [e]; rfl
        · have : ¬ ((bs.filter id).length : Int) = 1 := fun z => e (by omega)
          rw [decide_eq_false e]
          exact decide_eq_false fun z => this (V.int.inj z)
      refine ⟨_, rfl, ?_⟩
      rw [dd]
      by_cases e : (bs.filter id).length = 1
      · rw [decide_eq_true e]
        refine (if_neg (by decide)).mpr ?_
        have hlt : bs.findIdx id < bs.length := by
          apply List.findIdx_lt_length_of_exists
          obtain ⟨x, hx⟩ : ∃ x, x ∈ bs.filter id := by
            cases q : bs.filter id with
            | nil => rw [q] at e; cases e
            | cons x _ => exact ⟨x, List.mem_cons_self⟩
          exact ⟨x, (List.mem_filter.mp hx).1, (List.mem_filter.mp hx).2⟩
        have hat : bs[bs.findIdx id]? = some true := by
          rw [List.getElem?_eq_getElem hlt]
          exact congrArg some (List.findIdx_getElem (p := id) (w := hlt))
        have hw : bs.findIdx id < ws.length := by omega
        have ew : wordV m ws bs = ws[bs.findIdx id] := by
          show (if (bs.filter id).length = 1 then _ else _) = _
          rw [if_pos e, List.getElem?_eq_getElem hw]
          rfl
        rw [ew] at hq
        refine ⟨by rw [List.length_map, c11]; exact hsz _ c10, fun p1 hp1 => ?_⟩
        have k2 : upd Hz p1 (.lst (ws.map V.str)) p0 = some (.lst (bs.map V.bl)) := upd_at kz hp1
        refine ⟨V.ref p0, rfl, .inl ⟨rfl, _, SqL.of k2⟩, p0, bs.map V.bl, .bl true, bs.findIdx id, .bl true, rfl, rfl, SqL.of k2, rfl, ?_, by rw [List.getElem?_map, hat]; rfl, rfl, fun n z' hn hz2 => ?_, ?_⟩
        · rw [List.all_map, List.all_eq_true]
          exact fun _ _ => rfl
        · rw [List.getElem?_map] at hz2
          cases q : bs[n]? with
          | none => rw [q] at hz2; cases hz2
          | some b =>
            rw [q] at hz2
            cases hz2
            have hn2 : n < bs.length := Nat.lt_trans hn hlt
            have := List.not_of_lt_findIdx hn
            rw [List.getElem?_eq_getElem hn2] at q
            have q' := Option.some.inj q
            rw [q'] at this
            cases b with
            | true => cases this
            | false => rfl
        · refine .inl ⟨p1, ws.map V.str, (bs.findIdx id : Nat), V.str ws[bs.findIdx id], rfl, rfl, SqL.of upd_same, ?_, ?_⟩
          · unfold L2.atI
            have e2 : L2.ixN (ws.map V.str).length ((bs.findIdx id : Nat) : Int) = some (bs.findIdx id) := by
              unfold L2.ixN
              rw [List.length_map]
              simp
              exact hw
            rw [e2]
            show (ws.map V.str)[bs.findIdx id]? = _
            rw [List.getElem?_map, List.getElem?_eq_getElem hw]
            rfl
          · exact hq _ _ (fun b o q => upd_at (w1 _ _ (s1 b o q)) hp1) fun A => .str _
      · rw [decide_eq_false e]
        refine (if_pos rfl).mpr ?_
        have ew : wordV m ws bs = m := if_neg e
        rw [ew] at hq
        exact hq _ _ (fun b o q => w1 _ _ (s1 b o q)) fun A => .str m
    · rw [List.getElem?_map] at hx
      cases hb : bs[i]? with
      | none => rw [hb] at hx; cases hx
      | some b =>
        rw [hb] at hx
        cases hx
        refine ⟨rfl, V.bl b, rfl, b, rfl, ?_⟩
        have ft := filter_take hb
        cases b with
        | true =>
          refine (if_pos rfl).mpr ⟨V.bl true, rfl, ((bs.take i).filter id).map V.bl, w2, ?_, fun b o q => ?_, ?_⟩
          · rw [List.length_map]
            have := List.length_filter_le id (bs.take i)
            have := List.length_take_le' i bs
            rw [sizeLine_eq]
            omega
          · have : b ≠ Dn := fun z => by rw [z, hDn] at q; cases q
            rw [upd_ne this]
            exact w1 _ _ q
          · rw [upd_same, ft, List.map_append]
            rfl
        | false =>
          refine (if_neg (by decide)).mpr ⟨w1, ?_⟩
          rw [ft]
          simpa using w2
  · cases c13
end
end DL
/-! DLU: what the laws' own words for errors give, the other kind: kinds = [(name, isinstance(error, C)), ..]; names = [name for name, true in kinds if true]; .. -/
namespace DL
open PySem PySem.Spec PyProof.Rows L2
/-- (name, isinstance(y, C)), .. -/
def isPair1 (y : Str) : Expr → Option (Str × Str)
  | .Tuple [.Constant (.str n) _ _, e] _ _ => (isCall1 y e).map fun C => (n, C)
  | _ => none
def isPairs (y : Str) : List Expr → Option (List (Str × Str))
  | [] => some []
  | e :: es => match isPair1 y e, isPairs y es with
    | some C, some cs => some (C :: cs)
    | _, _ => none
/-- the pairs stand there -/
def PairsAt (H : Hp) : List V → List (Str × Bool) → Prop
  | [], [] => True
  | .ref p :: vs, (n, b) :: r => H p = some (.tup [V.str n, V.bl b]) ∧ PairsAt H vs r
  | _, _ => False
theorem PairsAt.same {H H' : Hp} (s : Same H H') : ∀ {vs : List V} {r : List (Str × Bool)}, PairsAt H vs r → PairsAt H' vs r
  | [], [], _ => trivial
  | .ref p :: vs, (n, b) :: r, h => ⟨s _ _ h.1, PairsAt.same s h.2⟩
  | [], _ :: _, h => h.elim
  | .non :: _, [], h => h.elim
  | .ref _ :: _, [], h => h.elim
  | .bl _ :: _, [], h => h.elim
  | .int _ :: _, [], h => h.elim
  | .str _ :: _, [], h => h.elim
  | .byt _ :: _, [], h => h.elim
  | _ :: _, _ :: _, h => by
    rename_i v vs x r
    cases v <;> first
      | exact ⟨s _ _ h.1, PairsAt.same s h.2⟩
      | exact h.elim
theorem PairsAt.len {H : Hp} : ∀ {vs : List V} {r : List (Str × Bool)}, PairsAt H vs r → vs.length = r.length
  | [], [], _ => rfl
  | v :: vs, x :: r, h => by
    cases v <;> first
      | exact congrArg (· + 1) (PairsAt.len h.2)
      | exact h.elim
  | [], _ :: _, h => h.elim
  | v :: _, [], h => by cases v <;> exact h.elim
theorem PairsAt.at_ {H : Hp} : ∀ {vs : List V} {r : List (Str × Bool)} {i : Nat} {v : V}, PairsAt H vs r → vs[i]? = some v → ∃ p n b, v = .ref p ∧ r[i]? = some (n, b) ∧ H p = some (.tup [V.str n, V.bl b])
  | [], _, _, _, _, h => by cases h
  | v :: vs, [], _, _, h, _ => by cases v <;> exact h.elim
  | v :: vs, (n, b) :: r, 0, u, h, hu => by
    cases hu
    cases v <;> first
      | exact ⟨_, n, b, rfl, rfl, h.1⟩
      | exact h.elim
  | v :: vs, x :: r, i + 1, u, h, hu => by
    cases v <;> first
      | exact False.elim h
      | (obtain ⟨p, n, b, e1, e2, e3⟩ := PairsAt.at_ h.2 (show vs[i]? = some u from hu)
         exact ⟨p, n, b, e1, e2, e3⟩)
section
variable {X : Cx}
theorem pa_pairs {y : Str} {i : Nat} {a D : Addr} {oe : Obj} (hp : HotP X (a, oe)) (ex : ExcC X.K D) (hz : Zc (.ref D) none oe) (hi : X.N[i]? = some y) (hv : Vis X.env.scope y) (hy : okName y = true) (hg : Gl X "isinstance") (hm : X.mg "isinstance" = none) (fl : Str → Bool) :
    ∀ (es : List Expr) (cls : List (Str × Str)), isPairs y es = some cls → (∀ C ∈ cls, Gl X C.2 ∧ okName C.2 = true ∧ ∃ Cc, X.mg C.2 = some (.ref Cc) ∧ PySem.W.kitOne X.K (.ref D) (.ref Cc) = some (fl C.2)) →
    PA X es (fun σ H Q => σ[i]? = some (some (.ref a)) ∧ ∀ vs H', Same H H' → PairsAt H' vs (cls.map fun C => (C.1, fl C.2)) → Q vs H')
  | [], cls, h, _ => by
    cases h
    exact pa_nil.to fun σ H Q ⟨_, q⟩ => q [] H (fun _ _ e => e) trivial
  | e :: es, cls, h, hc => by
    have h' : (match isPair1 y e, isPairs y es with
      | some C, some cs => some (C :: cs)
      | _, _ => none) = some cls := h
    cases h1 : isPair1 y e with
    | none => rw [h1] at h'; cases h'
    | some C =>
      cases h2 : isPairs y es with
      | none => rw [h1, h2] at h'; cases h'
      | some cs =>
        rw [h1, h2] at h'
        cases h'
        unfold isPair1 at h1
        split at h1
        · rename_i n j pn e1 k pt
          cases h3 : isCall1 y e1 with
          | none => rw [h3] at h1; cases h1
          | some C0 =>
            rw [h3] at h1
            cases h1
            obtain ⟨p1, p2, p3, p4, rfl⟩ := isCall1_of h3
            obtain ⟨c1, c2, Cc, c3, c4⟩ := hc (n, C0) List.mem_cons_self
            refine (pa_cons (pe_tup (pa_cons pe_str (pa_cons (pe_isE hp ex hz hi hv hy hg hm c1 c2 c3 c4) pa_nil))) (pa_pairs hp ex hz hi hv hy hg hm fl es cs h2 fun C hC => hc C (List.mem_cons_of_mem _ hC))).to fun σ H Q ⟨hσ, q⟩ => ?_
            refine ⟨hσ, (by show 2 ≤ sizeLine; rw [sizeLine_eq]; decide), fun p hp0 => ⟨hσ, fun vs H' s pr => ?_⟩⟩
            exact q _ H' (fun b o e => s _ _ (upd_at e hp0)) ⟨s _ _ upd_same, pr⟩
        · cases h1
end
/-- the word -/
def toldV (many : Str) (nbs : List (Str × Bool)) (saw : Bool) : Str := match nbs.filter (·.2) with
  | [x] => if saw then x.1 else many
  | _ => many
def toldB (M : Mo) (tx : Tx) (cls : List (Str × Str)) (many top : Str) (tab : List (Nat × PyData)) : Bool :=
  isFn (defScope tx.st).kind && !(defScope tx.st).isCoroutine && !(defScope tx.st).isGenerator && (defScope tx.st).names.all (fun y => decide (y.2 ≠ .free)) && M.blt.contains "isinstance" && M.blt.contains "len" && isGlB (defScope tx.st) "isinstance" && isGlB (defScope tx.st) "len" &&
    ((many, top) :: cls).all (fun C => isGlB (defScope tx.st) C.2 && okName C.2 && (M.isx.lookup C.2).isSome) && decide (cls.length ≤ 1000) &&
    tab.all (fun p => M.exs.any (fun q => decide (q.2 = p.1) && decide (M.exs.lookup q.1 = some p.1)) && sameStr p.2 (.str (toldV many (cls.map fun C => (C.1, decide (p.1 ∈ (M.isx.lookup C.2).getD []))) (decide (p.1 ∈ (M.isx.lookup top).getD []))))) && (match tx.N, tx.ps, defBody tx.st with
    | [y0, y1, y2, z1, z2], [y0'], [.Assign [.Name a1 _] (.List es _) _, .Assign [.Name a2 p2] (.ListComp (.Name w1 _) [⟨.Tuple [.Name w2 _, .Name w3 _] _ _, .Name a3 _, [.Name w4 _], 0⟩] sc p2') _,
        .If (.BoolOp .Or [.Compare (.Call (.Name f _) [.Name a4 _] [] _) [.NotEq] [.Constant (.int 1) _ _] _, .UnaryOp .Not e _] _) [.Return (some (.Constant (.str m) _ _)) _] [] _,
        .Return (some (.Subscript (.Name a5 _) (.Constant (.int 0) _ _) _)) _] =>
      decide (y0' = y0) && decide (a1 = y1) && decide (a2 = y2) && decide (a3 = y1) && decide (a4 = y2) && decide (a5 = y2) && decide (w1 = z1) && decide (w2 = z1) && decide (w3 = z2) && decide (w4 = z2) && decide (f = ("len" : Str)) && decide (m = many) &&
        decide (isPairs y0 es = some cls) && decide (isCall1 y0 e = some top) && isLocB (defScope tx.st) y0 && isLocB (defScope tx.st) y1 && isLocB (defScope tx.st) y2 && okName y0 && okName y1 && okName y2 && okName z1 && okName z2 && decide ([y0, y1, y2, z1, z2].Nodup) && blkC [y0, y1, y2, z1, z2] (defScope tx.st) sc [(z1, 3), (z2, 4)] &&
        isLocB sc z1 && isLocB sc z2 && swB y2 p2 p2' sc
    | _, _, _ => false)
section
variable {P : Program} {w : World} {K : PySem.W.Frag} {mg : Str → Option Value} {base : Heap} {cs : List (Addr × Addr)} {M : Mo} {txs : List Tx} {ec : Nat → Value} {tx : Tx} {f : Addr} {cls : List (Str × Str)} {many top : Str} {tab : List (Nat × PyData)}
theorem take_pairs {l : List (Str × Bool)} {i : Nat} {n : Str} {b : Bool} (h : l[i]? = some (n, b)) : (l.take (i + 1)).filter (·.2) = (l.take i).filter (·.2) ++ (if b then [(n, b)] else []) := by
  rw [List.take_add_one, h, List.filter_append]
  cases b <;> rfl
theorem told_hot (En : HotEnv K mg cs M txs ec) (Fc : FunC K cs tx f) (h : toldB M tx cls many top tab = true) : HotFn P w K mg base 3 f ec tab := by
  unfold toldB at h
  simp only [Bool.and_eq_true, Bool.not_eq_true', List.all_eq_true, decide_eq_true_eq] at h
  obtain ⟨⟨⟨⟨⟨⟨⟨⟨⟨⟨⟨c1, c2⟩, c3⟩, c4⟩, c5⟩, c6⟩, c7⟩, c8⟩, c9⟩, c10⟩, c12⟩, c13⟩ := h
  split at c13
  · rename_i y0 y1 y2 z1 z2 y0' a1 pa1 es pes pas a2 p2 w1 pw1 w2 pw2 w3 pw3 kt ptg a3 pa3 w4 pw4 sc p2' sp2 fl pfl a4 pa4 pcl j1 pj1 pcmp e pnot por m jm pm pret pif a5 pa5 j0 pj0 psub pret2 hN hps hbd
    simp only [Bool.and_eq_true, decide_eq_true_eq] at c13
    obtain ⟨⟨⟨⟨⟨⟨⟨⟨⟨⟨⟨⟨⟨⟨⟨⟨⟨⟨⟨⟨⟨⟨⟨⟨⟨⟨rfl, rfl⟩, rfl⟩, rfl⟩, rfl⟩, rfl⟩, rfl⟩, rfl⟩, rfl⟩, rfl⟩, rfl⟩, rfl⟩, d12⟩, d13⟩, d14⟩, d15⟩, d15'⟩, d16⟩, d17⟩, d17'⟩, d18⟩, d18'⟩, d19⟩, d20⟩, d21⟩, d22⟩, d23⟩ := c13
    have hk : (defScope tx.st).kind = .function := by
      cases q : (defScope tx.st).kind <;> rw [q] at c1 <;> first | rfl | cases c1
    have S : FnScope [y0', a3, a5, w2, w4] [y0'] (defScope tx.st) := ⟨hk, c2, c3, d19, rfl, fun x hx => by
      obtain rfl : x = y0' := by simpa using hx
      exact .inl (isLocB_of d14), c4⟩
    obtain ⟨oc, od, kV, doc, pm', an, cdv, ct, osl, lk, hcd, _⟩ := Fc.ex
    have hb : ∀ (s : Shared) (u : Value), BindsTo s (PySem.W.fnOf tx.x tx.qual (defArgs tx.st) (defBody tx.st) (defScope tx.st) .none kV doc pm' an cdv ct) ⟨[u], []⟩ [(y0', u)] := fun s u => by
      have := Fc.bnd kV doc pm' an cdv ct [u] (by rw [hps]; rfl)
      rw [hps] at this
      exact .of_eq this
    refine hotFn_of (k := 2) (N := [y0', a3, a5, w2, w4]) (x := y0') lk hcd S hb fun k v hkv A outer s H a oe Q hot hr hz hq => ?_
    obtain ⟨t1, t2⟩ := c12 (k, v) hkv
    obtain ⟨⟨xk, _⟩, _, t3⟩ := List.any_eq_true.mp t1
    rw [Bool.and_eq_true, decide_eq_true_eq, decide_eq_true_eq] at t3
    obtain ⟨D, e1, e2, e3, e4, e5, e6, ex⟩ := (En.exs xk k t3.2).at_
    have hv : v = .str (toldV m (cls.map fun C => (C.1, decide (k ∈ (M.isx.lookup C.2).getD []))) (decide (k ∈ (M.isx.lookup top).getD []))) := sameStr_eq t2
    subst hv
    rw [hbd]
    generalize hX : cxE P w K mg base [y0', a3, a5, w2, w4] tx.qual (defScope tx.st) f cdv A outer s H (a, oe) = X
    have xN : X.N = [y0', a3, a5, w2, w4] := by rw [← hX]; rfl
    have xS : X.env.scope = defScope tx.st := by rw [← hX]; rfl
    have xK : X.K = K := by rw [← hX]; rfl
    have xM : X.mg = mg := by rw [← hX]; rfl
    have hp : HotP X (a, oe) := by rw [← hX]; exact ⟨hot, List.mem_cons_self⟩
    have gl : ∀ x, isGlB (defScope tx.st) x = true → Gl X x := fun x hx => by
      show X.env.scope.names.lookup x = _
      rw [xS]
      exact isGlB_of hx
    have nd : X.N.Nodup := by rw [xN]; exact d19
    have i0 : X.N[0]? = some y0' := by rw [xN]; rfl
    have i1 : X.N[1]? = some a3 := by rw [xN]; rfl
    have i2 : X.N[2]? = some a5 := by rw [xN]; rfl
    have i3 : X.N[3]? = some w2 := by rw [xN]; rfl
    have i4 : X.N[4]? = some w4 := by rw [xN]; rfl
    have v0 : X.env.scope.names.lookup y0' = some .local := by rw [xS]; exact isLocB_of d14
    have v1 : X.env.scope.names.lookup a3 = some .local := by rw [xS]; exact isLocB_of d15
    have v2 : X.env.scope.names.lookup a5 = some .local := by rw [xS]; exact isLocB_of d15'
    have hz' : Zc (.ref D) none oe := by rw [← e6]; exact hz.zc
    have hcl : ∀ C, (isGlB (defScope tx.st) C = true ∧ okName C = true) ∧ (M.isx.lookup C).isSome = true → Gl X C ∧ okName C = true ∧ ∃ Cc, X.mg C = some (.ref Cc) ∧ PySem.W.kitOne X.K (.ref D) (.ref Cc) = some (decide (k ∈ (M.isx.lookup C).getD [])) := fun C ⟨⟨q1, q2⟩, q3⟩ => by
      obtain ⟨ks, hks⟩ := Option.isSome_iff_exists.mp q3
      obtain ⟨Cc, m1, m2⟩ := (En.isx C ks hks).at_
      refine ⟨gl C q1, q2, Cc, by rw [xM]; exact m1, ?_⟩
      have := (m2 xk k t3.2).2
      rw [e6] at this
      rw [xK, this, hks]
      rfl
    have exX : ExcC X.K D := by rw [xK]; exact ex
    have fI : X.mg "isinstance" = none := by rw [xM]; exact En.blt _ (List.contains_iff_mem.mp c5)
    have fL : X.mg "len" = none := by rw [xM]; exact En.blt _ (List.contains_iff_mem.mp c6)
    have okB : BlkOk X.N X.env.scope sc [(w2, 3), (w4, 4)] := by rw [xN, xS]; exact blkOk_by d20
    have zl : ∀ (z : Str), isLocB sc z = true → ∀ (s : Shared) (H : Hp) (C : Addr) (cl : List (Str × Addr)) (fp : List Addr), (X.blk s H sc (compEnvC sc cl C X.env) fp).env.scope.names.lookup z = some .local := fun z hz s H C cl fp => by
      rcases relS_look (sc := X.env.scope) (isLocB_of hz) with q | ⟨q, _⟩
      · exact q
      · cases q
    have hsw : ∀ (el : Expr) (gs : List Comprehension), swapsWith (.ListComp el gs sc p2') (some (.Name a5 p2)) sp2.line X.env = pure true := fun el gs => by
      have hkx : X.env.scope.kind = .function := by rw [xS]; exact hk
      have hbk : X.env.blockKind = .function := by
        show (if X.env.scope.kind.isAnnotationScope then ScopeKind.function else X.env.scope.kind) = .function
        rw [hkx]; rfl
      have e : (X.env.blockKind == .function && X.env.kindOf a5 == some .local && p2.line == p2'.line && !(sc.names.any fun y => y.1 == a5 && (y.2 == .local || y.2 == .cell))) = true := by
        rw [hbk, show X.env.kindOf a5 = some .local from v2, Bool.and_assoc]
        unfold swB at d23
        rw [d23]
        rfl
      show (pure (X.env.blockKind == .function && X.env.kindOf a5 == some .local && p2.line == p2'.line && !(sc.names.any fun y => y.1 == a5 && (y.2 == .local || y.2 == .cell))) : Sem Bool) = pure true
      rw [e]
    obtain ⟨pe1, pe2, pe3, pe4, rfl⟩ := isCall1_of d13
    have hall := fun C hC => hcl C.2 (c9 C hC)
    obtain ⟨g1, g2, Ct, g3, g4⟩ := hall (m, top) List.mem_cons_self
    have p1 := ps_set (X := X) (x := a3) (pos := pas) (pos' := pa1) nd i1 (.inl v1) (pe_lst (pos := pes) (pa_pairs hp exX hz' i0 (.inl v0) d16 (gl _ c7) fI (fun C => decide (k ∈ (M.isx.lookup C).getD [])) es cls d12 fun C hC => hall C (List.mem_cons_of_mem _ hC))) (swaps_of rfl) (.inr v1)
    have pc := ps_setLcH (g := gTup X.K 2 (gCons (gName 3) (gCons (gName 4) gNil))) (i := 2) (y := a5) (py := p2) (spos := sp2) (pos := p2') (own := [(w2, 3), (w4, 4)]) hp nd i2 v2 (hsw _ _) (pe_var (pos := pa3) i1 (.inl v1) (okName_of d17).1 (okName_of d17).2.1) okB
      (fun s H C cl fp => pgp_tup (X := X.blk s H sc (compEnvC sc cl C X.env) fp) (k := kt) (pos := ptg) (n := 2) hp.1 (pgs_cons (pg_name (pos := pw2) (i := 3) nd i3 (.inl (zl _ d21 s H C cl fp)) (.inr (zl _ d21 s H C cl fp))) (pgs_cons (pg_name (pos := pw3) (i := 4) nd i4 (.inl (zl _ d22 s H C cl fp)) (.inr (zl _ d22 s H C cl fp))) pgs_nil)) rfl rfl)
      (fun s H C cl fp => pts_one (pt_val (pe_var (X := X.blk s H sc (compEnvC sc cl C X.env) fp) (pos := pw4) i4 (.inl (zl _ d22 s H C cl fp)) (okName_of d18').1 (okName_of d18').2.1))) (fun s H C cl fp => pe_var (X := X.blk s H sc (compEnvC sc cl C X.env) fp) (pos := pw1) i3 (.inl (zl _ d21 s H C cl fp)) (okName_of d18).1 (okName_of d18).2.1) (fun _ => rfl)
    have pw := pw_or (pos := por) (pt_cmpR (pos := pcmp) op_ne (pe_callB (p := pfl) (pos := pcl) call_len_seq (gl _ c8) fL boot_len (pa_cons (pe_var (X := X) (pos := pa4) i2 (.inl v2) (okName_of d17').1 (okName_of d17').2.1) pa_nil)) (pe_int (i := 1) (j := j1) (pos := pj1)) rfl)
      (pw_or1 (pt_not (pos := pnot) (pt_val (pe_isE (q := pe1) (p1 := pe2) (p2 := pe3) (pos := pe4) hp exX hz' i0 (.inl v0) d16 (gl _ c7) fI g1 g2 g3 g4))))
    have p3 := ps_if (pos := pif) (⟨fun pins s σ H Q I q => pw.run _ pins s σ H Q I q⟩ : PT X _ _) (pss_one (ps_ret (pos := pret) (pe_str (X := X) (x := m) (j := jm) (pos := pm)))) pss_nil
    have p4 := ps_ret (pos := pret2) (pe_ix (pos := psub) ix_seq (pe_var (X := X) (pos := pa5) i2 (.inl v2) (okName_of d17').1 (okName_of d17').2.1) (pe_int (i := 0) (j := j0) (pos := pj0)) (fun _ _ => rfl))
    refine ⟨_, pss_cons p1 (pss_cons pc (pss_cons p3 (pss_one p4))), ?_⟩
    clear p1 pc p3 p4 pw hX
    rw [xK]
    generalize hbs : cls.map (fun C => (C.1, decide (k ∈ (M.isx.lookup C.2).getD []))) = nbs at *
    generalize hsaw : decide (k ∈ (M.isx.lookup top).getD []) = saw at *
    have lb : nbs.length = cls.length := by rw [← hbs, List.length_map]
    have hsz : ∀ n : Nat, n ≤ 1000 → n ≤ sizeLine := fun n h => by rw [sizeLine_eq]; omega
    refine ⟨rfl, fun vs H1 s1 pr => ?_⟩
    have pl := pr.len
    refine ⟨hsz _ (by omega), fun p0 hp0 => ?_⟩
    generalize hH2 : upd H1 p0 (.lst vs) = H2
    have s2 : Same H1 H2 := by rw [← hH2]; exact fun b o e => upd_at e hp0
    have k1 : H2 p0 = some (.lst vs) := by rw [← hH2]; exact upd_same
    have pr2 := pr.same s2
    refine ⟨V.ref p0, rfl, p0, vs, rfl, SqL.of k1, fun Dn hDn => ?_⟩
    refine ⟨fun i Hz => Same H2 Hz ∧ Hz Dn = some (.lst (((nbs.take i).filter (·.2)).map fun x => V.str x.1)), ⟨fun b o e => upd_at e hDn, upd_same⟩, fun i Hz ⟨w1, w2⟩ => ?_⟩
    have kz : Hz p0 = some (.lst vs) := w1 _ _ k1
    refine ⟨SqL.of kz, fun hi => ?_, fun x hx => ?_⟩
    · rw [hi, pl, List.take_length] at w2
      refine ⟨V.ref Dn, rfl, Dn, _, rfl, .inl (SqL.of w2), rfl, ?_⟩
      rw [List.length_map]
      have dd : (!decide (V.int ((nbs.filter (·.2)).length : Int) = V.int 1)) = !decide ((nbs.filter (·.2)).length = 1) := by
        congr 1
        by_cases e : (nbs.filter (·.2)).length = 1
        · rw [e]; rfl
        · have : ¬ ((nbs.filter (·.2)).length : Int) = 1 := fun z => e (by omega)
          rw [decide_eq_false e]
          exact decide_eq_false fun z => this (V.int.inj z)
      refine ⟨_, rfl, ?_⟩
      rw [dd]
      have all : ∀ b o, H b = some o → Hz b = some o := fun b o q => w1 _ _ (s2 _ _ (s1 b o q))
      by_cases e : (nbs.filter (·.2)).length = 1
      · rw [decide_eq_true e]
        refine (if_neg (by decide)).mpr ?_
        obtain ⟨x, hx⟩ := List.length_eq_one_iff.mp e
        rw [hx] at w2
        refine ⟨rfl, saw, rfl, ?_⟩
        cases hs : saw with
        | true =>
          refine (if_neg (by decide)).mpr ⟨V.ref Dn, rfl, .inl ⟨Dn, [V.str x.1], 0, V.str x.1, rfl, rfl, SqL.of w2, rfl, ?_⟩⟩
          have ew : toldV m nbs saw = x.1 := by unfold toldV; rw [hx, hs]; rfl
          rw [ew] at hq
          exact hq _ _ all fun A => .str _
        | false =>
          refine (if_pos rfl).mpr ?_
          have ew : toldV m nbs saw = m := by unfold toldV; rw [hx, hs]; rfl
          rw [ew] at hq
          exact hq _ _ all fun A => .str _
      · rw [decide_eq_false e]
        refine (if_pos rfl).mpr ((if_pos rfl).mpr ?_)
        have ew : toldV m nbs saw = m := by
          unfold toldV
          cases q : nbs.filter (·.2) with
          | nil => rfl
          | cons x r =>
            cases r with
            | nil => rw [q] at e; exact absurd rfl e
            | cons _ _ => rfl
        rw [ew] at hq
        exact hq _ _ all fun A => .str _
    · obtain ⟨p, n, b, rfl, hnb, hpt⟩ := PairsAt.at_ pr2 hx
      have ft := take_pairs hnb
      refine ⟨p, [V.str n, V.bl b], rfl, SqT.of (w1 _ _ hpt), rfl, V.str n, [V.bl b], rfl, V.bl b, [], rfl, rfl, rfl, V.bl b, rfl, b, rfl, ?_⟩
      cases b with
      | true =>
        refine (if_pos rfl).mpr ⟨V.str n, rfl, _, w2, ?_, fun b o q => ?_, ?_⟩
        · rw [List.length_map]
          have := List.length_filter_le (·.2) (nbs.take i)
          have := List.length_take_le' i nbs
          rw [sizeLine_eq]
          omega
        · have : b ≠ Dn := fun z => by rw [z, hDn] at q; cases q
          rw [upd_ne this]
          exact w1 _ _ q
        · rw [upd_same, ft, List.map_append]
          rfl
      | false =>
        refine (if_neg (by decide)).mpr ⟨w1, ?_⟩
        rw [ft]
        simpa using w2
  · cases c13
end
end DL
/-! DLM: the core's words on ints, for the plain laws. -/
namespace DL
open PySem
theorem shal_int {a b : Int} : shal (.int a) (.int b) = true := by
  simp [shal, PyData.depth]
theorem alike_int {a b : Int} : PySem.W.alike (.int a) (.int b) = true := rfl
theorem lt_int (a b : Int) : cmpD .lt (.int a) (.int b) = some (decide (a < b)) := by
  show (if PySem.W.alike (.int a) (.int b) && !isNoneD (.int a) && shal (.int a) (.int b) then some (PySem.W.dataLt (.int a) (.int b)) else none) = _
  rw [alike_int, shal_int, PySem.W.dataLt_int]
  rfl
theorem gt_int (a b : Int) : cmpD .gt (.int a) (.int b) = some (decide (b < a)) := by
  show (if PySem.W.alike (.int a) (.int b) && !isNoneD (.int a) && shal (.int a) (.int b) then some (PySem.W.dataLt (.int b) (.int a)) else none) = _
  rw [alike_int, shal_int, PySem.W.dataLt_int]
  rfl
theorem not_lt (a b : Int) : (!decide (b < a)) = decide (a ≤ b) := by
  by_cases h : b < a
  · have : ¬ a ≤ b := by omega
    simp [h, this]
  · have : a ≤ b := by omega
    simp [h, this]
theorem le_int (a b : Int) : cmpD .le (.int a) (.int b) = some (decide (a ≤ b)) := by
  show (if PySem.W.alike (.int a) (.int b) && !isNoneD (.int a) && shal (.int a) (.int b) then some (!PySem.W.dataLt (.int b) (.int a)) else none) = _
  rw [alike_int, shal_int, PySem.W.dataLt_int, not_lt]
  rfl
theorem ge_int (a b : Int) : cmpD .ge (.int a) (.int b) = some (decide (b ≤ a)) := by
  show (cmpD .lt (.int a) (.int b)).map (!·) = _
  rw [lt_int]
  show some (!decide (a < b)) = _
  rw [not_lt]
theorem eq_int (a b : Int) : cmpD .eq (.int a) (.int b) = some (decide (a = b)) := by
  show (if shal (.int a) (.int b) then some (PyData.eqv (.int a) (.int b)) else none) = _
  rw [shal_int]
  have e : PyData.eqv (.int a) (.int b) = decide (a = b) := by
    by_cases h : a = b
    · subst h; simp [PyData.eqv]
    · simp [PyData.eqv, h]
  rw [e]
  rfl
theorem ne_int (a b : Int) : cmpD .ne (.int a) (.int b) = some (!decide (a = b)) := by
  show (cmpD .eq (.int a) (.int b)).map (!·) = _
  rw [eq_int]
  rfl
/-! ### loops -/
/-- a for whose body neither returns nor stops: I i holds before the i-th item -/
theorem for_inv {bnd : PyData → Ev → Option Ev} {body : Ev → T → Out} (I : Nat → Ev → T → Prop) : ∀ (xs : List PyData) (n : Nat) (e : Ev) (t : T), I n e t →
    (∀ (i : Nat) (x : PyData) (e : Ev) (t : T), xs[i]? = some x → I (n + i) e t → ∃ e1, bnd x e = some e1 ∧ ∃ e2 t2, (body e1 t = .nx e2 t2 ∨ body e1 t = .cnt e2 t2) ∧ I (n + i + 1) e2 t2) →
    ∃ e' t', forRun bnd body xs e t = .nx e' t' ∧ I (n + xs.length) e' t'
  | [], n, e, t, h, _ => ⟨e, t, rfl, h⟩
  | x :: xs, n, e, t, h, step => by
    obtain ⟨e1, hb, e2, t2, hn, h2⟩ := step 0 x e t rfl h
    obtain ⟨e', t', hr, h3⟩ := for_inv I xs (n + 1) e2 t2 h2 fun i y e t hy hi => by
      have e0 : n + 1 + i = n + (i + 1) := by omega
      rw [e0] at hi ⊢
      exact step (i + 1) y e t hy hi
    refine ⟨e', t', ?_, ?_⟩
    · show (match bnd x e with
        | none => Out.bad
        | some e1 => match body e1 t with
          | .nx e2 t2 => forRun bnd body xs e2 t2
          | .cnt e2 t2 => forRun bnd body xs e2 t2
          | .brk e2 t2 => .nx e2 t2
          | o => o) = _
      rw [hb]
      rcases hn with hn | hn
      · show (match body e1 t with
          | .nx e2 t2 => forRun bnd body xs e2 t2
          | .cnt e2 t2 => forRun bnd body xs e2 t2
          | .brk e2 t2 => .nx e2 t2
          | o => o) = _
        rw [hn]; exact hr
      · show (match body e1 t with
          | .nx e2 t2 => forRun bnd body xs e2 t2
          | .cnt e2 t2 => forRun bnd body xs e2 t2
          | .brk e2 t2 => .nx e2 t2
          | o => o) = _
        rw [hn]; exact hr
    · have e0 : n + (x :: xs).length = n + 1 + xs.length := by rw [List.length_cons]; omega
      rw [e0]; exact h3
/-! ### sums, products, quotients -/
theorem add_i (a b : Int) : binD .add (.int a) (.int b) = some (.int (a + b)) := rfl
theorem sub_i (a b : Int) : binD .sub (.int a) (.int b) = some (.int (a - b)) := rfl
theorem mul_l {a b : Int} (h : -18446744073709551616 < a ∧ a < 18446744073709551616) : binD .mul (.int a) (.int b) = some (.int (a * b)) := by
  show (if mulOk a b then some (a * b) else none).map PyData.int = _
  rw [if_pos (by unfold mulOk; rw [decide_eq_true h]; rfl)]
  rfl
theorem mul_r {a b : Int} (h : -18446744073709551616 < b ∧ b < 18446744073709551616) : binD .mul (.int a) (.int b) = some (.int (a * b)) := by
  show (if mulOk a b then some (a * b) else none).map PyData.int = _
  rw [if_pos (by unfold mulOk; rw [decide_eq_true h, Bool.or_true]; rfl)]
  rfl
theorem mod_i {a b : Int} (h : 0 < b) : binD .mod (.int a) (.int b) = some (.int (a % b)) := by
  show (if decide (0 < b) then some (a % b) else none).map PyData.int = _
  rw [if_pos (decide_eq_true h)]
  rfl
theorem div_i {a b : Int} (h : 0 < b) (h2 : b < 1073741824) : binD .fdiv (.int a) (.int b) = some (.int (a / b)) := by
  show (if divOk b then some (a / b) else none).map PyData.int = _
  rw [if_pos (by unfold divOk; rw [decide_eq_true h, decide_eq_true h2]; rfl)]
  rfl
end DL
/-! DLN: lists of data for the plain laws: ranges, comprehensions, sorting, doubles. -/
namespace DL
open PySem
/-! ### ranges -/
def irg (lo hi : Int) : List Int := (List.range (hi - lo).toNat).map fun (k : Nat) => lo + (k : Int)
theorem rng_irg (lo hi : Int) : rngD lo hi = (irg lo hi).map PyData.int := by
  unfold rngD irg
  rw [List.map_map]
  rfl
theorem mem_irg {lo hi x : Int} : x ∈ irg lo hi ↔ lo ≤ x ∧ x < hi := by
  unfold irg
  rw [List.mem_map]
  constructor
  · rintro ⟨k, hk, rfl⟩
    have := List.mem_range.mp hk
    omega
  · rintro ⟨a, b⟩
    exact ⟨(x - lo).toNat, List.mem_range.mpr (by omega), by omega⟩
theorem len_irg (lo hi : Int) : (irg lo hi).length = (hi - lo).toNat := by
  unfold irg; rw [List.length_map, List.length_range]
theorem irg_lt (lo hi : Int) : (irg lo hi).Pairwise (· < ·) := by
  unfold irg
  rw [List.pairwise_map]
  exact List.pairwise_lt_range.imp fun h => by omega
theorem rngOk_of {lo hi : Int} (a : -4611686018427387904 ≤ lo) (b : lo < 4611686018427387904) (c : -4611686018427387904 ≤ hi) (d : hi < 4611686018427387904) : rngOk lo hi = true := by
  unfold rngOk
  simp [a, b, c, d]
/-! ### comprehensions -/
theorem comp_pure {α : Type} (enc : α → PyData) {bnd : PyData → Ev → Option Ev} {cond : Ev → T → R Bool} {elt : Ev → T → R W} {e0 : Ev} (p : α → Bool) (f : α → PyData) (t : T) : ∀ ys : List α,
    (∀ y ∈ ys, ∃ e, bnd (enc y) e0 = some e ∧ cond e t = .ok (p y) t ∧ (p y = true → elt e t = .ok (.d (f y)) t)) → compRun bnd cond elt e0 (ys.map enc) t = .ok ((ys.filter p).map f) t
  | [], _ => rfl
  | y :: ys, h => by
    obtain ⟨e, h1, h2, h3⟩ := h y List.mem_cons_self
    have ih := comp_pure enc p f t ys fun z hz => h z (List.mem_cons_of_mem _ hz)
    show (match bnd (enc y) e0 with
      | none => R.bad
      | some e => (cond e t).bind fun b t1 => if b then (elt e t1).bind fun w t2 => match w with
          | .d y => (compRun bnd cond elt e0 (ys.map enc) t2).bind fun ys t3 => .ok (y :: ys) t3
          | _ => .bad
        else compRun bnd cond elt e0 (ys.map enc) t1) = _
    rw [h1]
    show (cond e t).bind _ = _
    rw [h2]
    show (if p y = true then _ else _) = _
    cases hp : p y with
    | true =>
      rw [List.filter_cons_of_pos hp]
      show (elt e t).bind _ = _
      rw [h3 hp]
      show (compRun bnd cond elt e0 (ys.map enc) t).bind _ = _
      rw [ih]
      rfl
    | false =>
      rw [List.filter_cons_of_neg (by rw [hp]; decide)]
      exact ih
theorem all_pure {α : Type} (enc : α → PyData) {bnd : PyData → Ev → Option Ev} {cond : Ev → T → R Bool} {elt : Ev → T → R W} {e0 : Ev} (f : α → Bool) (t : T) : ∀ ys : List α,
    (∀ y ∈ ys, ∃ e, bnd (enc y) e0 = some e ∧ cond e t = .ok true t ∧ elt e t = .ok (.d (.bool (f y))) t) → quantRun false bnd cond elt e0 (ys.map enc) t = .ok (ys.all f) t
  | [], _ => rfl
  | y :: ys, h => by
    obtain ⟨e, h1, h2, h3⟩ := h y List.mem_cons_self
    have ih := all_pure enc f t ys fun z hz => h z (List.mem_cons_of_mem _ hz)
    show (match bnd (enc y) e0 with
      | none => R.bad
      | some e => (cond e t).bind fun b t1 => if b then (elt e t1).bind fun w t2 => match w with
          | .d (.bool c) => if c = false then .ok false t2 else quantRun false bnd cond elt e0 (ys.map enc) t2
          | _ => .bad
        else quantRun false bnd cond elt e0 (ys.map enc) t1) = _
    rw [h1]
    show (cond e t).bind _ = _
    rw [h2]
    show (elt e t).bind _ = _
    rw [h3]
    show (if f y = false then _ else _) = _
    rw [List.all_cons]
    cases hf : f y with
    | true => exact ih
    | false => rfl
/-! ### sorting -/
abbrev kLe {α : Type} (k : α → PyData) : α → α → Bool := PySem.W.dataLe false k
theorem kLe_trans {α : Type} (k : α → PyData) (a b c : α) (h1 : kLe k a b = true) (h2 : kLe k b c = true) : kLe k a c = true := (PySem.W.sortLe_total (PyProof.Rows.listOrd PyProof.Rows.itemOrd) false fun b => PySem.W.keyToks (k b)).trans a b c h1 h2
theorem kLe_total {α : Type} (k : α → PyData) (a b : α) : (kLe k a b || kLe k b a) = true := by
  rcases (PySem.W.sortLe_total (PyProof.Rows.listOrd PyProof.Rows.itemOrd) false fun b => PySem.W.keyToks (k b)).total a b with h | h
  · show (PySem.W.sortLe _ _ _ a b || PySem.W.sortLe _ _ _ b a) = true
    rw [h]; rfl
  · show (PySem.W.sortLe _ _ _ a b || PySem.W.sortLe _ _ _ b a) = true
    rw [h, Bool.or_true]
theorem kLe_anti {α : Type} (k : α → PyData) {a b : α} (h1 : kLe k a b = true) (h2 : kLe k b a = true) : PySem.W.keyToks (k a) = PySem.W.keyToks (k b) := by
  have e1 : (!PyProof.Rows.lexLt PyProof.Rows.itemOrd (PySem.W.keyToks (k b)) (PySem.W.keyToks (k a))) = true := h1
  have e2 : (!PyProof.Rows.lexLt PyProof.Rows.itemOrd (PySem.W.keyToks (k a)) (PySem.W.keyToks (k b))) = true := h2
  rw [Bool.not_eq_true'] at e1 e2
  exact PyProof.Rows.lex_total _ _ e2 e1
theorem ksort_sorted {α : Type} (k : α → PyData) (l : List α) : (l.mergeSort (kLe k)).Pairwise (fun a b => kLe k a b = true) := List.pairwise_mergeSort (kLe_trans k) (kLe_total k) l
/-- one order of different keys -/
theorem ksort_uniq {α : Type} (k : α → PyData) {l m : List α} (inj : ∀ a ∈ l, ∀ b ∈ l, PySem.W.keyToks (k a) = PySem.W.keyToks (k b) → a = b) (hl : l.Pairwise (fun a b => kLe k a b = true)) (hm : m.Pairwise (fun a b => kLe k a b = true)) (p : l.Perm m) : l = m :=
  List.Perm.eq_of_pairwise (le := fun a b => kLe k a b = true) (fun a b ha hb x y => inj a ha b (p.symm.subset hb) (kLe_anti k x y)) hl hm p
theorem ksort_perm {α : Type} (k : α → PyData) {l m : List α} (inj : ∀ a ∈ l, ∀ b ∈ l, PySem.W.keyToks (k a) = PySem.W.keyToks (k b) → a = b) (p : l.Perm m) : l.mergeSort (kLe k) = m.mergeSort (kLe k) :=
  ksort_uniq k (fun a ha b hb => inj a (List.mem_mergeSort.mp ha) b (List.mem_mergeSort.mp hb)) (ksort_sorted k l) (ksort_sorted k m) ((List.mergeSort_perm l _).trans (p.trans (List.mergeSort_perm m _).symm))
theorem ksort_filter {α : Type} (k : α → PyData) {l : List α} (q : α → Bool) (inj : ∀ a ∈ l, ∀ b ∈ l, PySem.W.keyToks (k a) = PySem.W.keyToks (k b) → a = b) : (l.mergeSort (kLe k)).filter q = (l.filter q).mergeSort (kLe k) :=
  ksort_uniq k (fun a ha b hb => inj a (List.mem_mergeSort.mp (List.mem_filter.mp ha).1) b (List.mem_mergeSort.mp (List.mem_filter.mp hb).1)) ((ksort_sorted k l).sublist List.filter_sublist) (ksort_sorted k _)
    (((List.mergeSort_perm l _).filter q).trans (List.mergeSort_perm _ _).symm)
theorem sort_map {α : Type} (k : α → PyData) (l : List α) : (l.map k).mergeSort (PySem.W.dataLe false id) = (l.mergeSort (kLe k)).map k :=
  (List.map_mergeSort (f := k) fun _ _ _ _ => rfl).symm
/-! ### shapes -/
inductive Sh where
  | int | tup (ss : List Sh)
mutual
def ofSh : Sh → PyData → Bool
  | .int, .int _ => true
  | .tup ss, .tuple xs => ofShs ss xs
  | _, _ => false
def ofShs : List Sh → List PyData → Bool
  | [], [] => true
  | s :: ss, x :: xs => ofSh s x && ofShs ss xs
  | _, _ => false
end
mutual
theorem alike_sh : ∀ (s : Sh) (x y : PyData), ofSh s x = true → ofSh s y = true → PySem.W.alike x y = true
  | .int, x, y, h1, h2 => by
    cases x with
    | int a =>
      cases y with
      | int b => rfl
      | _ => exact absurd h2 (by simp [ofSh])
    | _ => exact absurd h1 (by simp [ofSh])
  | .tup ss, x, y, h1, h2 => by
    cases x with
    | tuple xs =>
      cases y with
      | tuple ys =>
        rw [ofSh] at h1 h2
        rw [PySem.W.alike]
        exact alike_shs ss xs ys h1 h2
      | _ => exact absurd h2 (by simp [ofSh])
    | _ => exact absurd h1 (by simp [ofSh])
theorem alike_shs : ∀ (ss : List Sh) (xs ys : List PyData), ofShs ss xs = true → ofShs ss ys = true → PySem.W.alikeAll xs ys = true
  | [], xs, ys, h1, h2 => by
    cases xs with
    | nil => simp [PySem.W.alikeAll]
    | cons x xs => exact absurd h1 (by simp [ofShs])
  | s :: ss, xs, ys, h1, h2 => by
    cases xs with
    | nil => simp [PySem.W.alikeAll]
    | cons x xs =>
      cases ys with
      | nil => simp [PySem.W.alikeAll]
      | cons y ys =>
        rw [ofShs, Bool.and_eq_true] at h1 h2
        rw [PySem.W.alikeAll, alike_sh s x y h1.1 h2.1, alike_shs ss xs ys h1.2 h2.2]
        rfl
end
mutual
def shDep : Sh → Nat
  | .int => 0
  | .tup ss => 1 + shDeps ss
def shDeps : List Sh → Nat
  | [] => 0
  | s :: ss => max (shDep s) (shDeps ss)
end
mutual
theorem dep_sh : ∀ (s : Sh) (x : PyData), ofSh s x = true → x.depth ≤ shDep s
  | .int, x, h => by
    cases x with
    | int a => simp [PyData.depth]
    | _ => exact absurd h (by simp [ofSh])
  | .tup ss, x, h => by
    cases x with
    | tuple xs =>
      rw [ofSh] at h
      have := dep_shs ss xs h
      rw [PyData.depth, shDep]
      omega
    | _ => exact absurd h (by simp [ofSh])
theorem dep_shs : ∀ (ss : List Sh) (xs : List PyData), ofShs ss xs = true → PyData.depthAll xs ≤ shDeps ss
  | [], xs, h => by
    cases xs with
    | nil => simp [PyData.depthAll]
    | cons x xs => exact absurd h (by simp [ofShs])
  | s :: ss, xs, h => by
    cases xs with
    | nil => simp [PyData.depthAll]
    | cons x xs =>
      rw [ofShs, Bool.and_eq_true] at h
      have a := dep_sh s x h.1
      have b := dep_shs ss xs h.2
      rw [PyData.depthAll, shDeps]
      omega
end
theorem depAll_sh (s : Sh) : ∀ xs : List PyData, (∀ x ∈ xs, ofSh s x = true) → PyData.depthAll xs ≤ shDep s
  | [], _ => by simp [PyData.depthAll]
  | x :: xs, h => by
    have a := dep_sh s x (h x List.mem_cons_self)
    have b := depAll_sh s xs fun y hy => h y (List.mem_cons_of_mem _ hy)
    rw [PyData.depthAll]
    omega
theorem not_none_sh {s : Sh} {x : PyData} (h : ofSh s x = true) : isNoneD x = false := by
  cases x with
  | none => cases s <;> exact absurd h (by simp [ofSh])
  | _ => rfl
theorem allAlike_sh {s : Sh} {xs : List PyData} (h : ∀ x ∈ xs, ofSh s x = true) : allAlike xs = true := by
  unfold allAlike
  rw [List.all_eq_true]
  intro a ha
  rw [not_none_sh (h a ha)]
  show (xs.all fun b => PySem.W.alike a b) = true
  rw [List.all_eq_true]
  exact fun b hb => alike_sh s a b (h a ha) (h b hb)
def shSort : Sh → Bool
  | .int => true
  | .tup (_ :: _) => true
  | _ => false
theorem sortable_sh {s : Sh} (hs : shSort s = true) {xs : List PyData} (h : ∀ x ∈ xs, ofSh s x = true) : sortable xs = true := by
  unfold sortable
  rw [Bool.or_eq_true]
  cases s with
  | int =>
    right
    rw [List.all_eq_true]
    intro x hx
    have := h x hx
    cases x with
    | int _ => rfl
    | _ => exact absurd this (by simp [ofSh])
  | tup ss =>
    left
    cases ss with
    | nil => exact absurd hs (by decide)
    | cons s ss =>
      rw [List.all_eq_true]
      intro x hx
      have := h x hx
      cases x with
      | tuple xs =>
        cases xs with
        | nil => exact absurd this (by simp [ofSh, ofShs])
        | cons _ _ => rfl
      | _ => exact absurd this (by simp [ofSh])
/-- sorted(..) of data of one shape -/
theorem sortD_sh {α : Type} (s : Sh) (hs : shSort s = true) (hd : shDep s ≤ 40) (k : α → PyData) (l : List α) (h : ∀ x ∈ l, ofSh s (k x) = true) : sortD (l.map k) = some ((l.mergeSort (kLe k)).map k) := by
  have h' : ∀ x ∈ l.map k, ofSh s x = true := fun x hx => by
    obtain ⟨y, hy, rfl⟩ := List.mem_map.mp hx
    exact h y hy
  unfold sortD
  rw [allAlike_sh h', sortable_sh hs h', decide_eq_true (Nat.le_trans (depAll_sh s _ h') hd), sort_map]
  rfl
theorem minD_mem : ∀ (xs : List PyData) (x : PyData), PySem.W.minD x xs ∈ x :: xs
  | [], x => List.mem_cons_self
  | y :: ys, x => by
    show PySem.W.minD (if PySem.W.dataLt y x then y else x) ys ∈ _
    have := minD_mem ys (if PySem.W.dataLt y x then y else x)
    rcases List.mem_cons.mp this with h | h
    · rw [h]
      split
      · exact List.mem_cons_of_mem _ List.mem_cons_self
      · exact List.mem_cons_self
    · exact List.mem_cons_of_mem _ (List.mem_cons_of_mem _ h)
theorem minOf_sh (s : Sh) (hd : shDep s ≤ 40) {xs : List PyData} (hx : xs ≠ []) (h : ∀ x ∈ xs, ofSh s x = true) : ∃ y ∈ xs, minOfD xs = some y := by
  cases xs with
  | nil => exact absurd rfl hx
  | cons x xs =>
    refine ⟨PySem.W.minD x xs, minD_mem xs x, ?_⟩
    show (if allAlike (x :: xs) && decide (PyData.depthAll (x :: xs) ≤ 40) then some (PySem.W.minD x xs) else none) = _
    rw [allAlike_sh h, decide_eq_true (Nat.le_trans (depAll_sh s _ h) hd)]
    rfl
/-! ### doubles -/
def dedupI : List Int → List Int
  | [] => []
  | x :: xs => x :: (dedupI xs).filter fun y => !decide (x = y)
theorem eqv_int (a b : Int) : PyData.eqv (.int a) (.int b) = decide (a = b) := by
  by_cases h : a = b
  · subst h; simp [PyData.eqv]
  · simp [PyData.eqv, h]
theorem dedupD_ints : ∀ xs : List Int, dedupD (xs.map PyData.int) = (dedupI xs).map PyData.int
  | [] => rfl
  | x :: xs => by
    show PyData.int x :: (dedupD (xs.map PyData.int)).filter (fun y => !PyData.eqv (.int x) y) = _
    rw [dedupD_ints xs, List.filter_map]
    have e : ((fun y => !PyData.eqv (.int x) y) ∘ PyData.int) = fun y => !decide (x = y) := funext fun y => by
      show (!PyData.eqv (.int x) (.int y)) = _
      rw [eqv_int]
    rw [e]
    rfl
theorem mem_dedupI {x : Int} : ∀ xs : List Int, x ∈ dedupI xs ↔ x ∈ xs
  | [] => Iff.rfl
  | y :: ys => by
    show x ∈ y :: (dedupI ys).filter _ ↔ _
    rw [List.mem_cons, List.mem_cons, List.mem_filter, mem_dedupI ys]
    by_cases h : x = y
    · simp [h]
    · have h2 : ¬ y = x := fun e => h e.symm
      simp [h, h2]
theorem nodup_dedupI : ∀ xs : List Int, (dedupI xs).Nodup
  | [] => List.nodup_nil
  | y :: ys => by
    show (y :: (dedupI ys).filter _).Nodup
    rw [List.nodup_cons]
    refine ⟨fun h => ?_, (nodup_dedupI ys).sublist List.filter_sublist⟩
    have := (List.mem_filter.mp h).2
    simp at this
theorem ints_of : ∀ xs : List Int, intsOf (xs.map PyData.int) = some xs
  | [] => rfl
  | x :: xs => by
    show (intsOf (xs.map PyData.int)).map (x :: ·) = _
    rw [ints_of xs]
    rfl
/-- sorted ints are as their members -/
theorem isort_eq {l m : List Int} (hl : l.Nodup) (hm : m.Pairwise (· < ·)) (h : ∀ x, x ∈ l ↔ x ∈ m) : l.mergeSort (kLe PyData.int) = m := by
  have le_of : ∀ a b : Int, a < b → kLe PyData.int a b = true := fun a b h => by
    show (!PyProof.Rows.lexLt PyProof.Rows.itemOrd (PySem.W.keyToks (.int b)) (PySem.W.keyToks (.int a))) = true
    have : PySem.W.dataLt (.int b) (.int a) = decide (b < a) := PySem.W.dataLt_int b a
    show (!PySem.W.dataLt (.int b) (.int a)) = true
    rw [this, decide_eq_false (by omega)]
    rfl
  have nd : m.Nodup := hm.imp fun h => by omega
  refine ksort_uniq PyData.int (fun a _ b _ e => ?_) (ksort_sorted _ l) (hm.imp fun {a b} h => le_of a b h) ((List.mergeSort_perm l _).trans ((List.perm_ext_iff_of_nodup hl nd).mpr h))
  simp [PySem.W.keyToks] at e
  exact e
end DL
/-! DLS: the core, reckoned step by step: rules for simp. -/
namespace DL.S
open PySem DL
section
variable {α β : Type}
theorem bind_ok (a : α) (t : T) (f : α → T → R β) : (R.ok a t).bind f = f a t := rfl
theorem bind_err (k : Nat) (t : T) (f : α → T → R β) : (R.err k t).bind f = .err k t := rfl
theorem calm_ok (a : α) (t : T) : (R.ok a t).calm = .ok a t := rfl
theorem out_ok (a : α) (t : T) (f : α → T → Out) : (R.ok a t).out f = f a t := rfl
theorem out_err (k : Nat) (t : T) (f : α → T → Out) : (R.err k t : R α).out f = .err k t := rfl
theorem optR_some (a : α) (t : T) : optR (some a) t = .ok a t := rfl
theorem then_nx (e : Ev) (t : T) (f : Ev → T → Out) : (Out.nx e t).andThen f = f e t := rfl
theorem then_ret (w : W) (t : T) (f : Ev → T → Out) : (Out.ret w t).andThen f = .ret w t := rfl
theorem then_cnt (e : Ev) (t : T) (f : Ev → T → Out) : (Out.cnt e t).andThen f = .cnt e t := rfl
theorem then_brk (e : Ev) (t : T) (f : Ev → T → Out) : (Out.brk e t).andThen f = .brk e t := rfl
theorem then_err (k : Nat) (t : T) (f : Ev → T → Out) : (Out.err k t).andThen f = .err k t := rfl
theorem ans_nx (e : Ev) (t : T) : (Out.nx e t).answer = .ok (.d .none) t := rfl
theorem ans_ret (w : W) (t : T) : (Out.ret w t).answer = .ok w t := rfl
theorem ans_err (k : Nat) (t : T) : (Out.err k t).answer = .err k t := rfl
theorem dat_d (x : PyData) : (W.d x).dat = some x := rfl
theorem dat_own (xs : List PyData) : (W.own xs).dat = some (.list xs) := rfl
theorem truth_bool (b : Bool) : (W.d (.bool b)).truth = some b := rfl
theorem truth_int (i : Int) : (W.d (.int i)).truth = some (decide (i ≠ 0)) := rfl
theorem truth_list (xs : List PyData) : (W.d (.list xs)).truth = some (!xs.isEmpty) := rfl
theorem truth_tuple (xs : List PyData) : (W.d (.tuple xs)).truth = some (!xs.isEmpty) := rfl
theorem arg_d (x : PyData) : (W.d x).arg = true := rfl
theorem arg_tape : W.tape.arg = true := rfl
theorem int_d (i : Int) : asInt (.d (.int i)) = some i := rfl
theorem all_nil : allDat [] = some [] := rfl
theorem all_cons (x : PyData) (ws : List W) : allDat (.d x :: ws) = (allDat ws).map (x :: ·) := rfl
theorem all_own (xs : List PyData) (ws : List W) : allDat (.own xs :: ws) = (allDat ws).map (.list xs :: ·) := rfl
theorem allD_nil : allD [] = some [] := rfl
theorem allD_cons (x : PyData) (ws : List W) : allD (.d x :: ws) = (allD ws).map (x :: ·) := rfl
theorem blt1 (b : Blt) (x : PyData) : bltD b [x] = b1 b x := rfl
theorem blt2 (b : Blt) (x y : PyData) : bltD b [x, y] = b2 b x y := rfl
theorem len_list (xs : List PyData) : b1 .len (.list xs) = some (.int xs.length) := rfl
theorem len_tuple (xs : List PyData) : b1 .len (.tuple xs) = some (.int xs.length) := rfl
theorem int_int (i : Int) : b1 .int (.int i) = some (.int i) := rfl
theorem abs_int (i : Int) : b1 .abs (.int i) = some (.int i.natAbs) := rfl
theorem tup_of (xs : List PyData) : b1 .tuple (.list xs) = some (.tuple xs) := rfl
theorem lst_of (xs : List PyData) : b1 .list (.tuple xs) = some (.list xs) := rfl
theorem sorted_of (xs : List PyData) : b1 .sorted (.list xs) = (sortD xs).map .list := rfl
theorem min2_of (i j : Int) : b2 .min2 (.int i) (.int j) = some (.int (min i j)) := rfl
theorem max2_of (i j : Int) : b2 .max2 (.int i) (.int j) = some (.int (max i j)) := rfl
theorem at_ok (xs : List PyData) (n : Nat) (x : PyData) (h : xs[n]? = some x) : L2.atI xs (n : Int) = some x := by
  have hn : n < xs.length := by
    rcases Nat.lt_or_ge n xs.length with z | z
    · exact z
    · rw [List.getElem?_eq_none z] at h; cases h
  have e : L2.ixN xs.length (n : Int) = some n := by
    unfold L2.ixN
    simp
    omega
  unfold L2.atI
  rw [e]
  exact h
theorem ix_t0 (x : PyData) (xs : List PyData) : ixD (.tuple (x :: xs)) (.int 0) = some x := at_ok (x :: xs) 0 x rfl
theorem ix_t1 (x y : PyData) (xs : List PyData) : ixD (.tuple (x :: y :: xs)) (.int 1) = some y := at_ok (x :: y :: xs) 1 y rfl
theorem ix_t2 (x y z : PyData) (xs : List PyData) : ixD (.tuple (x :: y :: z :: xs)) (.int 2) = some z := at_ok (x :: y :: z :: xs) 2 z rfl
theorem ix_t3 (x y z u : PyData) (xs : List PyData) : ixD (.tuple (x :: y :: z :: u :: xs)) (.int 3) = some u := at_ok (x :: y :: z :: u :: xs) 3 u rfl
theorem ix_l3 (x y z u : PyData) (xs : List PyData) : ixD (.list (x :: y :: z :: u :: xs)) (.int 3) = some u := at_ok (x :: y :: z :: u :: xs) 3 u rfl
theorem zip_nil (n : Nat) : ([] : List PyData).zipIdx n = [] := rfl
theorem zip_cons (x : PyData) (xs : List PyData) (n : Nat) : (x :: xs).zipIdx n = (x, n) :: xs.zipIdx (n + 1) := rfl
theorem ix_l0 (x : PyData) (xs : List PyData) : ixD (.list (x :: xs)) (.int 0) = some x := at_ok (x :: xs) 0 x rfl
theorem ix_l1 (x y : PyData) (xs : List PyData) : ixD (.list (x :: y :: xs)) (.int 1) = some y := at_ok (x :: y :: xs) 1 y rfl
theorem ix_l2 (x y z : PyData) (xs : List PyData) : ixD (.list (x :: y :: z :: xs)) (.int 2) = some z := at_ok (x :: y :: z :: xs) 2 z rfl
theorem seq_t (xs : List PyData) : seqOf (.tuple xs) = some xs := rfl
theorem seq_l (xs : List PyData) : seqOf (.list xs) = some xs := rfl
theorem seqO_d (o : Bool) (x : PyData) : W.seqO o (.d x) = seqOf x := rfl
theorem is_bb (a b : Bool) : cmpD .is (.bool a) (.bool b) = some (a == b) := rfl
theorem min_l (xs : List PyData) : b1 .min (.list xs) = minOfD xs := rfl
theorem min_t (xs : List PyData) : b1 .min (.tuple xs) = minOfD xs := rfl
theorem max_l (xs : List PyData) : b1 .max (.list xs) = maxOfD xs := rfl
theorem max_t (xs : List PyData) : b1 .max (.tuple xs) = maxOfD xs := rfl
theorem isin_is (x y : PyData) : cmpD .isin x y = inD x y := rfl
theorem isnot_bb (a b : Bool) : cmpD .isnot (.bool a) (.bool b) = some (!(a == b)) := rfl
end
end DL.S
namespace DL
open PySem
theorem ne_nil (xs : List PyData) : cmpD .ne (.list xs) (.list []) = some (!xs.isEmpty) := by
  show (if shal (.list xs) (.list []) then some (PyData.eqv (.list xs) (.list [])) else none).map (!·) = _
  have e : shal (.list xs) (.list []) = true := by
    unfold shal
    have : (PyData.list []).depth = 1 := by simp [PyData.depth, PyData.depthAll]
    rw [this]
    exact decide_eq_true (by omega)
  rw [e]
  cases xs with
  | nil => simp [PyData.eqv, PyData.eqvAll]
  | cons x xs => simp [PyData.eqv, PyData.eqvAll]
theorem eq_nil (xs : List PyData) : cmpD .eq (.list xs) (.list []) = some xs.isEmpty := by
  have h := ne_nil xs
  have : cmpD .ne (.list xs) (.list []) = (cmpD .eq (.list xs) (.list [])).map (!·) := rfl
  rw [this] at h
  cases e : cmpD .eq (.list xs) (.list []) with
  | none => rw [e] at h; cases h
  | some b =>
    rw [e] at h
    have : (!b) = !xs.isEmpty := Option.some.inj h
    cases b <;> cases hx : xs.isEmpty <;> simp_all
theorem comp_map {α : Type} (enc : α → PyData) {bnd : PyData → Ev → Option Ev} {cond : Ev → T → R Bool} {elt : Ev → T → R W} {e0 : Ev} (f : α → PyData) (t : T) (ys : List α)
    (h : ∀ y ∈ ys, ∃ e, bnd (enc y) e0 = some e ∧ cond e t = .ok true t ∧ elt e t = .ok (.d (f y)) t) : compRun bnd cond elt e0 (ys.map enc) t = .ok (ys.map f) t := by
  have := comp_pure enc (bnd := bnd) (cond := cond) (elt := elt) (e0 := e0) (fun _ => true) f t ys fun y hy => by
    obtain ⟨e, a, b, c⟩ := h y hy
    exact ⟨e, a, b, fun _ => c⟩
  rw [List.filter_eq_self.mpr fun _ _ => rfl] at this
  exact this
theorem comp_filter {α : Type} (enc : α → PyData) {bnd : PyData → Ev → Option Ev} {cond : Ev → T → R Bool} {elt : Ev → T → R W} {e0 : Ev} (p : α → Bool) (t : T) (ys : List α)
    (h : ∀ y ∈ ys, ∃ e, bnd (enc y) e0 = some e ∧ cond e t = .ok (p y) t ∧ elt e t = .ok (.d (enc y)) t) : compRun bnd cond elt e0 (ys.map enc) t = .ok ((ys.filter p).map enc) t :=
  comp_pure enc p enc t ys fun y hy => by
    obtain ⟨e, a, b, c⟩ := h y hy
    exact ⟨e, a, b, fun _ => c⟩
theorem comp_none {α : Type} (enc : α → PyData) {bnd : PyData → Ev → Option Ev} {cond : Ev → T → R Bool} {elt : Ev → T → R W} {e0 : Ev} (t : T) (ys : List α)
    (h : ∀ y ∈ ys, ∃ e, bnd (enc y) e0 = some e ∧ cond e t = .ok false t) : compRun bnd cond elt e0 (ys.map enc) t = .ok [] t := by
  have := comp_pure enc (bnd := bnd) (cond := cond) (elt := elt) (e0 := e0) (fun _ => false) enc t ys fun y hy => by
    obtain ⟨e, a, b⟩ := h y hy
    exact ⟨e, a, b, fun z => by cases z⟩
  rw [List.filter_eq_nil_iff.mpr fun _ _ => by decide] at this
  exact this
theorem cut_take (xs : List PyData) (n : Nat) : cutD xs none (some (n : Int)) = xs.take n := by
  unfold cutD
  rw [HT.sIx_none, HT.sIx_nat, List.drop_zero, Nat.sub_zero, List.take_eq_take_iff]
  omega
theorem setD_ints (xs : List Int) (h : (dedupI xs).length < 64) : setD (xs.map PyData.int) = some (((dedupI xs).mergeSort (kLe PyData.int)).map PyData.int) := by
  unfold setD
  rw [ints_of]
  show (if decide ((dedupD (xs.map PyData.int)).length < 64) = true then sortD (dedupD (xs.map PyData.int)) else none) = _
  rw [dedupD_ints, List.length_map, decide_eq_true h]
  exact sortD_sh .int rfl (by decide) PyData.int _ fun _ _ => rfl
theorem add_l {xs ys : List PyData} (h : xs.length + ys.length ≤ 16777216) : binD .add (.list xs) (.list ys) = some (.list (xs ++ ys)) := by
  have e : lenOk (xs.length + ys.length) = true := decide_eq_true h
  show (if lenOk (xs.length + ys.length) = true then some (PyData.list (xs ++ ys)) else none) = _
  rw [e]
  rfl
theorem add_t {xs ys : List PyData} (h : xs.length + ys.length ≤ 16777216) : binD .add (.tuple xs) (.tuple ys) = some (.tuple (xs ++ ys)) := by
  have e : lenOk (xs.length + ys.length) = true := decide_eq_true h
  show (if lenOk (xs.length + ys.length) = true then some (PyData.tuple (xs ++ ys)) else none) = _
  rw [e]
  rfl
/-- the same datum -/
theorem eq_self {x : PyData} (h : PySem.W.alike x x = true) (hd : x.depth ≤ 40) : cmpD .eq x x = some true := by
  show (if shal x x then some (PyData.eqv x x) else none) = _
  have e : shal x x = true := by
    unfold shal
    exact decide_eq_true (by omega)
  rw [e, PySem.W.eqv_refl_alike x h]
  rfl
theorem ne_self {x : PyData} (h : PySem.W.alike x x = true) (hd : x.depth ≤ 40) : cmpD .ne x x = some false := by
  show (cmpD .eq x x).map (!·) = _
  rw [eq_self h hd]
  rfl
theorem alike_all_sh (s : Sh) : ∀ xs : List PyData, (∀ x ∈ xs, ofSh s x = true) → PySem.W.alikeAll xs xs = true
  | [], _ => by simp [PySem.W.alikeAll]
  | x :: xs, h => by
    rw [PySem.W.alikeAll, alike_sh s x x (h x List.mem_cons_self) (h x List.mem_cons_self), alike_all_sh s xs fun y hy => h y (List.mem_cons_of_mem _ hy)]
    rfl
theorem ne_self_l (s : Sh) (hd : shDep s ≤ 39) {xs : List PyData} (h : ∀ x ∈ xs, ofSh s x = true) : cmpD .ne (.list xs) (.list xs) = some false :=
  ne_self (by rw [PySem.W.alike]; exact alike_all_sh s xs h) (by rw [PyData.depth]; have := depAll_sh s xs h; omega)
theorem ne_self_t (s : Sh) (hd : shDep s ≤ 39) {xs : List PyData} (h : ∀ x ∈ xs, ofSh s x = true) : cmpD .ne (.tuple xs) (.tuple xs) = some false :=
  ne_self (by rw [PySem.W.alike]; exact alike_all_sh s xs h) (by rw [PyData.depth]; have := depAll_sh s xs h; omega)
/-! ### a for that lays things into lists -/
theorem len_fm {α β : Type} {g : α → List β} {K : Nat} : ∀ {ys : List α}, (∀ y ∈ ys, (g y).length ≤ K) → (ys.flatMap g).length ≤ ys.length * K
  | [], _ => Nat.zero_le _
  | y :: ys, h => by
    have a := h y List.mem_cons_self
    have b := len_fm (ys := ys) fun z hz => h z (List.mem_cons_of_mem _ hz)
    rw [List.flatMap_cons, List.length_append, List.length_cons, Nat.add_mul, Nat.one_mul]
    omega
/-- a block ends so, the tape as it was -/
def Goes (t : T) (P : Ev → Prop) (o : Out) : Prop := ∃ e2, (o = .nx e2 t ∨ o = .cnt e2 t) ∧ P e2
theorem goes_nx {t : T} {P : Ev → Prop} {e : Ev} (h : P e) : Goes t P (.nx e t) := ⟨e, .inl rfl, h⟩
theorem goes_cnt {t : T} {P : Ev → Prop} {e : Ev} (h : P e) : Goes t P (.cnt e t) := ⟨e, .inr rfl, h⟩
theorem for_acc {α β : Type} (enc : α → PyData) {bnd : PyData → Ev → Option Ev} {body : Ev → T → Out} (g : α → List β) (N : Nat) (St : List β → Ev → Prop) (t : T) : ∀ (ys : List α) (acc : List β) (e : Ev), acc.length + (ys.flatMap g).length ≤ N → St acc e →
    (∀ y ∈ ys, ∀ acc e, acc.length + (g y).length ≤ N → St acc e → ∃ e1, bnd (enc y) e = some e1 ∧ Goes t (St (acc ++ g y)) (body e1 t)) →
    ∃ e', forRun bnd body (ys.map enc) e t = .nx e' t ∧ St (acc ++ ys.flatMap g) e'
  | [], acc, e, _, h, _ => ⟨e, rfl, by rw [List.flatMap_nil, List.append_nil]; exact h⟩
  | y :: ys, acc, e, hN, h, step => by
    rw [List.flatMap_cons, List.length_append] at hN
    obtain ⟨e1, hb, e2, hn, h2⟩ := step y List.mem_cons_self acc e (by omega) h
    obtain ⟨e', hr, h3⟩ := for_acc enc g N St t ys (acc ++ g y) e2 (by rw [List.length_append]; omega) h2 fun z hz => step z (List.mem_cons_of_mem _ hz)
    refine ⟨e', ?_, by rw [List.flatMap_cons, ← List.append_assoc]; exact h3⟩
    show (match bnd (enc y) e with
      | none => Out.bad
      | some e1 => match body e1 t with
        | .nx e2 t2 => forRun bnd body (ys.map enc) e2 t2
        | .cnt e2 t2 => forRun bnd body (ys.map enc) e2 t2
        | .brk e2 t2 => .nx e2 t2
        | o => o) = _
    rw [hb]
    show (match body e1 t with
      | .nx e2 t2 => forRun bnd body (ys.map enc) e2 t2
      | .cnt e2 t2 => forRun bnd body (ys.map enc) e2 t2
      | .brk e2 t2 => .nx e2 t2
      | o => o) = _
    rcases hn with hn | hn <;> rw [hn] <;> exact hr
theorem for_acc_in {α β : Type} {P : Out → Prop} (enc : α → PyData) {bnd : PyData → Ev → Option Ev} {body : Ev → T → Out} (g : α → List β) (N : Nat) (St : List β → Ev → Prop) {t : T} {ys : List α} (acc : List β) {e : Ev} (hN : acc.length + (ys.flatMap g).length ≤ N) (h : St acc e)
    (step : ∀ y ∈ ys, ∀ acc e, acc.length + (g y).length ≤ N → St acc e → ∃ e1, bnd (enc y) e = some e1 ∧ Goes t (St (acc ++ g y)) (body e1 t))
    (fin : ∀ e', St (acc ++ ys.flatMap g) e' → P (.nx e' t)) : P (forRun bnd body (ys.map enc) e t) := by
  obtain ⟨e', h1, h2⟩ := for_acc enc g N St t ys acc e hN h step
  rw [h1]
  exact fin e' h2
/-- a for that keeps I -/
theorem for_keep {α : Type} {P : Out → Prop} (enc : α → PyData) {bnd : PyData → Ev → Option Ev} {body : Ev → T → Out} (I : Ev → Prop) {t : T} {ys : List α} {e : Ev} (h : I e)
    (step : ∀ y ∈ ys, ∀ e, I e → ∃ e1, bnd (enc y) e = some e1 ∧ Goes t I (body e1 t))
    (fin : ∀ e', I e' → P (.nx e' t)) : P (forRun bnd body (ys.map enc) e t) :=
  for_acc_in (β := Unit) enc (fun _ => []) 0 (fun _ e => I e) [] (by rw [List.flatMap_eq_nil_iff.mpr fun _ _ => rfl]; exact Nat.le_refl _) h (fun y hy _ e _ hi => step y hy e hi) fin
theorem comp_none' {bnd : PyData → Ev → Option Ev} {cond : Ev → T → R Bool} {elt : Ev → T → R W} {e0 : Ev} (t : T) (ys : List PyData)
    (h : ∀ y ∈ ys, ∃ e, bnd y e0 = some e ∧ cond e t = .ok false t) : compRun bnd cond elt e0 ys t = .ok [] t := by
  have := comp_none id t ys h (elt := elt)
  rw [List.map_id] at this
  exact this
theorem for_keep' {P : Out → Prop} {bnd : PyData → Ev → Option Ev} {body : Ev → T → Out} (I : Ev → Prop) {t : T} {ys : List PyData} {e : Ev} (h : I e)
    (step : ∀ y ∈ ys, ∀ e, I e → ∃ e1, bnd y e = some e1 ∧ Goes t I (body e1 t))
    (fin : ∀ e', I e' → P (.nx e' t)) : P (forRun bnd body ys e t) := by
  have := for_keep (P := P) id I h step fin
  rw [List.map_id] at this
  exact this
/-! ### the least -/
theorem minD_least : ∀ (xs : List PyData) (x : PyData), ∀ y ∈ x :: xs, PySem.W.dataLt y (PySem.W.minD x xs) = false
  | [], x, y, hy => by
    obtain rfl : y = x := by simpa using hy
    exact PyProof.Rows.lex_irrefl (O := PyProof.Rows.itemOrd) _
  | z :: zs, x, y, hy => by
    have ih := minD_least zs (if PySem.W.dataLt z x then z else x)
    show PySem.W.dataLt y (PySem.W.minD (if PySem.W.dataLt z x then z else x) zs) = false
    have via : ∀ u v m : PyData, PySem.W.dataLt u m = false → PySem.W.dataLt v u = false → PySem.W.dataLt v m = false := fun u v m h1 h2 => by
      cases q : PySem.W.dataLt v m with
      | false => rfl
      | true =>
        rcases PyProof.Rows.lex_negTrans (O := PyProof.Rows.itemOrd) (PySem.W.keyToks v) (PySem.W.keyToks u) (PySem.W.keyToks m) q with r | r
        · exact absurd (r.symm.trans h2) (by decide)
        · exact absurd (r.symm.trans h1) (by decide)
    have h0 := ih _ List.mem_cons_self
    cases hz : PySem.W.dataLt z x with
    | true =>
      rw [hz] at h0 ih
      have h0' : PySem.W.dataLt z (PySem.W.minD z zs) = false := h0
      rcases List.mem_cons.mp hy with rfl | hy
      · refine via z y _ h0' ?_
        cases q : PySem.W.dataLt y z with
        | false => rfl
        | true =>
          have := PyProof.Rows.lex_trans (O := PyProof.Rows.itemOrd) _ _ _ hz q
          have i : PySem.W.dataLt z z = false := PyProof.Rows.lex_irrefl (O := PyProof.Rows.itemOrd) _
          exact absurd (this.symm.trans i) (by decide)
      · rcases List.mem_cons.mp hy with rfl | hy
        · exact h0'
        · exact ih y (List.mem_cons_of_mem _ hy)
    | false =>
      rw [hz] at h0 ih
      have h0' : PySem.W.dataLt x (PySem.W.minD x zs) = false := h0
      rcases List.mem_cons.mp hy with rfl | hy
      · exact h0'
      · rcases List.mem_cons.mp hy with rfl | hy
        · exact via x y _ h0' hz
        · exact ih y (List.mem_cons_of_mem _ hy)
/-- the least of data of one shape -/
theorem minOf_is {α : Type} (k : α → PyData) (s : Sh) (hd : shDep s ≤ 40) {l : List α} (h : ∀ x ∈ l, ofSh s (k x) = true) {z : α} (hz : z ∈ l) (le : ∀ y ∈ l, PySem.W.dataLt (k y) (k z) = false)
    (inj : ∀ y ∈ l, PySem.W.keyToks (k y) = PySem.W.keyToks (k z) → k y = k z) : minOfD (l.map k) = some (k z) := by
  cases l with
  | nil => cases hz
  | cons a l =>
    have h' : ∀ x ∈ (a :: l).map k, ofSh s x = true := fun x hx => by
      obtain ⟨y, hy, rfl⟩ := List.mem_map.mp hx
      exact h y hy
    show (if allAlike (k a :: l.map k) && decide (PyData.depthAll (k a :: l.map k) ≤ 40) then some (PySem.W.minD (k a) (l.map k)) else none) = _
    have e1 : allAlike (k a :: l.map k) = true := allAlike_sh h'
    have e2 : decide (PyData.depthAll (k a :: l.map k) ≤ 40) = true := decide_eq_true (Nat.le_trans (depAll_sh s ((a :: l).map k) h') hd)
    rw [e1, e2]
    show some _ = _
    congr 1
    obtain ⟨y, hy, e⟩ := List.mem_map.mp (show PySem.W.minD (k a) (l.map k) ∈ (a :: l).map k from minD_mem _ _)
    have a1 := minD_least (l.map k) (k a) (k z) (List.mem_map.mpr ⟨z, hz, rfl⟩)
    rw [← e] at a1 ⊢
    exact inj y hy (PyProof.Rows.lex_total (O := PyProof.Rows.itemOrd) _ _ (le y hy) a1)
theorem lt_cons (a b : Int) (xs ys : List PyData) : PySem.W.dataLt (.tuple (.int a :: xs)) (.tuple (.int b :: ys)) = (decide (a < b) || (decide (a = b) && PySem.W.dataLt (.tuple xs) (.tuple ys))) := by
  show PyProof.Rows.lexLt PyProof.Rows.itemOrd (PySem.W.keyToks (.tuple (.int a :: xs))) (PySem.W.keyToks (.tuple (.int b :: ys))) = _
  rw [PySem.W.keyToks, PySem.W.keyToks, PySem.W.toks_all_cons, PySem.W.toks_all_cons, PySem.W.keyToks, PySem.W.keyToks, PyProof.Rows.lex_self (O := PyProof.Rows.itemOrd)]
  by_cases h : a = b
  · subst h
    have : ¬ a < a := by omega
    rw [decide_eq_false this, decide_eq_true rfl, List.cons_append, List.cons_append, PyProof.Rows.lex_self (O := PyProof.Rows.itemOrd), List.nil_append, List.nil_append]
    show _ = PyProof.Rows.lexLt PyProof.Rows.itemOrd (PySem.W.keyToks (.tuple xs)) (PySem.W.keyToks (.tuple ys))
    rw [PySem.W.keyToks, PySem.W.keyToks]
  · rw [decide_eq_false h, List.cons_append, List.cons_append, PyProof.Rows.lex_diff (O := PyProof.Rows.itemOrd) (by intro e; exact h (Sum.inl.inj e))]
    show decide (a < b) = _
    rw [Bool.false_and, Bool.or_false]
end DL
/-! DLT: the core, reckoned step by step, each construct by its own small functions (printed by wip/gen/steps.py). -/
namespace DL.S
open PySem DL
variable (F : Nat → List W → T → R W) (n : Nat)
def fin (o : Option PyData) (t : T) : R W := (optR o t).bind fun r t3 => .ok (.d r) t3
def finB (o : Option Bool) (t : T) : R W := (optR o t).bind fun r t3 => .ok (.d (.bool r)) t3
def finT (o : Option (List PyData)) (t : T) : R W := (optR o t).bind fun xs t2 => .ok (.d (.tuple xs)) t2
def finL (o : Option (List PyData)) (t : T) : R W := (optR o t).bind fun xs t2 => .ok (.d (.list xs)) t2
theorem fin_some (x : PyData) (t : T) : fin (some x) t = .ok (.d x) t := rfl
theorem finB_some (x : Bool) (t : T) : finB (some x) t = .ok (.d (.bool x)) t := rfl
theorem finT_some (x : List PyData) (t : T) : finT (some x) t = .ok (.d (.tuple x)) t := rfl
theorem finL_some (x : List PyData) (t : T) : finL (some x) t = .ok (.d (.list x)) t := rfl
def kvar (w : W) (t : T) : R W := match w with
  | .d x => .ok (.d x) t
  | .own xs => .ok (.own xs) t
  | .tape => .ok .tape t
  | _ => .bad
theorem kvar_d (x : PyData) (t : T) : kvar (.d x) t = .ok (.d x) t := rfl
theorem kvar_own (x : List PyData) (t : T) : kvar (.own x) t = .ok (.own x) t := rfl
theorem kvar_tape (t : T) : kvar .tape t = .ok .tape t := rfl
theorem ev_var (i : Nat) (e : Ev) (t : T) : ev F (.var i) e t = kvar (e.getD i .un) t := by rw [DL.ev]; rfl
theorem ev_lit (x : PyData) (e : Ev) (t : T) : ev F (.lit x) e t = .ok (.d x) t := by rw [DL.ev]
theorem ev_glob (x : PyData) (e : Ev) (t : T) : ev F (.glob x) e t = .ok (.d x) t := by rw [DL.ev]
def ks1 (as : List E) (e : Ev) (r : R W) : R (List W) := r.bind fun x t1 => (evs F as e t1).bind fun xs t2 => .ok (x :: xs) t2
def ks2 (x : W) (r : R (List W)) : R (List W) := r.bind fun xs t2 => .ok (x :: xs) t2
theorem evs_nil (e : Ev) (t : T) : evs F [] e t = .ok [] t := by rw [DL.evs]
theorem evs_cons (a : E) (as : List E) (e : Ev) (t : T) : evs F (a :: as) e t = ks1 F as e (ev F a e t) := by rw [DL.evs]; rfl
theorem ks1_ok (as : List E) (e : Ev) (x : W) (t : T) : ks1 F as e (.ok x t) = ks2 x (evs F as e t) := rfl
theorem ks1_err (as : List E) (e : Ev) (k : Nat) (t : T) : ks1 F as e (.err k t) = .err k t := rfl
theorem ks2_ok (x : W) (xs : List W) (t : T) : ks2 x (.ok xs t) = .ok (x :: xs) t := rfl
theorem ks2_err (x : W) (k : Nat) (t : T) : ks2 x (.err k t) = .err k t := rfl
def ktup (r : R (List W)) : R W := r.bind fun ws t1 => finT (allD ws) t1
def klst (r : R (List W)) : R W := r.bind fun ws t1 => finL (allD ws) t1
theorem ev_tup (es : List E) (e : Ev) (t : T) : ev F (.tup es) e t = ktup (evs F es e t) := by rw [DL.ev]; rfl
theorem ev_lst (es : List E) (e : Ev) (t : T) : ev F (.lst es) e t = klst (evs F es e t) := by rw [DL.ev]; rfl
theorem ktup_ok (ws : List W) (t : T) : ktup (.ok ws t) = finT (allD ws) t := rfl
theorem ktup_err (k : Nat) (t : T) : ktup (.err k t) = .err k t := rfl
theorem klst_ok (ws : List W) (t : T) : klst (.ok ws t) = finL (allD ws) t := rfl
theorem klst_err (k : Nat) (t : T) : klst (.err k t) = .err k t := rfl
def kbin2 (o : Bop) (x : W) (r : R W) : R W := r.bind fun y t2 => fin (x.dat.bind fun p => y.dat.bind fun q => binD o p q) t2
def kbin1 (o : Bop) (b : E) (e : Ev) (r : R W) : R W := r.bind fun x t1 => kbin2 o x (ev F b e t1)
theorem ev_bin (o : Bop) (a b : E) (e : Ev) (t : T) : ev F (.bin o a b) e t = kbin1 F o b e (ev F a e t) := by rw [DL.ev]; rfl
theorem kbin1_ok (o : Bop) (b : E) (e : Ev) (x : W) (t : T) : kbin1 F o b e (.ok x t) = kbin2 o x (ev F b e t) := rfl
theorem kbin1_err (o : Bop) (b : E) (e : Ev) (k : Nat) (t : T) : kbin1 F o b e (.err k t) = .err k t := rfl
theorem kbin2_ok (o : Bop) (x y : W) (t : T) : kbin2 o x (.ok y t) = fin (x.dat.bind fun p => y.dat.bind fun q => binD o p q) t := rfl
theorem kbin2_err (o : Bop) (x : W) (k : Nat) (t : T) : kbin2 o x (.err k t) = .err k t := rfl
def kcmp2 (o : Cop) (x : W) (r : R W) : R W := r.bind fun y t2 => finB (x.dat.bind fun p => y.dat.bind fun q => cmpD o p q) t2
def kcmp1 (o : Cop) (b : E) (e : Ev) (r : R W) : R W := r.bind fun x t1 => kcmp2 o x (ev F b e t1)
theorem ev_cmp (o : Cop) (a b : E) (e : Ev) (t : T) : ev F (.cmp o a b) e t = kcmp1 F o b e (ev F a e t) := by rw [DL.ev]; rfl
theorem kcmp1_ok (o : Cop) (b : E) (e : Ev) (x : W) (t : T) : kcmp1 F o b e (.ok x t) = kcmp2 o x (ev F b e t) := rfl
theorem kcmp1_err (o : Cop) (b : E) (e : Ev) (k : Nat) (t : T) : kcmp1 F o b e (.err k t) = .err k t := rfl
theorem kcmp2_ok (o : Cop) (x y : W) (t : T) : kcmp2 o x (.ok y t) = finB (x.dat.bind fun p => y.dat.bind fun q => cmpD o p q) t := rfl
theorem kcmp2_err (o : Cop) (x : W) (k : Nat) (t : T) : kcmp2 o x (.err k t) = .err k t := rfl
def kidx2  (x : W) (r : R W) : R W := r.bind fun y t2 => fin (x.dat.bind fun p => y.dat.bind fun q => ixD p q) t2
def kidx1  (b : E) (e : Ev) (r : R W) : R W := r.bind fun x t1 => kidx2  x (ev F b e t1)
theorem ev_idx  (a b : E) (e : Ev) (t : T) : ev F (.idx  a b) e t = kidx1 F  b e (ev F a e t) := by rw [DL.ev]; rfl
theorem kidx1_ok  (b : E) (e : Ev) (x : W) (t : T) : kidx1 F  b e (.ok x t) = kidx2  x (ev F b e t) := rfl
theorem kidx1_err  (b : E) (e : Ev) (k : Nat) (t : T) : kidx1 F  b e (.err k t) = .err k t := rfl
theorem kidx2_ok  (x y : W) (t : T) : kidx2  x (.ok y t) = fin (x.dat.bind fun p => y.dat.bind fun q => ixD p q) t := rfl
theorem kidx2_err  (x : W) (k : Nat) (t : T) : kidx2  x (.err k t) = .err k t := rfl
def kneg (r : R W) : R W := r.bind fun x t1 => (optR (asInt x) t1).bind fun i t2 => .ok (.d (.int (-i))) t2
theorem ev_neg (a : E) (e : Ev) (t : T) : ev F (.neg a) e t = kneg (ev F a e t) := by rw [DL.ev]; rfl
theorem kneg_ok (i : Int) (t : T) : kneg (.ok (.d (.int i)) t) = .ok (.d (.int (-i))) t := rfl
def knot (r : R Bool) : R W := r.bind fun b t1 => .ok (.d (.bool (!b))) t1
theorem ev_not (a : E) (e : Ev) (t : T) : ev F (.not a) e t = knot (tr (ev F a e t)) := by rw [DL.ev]; rfl
theorem knot_ok (b : Bool) (t : T) : knot (.ok b t) = .ok (.d (.bool (!b))) t := rfl
theorem knot_err (k : Nat) (t : T) : knot (.err k t) = .err k t := rfl
theorem tr_ok (w : W) (t : T) : tr (.ok w t) = optR w.truth t := rfl
theorem tr_err (k : Nat) (t : T) : tr (.err k t) = .err k t := rfl
def kand2 (b : E) (e : Ev) (x : W) (c : Option Bool) (t : T) : R W := (optR c t).bind fun c t2 => if c then ev F b e t2 else .ok x t2
def kor2 (b : E) (e : Ev) (x : W) (c : Option Bool) (t : T) : R W := (optR c t).bind fun c t2 => if c then .ok x t2 else ev F b e t2
def kand1 (b : E) (e : Ev) (r : R W) : R W := r.bind fun x t1 => kand2 F b e x x.truth t1
theorem ev_and (a b : E) (e : Ev) (t : T) : ev F (.and a b) e t = kand1 F b e (ev F a e t) := by rw [DL.ev]; rfl
theorem kand1_ok (b : E) (e : Ev) (x : W) (t : T) : kand1 F b e (.ok x t) = kand2 F b e x x.truth t := rfl
theorem kand1_err (b : E) (e : Ev) (k : Nat) (t : T) : kand1 F b e (.err k t) = .err k t := rfl
theorem kand2_t (b : E) (e : Ev) (x : W) (t : T) : kand2 F b e x (some true) t = ev F b e t := rfl
theorem kand2_f (b : E) (e : Ev) (x : W) (t : T) : kand2 F b e x (some false) t = .ok x t := rfl
def kor1 (b : E) (e : Ev) (r : R W) : R W := r.bind fun x t1 => kor2 F b e x x.truth t1
theorem ev_or (a b : E) (e : Ev) (t : T) : ev F (.or a b) e t = kor1 F b e (ev F a e t) := by rw [DL.ev]; rfl
theorem kor1_ok (b : E) (e : Ev) (x : W) (t : T) : kor1 F b e (.ok x t) = kor2 F b e x x.truth t := rfl
theorem kor1_err (b : E) (e : Ev) (k : Nat) (t : T) : kor1 F b e (.err k t) = .err k t := rfl
theorem kor2_t (b : E) (e : Ev) (x : W) (t : T) : kor2 F b e x (some true) t = .ok x t := rfl
theorem kor2_f (b : E) (e : Ev) (x : W) (t : T) : kor2 F b e x (some false) t = ev F b e t := rfl
def kite (a b : E) (e : Ev) (r : R Bool) : R W := r.bind fun k t1 => if k then ev F a e t1 else ev F b e t1
theorem ev_ite (c a b : E) (e : Ev) (t : T) : ev F (.ite c a b) e t = kite F a b e (tr (ev F c e t)) := by rw [DL.ev]; rfl
theorem kite_t (a b : E) (e : Ev) (t : T) : kite F a b e (.ok true t) = ev F a e t := rfl
theorem kite_f (a b : E) (e : Ev) (t : T) : kite F a b e (.ok false t) = ev F b e t := rfl
theorem kite_err (a b : E) (e : Ev) (k : Nat) (t : T) : kite F a b e (.err k t) = .err k t := rfl
def kch4 (o' : Cop) (y : W) (r : R W) : R W := r.bind fun z t4 => finB (y.dat.bind fun p => z.dat.bind fun q => cmpD o' p q) t4
def kch3 (o' : Cop) (c : E) (e : Ev) (y : W) (b : Option Bool) (t : T) : R W := (optR b t).bind fun r t3 => if r then kch4 o' y (ev F c e t3) else .ok (.d (.bool false)) t3
def kch2 (o o' : Cop) (c : E) (e : Ev) (x : W) (r : R W) : R W := r.bind fun y t2 => kch3 F o' c e y (x.dat.bind fun p => y.dat.bind fun q => cmpD o p q) t2
def kch1 (o o' : Cop) (b c : E) (e : Ev) (r : R W) : R W := r.bind fun x t1 => kch2 F o o' c e x (ev F b e t1)
theorem ev_chain (o o' : Cop) (a b c : E) (e : Ev) (t : T) : ev F (.chain o o' a b c) e t = kch1 F o o' b c e (ev F a e t) := by rw [DL.ev]; rfl
theorem kch1_ok (o o' : Cop) (b c : E) (e : Ev) (x : W) (t : T) : kch1 F o o' b c e (.ok x t) = kch2 F o o' c e x (ev F b e t) := rfl
theorem kch2_ok (o o' : Cop) (c : E) (e : Ev) (x y : W) (t : T) : kch2 F o o' c e x (.ok y t) = kch3 F o' c e y (x.dat.bind fun p => y.dat.bind fun q => cmpD o p q) t := rfl
theorem kch3_t (o' : Cop) (c : E) (e : Ev) (y : W) (t : T) : kch3 F o' c e y (some true) t = kch4 o' y (ev F c e t) := rfl
theorem kch3_f (o' : Cop) (c : E) (e : Ev) (y : W) (t : T) : kch3 F o' c e y (some false) t = .ok (.d (.bool false)) t := rfl
theorem kch4_ok (o' : Cop) (y z : W) (t : T) : kch4 o' y (.ok z t) = finB (y.dat.bind fun p => z.dat.bind fun q => cmpD o' p q) t := rfl
def koi (r : R W) : R (Option Int) := r.bind fun l t2 => (optR (asInt l) t2).bind fun i t3 => .ok (some i) t3
def evo (a : E) (e : Ev) (t : T) : R (Option Int) := if isOmit a then .ok none t else koi (ev F a e t)
def kslc4 (x : Option PyData) (l h : Option Int) (t : T) : R W := match x with
  | some (.tuple xs) => .ok (.d (.tuple (cutD xs l h))) t
  | some (.list xs) => .ok (.d (.list (cutD xs l h))) t
  | _ => .bad
def kslc3 (x : W) (l : Option Int) (r : R (Option Int)) : R W := r.bind fun h t7 => kslc4 x.dat l h t7
def kslc2 (hi : E) (e : Ev) (x : W) (r : R (Option Int)) : R W := r.bind fun l t4 => kslc3 x l (evo F hi e t4)
def kslc1 (lo hi : E) (e : Ev) (r : R W) : R W := r.bind fun x t1 => kslc2 F hi e x (evo F lo e t1)
theorem ev_slc (a lo hi : E) (e : Ev) (t : T) : ev F (.slc a lo hi) e t = kslc1 F lo hi e (ev F a e t) := by rw [DL.ev]; rfl
theorem kslc1_ok (lo hi : E) (e : Ev) (x : W) (t : T) : kslc1 F lo hi e (.ok x t) = kslc2 F hi e x (evo F lo e t) := rfl
theorem kslc2_ok (hi : E) (e : Ev) (x : W) (l : Option Int) (t : T) : kslc2 F hi e x (.ok l t) = kslc3 x l (evo F hi e t) := rfl
theorem kslc3_ok (x : W) (l h : Option Int) (t : T) : kslc3 x l (.ok h t) = kslc4 x.dat l h t := rfl
theorem kslc4_t (xs : List PyData) (l h : Option Int) (t : T) : kslc4 (some (.tuple xs)) l h t = .ok (.d (.tuple (cutD xs l h))) t := rfl
theorem kslc4_l (xs : List PyData) (l h : Option Int) (t : T) : kslc4 (some (.list xs)) l h t = .ok (.d (.list (cutD xs l h))) t := rfl
theorem evo_omit (e : Ev) (t : T) : evo F .omit e t = .ok none t := rfl
theorem evo_lit (x : PyData) (e : Ev) (t : T) : evo F (.lit x) e t = koi (ev F (.lit x) e t) := rfl
theorem evo_var (x : Nat) (e : Ev) (t : T) : evo F (.var x) e t = koi (ev F (.var x) e t) := rfl
theorem evo_neg (x : E) (e : Ev) (t : T) : evo F (.neg x) e t = koi (ev F (.neg x) e t) := rfl
theorem evo_glob (x : PyData) (e : Ev) (t : T) : evo F (.glob x) e t = koi (ev F (.glob x) e t) := rfl
theorem evo_bin (o : Bop) (x y : E) (e : Ev) (t : T) : evo F (.bin o x y) e t = koi (ev F (.bin o x y) e t) := rfl
theorem evo_blt (o : Blt) (x : List E) (e : Ev) (t : T) : evo F (.blt o x) e t = koi (ev F (.blt o x) e t) := rfl
theorem evo_idx (x y : E) (e : Ev) (t : T) : evo F (.idx x y) e t = koi (ev F (.idx x y) e t) := rfl
theorem evo_call (o : Nat) (x : List E) (e : Ev) (t : T) : evo F (.call o x) e t = koi (ev F (.call o x) e t) := rfl
theorem koi_ok (i : Int) (t : T) : koi (.ok (.d (.int i)) t) = .ok (some i) t := rfl
def kisa (ty : Ty) (r : R W) : R W := r.bind fun x t1 => (optR x.dat t1).bind fun p t2 => .ok (.d (.bool (tyD ty p))) t2
theorem ev_isa (a : E) (ty : Ty) (e : Ev) (t : T) : ev F (.isa a ty) e t = kisa ty (ev F a e t) := by rw [DL.ev]; rfl
theorem kisa_ok (ty : Ty) (x : PyData) (t : T) : kisa ty (.ok (.d x) t) = .ok (.d (.bool (tyD ty x))) t := rfl
def kc3 (r : R W) : R W := r.bind fun w t2 => match w with
  | .d x => .ok (.d x) t2
  | .fresh xs => .ok (.d (.list xs)) t2
  | _ => .bad
def kc2 (f : Nat) (ws : List W) (b : Bool) (t : T) : R W := if b then kc3 (F f ws t) else .bad
def kc1 (f : Nat) (r : R (List W)) : R W := r.bind fun ws t1 => kc2 F f ws (ws.all W.arg) t1
theorem ev_call (f : Nat) (es : List E) (e : Ev) (t : T) : ev F (.call f es) e t = kc1 F f (evs F es e t) := by rw [DL.ev]; rfl
theorem kc1_ok (f : Nat) (ws : List W) (t : T) : kc1 F f (.ok ws t) = kc2 F f ws (ws.all W.arg) t := rfl
theorem kc1_err (f : Nat) (k : Nat) (t : T) : kc1 F f (.err k t) = .err k t := rfl
theorem kc2_t (f : Nat) (ws : List W) (t : T) : kc2 F f ws true t = kc3 (F f ws t) := rfl
theorem kc3_d (x : PyData) (t : T) : kc3 (.ok (.d x) t) = .ok (.d x) t := rfl
theorem kc3_f (x : List PyData) (t : T) : kc3 (.ok (.fresh x) t) = .ok (.d (.list x)) t := rfl
theorem kc3_err (k : Nat) (t : T) : kc3 (.err k t) = .err k t := rfl
def kg3 (r : R W) : R W := r.bind fun w t2 => match w with
  | .fresh xs => .ok (.d (.list xs)) t2
  | _ => .bad
def kg2 (f : Nat) (ws : List W) (b : Bool) (t : T) : R W := if b then kg3 (F f ws t) else .bad
def kg1 (f : Nat) (r : R (List W)) : R W := r.bind fun ws t1 => kg2 F f ws (ws.all W.arg) t1
theorem ev_callF (f : Nat) (es : List E) (e : Ev) (t : T) : ev F (.callF f es) e t = kg1 F f (evs F es e t) := by rw [DL.ev]; rfl
theorem kg1_ok (f : Nat) (ws : List W) (t : T) : kg1 F f (.ok ws t) = kg2 F f ws (ws.all W.arg) t := rfl
theorem kg2_t (f : Nat) (ws : List W) (t : T) : kg2 F f ws true t = kg3 (F f ws t) := rfl
theorem kg3_f (x : List PyData) (t : T) : kg3 (.ok (.fresh x) t) = .ok (.d (.list x)) t := rfl
def kblt (b : Blt) (r : R (List W)) : R W := r.bind fun ws t1 => fin ((allDat ws).bind fun xs => bltD b xs) t1
theorem ev_blt (b : Blt) (es : List E) (e : Ev) (t : T) : ev F (.blt b es) e t = kblt b (evs F es e t) := by rw [DL.ev]; rfl
theorem kblt_ok (b : Blt) (ws : List W) (t : T) : kblt b (.ok ws t) = fin ((allDat ws).bind fun xs => bltD b xs) t := rfl
theorem kblt_err (b : Blt) (k : Nat) (t : T) : kblt b (.err k t) = .err k t := rfl
def kcp3 (ys : List PyData) (b : Bool) (t : T) : R W := if b then .ok (.d (.list ys)) t else .bad
def kcp2 (r : R (List PyData)) : R W := r.calm.bind fun ys t2 => kcp3 ys (lenOk ys.length) t2
def kcp1 (elt : E) (tg : Tg) (ifs : List E) (own : List Nat) (e : Ev) (r : R (List PyData)) : R W := r.bind fun xs t1 => kcp2 (compRun (bindT tg) (evTs F ifs) (ev F elt) (wipeE e own) xs t1)
theorem ev_comp (elt : E) (tg : Tg) (it : It) (ifs : List E) (own : List Nat) (e : Ev) (t : T) : ev F (.comp elt tg it ifs own) e t = kcp1 F elt tg ifs own e (evI F true it e t) := by rw [DL.ev]; rfl
theorem kcp1_ok (elt : E) (tg : Tg) (ifs : List E) (own : List Nat) (e : Ev) (xs : List PyData) (t : T) : kcp1 F elt tg ifs own e (.ok xs t) = kcp2 (compRun (bindT tg) (evTs F ifs) (ev F elt) (wipeE e own) xs t) := rfl
theorem kcp2_ok (ys : List PyData) (t : T) : kcp2 (.ok ys t) = kcp3 ys (lenOk ys.length) t := rfl
theorem kcp3_t (ys : List PyData) (t : T) : kcp3 ys true t = .ok (.d (.list ys)) t := rfl
def kq2 (r : R Bool) : R W := r.calm.bind fun c t2 => .ok (.d (.bool c)) t2
theorem kq2_ok (c : Bool) (t : T) : kq2 (.ok c t) = .ok (.d (.bool c)) t := rfl
def kq1all (elt : E) (tg : Tg) (ifs : List E) (own : List Nat) (e : Ev) (r : R (List PyData)) : R W := r.bind fun xs t1 => kq2 (quantRun false (bindT tg) (evTs F ifs) (ev F elt) (wipeE e own) xs t1)
theorem ev_gall (elt : E) (tg : Tg) (it : It) (ifs : List E) (own : List Nat) (e : Ev) (t : T) : ev F (.gen .all elt tg it ifs own) e t = kq1all F elt tg ifs own e (evI F true it e t) := by rw [DL.ev]; rfl
theorem kq1all_ok (elt : E) (tg : Tg) (ifs : List E) (own : List Nat) (e : Ev) (xs : List PyData) (t : T) : kq1all F elt tg ifs own e (.ok xs t) = kq2 (quantRun false (bindT tg) (evTs F ifs) (ev F elt) (wipeE e own) xs t) := rfl
def kq1any (elt : E) (tg : Tg) (ifs : List E) (own : List Nat) (e : Ev) (r : R (List PyData)) : R W := r.bind fun xs t1 => kq2 (quantRun true (bindT tg) (evTs F ifs) (ev F elt) (wipeE e own) xs t1)
theorem ev_gany (elt : E) (tg : Tg) (it : It) (ifs : List E) (own : List Nat) (e : Ev) (t : T) : ev F (.gen .any elt tg it ifs own) e t = kq1any F elt tg ifs own e (evI F true it e t) := by rw [DL.ev]; rfl
theorem kq1any_ok (elt : E) (tg : Tg) (ifs : List E) (own : List Nat) (e : Ev) (xs : List PyData) (t : T) : kq1any F elt tg ifs own e (.ok xs t) = kq2 (quantRun true (bindT tg) (evTs F ifs) (ev F elt) (wipeE e own) xs t) := rfl
def kg5 (b : Blt) (r : R (List PyData)) : R W := r.calm.bind fun ys t2 => fin (bltD b [.list ys]) t2
theorem kg5_ok (b : Blt) (ys : List PyData) (t : T) : kg5 b (.ok ys t) = fin (bltD b [.list ys]) t := rfl
def kg4 (b : Blt) (elt : E) (tg : Tg) (ifs : List E) (own : List Nat) (e : Ev) (r : R (List PyData)) : R W := r.bind fun xs t1 => kg5 b (compRun (bindT tg) (evTs F ifs) (ev F elt) (wipeE e own) xs t1)
theorem kg4_ok (b : Blt) (elt : E) (tg : Tg) (ifs : List E) (own : List Nat) (e : Ev) (xs : List PyData) (t : T) : kg4 F b elt tg ifs own e (.ok xs t) = kg5 b (compRun (bindT tg) (evTs F ifs) (ev F elt) (wipeE e own) xs t) := rfl
theorem ev_gsum (elt : E) (tg : Tg) (it : It) (ifs : List E) (own : List Nat) (e : Ev) (t : T) : ev F (.gen .sum elt tg it ifs own) e t = kg4 F .sum elt tg ifs own e (evI F true it e t) := by rw [DL.ev]; rfl
theorem ev_gmin (elt : E) (tg : Tg) (it : It) (ifs : List E) (own : List Nat) (e : Ev) (t : T) : ev F (.gen .min elt tg it ifs own) e t = kg4 F .min elt tg ifs own e (evI F true it e t) := by rw [DL.ev]; rfl
theorem ev_gmax (elt : E) (tg : Tg) (it : It) (ifs : List E) (own : List Nat) (e : Ev) (t : T) : ev F (.gen .max elt tg it ifs own) e t = kg4 F .max elt tg ifs own e (evI F true it e t) := by rw [DL.ev]; rfl
theorem ev_gtuple (elt : E) (tg : Tg) (it : It) (ifs : List E) (own : List Nat) (e : Ev) (t : T) : ev F (.gen .tuple elt tg it ifs own) e t = kg4 F .tuple elt tg ifs own e (evI F true it e t) := by rw [DL.ev]; rfl
theorem ev_glist (elt : E) (tg : Tg) (it : It) (ifs : List E) (own : List Nat) (e : Ev) (t : T) : ev F (.gen .list elt tg it ifs own) e t = kg4 F .list elt tg ifs own e (evI F true it e t) := by rw [DL.ev]; rfl
theorem ev_gsorted (elt : E) (tg : Tg) (it : It) (ifs : List E) (own : List Nat) (e : Ev) (t : T) : ev F (.gen .sorted elt tg it ifs own) e t = kg4 F .sorted elt tg ifs own e (evI F true it e t) := by rw [DL.ev]; rfl
def kst2 (r : R (List PyData)) : R W := r.calm.bind fun ys t2 => finL (setD ys) t2
theorem kst2_ok (ys : List PyData) (t : T) : kst2 (.ok ys t) = finL (setD ys) t := rfl
def kst1 (elt : E) (tg : Tg) (ifs : List E) (own : List Nat) (e : Ev) (r : R (List PyData)) : R W := r.bind fun xs t1 => kst2 (compRun (bindT tg) (evTs F ifs) (ev F elt) (wipeE e own) xs t1)
theorem kst1_ok (elt : E) (tg : Tg) (ifs : List E) (own : List Nat) (e : Ev) (xs : List PyData) (t : T) : kst1 F elt tg ifs own e (.ok xs t) = kst2 (compRun (bindT tg) (evTs F ifs) (ev F elt) (wipeE e own) xs t) := rfl
theorem ev_sset (elt : E) (tg : Tg) (it : It) (ifs : List E) (own : List Nat) (e : Ev) (t : T) : ev F (.sset elt tg it ifs own) e t = kst1 F elt tg ifs own e (evI F true it e t) := by rw [DL.ev]; rfl
def ktl (w : W) (t : T) : R W := match w with
  | .tape => .ok (.d (.int t.length)) t
  | _ => .bad
theorem ev_tlen (i : Nat) (e : Ev) (t : T) : ev F (.tlen i) e t = ktl (e.getD i .un) t := by rw [DL.ev]; rfl
theorem ktl_ok (t : T) : ktl .tape t = .ok (.d (.int t.length)) t := rfl
def ktp (w : W) (t : T) : R W := match w with
  | .tape => match t.getLast? with
    | some x => .ok (.d x) t.dropLast
    | none => .bad
  | _ => .bad
theorem ev_tpop (i : Nat) (e : Ev) (t : T) : ev F (.tpop i) e t = ktp (e.getD i .un) t := by rw [DL.ev]; rfl
theorem ktp_ok (t : T) (x : PyData) : ktp .tape (t ++ [x]) = .ok (.d x) t := by simp [ktp]
def krv (r : R W) : R W := r.bind fun x t1 => (optR (x.dat.bind seqOf) t1).bind fun xs t2 => .ok (.d (.list xs.reverse)) t2
theorem ev_revl (a : E) (e : Ev) (t : T) : ev F (.revl a) e t = krv (ev F a e t) := by rw [DL.ev]; rfl
theorem krv_l (xs : List PyData) (t : T) : krv (.ok (.d (.list xs)) t) = .ok (.d (.list xs.reverse)) t := rfl
theorem krv_t (xs : List PyData) (t : T) : krv (.ok (.d (.tuple xs)) t) = .ok (.d (.list xs.reverse)) t := rfl
def kts (cs : List E) (e : Ev) (r : R Bool) : R Bool := r.bind fun b t1 => if b then evTs F cs e t1 else .ok false t1
theorem ts_nil (e : Ev) (t : T) : evTs F [] e t = .ok true t := by rw [DL.evTs]
theorem ts_cons (c : E) (cs : List E) (e : Ev) (t : T) : evTs F (c :: cs) e t = kts F cs e (tr (ev F c e t)) := by rw [DL.evTs]; rfl
theorem kts_nil (e : Ev) (b : Bool) (t : T) : kts F [] e (.ok b t) = .ok b t := by cases b <;> first | rfl | (show evTs F [] e t = _; rw [DL.evTs])
theorem kts_t (cs : List E) (e : Ev) (t : T) : kts F cs e (.ok true t) = evTs F cs e t := rfl
theorem kts_f (cs : List E) (e : Ev) (t : T) : kts F cs e (.ok false t) = .ok false t := rfl
def ksq (o : Bool) (r : R W) : R (List PyData) := r.bind fun x t1 => optR (x.seqO o) t1
theorem ei_seq (o : Bool) (a : E) (e : Ev) (t : T) : evI F o (.seq a) e t = ksq o (ev F a e t) := by rw [DL.evI]; rfl
theorem ksq_ok (o : Bool) (x : W) (t : T) : ksq o (.ok x t) = optR (x.seqO o) t := rfl
theorem seqO_own (xs : List PyData) : W.seqO true (.own xs) = some xs := rfl
def krg3 (b : Bool) (i j : Int) (t : T) : R (List PyData) := if b then .ok (rngD i j) t else .bad
theorem krg3_t (i j : Int) (t : T) : krg3 true i j t = .ok (rngD i j) t := rfl
def krg2 (x : W) (r : R W) : R (List PyData) := r.bind fun y t2 => (optR (asInt x) t2).bind fun i t3 => (optR (asInt y) t3).bind fun j t4 => krg3 (rngOk i j) i j t4
theorem krg2_ok (i j : Int) (t : T) : krg2 (.d (.int i)) (.ok (.d (.int j)) t) = krg3 (rngOk i j) i j t := rfl
def krg1 (b : E) (e : Ev) (r : R W) : R (List PyData) := r.bind fun x t1 => krg2 x (ev F b e t1)
theorem ei_rng (o : Bool) (a b : E) (e : Ev) (t : T) : evI F o (.rng a b) e t = krg1 F b e (ev F a e t) := by rw [DL.evI]; rfl
theorem krg1_ok (b : E) (e : Ev) (x : W) (t : T) : krg1 F b e (.ok x t) = krg2 x (ev F b e t) := rfl
def krg0 (r : R W) : R (List PyData) := r.bind fun y t2 => (optR (asInt y) t2).bind fun j t4 => krg3 (rngOk 0 j) 0 j t4
theorem ei_rng1 (o : Bool) (b : E) (e : Ev) (t : T) : evI F o (.rng1 b) e t = krg0 (ev F b e t) := by rw [DL.evI]; rfl
theorem krg0_ok (j : Int) (t : T) : krg0 (.ok (.d (.int j)) t) = krg3 (rngOk 0 j) 0 j t := rfl
def ken (o : Bool) (r : R W) : R (List PyData) := r.bind fun x t1 => (optR (x.seqO o) t1).bind fun xs t2 => .ok (xs.zipIdx.map fun p => .tuple [.int p.2, p.1]) t2
theorem ei_enum (o : Bool) (a : E) (e : Ev) (t : T) : evI F o (.enum a) e t = ken o (ev F a e t) := by rw [DL.evI]; rfl
theorem ken_l (o : Bool) (xs : List PyData) (t : T) : ken o (.ok (.d (.list xs)) t) = .ok (xs.zipIdx.map fun p => .tuple [.int p.2, p.1]) t := rfl
theorem ken_t (o : Bool) (xs : List PyData) (t : T) : ken o (.ok (.d (.tuple xs)) t) = .ok (xs.zipIdx.map fun p => .tuple [.int p.2, p.1]) t := rfl
def kzp2 (o : Bool) (x : W) (r : R W) : R (List PyData) := r.bind fun y t2 => (optR (x.zipO o y) t2).bind fun ps t3 => .ok (ps.map fun p => .tuple [p.1, p.2]) t3
def kzp1 (o : Bool) (b : E) (e : Ev) (r : R W) : R (List PyData) := r.bind fun x t1 => kzp2 o x (ev F b e t1)
theorem ei_zip (o : Bool) (a b : E) (e : Ev) (t : T) : evI F o (.zip a b) e t = kzp1 F o b e (ev F a e t) := by rw [DL.evI]; rfl
theorem kzp1_ok (o : Bool) (b : E) (e : Ev) (x : W) (t : T) : kzp1 F o b e (.ok x t) = kzp2 o x (ev F b e t) := rfl
theorem kzp2_l (o : Bool) (xs ys : List PyData) (t : T) : kzp2 o (.d (.list xs)) (.ok (.d (.list ys)) t) = .ok ((xs.zip ys).map fun p => .tuple [p.1, p.2]) t := rfl
theorem kzp2_t (o : Bool) (xs ys : List PyData) (t : T) : kzp2 o (.d (.tuple xs)) (.ok (.d (.tuple ys)) t) = .ok ((xs.zip ys).map fun p => .tuple [p.1, p.2]) t := rfl
def krs (o : Bool) (r : R W) : R (List PyData) := r.bind fun x t1 => (optR (x.seqO o) t1).bind fun xs t2 => .ok xs.reverse t2
theorem ei_rev (o : Bool) (a : E) (e : Ev) (t : T) : evI F o (.rev a) e t = krs o (ev F a e t) := by rw [DL.evI]; rfl
theorem krs_l (o : Bool) (xs : List PyData) (t : T) : krs o (.ok (.d (.list xs)) t) = .ok xs.reverse t := rfl
theorem krs_t (o : Bool) (xs : List PyData) (t : T) : krs o (.ok (.d (.tuple xs)) t) = .ok xs.reverse t := rfl
def kdk (r : R W) : R (List PyData) := r.bind fun x t1 => (optR (x.dat.bind dkD) t1).bind fun xs t2 => .ok xs t2
theorem ei_dk (o : Bool) (a : E) (e : Ev) (t : T) : evI F o (.dk a) e t = kdk (ev F a e t) := by rw [DL.evI]; rfl
theorem kdk_ok (x : PyData) (t : T) : kdk (.ok (.d x) t) = optR (dkD x) t := by show (optR (dkD x) t).bind _ = _; cases dkD x <;> rfl
def kas2 (o : Option Ev) (t : T) : Out := match o with
  | some e' => .nx e' t
  | none => .bad
theorem kas2_ok (e : Ev) (t : T) : kas2 (some e) t = .nx e t := rfl
def kas1 (tg : Tg) (e : Ev) (r : R W) : Out := r.out fun w t1 => match w with
  | .d x => kas2 (bindT tg x e) t1
  | _ => .bad
theorem kas1_ok (tg : Tg) (e : Ev) (x : PyData) (t : T) : kas1 tg e (.ok (.d x) t) = kas2 (bindT tg x e) t := rfl
theorem kas1_err (tg : Tg) (e : Ev) (k : Nat) (t : T) : kas1 tg e (.err k t) = .err k t := rfl
theorem run_asg (tg : Tg) (a : E) (e : Ev) (t : T) : run F n (.asg tg a) e t = kas1 tg e (ev F a e t) := by rw [DL.run]; rfl
theorem bt_nm (i : Nat) (x : PyData) (e : Ev) : bindT (.nm i) x e = some (e.set i (.d x)) := by rw [DL.bindT]
def kbt (b : Bool) (ts : List Tg) (xs : List PyData) (e : Ev) : Option Ev := if b then bindTs ts xs e else none
theorem kbt_t (ts : List Tg) (xs : List PyData) (e : Ev) : kbt true ts xs e = bindTs ts xs e := rfl
theorem bt_t (ts : List Tg) (xs : List PyData) (e : Ev) : bindT (.tup ts) (.tuple xs) e = kbt (decide (xs.length = ts.length)) ts xs e := by rw [DL.bindT]; simp [kbt]
theorem bt_l (ts : List Tg) (xs : List PyData) (e : Ev) : bindT (.tup ts) (.list xs) e = kbt (decide (xs.length = ts.length)) ts xs e := by rw [DL.bindT]; simp [kbt]
def kbs (ts : List Tg) (xs : List PyData) (o : Option Ev) : Option Ev := o.bind fun e' => bindTs ts xs e'
theorem kbs_ok (ts : List Tg) (xs : List PyData) (e : Ev) : kbs ts xs (some e) = bindTs ts xs e := rfl
theorem bs_nil (xs : List PyData) (e : Ev) : bindTs [] xs e = some e := by cases xs <;> rw [DL.bindTs]
theorem bs_cons (s : Tg) (ts : List Tg) (x : PyData) (xs : List PyData) (e : Ev) : bindTs (s :: ts) (x :: xs) e = kbs ts xs (bindT s x e) := by rw [DL.bindTs]; rfl
def kow (i : Nat) (e : Ev) (r : R W) : Out := r.out fun w t1 => match w with
  | .d (.list xs) => .nx (e.set i (.own xs)) t1
  | _ => .bad
theorem kow_ok (i : Nat) (e : Ev) (xs : List PyData) (t : T) : kow i e (.ok (.d (.list xs)) t) = .nx (e.set i (.own xs)) t := rfl
theorem run_own (i : Nat) (a : E) (e : Ev) (t : T) : run F n (.own i a) e t = kow i e (ev F a e t) := by rw [DL.run]; rfl
def kap3 (i : Nat) (e : Ev) (xs : List PyData) (x : PyData) (b : Bool) (t : T) : Out := if b then .nx (e.set i (.own (xs ++ [x]))) t else .bad
theorem kap3_t (i : Nat) (e : Ev) (xs : List PyData) (x : PyData) (t : T) : kap3 i e xs x true t = .nx (e.set i (.own (xs ++ [x]))) t := rfl
def kap2 (i : Nat) (e : Ev) (xs : List PyData) (r : R W) : Out := r.out fun w t1 => match w with
  | .d x => kap3 i e xs x (lenOk (xs.length + 1)) t1
  | _ => .bad
theorem kap2_ok (i : Nat) (e : Ev) (xs : List PyData) (x : PyData) (t : T) : kap2 i e xs (.ok (.d x) t) = kap3 i e xs x (lenOk (xs.length + 1)) t := rfl
def kap1 (i : Nat) (a : E) (e : Ev) (w : W) (t : T) : Out := match w with
  | .own xs => kap2 i e xs (ev F a e t)
  | _ => .bad
theorem kap1_ok (i : Nat) (a : E) (e : Ev) (xs : List PyData) (t : T) : kap1 F i a e (.own xs) t = kap2 i e xs (ev F a e t) := rfl
theorem run_app (i : Nat) (a : E) (e : Ev) (t : T) : run F n (.app i a) e t = kap1 F i a e (e.getD i .un) t := by rw [DL.run]; rfl
def kau3 (i : Nat) (e : Ev) (o : Option Int) (t : T) : Out := match o with
  | some r => .nx (e.set i (.d (.int r))) t
  | none => .bad
theorem kau3_ok (i : Nat) (e : Ev) (r : Int) (t : T) : kau3 i e (some r) t = .nx (e.set i (.d (.int r))) t := rfl
def kau2 (i : Nat) (o : Bop) (e : Ev) (x : PyData) (r : R W) : Out := r.out fun w t1 => match w with
  | .d y => match x, y with
    | .int p, .int q => kau3 i e (opInt o p q) t1
    | _, _ => .bad
  | _ => .bad
theorem kau2_ok (i : Nat) (o : Bop) (e : Ev) (p q : Int) (t : T) : kau2 i o e (.int p) (.ok (.d (.int q)) t) = kau3 i e (opInt o p q) t := rfl
def kau1 (i : Nat) (o : Bop) (a : E) (e : Ev) (w : W) (t : T) : Out := match w with
  | .d x => kau2 i o e x (ev F a e t)
  | _ => .bad
theorem kau1_ok (i : Nat) (o : Bop) (a : E) (e : Ev) (x : PyData) (t : T) : kau1 F i o a e (.d x) t = kau2 i o e x (ev F a e t) := rfl
theorem run_aug (i : Nat) (o : Bop) (a : E) (e : Ev) (t : T) : run F n (.aug i o a) e t = kau1 F i o a e (e.getD i .un) t := by rw [DL.run]; rfl
def kex3 (i : Nat) (e : Ev) (xs ys : List PyData) (b : Bool) (t : T) : Out := if b then .nx (e.set i (.own (xs ++ ys))) t else .bad
theorem kex3_t (i : Nat) (e : Ev) (xs ys : List PyData) (t : T) : kex3 i e xs ys true t = .nx (e.set i (.own (xs ++ ys))) t := rfl
def kex2 (i : Nat) (e : Ev) (xs : List PyData) (r : R W) : Out := r.out fun w t1 => match w with
  | .d (.list ys) => kex3 i e xs ys (lenOk (xs.length + ys.length)) t1
  | _ => .bad
theorem kex2_ok (i : Nat) (e : Ev) (xs ys : List PyData) (t : T) : kex2 i e xs (.ok (.d (.list ys)) t) = kex3 i e xs ys (lenOk (xs.length + ys.length)) t := rfl
def kex1 (i : Nat) (a : E) (e : Ev) (w : W) (t : T) : Out := match w with
  | .own xs => kex2 i e xs (ev F a e t)
  | _ => .bad
theorem kex1_ok (i : Nat) (a : E) (e : Ev) (xs : List PyData) (t : T) : kex1 F i a e (.own xs) t = kex2 i e xs (ev F a e t) := rfl
theorem run_ext (i : Nat) (a : E) (e : Ev) (t : T) : run F n (.ext i a) e t = kex1 F i a e (e.getD i .un) t := by rw [DL.run]; rfl
def kse4 (i : Nat) (e : Ev) (xs : List PyData) (x : PyData) (o : Option Nat) (t : T) : Out := match o with
  | some p => .nx (e.set i (.own (xs.set p x))) t
  | none => .bad
theorem kse4_ok (i : Nat) (e : Ev) (xs : List PyData) (x : PyData) (p : Nat) (t : T) : kse4 i e xs x (some p) t = .nx (e.set i (.own (xs.set p x))) t := rfl
def kse3 (i : Nat) (e : Ev) (xs : List PyData) (w : W) (r : R W) : Out := r.out fun j t2 => match w, asInt j with
  | .d x, some z => kse4 i e xs x (L2.ixN xs.length z) t2
  | _, _ => .bad
theorem kse3_ok (i : Nat) (e : Ev) (xs : List PyData) (x : PyData) (z : Int) (t : T) : kse3 i e xs (.d x) (.ok (.d (.int z)) t) = kse4 i e xs x (L2.ixN xs.length z) t := rfl
def kse2 (i : Nat) (k : E) (e : Ev) (xs : List PyData) (r : R W) : Out := r.out fun w t1 => kse3 i e xs w (ev F k e t1)
theorem kse2_ok (i : Nat) (k : E) (e : Ev) (xs : List PyData) (w : W) (t : T) : kse2 F i k e xs (.ok w t) = kse3 i e xs w (ev F k e t) := rfl
def kse1 (i : Nat) (k a : E) (e : Ev) (w : W) (t : T) : Out := match w with
  | .own xs => kse2 F i k e xs (ev F a e t)
  | _ => .bad
theorem kse1_ok (i : Nat) (k a : E) (e : Ev) (xs : List PyData) (t : T) : kse1 F i k a e (.own xs) t = kse2 F i k e xs (ev F a e t) := rfl
theorem run_seti (i : Nat) (k a : E) (e : Ev) (t : T) : run F n (.seti i k a) e t = kse1 F i k a e (e.getD i .un) t := by rw [DL.run]; rfl
def kre (r : R W) : Out := r.out fun w t1 => match w with
  | .d x => .ret (.d x) t1
  | .own xs => .ret (.d (.list xs)) t1
  | _ => .bad
theorem kre_d (x : PyData) (t : T) : kre (.ok (.d x) t) = .ret (.d x) t := rfl
theorem kre_own (xs : List PyData) (t : T) : kre (.ok (.own xs) t) = .ret (.d (.list xs)) t := rfl
theorem kre_err (k : Nat) (t : T) : kre (.err k t) = .err k t := rfl
theorem run_ret (a : E) (e : Ev) (t : T) : run F n (.ret a) e t = kre (ev F a e t) := by rw [DL.run]; rfl
def krf (r : R W) : Out := r.out fun w t1 => match w with
  | .d (.list xs) => .ret (.fresh xs) t1
  | _ => .bad
theorem krf_ok (xs : List PyData) (t : T) : krf (.ok (.d (.list xs)) t) = .ret (.fresh xs) t := rfl
theorem run_retF (a : E) (e : Ev) (t : T) : run F n (.retF a) e t = krf (ev F a e t) := by rw [DL.run]; rfl
theorem run_retN (e : Ev) (t : T) : run F n .retN e t = .ret (.d .none) t := by rw [DL.run]
def kif (a b : List S) (e : Ev) (r : R Bool) : Out := r.out fun k t1 => if k then runs F n a e t1 else runs F n b e t1
theorem kif_t (a b : List S) (e : Ev) (t : T) : kif F n a b e (.ok true t) = runs F n a e t := rfl
theorem kif_f (a b : List S) (e : Ev) (t : T) : kif F n a b e (.ok false t) = runs F n b e t := rfl
theorem kif_err (a b : List S) (e : Ev) (k : Nat) (t : T) : kif F n a b e (.err k t) = .err k t := rfl
theorem run_ifs (c : E) (a b : List S) (e : Ev) (t : T) : run F n (.ifs c a b) e t = kif F n a b e (tr (ev F c e t)) := by rw [DL.run]; rfl
def kfo (tg : Tg) (body : List S) (e : Ev) (r : R (List PyData)) : Out := r.out fun xs t1 => forRun (bindT tg) (runs F n body) xs e t1
theorem kfo_ok (tg : Tg) (body : List S) (e : Ev) (xs : List PyData) (t : T) : kfo F n tg body e (.ok xs t) = forRun (bindT tg) (runs F n body) xs e t := rfl
theorem run_for (tg : Tg) (it : It) (body : List S) (e : Ev) (t : T) : run F n (.forr tg it body) e t = kfo F n tg body e (evI F false it e t) := by rw [DL.run]; rfl
def kwc (c : E) (e : Ev) (t : T) : R Bool := tr (ev F c e t)
theorem kwc_is (c : E) (e : Ev) (t : T) : kwc F c e t = tr (ev F c e t) := rfl
theorem run_whil (c : E) (body : List S) (e : Ev) (t : T) : run F n (.whil c body) e t = whileRun (kwc F c) (runs F n body) n e t := by rw [DL.run]; rfl
def kxp (e : Ev) (r : R W) : Out := r.out fun _ t1 => .nx e t1
theorem kxp_ok (e : Ev) (w : W) (t : T) : kxp e (.ok w t) = .nx e t := rfl
theorem kxp_err (e : Ev) (k : Nat) (t : T) : kxp e (.err k t) = .err k t := rfl
theorem run_expr (a : E) (e : Ev) (t : T) : run F n (.expr a) e t = kxp e (ev F a e t) := by rw [DL.run]; rfl
theorem run_raise (k : Nat) (e : Ev) (t : T) : run F n (.raise k) e t = .err k t := by rw [DL.run]
theorem run_brk (e : Ev) (t : T) : run F n .brk e t = .brk e t := by rw [DL.run]
theorem run_cnt (e : Ev) (t : T) : run F n .cnt e t = .cnt e t := by rw [DL.run]
theorem run_pass (e : Ev) (t : T) : run F n .pass e t = .nx e t := by rw [DL.run]
def kfz (i : Nat) (e : Ev) (w : W) (t : T) : Out := match w with
  | .own xs => .nx (e.set i (.d (.list xs))) t
  | _ => .bad
theorem kfz_ok (i : Nat) (e : Ev) (xs : List PyData) (t : T) : kfz i e (.own xs) t = .nx (e.set i (.d (.list xs))) t := rfl
theorem run_frz (i : Nat) (e : Ev) (t : T) : run F n (.frz i) e t = kfz i e (e.getD i .un) t := by rw [DL.run]; rfl
def kpp3 (d : PyData) (r : R (List PyData)) : R (List PyData) := r.bind fun ds t3 => .ok (d :: ds) t3
theorem kpp3_ok (d : PyData) (ds : List PyData) (t : T) : kpp3 d (.ok ds t) = .ok (d :: ds) t := rfl
def kpp2 (fl : List Bool) (as : List E) (e : Ev) (o : Option PyData) (t : T) : R (List PyData) := (optR o t).bind fun d t2 => kpp3 d (evP F fl as e t2)
theorem kpp2_ok (fl : List Bool) (as : List E) (e : Ev) (d : PyData) (t : T) : kpp2 F fl as e (some d) t = kpp3 d (evP F fl as e t) := rfl
def kpp1 (f : Bool) (fl : List Bool) (as : List E) (e : Ev) (r : R W) : R (List PyData) := r.bind fun w t1 => kpp2 F fl as e (w.flag f) t1
theorem kpp1_ok (f : Bool) (fl : List Bool) (as : List E) (e : Ev) (w : W) (t : T) : kpp1 F f fl as e (.ok w t) = kpp2 F fl as e (w.flag f) t := rfl
theorem kpp1_err (f : Bool) (fl : List Bool) (as : List E) (e : Ev) (k : Nat) (t : T) : kpp1 F f fl as e (.err k t) = .err k t := rfl
theorem evP_nil (e : Ev) (t : T) : evP F [] [] e t = .ok [] t := by rw [DL.evP]
theorem evP_cons (f : Bool) (fl : List Bool) (a : E) (as : List E) (e : Ev) (t : T) : evP F (f :: fl) (a :: as) e t = kpp1 F f fl as e (ev F a e t) := by rw [DL.evP]; rfl
theorem flag_t (xs : List PyData) : W.flag true (.d (.list xs)) = some (.list xs) := rfl
theorem flag_f (x : PyData) : W.flag false (.d x) = some x := rfl
theorem parE_nil (e : Ev) : parE [] [] e = some e := rfl
theorem parE_t (i : Nat) (ts : List (Nat × Bool)) (xs ds : List PyData) (e : Ev) : parE ((i, true) :: ts) (.list xs :: ds) e = parE ts ds (e.set i (.own xs)) := rfl
theorem parE_f (i : Nat) (ts : List (Nat × Bool)) (x : PyData) (ds : List PyData) (e : Ev) : parE ((i, false) :: ts) (x :: ds) e = parE ts ds (e.set i (.d x)) := rfl
def kpa (ts : List (Nat × Bool)) (e : Ev) (r : R (List PyData)) : Out := r.out fun xs t1 => kas2 (parE ts xs e) t1
theorem kpa_ok (ts : List (Nat × Bool)) (e : Ev) (xs : List PyData) (t : T) : kpa ts e (.ok xs t) = kas2 (parE ts xs e) t := rfl
theorem kpa_err (ts : List (Nat × Bool)) (e : Ev) (k : Nat) (t : T) : kpa ts e (.err k t) = .err k t := rfl
theorem run_par (ts : List (Nat × Bool)) (es : List E) (e : Ev) (t : T) : run F n (.par ts es) e t = kpa ts e (evP F (ts.map (·.2)) es e t) := by rw [DL.run]; rfl
def ktn (tg : Tg) (e : Ev) (w : W) (t : T) : Out := match w with
  | .tape => kas2 (bindT tg (.list t) e) t
  | _ => .bad
theorem ktn_ok (tg : Tg) (e : Ev) (t : T) : ktn tg e .tape t = kas2 (bindT tg (.list t) e) t := rfl
theorem run_tun (tg : Tg) (i : Nat) (e : Ev) (t : T) : run F n (.tun tg i) e t = ktn tg e (e.getD i .un) t := by rw [DL.run]; rfl
def kte4 (e : Ev) (x : PyData) (o : Option Nat) (t : T) : Out := match o with
  | some p => .nx e (t.set p x)
  | none => .bad
theorem kte4_ok (e : Ev) (x : PyData) (p : Nat) (t : T) : kte4 e x (some p) t = .nx e (t.set p x) := rfl
def kte3 (e : Ev) (w : W) (r : R W) : Out := r.out fun j t2 => match w, asInt j with
  | .d x, some z => kte4 e x (L2.ixN t2.length z) t2
  | _, _ => .bad
theorem kte3_ok (e : Ev) (x : PyData) (z : Int) (t : T) : kte3 e (.d x) (.ok (.d (.int z)) t) = kte4 e x (L2.ixN t.length z) t := rfl
def kte2 (k : E) (e : Ev) (r : R W) : Out := r.out fun w t1 => kte3 e w (ev F k e t1)
theorem kte2_ok (k : E) (e : Ev) (w : W) (t : T) : kte2 F k e (.ok w t) = kte3 e w (ev F k e t) := rfl
def kte1 (k a : E) (e : Ev) (w : W) (t : T) : Out := match w with
  | .tape => kte2 F k e (ev F a e t)
  | _ => .bad
theorem kte1_ok (k a : E) (e : Ev) (t : T) : kte1 F k a e .tape t = kte2 F k e (ev F a e t) := rfl
theorem run_tset (i : Nat) (k a : E) (e : Ev) (t : T) : run F n (.tset i k a) e t = kte1 F k a e (e.getD i .un) t := by rw [DL.run]; rfl
def kro (w : W) (t : T) : Out := match w with
  | .own xs => .ret (.fresh xs) t
  | _ => .bad
theorem kro_ok (xs : List PyData) (t : T) : kro (.own xs) t = .ret (.fresh xs) t := rfl
theorem run_retO (i : Nat) (e : Ev) (t : T) : run F n (.retO i) e t = kro (e.getD i .un) t := by rw [DL.run]; rfl
def kty2 (o : Option PyData) (t : T) : Out := match o with
  | some v => .ret (.d v) t
  | none => .bad
theorem kty2_ok (v : PyData) (t : T) : kty2 (some v) t = .ret (.d v) t := rfl
def kty (hs : List (Nat × PyData)) (o : Out) : Out := match o with
  | .err k t' => match hs.lookup k with
    | some v => .ret (.d v) t'
    | none => .bad
  | o => o
theorem kty_err (hs : List (Nat × PyData)) (k : Nat) (t : T) : kty hs (.err k t) = kty2 (hs.lookup k) t := rfl
theorem kty_ret (hs : List (Nat × PyData)) (w : W) (t : T) : kty hs (.ret w t) = .ret w t := rfl
theorem kty_nx (hs : List (Nat × PyData)) (e : Ev) (t : T) : kty hs (.nx e t) = .nx e t := rfl
theorem run_tryr (body : List S) (hs : List (Nat × PyData)) (e : Ev) (t : T) : run F n (.tryr body hs) e t = kty hs (runs F n body e t) := by rw [DL.run]; rfl
def kth (ss : List S) (o : Out) : Out := o.andThen (runs F n ss)
theorem runs_nil (e : Ev) (t : T) : runs F n [] e t = .nx e t := by rw [DL.runs]
theorem runs_cons (s : S) (ss : List S) (e : Ev) (t : T) : runs F n (s :: ss) e t = kth F n ss (run F n s e t) := by rw [DL.runs]; rfl
theorem kth_nx (ss : List S) (e : Ev) (t : T) : kth F n ss (.nx e t) = runs F n ss e t := rfl
theorem kth_ret (ss : List S) (w : W) (t : T) : kth F n ss (.ret w t) = .ret w t := rfl
theorem kth_cnt (ss : List S) (e : Ev) (t : T) : kth F n ss (.cnt e t) = .cnt e t := rfl
theorem kth_brk (ss : List S) (e : Ev) (t : T) : kth F n ss (.brk e t) = .brk e t := rfl
theorem kth_err (ss : List S) (k : Nat) (t : T) : kth F n ss (.err k t) = .err k t := rfl
def kcr4 (y : PyData) (r : R (List PyData)) : R (List PyData) := r.bind fun ys t3 => .ok (y :: ys) t3
theorem kcr4_ok (y : PyData) (ys : List PyData) (t : T) : kcr4 y (.ok ys t) = .ok (y :: ys) t := rfl
def kcr3 (bnd : PyData → Ev → Option Ev) (cond : Ev → T → R Bool) (elt : Ev → T → R W) (e0 : Ev) (xs : List PyData) (r : R W) : R (List PyData) := r.bind fun w t2 => match w with
  | .d y => kcr4 y (compRun bnd cond elt e0 xs t2)
  | _ => .bad
theorem kcr3_ok (bnd : PyData → Ev → Option Ev) (cond : Ev → T → R Bool) (elt : Ev → T → R W) (e0 : Ev) (xs : List PyData) (y : PyData) (t : T) : kcr3 bnd cond elt e0 xs (.ok (.d y) t) = kcr4 y (compRun bnd cond elt e0 xs t) := rfl
def kcr2 (bnd : PyData → Ev → Option Ev) (cond : Ev → T → R Bool) (elt : Ev → T → R W) (e0 : Ev) (xs : List PyData) (e : Ev) (r : R Bool) : R (List PyData) := r.bind fun b t1 => if b then kcr3 bnd cond elt e0 xs (elt e t1) else compRun bnd cond elt e0 xs t1
theorem kcr2_t (bnd : PyData → Ev → Option Ev) (cond : Ev → T → R Bool) (elt : Ev → T → R W) (e0 : Ev) (xs : List PyData) (e : Ev) (t : T) : kcr2 bnd cond elt e0 xs e (.ok true t) = kcr3 bnd cond elt e0 xs (elt e t) := rfl
theorem kcr2_f (bnd : PyData → Ev → Option Ev) (cond : Ev → T → R Bool) (elt : Ev → T → R W) (e0 : Ev) (xs : List PyData) (e : Ev) (t : T) : kcr2 bnd cond elt e0 xs e (.ok false t) = compRun bnd cond elt e0 xs t := rfl
def kcr1 (bnd : PyData → Ev → Option Ev) (cond : Ev → T → R Bool) (elt : Ev → T → R W) (e0 : Ev) (xs : List PyData) (o : Option Ev) (t : T) : R (List PyData) := match o with
  | none => .bad
  | some e => kcr2 bnd cond elt e0 xs e (cond e t)
theorem kcr1_ok (bnd : PyData → Ev → Option Ev) (cond : Ev → T → R Bool) (elt : Ev → T → R W) (e0 : Ev) (xs : List PyData) (e : Ev) (t : T) : kcr1 bnd cond elt e0 xs (some e) t = kcr2 bnd cond elt e0 xs e (cond e t) := rfl
theorem cr_nil (bnd : PyData → Ev → Option Ev) (cond : Ev → T → R Bool) (elt : Ev → T → R W) (e0 : Ev) (t : T) : compRun bnd cond elt e0 [] t = .ok [] t := rfl
theorem cr_cons (bnd : PyData → Ev → Option Ev) (cond : Ev → T → R Bool) (elt : Ev → T → R W) (e0 : Ev) (x : PyData) (xs : List PyData) (t : T) : compRun bnd cond elt e0 (x :: xs) t = kcr1 bnd cond elt e0 xs (bnd x e0) t := rfl
def kqa3 (bnd : PyData → Ev → Option Ev) (cond : Ev → T → R Bool) (elt : Ev → T → R W) (e0 : Ev) (xs : List PyData) (r : R W) : R Bool := r.bind fun w t2 => match w with
  | .d (.bool c) => if c = false then .ok false t2 else quantRun false bnd cond elt e0 xs t2
  | _ => .bad
theorem kqa3_1 (bnd : PyData → Ev → Option Ev) (cond : Ev → T → R Bool) (elt : Ev → T → R W) (e0 : Ev) (xs : List PyData) (t : T) : kqa3 bnd cond elt e0 xs (.ok (.d (.bool true)) t) = quantRun false bnd cond elt e0 xs t := rfl
theorem kqa3_2 (bnd : PyData → Ev → Option Ev) (cond : Ev → T → R Bool) (elt : Ev → T → R W) (e0 : Ev) (xs : List PyData) (t : T) : kqa3 bnd cond elt e0 xs (.ok (.d (.bool false)) t) = .ok false t := rfl
def kqa2 (bnd : PyData → Ev → Option Ev) (cond : Ev → T → R Bool) (elt : Ev → T → R W) (e0 : Ev) (xs : List PyData) (e : Ev) (r : R Bool) : R Bool := r.bind fun b t1 => if b then kqa3 bnd cond elt e0 xs (elt e t1) else quantRun false bnd cond elt e0 xs t1
theorem kqa2_t (bnd : PyData → Ev → Option Ev) (cond : Ev → T → R Bool) (elt : Ev → T → R W) (e0 : Ev) (xs : List PyData) (e : Ev) (t : T) : kqa2 bnd cond elt e0 xs e (.ok true t) = kqa3 bnd cond elt e0 xs (elt e t) := rfl
theorem kqa2_f (bnd : PyData → Ev → Option Ev) (cond : Ev → T → R Bool) (elt : Ev → T → R W) (e0 : Ev) (xs : List PyData) (e : Ev) (t : T) : kqa2 bnd cond elt e0 xs e (.ok false t) = quantRun false bnd cond elt e0 xs t := rfl
def kqa1 (bnd : PyData → Ev → Option Ev) (cond : Ev → T → R Bool) (elt : Ev → T → R W) (e0 : Ev) (xs : List PyData) (o : Option Ev) (t : T) : R Bool := match o with
  | none => .bad
  | some e => kqa2 bnd cond elt e0 xs e (cond e t)
theorem kqa1_ok (bnd : PyData → Ev → Option Ev) (cond : Ev → T → R Bool) (elt : Ev → T → R W) (e0 : Ev) (xs : List PyData) (e : Ev) (t : T) : kqa1 bnd cond elt e0 xs (some e) t = kqa2 bnd cond elt e0 xs e (cond e t) := rfl
theorem qra_nil (bnd : PyData → Ev → Option Ev) (cond : Ev → T → R Bool) (elt : Ev → T → R W) (e0 : Ev) (t : T) : quantRun false bnd cond elt e0 [] t = .ok (!false) t := rfl
theorem qra_cons (bnd : PyData → Ev → Option Ev) (cond : Ev → T → R Bool) (elt : Ev → T → R W) (e0 : Ev) (x : PyData) (xs : List PyData) (t : T) : quantRun false bnd cond elt e0 (x :: xs) t = kqa1 bnd cond elt e0 xs (bnd x e0) t := rfl
def kqo3 (bnd : PyData → Ev → Option Ev) (cond : Ev → T → R Bool) (elt : Ev → T → R W) (e0 : Ev) (xs : List PyData) (r : R W) : R Bool := r.bind fun w t2 => match w with
  | .d (.bool c) => if c = true then .ok true t2 else quantRun true bnd cond elt e0 xs t2
  | _ => .bad
theorem kqo3_1 (bnd : PyData → Ev → Option Ev) (cond : Ev → T → R Bool) (elt : Ev → T → R W) (e0 : Ev) (xs : List PyData) (t : T) : kqo3 bnd cond elt e0 xs (.ok (.d (.bool false)) t) = quantRun true bnd cond elt e0 xs t := rfl
theorem kqo3_2 (bnd : PyData → Ev → Option Ev) (cond : Ev → T → R Bool) (elt : Ev → T → R W) (e0 : Ev) (xs : List PyData) (t : T) : kqo3 bnd cond elt e0 xs (.ok (.d (.bool true)) t) = .ok true t := rfl
def kqo2 (bnd : PyData → Ev → Option Ev) (cond : Ev → T → R Bool) (elt : Ev → T → R W) (e0 : Ev) (xs : List PyData) (e : Ev) (r : R Bool) : R Bool := r.bind fun b t1 => if b then kqo3 bnd cond elt e0 xs (elt e t1) else quantRun true bnd cond elt e0 xs t1
theorem kqo2_t (bnd : PyData → Ev → Option Ev) (cond : Ev → T → R Bool) (elt : Ev → T → R W) (e0 : Ev) (xs : List PyData) (e : Ev) (t : T) : kqo2 bnd cond elt e0 xs e (.ok true t) = kqo3 bnd cond elt e0 xs (elt e t) := rfl
theorem kqo2_f (bnd : PyData → Ev → Option Ev) (cond : Ev → T → R Bool) (elt : Ev → T → R W) (e0 : Ev) (xs : List PyData) (e : Ev) (t : T) : kqo2 bnd cond elt e0 xs e (.ok false t) = quantRun true bnd cond elt e0 xs t := rfl
def kqo1 (bnd : PyData → Ev → Option Ev) (cond : Ev → T → R Bool) (elt : Ev → T → R W) (e0 : Ev) (xs : List PyData) (o : Option Ev) (t : T) : R Bool := match o with
  | none => .bad
  | some e => kqo2 bnd cond elt e0 xs e (cond e t)
theorem kqo1_ok (bnd : PyData → Ev → Option Ev) (cond : Ev → T → R Bool) (elt : Ev → T → R W) (e0 : Ev) (xs : List PyData) (e : Ev) (t : T) : kqo1 bnd cond elt e0 xs (some e) t = kqo2 bnd cond elt e0 xs e (cond e t) := rfl
theorem qro_nil (bnd : PyData → Ev → Option Ev) (cond : Ev → T → R Bool) (elt : Ev → T → R W) (e0 : Ev) (t : T) : quantRun true bnd cond elt e0 [] t = .ok (!true) t := rfl
theorem qro_cons (bnd : PyData → Ev → Option Ev) (cond : Ev → T → R Bool) (elt : Ev → T → R W) (e0 : Ev) (x : PyData) (xs : List PyData) (t : T) : quantRun true bnd cond elt e0 (x :: xs) t = kqo1 bnd cond elt e0 xs (bnd x e0) t := rfl
def kfr2 (bnd : PyData → Ev → Option Ev) (body : Ev → T → Out) (xs : List PyData) (o : Out) : Out := match o with
  | .nx e2 t2 => forRun bnd body xs e2 t2
  | .cnt e2 t2 => forRun bnd body xs e2 t2
  | .brk e2 t2 => .nx e2 t2
  | o => o
theorem kfr2_nx (bnd : PyData → Ev → Option Ev) (body : Ev → T → Out) (xs : List PyData) (e : Ev) (t : T) : kfr2 bnd body xs (.nx e t) = forRun bnd body xs e t := rfl
theorem kfr2_cnt (bnd : PyData → Ev → Option Ev) (body : Ev → T → Out) (xs : List PyData) (e : Ev) (t : T) : kfr2 bnd body xs (.cnt e t) = forRun bnd body xs e t := rfl
theorem kfr2_brk (bnd : PyData → Ev → Option Ev) (body : Ev → T → Out) (xs : List PyData) (e : Ev) (t : T) : kfr2 bnd body xs (.brk e t) = .nx e t := rfl
theorem kfr2_ret (bnd : PyData → Ev → Option Ev) (body : Ev → T → Out) (xs : List PyData) (w : W) (t : T) : kfr2 bnd body xs (.ret w t) = .ret w t := rfl
theorem kfr2_err (bnd : PyData → Ev → Option Ev) (body : Ev → T → Out) (xs : List PyData) (k : Nat) (t : T) : kfr2 bnd body xs (.err k t) = .err k t := rfl
def kfr1 (bnd : PyData → Ev → Option Ev) (body : Ev → T → Out) (xs : List PyData) (o : Option Ev) (t : T) : Out := match o with
  | none => .bad
  | some e1 => kfr2 bnd body xs (body e1 t)
theorem kfr1_ok (bnd : PyData → Ev → Option Ev) (body : Ev → T → Out) (xs : List PyData) (e : Ev) (t : T) : kfr1 bnd body xs (some e) t = kfr2 bnd body xs (body e t) := rfl
theorem fr_nil (bnd : PyData → Ev → Option Ev) (body : Ev → T → Out) (e : Ev) (t : T) : forRun bnd body [] e t = .nx e t := rfl
theorem fr_cons (bnd : PyData → Ev → Option Ev) (body : Ev → T → Out) (x : PyData) (xs : List PyData) (e : Ev) (t : T) : forRun bnd body (x :: xs) e t = kfr1 bnd body xs (bnd x e) t := rfl
end DL.S
namespace K55
open PySem PySem.Spec PyProof.Rows L2 DL
def top (i : Nat) : Stmt := PySem.Challenge.rw_sawheld_k55_whole_chairs_on_floors.prog.main.body.getD i (.Pass ⟨0, 0, 0, 0⟩)
def x__law_open : Tx := ⟨"_law_open", "_law_open", top 22, ["script", "cells", "cell"], ["script"], false⟩
theorem b__law_open : Bnd x__law_open := fun _ _ _ _ _ _ us hl => match us, hl with | [_], _ => rfl
def c__law_open : Df := ⟨1, 3, [.own 1 (.comp (.blt .abs [.blt .int [.var 2]]) (.nm 2) (.seq (.slc (.var 0) .omit (.lit (.int 63)))) [] [2]), .frz 1, .retF (.lst [.lit (.int 0), .lit (.int 0), .bin .add (.var 1) (.lst [.lit (.int 0)])])]⟩
def x__law_tops : Tx := ⟨"_law_tops", "_law_tops", top 28, ["chair", "floor", "turn", "k"], ["chair", "floor", "turn"], false⟩
theorem b__law_tops : Bnd x__law_tops := fun _ _ _ _ _ _ us hl => match us, hl with | [_, _, _], _ => rfl
def c__law_tops : Df := ⟨3, 4, [.retF (.comp (.bin .add (.idx (.var 0) (.var 3)) (.idx (.bin .add (.var 1) (.var 1)) (.bin .add (.var 3) (.var 2)))) (.nm 3) (.rng1 (.lit (.int 4))) [] [3])]⟩
def x_is_number : Tx := ⟨"is_number", "is_number", top 8, ["value", "least", "most"], ["value", "least", "most"], false⟩
theorem b_is_number : Bnd x_is_number := fun _ _ _ _ _ _ us hl => match us, hl with | [_, _, _], _ => rfl
def c_is_number : Df := ⟨3, 3, [.ret (.and (.isa (.var 0) .int) (.and (.not (.isa (.var 0) .bool)) (.chain .le .le (.var 1) (.var 0) (.var 2))))]⟩
def x_apart : Tx := ⟨"apart", "apart", top 17, ["chair", "floor", "turn", "tops", "leg", "long"], ["chair", "floor", "turn"], false⟩
theorem b_apart : Bnd x_apart := fun _ _ _ _ _ _ us hl => match us, hl with | [_, _, _], _ => rfl
def c_apart : Df := ⟨3, 6, [.ifs (.not (.call 2 [.var 2, .lit (.int 0), .bin .sub (.glob (.int 4)) (.lit (.int 1))])) [.raise 0] [], .own 3 (.comp (.bin .add (.var 5) (.idx (.var 1) (.bin .mod (.blt .int [.bin .add (.var 4) (.var 2)]) (.glob (.int 4))))) (.tup [.nm 4, .nm 5]) (.enum (.var 0)) [] [4, 5]), .frz 3, .ret (.bin .sub (.bin .sub (.bin .add (.idx (.var 3) (.lit (.int 0))) (.idx (.var 3) (.lit (.int 2)))) (.idx (.var 3) (.lit (.int 1)))) (.idx (.var 3) (.lit (.int 3))))]⟩
def x_does_stand : Tx := ⟨"does_stand", "does_stand", top 18, ["chair", "floor", "turn"], ["chair", "floor", "turn"], false⟩
theorem b_does_stand : Bnd x_does_stand := fun _ _ _ _ _ _ us hl => match us, hl with | [_, _, _], _ => rfl
def c_does_stand : Df := ⟨3, 3, [.ret (.cmp .eq (.call 3 [.var 0, .var 1, .var 2]) (.lit (.int 0)))]⟩
def x_told_trims : Tx := ⟨"told_trims", "told_trims", top 19, ["chair", "floor", "turn", "more"], ["chair", "floor", "turn"], false⟩
theorem b_told_trims : Bnd x_told_trims := fun _ _ _ _ _ _ us hl => match us, hl with | [_, _, _], _ => rfl
def c_told_trims : Df := ⟨3, 4, [.asg (.nm 3) (.call 3 [.var 0, .var 1, .var 2]), .ret (.ite (.cmp .gt (.var 3) (.lit (.int 0))) (.tup [.lit (.int 0), .lit (.int 0), .var 3, .lit (.int 0)]) (.tup [.lit (.int 0), .lit (.int 0), .lit (.int 0), .neg (.var 3)]))]⟩
def x__law_asked : Tx := ⟨"_law_asked", "_law_asked", top 30, ["what", "chair", "floor", "turn", "error"], ["what", "chair", "floor", "turn"], false⟩
theorem b__law_asked : Bnd x__law_asked := fun _ _ _ _ _ _ us hl => match us, hl with | [_, _, _, _], _ => rfl
def c__law_asked : Df := ⟨4, 5, [.tryr [.ret (.ite (.cmp .eq (.var 0) (.lit (.int 0))) (.call 4 [.var 1, .var 2, .var 3]) (.call 5 [.var 1, .var 2, .var 3]))] [(0, .str "OutOfRange")]]⟩
def x__law_mixed : Tx := ⟨"_law_mixed", "_law_mixed", top 23, ["cell", "turn", "number"], ["cell", "turn"], false⟩
theorem b__law_mixed : Bnd x__law_mixed := fun _ _ _ _ _ _ us hl => match us, hl with | [_, _], _ => rfl
def c__law_mixed : Df := ⟨2, 3, [.asg (.nm 2) (.bin .mod (.bin .add (.bin .add (.bin .mul (.bin .mod (.var 0) (.bin .sub (.bin .pow (.lit (.int 2)) (.lit (.int 61))) (.lit (.int 1)))) (.lit (.int 6364136223846793005))) (.bin .mul (.var 1) (.lit (.int 1442695040888963407)))) (.lit (.int 97))) (.bin .pow (.lit (.int 2)) (.lit (.int 61)))), .asg (.nm 2) (.bin .mod (.bin .mul (.bin .bxor (.var 2) (.bin .shr (.var 2) (.lit (.int 29)))) (.lit (.int 3935559000370003845))) (.bin .pow (.lit (.int 2)) (.lit (.int 61)))), .ret (.bin .mod (.bin .mul (.bin .bxor (.var 2) (.bin .shr (.var 2) (.lit (.int 31)))) (.lit (.int 2862933555777941757))) (.bin .pow (.lit (.int 2)) (.lit (.int 61))))]⟩
def x__law_draw : Tx := ⟨"_law_draw", "_law_draw", top 24, ["draws", "size", "turn", "left", "cells", "cell"], ["draws", "size"], false⟩
theorem b__law_draw : Bnd x__law_draw := fun _ _ _ _ _ _ us hl => match us, hl with | [_, _], _ => rfl
def c__law_draw : Df := ⟨2, 6, [.tun (.tup [.nm 2, .nm 3, .nm 4]) 0, .ifs (.cmp .lt (.var 3) (.var 1)) [.asg (.nm 5) (.idx (.var 4) (.bin .mod (.var 2) (.blt .len [.var 4]))), .asg (.nm 3) (.ite (.and (.cmp .lt (.var 2) (.blt .len [.var 4])) (.cmp .ge (.var 5) (.bin .pow (.lit (.int 10)) (.lit (.int 18))))) (.var 5) (.call 7 [.var 5, .var 2])), .asg (.nm 2) (.bin .add (.var 2) (.lit (.int 1)))] [], .tset 0 (.lit (.int 0)) (.var 2), .tset 0 (.lit (.int 1)) (.bin .fdiv (.var 3) (.var 1)), .ret (.bin .mod (.var 3) (.var 1))]⟩
def x_are_four : Tx := ⟨"are_four", "are_four", top 14, ["value", "low", "high", "one"], ["value", "low", "high"], true⟩
theorem b_are_four : Bnd x_are_four := fun _ _ _ _ _ _ us hl => match us, hl with | [_, _, _], _ => rfl
def c_are_four : Df := ⟨3, 4, [.ret (.and (.isa (.var 0) .tuple) (.and (.cmp .eq (.blt .len [.var 0]) (.glob (.int 4))) (.gen .all (.call 2 [.var 3, .var 1, .var 2]) (.nm 3) (.seq (.var 0)) [] [3])))]⟩
def x_is_chair : Tx := ⟨"is_chair", "is_chair", top 15, ["value"], ["value"], false⟩
theorem b_is_chair : Bnd x_is_chair := fun _ _ _ _ _ _ us hl => match us, hl with | [_], _ => rfl
def c_is_chair : Df := ⟨1, 1, [.ret (.call 9 [.var 0, .glob (.int 100), .glob (.int 999)])]⟩
def x_is_floor : Tx := ⟨"is_floor", "is_floor", top 16, ["value"], ["value"], false⟩
theorem b_is_floor : Bnd x_is_floor := fun _ _ _ _ _ _ us hl => match us, hl with | [_], _ => rfl
def c_is_floor : Df := ⟨1, 1, [.ret (.call 9 [.var 0, .lit (.int 0), .glob (.int 99)])]⟩
def x_best_turn : Tx := ⟨"best_turn", "best_turn", top 20, ["chair", "floor", "turn"], ["chair", "floor"], false⟩
theorem b_best_turn : Bnd x_best_turn := fun _ _ _ _ _ _ us hl => match us, hl with | [_, _], _ => rfl
def c_best_turn : Df := ⟨2, 3, [.ret (.idx (.blt .min [.comp (.tup [.blt .abs [.call 3 [.var 0, .var 1, .var 2]], .var 2]) (.nm 2) (.rng1 (.glob (.int 4))) [] [2]]) (.lit (.int 1)))]⟩
def x__law_int : Tx := ⟨"_law_int", "_law_int", top 26, ["value"], ["value"], false⟩
theorem b__law_int : Bnd x__law_int := fun _ _ _ _ _ _ us hl => match us, hl with | [_], _ => rfl
def c__law_int : Df := ⟨1, 1, [.ret (.and (.isa (.var 0) .int) (.not (.isa (.var 0) .bool)))]⟩
def x__law_same : Tx := ⟨"_law_same", "_law_same", top 27, ["told", "due"], ["told", "due"], false⟩
theorem b__law_same : Bnd x__law_same := fun _ _ _ _ _ _ us hl => match us, hl with | [_, _], _ => rfl
def c__law_same : Df := ⟨2, 2, [.ret (.ite (.var 1) (.cmp .is (.var 0) (.lit (.bool true))) (.cmp .is (.var 0) (.lit (.bool false))))]⟩
def x__law_trims : Tx := ⟨"_law_trims", "_law_trims", top 29, ["apart_v", "rows", "a", "b", "c", "d"], ["apart_v"], false⟩
theorem b__law_trims : Bnd x__law_trims := fun _ _ _ _ _ _ us hl => match us, hl with | [_], _ => rfl
def c__law_trims : Df := ⟨1, 6, [.asg (.nm 1) (.lst []), .forr (.nm 2) (.rng1 (.bin .add (.var 0) (.lit (.int 1)))) [.forr (.nm 3) (.rng1 (.bin .add (.var 0) (.lit (.int 1)))) [.forr (.nm 4) (.rng1 (.bin .add (.var 0) (.lit (.int 1)))) [.asg (.nm 1) (.bin .add (.var 1) (.comp (.tup [.var 2, .var 3, .var 4, .var 5]) (.nm 5) (.rng1 (.bin .add (.var 0) (.lit (.int 1)))) [.cmp .le (.bin .add (.bin .add (.bin .add (.var 2) (.var 3)) (.var 4)) (.var 5)) (.var 0)] [5]))]]], .ret (.var 1)]⟩
def x_law : Tx := ⟨"law", "law", top 31, ["script", "draws", "wide", "base", "chair", "floor", "wrong", "marks", "turn", "tops", "more", "apart_v", "trims", "legs", "good", "alike", "words", "what", "k", "value", "one", "row"], ["script"], false⟩
theorem b_law : Bnd x_law := fun _ _ _ _ _ _ us hl => match us, hl with | [_], _ => rfl
def l_law : Lw := ⟨1, (.callF 0 [.var 0]), [.par [(2, false), (3, false)] [.idx (.lst [.lit (.int 2), .lit (.int 4), .lit (.int 200)]) (.call 8 [.var 1, .lit (.int 3)]), .bin .add (.lit (.int 100)) (.call 8 [.var 1, .lit (.int 700)])], .asg (.nm 4) (.blt .tuple [.comp (.bin .add (.var 3) (.call 8 [.var 1, .var 2])) (.nm 18) (.rng1 (.lit (.int 4))) [] [18]]), .asg (.nm 5) (.blt .tuple [.comp (.call 8 [.var 1, .idx (.lst [.lit (.int 1), .lit (.int 3), .lit (.int 100)]) (.call 8 [.var 1, .lit (.int 3)])]) (.nm 18) (.rng1 (.lit (.int 4))) [] [18]]), .asg (.nm 6) (.lst [.lit .none, .tup [], .slc (.var 4) .omit (.lit (.int 3)), .bin .add (.var 4) (.slc (.var 4) .omit (.lit (.int 1))), .blt .list [.var 4], .bin .add (.slc (.var 4) .omit (.lit (.int 3))) (.tup [.lit (.int 99)]), .bin .add (.slc (.var 4) .omit (.lit (.int 3))) (.tup [.lit (.int 1000)]), .bin .add (.slc (.var 4) .omit (.lit (.int 3))) (.tup [.lit (.bool true)]), .bin .add (.slc (.var 4) .omit (.lit (.int 3))) (.tup [.lit .none]), .bin .add (.tup [.lit (.str "500")]) (.slc (.var 4) (.lit (.int 1)) .omit), .lit (.int 5)]), .ifs (.or (.cmp .isnot (.call 10 [.var 4]) (.lit (.bool true))) (.or (.cmp .isnot (.call 10 [.tup [.lit (.int 999), .lit (.int 100), .lit (.int 999), .lit (.int 100)]]) (.lit (.bool true))) (.cmp .ne (.comp (.var 19) (.nm 19) (.seq (.var 6)) [.cmp .isnot (.call 10 [.var 19]) (.lit (.bool false))] [19]) (.lst [])))) [.ret (.lit (.bool false))] [], .asg (.nm 6) (.lst [.lit .none, .tup [], .slc (.var 5) .omit (.lit (.int 3)), .bin .add (.var 5) (.slc (.var 5) .omit (.lit (.int 1))), .blt .list [.var 5], .bin .add (.slc (.var 5) .omit (.lit (.int 3))) (.tup [.neg (.lit (.int 1))]), .bin .add (.slc (.var 5) .omit (.lit (.int 3))) (.tup [.lit (.int 100)]), .bin .add (.slc (.var 5) .omit (.lit (.int 3))) (.tup [.lit (.bool true)]), .bin .add (.slc (.var 5) .omit (.lit (.int 3))) (.tup [.lit .none]), .bin .add (.tup [.lit (.str "1")]) (.slc (.var 5) (.lit (.int 1)) .omit), .lit (.int 5)]), .ifs (.or (.cmp .isnot (.call 11 [.var 5]) (.lit (.bool true))) (.or (.cmp .isnot (.call 11 [.tup [.lit (.int 99), .lit (.int 0), .lit (.int 99), .lit (.int 0)]]) (.lit (.bool true))) (.cmp .ne (.comp (.var 19) (.nm 19) (.seq (.var 6)) [.cmp .isnot (.call 11 [.var 19]) (.lit (.bool false))] [19]) (.lst [])))) [.ret (.lit (.bool false))] [], .own 7 (.lst []), .forr (.nm 8) (.rng1 (.lit (.int 4))) [.asg (.nm 9) (.call 1 [.var 4, .var 5, .var 8]), .asg (.nm 10) (.bin .sub (.bin .sub (.bin .add (.idx (.var 9) (.lit (.int 0))) (.idx (.var 9) (.lit (.int 2)))) (.idx (.var 9) (.lit (.int 1)))) (.idx (.var 9) (.lit (.int 3)))), .asg (.nm 11) (.ite (.cmp .gt (.var 10) (.lit (.int 0))) (.var 10) (.neg (.var 10))), .asg (.nm 12) (.call 6 [.lit (.int 1), .var 4, .var 5, .var 8]), .ifs (.or (.not (.call 14 [.call 6 [.lit (.int 0), .var 4, .var 5, .var 8], .cmp .eq (.var 11) (.lit (.int 0))])) (.or (.not (.isa (.var 12) .tuple)) (.or (.cmp .ne (.blt .len [.var 12]) (.lit (.int 4))) (.or (.cmp .ne (.comp (.var 20) (.nm 20) (.seq (.var 12)) [.or (.not (.call 13 [.var 20])) (.cmp .lt (.var 20) (.lit (.int 0)))] [20]) (.lst [])) (.cmp .ne (.blt .sum [.var 12]) (.var 11)))))) [.ret (.lit (.bool false))] [], .own 13 (.comp (.bin .sub (.idx (.var 9) (.var 18)) (.idx (.var 12) (.var 18))) (.nm 18) (.rng1 (.lit (.int 4))) [] [18]), .frz 13, .ifs (.or (.cmp .ne (.bin .add (.idx (.var 13) (.lit (.int 0))) (.idx (.var 13) (.lit (.int 2)))) (.bin .add (.idx (.var 13) (.lit (.int 1))) (.idx (.var 13) (.lit (.int 3))))) (.or (.cmp .ne (.idx (.var 12) (.lit (.int 0))) (.lit (.int 0))) (.cmp .ne (.idx (.var 12) (.lit (.int 1))) (.lit (.int 0))))) [.ret (.lit (.bool false))] [], .ifs (.cmp .lt (.var 11) (.lit (.int 6))) [.own 14 (.comp (.tup [.blt .sum [.var 21], .var 21]) (.nm 21) (.seq (.call 15 [.var 11])) [.cmp .eq (.bin .sub (.bin .add (.bin .sub (.idx (.var 9) (.lit (.int 0))) (.idx (.var 21) (.lit (.int 0)))) (.idx (.var 9) (.lit (.int 2)))) (.idx (.var 21) (.lit (.int 2)))) (.bin .sub (.bin .add (.bin .sub (.idx (.var 9) (.lit (.int 1))) (.idx (.var 21) (.lit (.int 1)))) (.idx (.var 9) (.lit (.int 3)))) (.idx (.var 21) (.lit (.int 3))))] [21]), .frz 14, .ifs (.cmp .ne (.var 12) (.idx (.blt .min [.var 14]) (.lit (.int 1)))) [.ret (.lit (.bool false))] []] [], .app 7 (.tup [.var 11, .var 8])], .ifs (.or (.cmp .ne (.call 12 [.var 4, .var 5]) (.idx (.blt .min [.var 7]) (.lit (.int 1)))) (.or (.not (.call 13 [.call 12 [.var 4, .var 5]])) (.or (.cmp .ne (.idx (.idx (.var 7) (.lit (.int 0))) (.lit (.int 0))) (.idx (.idx (.var 7) (.lit (.int 2))) (.lit (.int 0)))) (.cmp .ne (.idx (.idx (.var 7) (.lit (.int 1))) (.lit (.int 0))) (.idx (.idx (.var 7) (.lit (.int 3))) (.lit (.int 0))))))) [.ret (.lit (.bool false))] [], .asg (.nm 15) (.bin .mul (.tup [.var 3]) (.lit (.int 4))), .ifs (.cmp .ne (.comp (.var 8) (.nm 8) (.rng1 (.lit (.int 4))) [.not (.call 14 [.call 4 [.var 15, .var 5, .var 8], .cmp .eq (.bin .add (.idx (.var 5) (.lit (.int 0))) (.idx (.var 5) (.lit (.int 2)))) (.bin .add (.idx (.var 5) (.lit (.int 1))) (.idx (.var 5) (.lit (.int 3))))])] [8]) (.lst [])) [.ret (.lit (.bool false))] [], .asg (.nm 16) (.lst []), .forr (.nm 17) (.rng1 (.lit (.int 2))) [.asg (.nm 16) (.bin .add (.var 16) (.comp (.call 6 [.var 17, .var 4, .var 5, .var 20]) (.nm 20) (.seq (.tup [.neg (.lit (.int 1)), .lit (.int 4)])) [] [20]))], .ret (.cmp .eq (.var 16) (.bin .mul (.lst [.lit (.str "OutOfRange")]) (.lit (.int 4))))], 22⟩
def x__law_told : Tx := ⟨"_law_told", "_law_told", top 25, ["error", "kinds", "names", "name", "true"], ["error"], false⟩
theorem b__law_told : Bnd x__law_told := fun _ _ _ _ _ _ us hl => match us, hl with | [_], _ => rfl
def M : Mo := ⟨[("_law_open", 0), ("_law_tops", 1), ("is_number", 2), ("apart", 3), ("does_stand", 4), ("told_trims", 5), ("_law_asked", 6), ("_law_mixed", 7), ("_law_draw", 8), ("are_four", 9), ("is_chair", 10), ("is_floor", 11), ("best_turn", 12), ("_law_int", 13), ("_law_same", 14), ("_law_trims", 15)], [("LEGS", (.int 4)), ("LONGEST", (.int 999)), ("MOST_FLOOR", (.int 99)), ("SHORTEST", (.int 100))], ["abs", "all", "bool", "enumerate", "int", "isinstance", "len", "list", "min", "range", "sum", "tuple"], [("OutOfRange", 0)], [("Malformed", []), ("NotThere", []), ("OutOfRange", [0]), ("Refused", []), ("SawError", [0]), ("TooMuch", [])], [("_law_told", [(0, .str "OutOfRange")])]⟩
def Q : Lk := ⟨M, [x__law_open, x__law_tops, x_is_number, x_apart, x_does_stand, x_told_trims, x__law_asked, x__law_mixed, x__law_draw, x_are_four, x_is_chair, x_is_floor, x_best_turn, x__law_int, x__law_same, x__law_trims, x__law_told], [c__law_open, c__law_tops, c_is_number, c_apart, c_does_stand, c_told_trims, c__law_asked, c__law_mixed, c__law_draw, c_are_four, c_is_chair, c_is_floor, c_best_turn, c__law_int, c__law_same, c__law_trims], x_law, l_law, 3, 60⟩
theorem k__law_open : txOk M 3 60 x__law_open c__law_open = true := by decide +kernel
theorem k__law_tops : txOk M 3 60 x__law_tops c__law_tops = true := by decide +kernel
theorem k_is_number : txOk M 3 60 x_is_number c_is_number = true := by decide +kernel
theorem k_apart : txOk M 3 60 x_apart c_apart = true := by decide +kernel
theorem k_does_stand : txOk M 3 60 x_does_stand c_does_stand = true := by decide +kernel
theorem k_told_trims : txOk M 3 60 x_told_trims c_told_trims = true := by decide +kernel
theorem k__law_asked : txOk M 3 60 x__law_asked c__law_asked = true := by decide +kernel
theorem k__law_mixed : txOk M 3 60 x__law_mixed c__law_mixed = true := by decide +kernel
theorem k__law_draw : txOk M 3 60 x__law_draw c__law_draw = true := by decide +kernel
theorem k_are_four : txOk M 3 60 x_are_four c_are_four = true := by decide +kernel
theorem k_is_chair : txOk M 3 60 x_is_chair c_is_chair = true := by decide +kernel
theorem k_is_floor : txOk M 3 60 x_is_floor c_is_floor = true := by decide +kernel
theorem k_best_turn : txOk M 3 60 x_best_turn c_best_turn = true := by decide +kernel
theorem k__law_int : txOk M 3 60 x__law_int c__law_int = true := by decide +kernel
theorem k__law_same : txOk M 3 60 x__law_same c__law_same = true := by decide +kernel
theorem k__law_trims : txOk M 3 60 x__law_trims c__law_trims = true := by decide +kernel
theorem k_law : lawOk M 3 60 x_law l_law = true := by decide +kernel
theorem ok : Q.ok = true := by decide +kernel
theorem hotOk : HotAll Q := fun P w K mg base cs E x tab e => by
  have m := look_mem e
  rcases List.mem_cons.mp m with m | m
  · cases m
    obtain ⟨f, h1, h2⟩ := E.fns x__law_told (by show _ ∈ [x__law_open, x__law_tops, x_is_number, x_apart, x_does_stand, x_told_trims, x__law_asked, x__law_mixed, x__law_draw, x_are_four, x_is_chair, x_is_floor, x_best_turn, x__law_int, x__law_same, x__law_trims, x__law_told]; simp)
    exact ⟨f, h1, h2.kp, told_hot (cls := [("OutOfRange", "OutOfRange"), ("Malformed", "Malformed"), ("NotThere", "NotThere"), ("Refused", "Refused"), ("TooMuch", "TooMuch")]) (many := "several") (top := "SawError") E h2 (by decide +kernel)⟩
  cases m
theorem bnd : ∀ tx ∈ Q.ltx :: Q.txs, Bnd tx := by
  intro tx h
  have h : tx ∈ [x_law, x__law_open, x__law_tops, x_is_number, x_apart, x_does_stand, x_told_trims, x__law_asked, x__law_mixed, x__law_draw, x_are_four, x_is_chair, x_is_floor, x_best_turn, x__law_int, x__law_same, x__law_trims, x__law_told] := h
  rcases List.mem_cons.mp h with rfl | h
  · exact b_law
  rcases List.mem_cons.mp h with rfl | h
  · exact b__law_open
  rcases List.mem_cons.mp h with rfl | h
  · exact b__law_tops
  rcases List.mem_cons.mp h with rfl | h
  · exact b_is_number
  rcases List.mem_cons.mp h with rfl | h
  · exact b_apart
  rcases List.mem_cons.mp h with rfl | h
  · exact b_does_stand
  rcases List.mem_cons.mp h with rfl | h
  · exact b_told_trims
  rcases List.mem_cons.mp h with rfl | h
  · exact b__law_asked
  rcases List.mem_cons.mp h with rfl | h
  · exact b__law_mixed
  rcases List.mem_cons.mp h with rfl | h
  · exact b__law_draw
  rcases List.mem_cons.mp h with rfl | h
  · exact b_are_four
  rcases List.mem_cons.mp h with rfl | h
  · exact b_is_chair
  rcases List.mem_cons.mp h with rfl | h
  · exact b_is_floor
  rcases List.mem_cons.mp h with rfl | h
  · exact b_best_turn
  rcases List.mem_cons.mp h with rfl | h
  · exact b__law_int
  rcases List.mem_cons.mp h with rfl | h
  · exact b__law_same
  rcases List.mem_cons.mp h with rfl | h
  · exact b__law_trims
  rcases List.mem_cons.mp h with rfl | h
  · exact b__law_told
  cases h
end K55
/-! HA: the defs that the laws of one harness have in common (draws from [turn, left, cells]); their cores, what they do, in any program of cores. -/
namespace HA
open PySem PySem.Spec PyProof.Rows L2 DL
local macro_rules | `(tactic| decreasing_trivial) => `(tactic| simp only [S.fin_some, S.finB_some, S.finT_some, S.finL_some, S.kvar_d, S.kvar_own, S.kvar_tape, S.ev_var, S.ev_lit, S.ev_glob, S.evs_nil, S.evs_cons, S.ks1_ok, S.ks1_err, S.ks2_ok, S.ks2_err, S.ev_tup, S.ev_lst, S.ktup_ok, S.ktup_err, S.klst_ok, S.klst_err, S.ev_bin, S.kbin1_ok, S.kbin1_err, S.kbin2_ok, S.kbin2_err, S.ev_cmp, S.kcmp1_ok, S.kcmp1_err, S.kcmp2_ok, S.kcmp2_err, S.ev_idx, S.kidx1_ok, S.kidx1_err, S.kidx2_ok, S.kidx2_err, S.ev_neg, S.kneg_ok, S.ev_not, S.knot_ok, S.knot_err, S.tr_ok, S.tr_err, S.ev_and, S.kand1_ok, S.kand1_err, S.kand2_t, S.kand2_f, S.ev_or, S.kor1_ok, S.kor1_err, S.kor2_t, S.kor2_f, S.ev_ite, S.kite_t, S.kite_f, S.kite_err, S.ev_chain, S.kch1_ok, S.kch2_ok, S.kch3_t, S.kch3_f, S.kch4_ok, S.ev_slc, S.kslc1_ok, S.kslc2_ok, S.kslc3_ok, S.kslc4_t, S.kslc4_l, S.evo_omit, S.evo_lit, S.evo_var, S.evo_neg, S.evo_glob, S.evo_bin, S.evo_blt, S.evo_idx, S.evo_call, S.koi_ok, S.ev_isa, S.kisa_ok, S.ev_call, S.kc1_ok, S.kc1_err, S.kc2_t, S.kc3_d, S.kc3_f, S.kc3_err, S.ev_callF, S.kg1_ok, S.kg2_t, S.kg3_f, S.ev_blt, S.kblt_ok, S.kblt_err, S.ev_comp, S.kcp1_ok, S.kcp2_ok, S.kcp3_t, S.kq2_ok, S.ev_gall, S.kq1all_ok, S.ev_gany, S.kq1any_ok, S.kg5_ok, S.kg4_ok, S.ev_gsum, S.ev_gmin, S.ev_gmax, S.ev_gtuple, S.ev_glist, S.ev_gsorted, S.kst2_ok, S.kst1_ok, S.ev_sset, S.ev_tlen, S.ktl_ok, S.ev_tpop, S.ktp_ok, S.ev_revl, S.krv_l, S.krv_t, S.ts_nil, S.ts_cons, S.kts_nil, S.kts_t, S.kts_f, S.ei_seq, S.ksq_ok, S.seqO_own, S.krg3_t, S.krg2_ok, S.ei_rng, S.krg1_ok, S.ei_rng1, S.krg0_ok, S.ei_enum, S.ken_l, S.ken_t, S.ei_zip, S.kzp1_ok, S.kzp2_l, S.kzp2_t, S.ei_rev, S.krs_l, S.krs_t, S.ei_dk, S.kdk_ok, S.kas2_ok, S.kas1_ok, S.kas1_err, S.run_asg, S.bt_nm, S.kbt_t, S.bt_t, S.bt_l, S.kbs_ok, S.bs_nil, S.bs_cons, S.kow_ok, S.run_own, S.kap3_t, S.kap2_ok, S.kap1_ok, S.run_app, S.kau3_ok, S.kau2_ok, S.kau1_ok, S.run_aug, S.kex3_t, S.kex2_ok, S.kex1_ok, S.run_ext, S.kse4_ok, S.kse3_ok, S.kse2_ok, S.kse1_ok, S.run_seti, S.kre_d, S.kre_own, S.kre_err, S.run_ret, S.krf_ok, S.run_retF, S.run_retN, S.kif_t, S.kif_f, S.kif_err, S.run_ifs, S.kfo_ok, S.run_for, S.kwc_is, S.run_whil, S.kxp_ok, S.kxp_err, S.run_expr, S.run_raise, S.run_brk, S.run_cnt, S.run_pass, S.kfz_ok, S.run_frz, S.kpp3_ok, S.kpp2_ok, S.kpp1_ok, S.kpp1_err, S.evP_nil, S.evP_cons, S.flag_t, S.flag_f, S.parE_nil, S.parE_t, S.parE_f, S.kpa_ok, S.kpa_err, S.run_par, S.ktn_ok, S.run_tun, S.kte4_ok, S.kte3_ok, S.kte2_ok, S.kte1_ok, S.run_tset, S.kro_ok, S.run_retO, S.kty2_ok, S.kty_err, S.kty_ret, S.kty_nx, S.run_tryr, S.runs_nil, S.runs_cons, S.kth_nx, S.kth_ret, S.kth_cnt, S.kth_brk, S.kth_err, S.kcr4_ok, S.kcr3_ok, S.kcr2_t, S.kcr2_f, S.kcr1_ok, S.cr_nil, S.kqa3_1, S.kqa3_2, S.kqa2_t, S.kqa2_f, S.kqa1_ok, S.qra_nil, S.kqo3_1, S.kqo3_2, S.kqo2_t, S.kqo2_f, S.kqo1_ok, S.qro_nil, S.kfr2_nx, S.kfr2_cnt, S.kfr2_brk, S.kfr2_ret, S.kfr2_err, S.kfr1_ok, S.fr_nil, callRun, wipeE, S.optR_some, S.ans_nx, S.ans_ret, S.ans_err, S.dat_d, S.dat_own, S.truth_bool, S.truth_int, S.truth_list, S.truth_tuple, S.arg_d, S.arg_tape, S.all_nil, S.all_cons, S.all_own, rng_irg, S.allD_nil, S.allD_cons, S.blt1, S.blt2, S.len_list, S.len_tuple, S.int_int, S.abs_int, S.tup_of, S.lst_of, S.sorted_of, S.min2_of, S.max2_of, S.ix_t0, S.ix_t1, S.ix_t2, S.ix_l0, S.ix_l1, S.ix_l2, S.seq_t, S.seq_l, S.seqO_d, S.is_bb, S.isnot_bb, S.isin_is, S.min_l, S.min_t, S.max_l, S.max_t, DL.le_int, DL.lt_int, DL.ge_int, DL.gt_int, DL.eq_int, DL.ne_int, DL.ne_nil, DL.eq_nil, add_i, sub_i, tyD, PyData.isTuple, PyData.isInt, PyData.isBool, PyData.isList, PyData.isStr, List.getD_cons_zero, List.getD_cons_succ, List.set_cons_zero, List.set_cons_succ, List.cons_append, List.nil_append, List.length_cons, List.length_nil, List.length_map, List.length_take, List.isEmpty_nil, List.isEmpty_map, List.isEmpty_cons, List.map_cons, List.map_nil, List.replicate, Nat.reduceAdd, Nat.reduceSub, List.all_cons, List.all_nil, Option.bind_some, Option.map_some, Bool.and_true, Bool.true_and, Bool.and_self, Bool.not_true, Bool.not_false, Bool.false_eq_true, if_true, if_false, reduceCtorEq, Int.cast_ofNat_Int, Int.reduceEq, Int.reduceLT, Int.reduceLE, decide_true, decide_false, beq_self_eq_true, BEq.rfl, Bool.or_true, Bool.or_false, ne_eq, not_true_eq_false, not_false_eq_true, *])
local macro_rules | `(tactic| trivial) => `(tactic| simp only [S.fin_some, S.finB_some, S.finT_some, S.finL_some, S.kvar_d, S.kvar_own, S.kvar_tape, S.ev_var, S.ev_lit, S.ev_glob, S.evs_nil, S.evs_cons, S.ks1_ok, S.ks1_err, S.ks2_ok, S.ks2_err, S.ev_tup, S.ev_lst, S.ktup_ok, S.ktup_err, S.klst_ok, S.klst_err, S.ev_bin, S.kbin1_ok, S.kbin1_err, S.kbin2_ok, S.kbin2_err, S.ev_cmp, S.kcmp1_ok, S.kcmp1_err, S.kcmp2_ok, S.kcmp2_err, S.ev_idx, S.kidx1_ok, S.kidx1_err, S.kidx2_ok, S.kidx2_err, S.ev_neg, S.kneg_ok, S.ev_not, S.knot_ok, S.knot_err, S.tr_ok, S.tr_err, S.ev_and, S.kand1_ok, S.kand1_err, S.kand2_t, S.kand2_f, S.ev_or, S.kor1_ok, S.kor1_err, S.kor2_t, S.kor2_f, S.ev_ite, S.kite_t, S.kite_f, S.kite_err, S.ev_chain, S.kch1_ok, S.kch2_ok, S.kch3_t, S.kch3_f, S.kch4_ok, S.ev_slc, S.kslc1_ok, S.kslc2_ok, S.kslc3_ok, S.kslc4_t, S.kslc4_l, S.evo_omit, S.evo_lit, S.evo_var, S.evo_neg, S.evo_glob, S.evo_bin, S.evo_blt, S.evo_idx, S.evo_call, S.koi_ok, S.ev_isa, S.kisa_ok, S.ev_call, S.kc1_ok, S.kc1_err, S.kc2_t, S.kc3_d, S.kc3_f, S.kc3_err, S.ev_callF, S.kg1_ok, S.kg2_t, S.kg3_f, S.ev_blt, S.kblt_ok, S.kblt_err, S.ev_comp, S.kcp1_ok, S.kcp2_ok, S.kcp3_t, S.kq2_ok, S.ev_gall, S.kq1all_ok, S.ev_gany, S.kq1any_ok, S.kg5_ok, S.kg4_ok, S.ev_gsum, S.ev_gmin, S.ev_gmax, S.ev_gtuple, S.ev_glist, S.ev_gsorted, S.kst2_ok, S.kst1_ok, S.ev_sset, S.ev_tlen, S.ktl_ok, S.ev_tpop, S.ktp_ok, S.ev_revl, S.krv_l, S.krv_t, S.ts_nil, S.ts_cons, S.kts_nil, S.kts_t, S.kts_f, S.ei_seq, S.ksq_ok, S.seqO_own, S.krg3_t, S.krg2_ok, S.ei_rng, S.krg1_ok, S.ei_rng1, S.krg0_ok, S.ei_enum, S.ken_l, S.ken_t, S.ei_zip, S.kzp1_ok, S.kzp2_l, S.kzp2_t, S.ei_rev, S.krs_l, S.krs_t, S.ei_dk, S.kdk_ok, S.kas2_ok, S.kas1_ok, S.kas1_err, S.run_asg, S.bt_nm, S.kbt_t, S.bt_t, S.bt_l, S.kbs_ok, S.bs_nil, S.bs_cons, S.kow_ok, S.run_own, S.kap3_t, S.kap2_ok, S.kap1_ok, S.run_app, S.kau3_ok, S.kau2_ok, S.kau1_ok, S.run_aug, S.kex3_t, S.kex2_ok, S.kex1_ok, S.run_ext, S.kse4_ok, S.kse3_ok, S.kse2_ok, S.kse1_ok, S.run_seti, S.kre_d, S.kre_own, S.kre_err, S.run_ret, S.krf_ok, S.run_retF, S.run_retN, S.kif_t, S.kif_f, S.kif_err, S.run_ifs, S.kfo_ok, S.run_for, S.kwc_is, S.run_whil, S.kxp_ok, S.kxp_err, S.run_expr, S.run_raise, S.run_brk, S.run_cnt, S.run_pass, S.kfz_ok, S.run_frz, S.kpp3_ok, S.kpp2_ok, S.kpp1_ok, S.kpp1_err, S.evP_nil, S.evP_cons, S.flag_t, S.flag_f, S.parE_nil, S.parE_t, S.parE_f, S.kpa_ok, S.kpa_err, S.run_par, S.ktn_ok, S.run_tun, S.kte4_ok, S.kte3_ok, S.kte2_ok, S.kte1_ok, S.run_tset, S.kro_ok, S.run_retO, S.kty2_ok, S.kty_err, S.kty_ret, S.kty_nx, S.run_tryr, S.runs_nil, S.runs_cons, S.kth_nx, S.kth_ret, S.kth_cnt, S.kth_brk, S.kth_err, S.kcr4_ok, S.kcr3_ok, S.kcr2_t, S.kcr2_f, S.kcr1_ok, S.cr_nil, S.cr_cons, S.kqa3_1, S.kqa3_2, S.kqa2_t, S.kqa2_f, S.kqa1_ok, S.qra_nil, S.qra_cons, S.kqo3_1, S.kqo3_2, S.kqo2_t, S.kqo2_f, S.kqo1_ok, S.qro_nil, S.qro_cons, S.kfr2_nx, S.kfr2_cnt, S.kfr2_brk, S.kfr2_ret, S.kfr2_err, S.kfr1_ok, S.fr_nil, S.fr_cons, callRun, wipeE, S.optR_some, S.ans_nx, S.ans_ret, S.ans_err, S.dat_d, S.dat_own, S.truth_bool, S.truth_int, S.truth_list, S.truth_tuple, S.arg_d, S.arg_tape, S.all_nil, S.all_cons, S.all_own, rng_irg, S.allD_nil, S.allD_cons, S.blt1, S.blt2, S.len_list, S.len_tuple, S.int_int, S.abs_int, S.tup_of, S.lst_of, S.sorted_of, S.min2_of, S.max2_of, S.ix_t0, S.ix_t1, S.ix_t2, S.ix_l0, S.ix_l1, S.ix_l2, S.seq_t, S.seq_l, S.seqO_d, S.is_bb, S.isnot_bb, S.isin_is, S.min_l, S.min_t, S.max_l, S.max_t, DL.le_int, DL.lt_int, DL.ge_int, DL.gt_int, DL.eq_int, DL.ne_int, DL.ne_nil, DL.eq_nil, add_i, sub_i, tyD, PyData.isTuple, PyData.isInt, PyData.isBool, PyData.isList, PyData.isStr, List.getD_cons_zero, List.getD_cons_succ, List.set_cons_zero, List.set_cons_succ, List.cons_append, List.nil_append, List.length_cons, List.length_nil, List.length_map, List.length_take, List.isEmpty_nil, List.isEmpty_map, List.isEmpty_cons, List.map_cons, List.map_nil, List.replicate, Nat.reduceAdd, Nat.reduceSub, List.all_cons, List.all_nil, Option.bind_some, Option.map_some, Bool.and_true, Bool.true_and, Bool.and_self, Bool.not_true, Bool.not_false, Bool.false_eq_true, if_true, if_false, reduceCtorEq, Int.cast_ofNat_Int, Int.reduceEq, Int.reduceLT, Int.reduceLE, decide_true, decide_false, beq_self_eq_true, BEq.rfl, Bool.or_true, Bool.or_false, ne_eq, not_true_eq_false, not_false_eq_true, *])
variable {fu k : Nat} {prog : List Df}
def cOpen : Df := ⟨1, 3, [.own 1 (.comp (.blt .abs [.blt .int [.var 2]]) (.nm 2) (.seq (.slc (.var 0) .omit (.lit (.int 63)))) [] [2]), .frz 1, .retF (.lst [.lit (.int 0), .lit (.int 0), .bin .add (.var 1) (.lst [.lit (.int 0)])])]⟩
def cMixed : Df := ⟨2, 3, [.asg (.nm 2) (.bin .mod (.bin .add (.bin .add (.bin .mul (.bin .mod (.var 0) (.bin .sub (.bin .pow (.lit (.int 2)) (.lit (.int 61))) (.lit (.int 1)))) (.lit (.int 6364136223846793005))) (.bin .mul (.var 1) (.lit (.int 1442695040888963407)))) (.lit (.int 97))) (.bin .pow (.lit (.int 2)) (.lit (.int 61)))), .asg (.nm 2) (.bin .mod (.bin .mul (.bin .bxor (.var 2) (.bin .shr (.var 2) (.lit (.int 29)))) (.lit (.int 3935559000370003845))) (.bin .pow (.lit (.int 2)) (.lit (.int 61)))), .ret (.bin .mod (.bin .mul (.bin .bxor (.var 2) (.bin .shr (.var 2) (.lit (.int 31)))) (.lit (.int 2862933555777941757))) (.bin .pow (.lit (.int 2)) (.lit (.int 61))))]⟩
def cDraw (m : Nat) : Df := ⟨2, 6, [.tun (.tup [.nm 2, .nm 3, .nm 4]) 0, .ifs (.cmp .lt (.var 3) (.var 1)) [.asg (.nm 5) (.idx (.var 4) (.bin .mod (.var 2) (.blt .len [.var 4]))), .asg (.nm 3) (.ite (.and (.cmp .lt (.var 2) (.blt .len [.var 4])) (.cmp .ge (.var 5) (.bin .pow (.lit (.int 10)) (.lit (.int 18))))) (.var 5) (.call m [.var 5, .var 2])), .asg (.nm 2) (.bin .add (.var 2) (.lit (.int 1)))] [], .tset 0 (.lit (.int 0)) (.var 2), .tset 0 (.lit (.int 1)) (.bin .fdiv (.var 3) (.var 1)), .ret (.bin .mod (.var 3) (.var 1))]⟩
def cInt : Df := ⟨1, 1, [.ret (.and (.isa (.var 0) .int) (.not (.isa (.var 0) .bool)))]⟩
def cSame : Df := ⟨2, 2, [.ret (.ite (.var 1) (.cmp .is (.var 0) (.lit (.bool true))) (.cmp .is (.var 0) (.lit (.bool false))))]⟩
def cNum : Df := ⟨3, 3, [.ret (.and (.isa (.var 0) .int) (.and (.not (.isa (.var 0) .bool)) (.chain .le .le (.var 1) (.var 0) (.var 2))))]⟩
theorem fd_at {i : Nat} {d : Df} (h : prog[i]? = some d) {ws : List W} (hw : ws.length = d.m) (t : DL.T) : Fd prog fu (k + 1) i ws t = callRun (Fd prog fu k) fu d.l d.body ws t := by
  show (match prog[i]? with
    | some d => if ws.length = d.m then callRun (Fd prog fu k) fu d.l d.body ws t else .bad
    | none => .bad) = _
  rw [h]
  exact if_pos hw
/-- isinstance(x, int) and not isinstance(x, bool) -/
def pint : PyData → Bool
  | .int _ => true
  | _ => false
theorem f_int {j : Nat} (hj : prog[j]? = some cInt) (x : PyData) (t : DL.T) : Fd prog fu (k + 1) j [.d x] t = .ok (.d (.bool (pint x))) t := by
  rw [fd_at hj rfl]
  cases x <;> rfl
theorem f_same {j : Nat} (hj : prog[j]? = some cSame) (x : PyData) (b : Bool) (t : DL.T) (hx : ∃ c, x = .bool c) : Fd prog fu (k + 1) j [.d x, .d (.bool b)] t = .ok (.d (.bool (PyData.eqv x (.bool b)))) t := by
  rw [fd_at hj rfl]
  obtain ⟨c, rfl⟩ := hx
  cases b <;> cases c <;> rfl
theorem f_num {j : Nat} (hj : prog[j]? = some cNum) (x : PyData) (a b : Int) (t : DL.T) : Fd prog fu (k + 1) j [.d x, .d (.int a), .d (.int b)] t = .ok (.d (.bool (match x with
    | .int i => decide (a ≤ i) && decide (i ≤ b)
    | _ => false))) t := by
  rw [fd_at hj rfl]
  cases x with
  | int i =>
    simp only [callRun, cNum, DL.runs, DL.run, DL.ev, DL.tr, R.out, R.bind, Out.andThen, Out.answer, optR, W.dat, W.truth, tyD, PyData.isInt, PyData.isBool, List.getD, List.cons_append, List.nil_append, List.getElem?_cons_zero, List.getElem?_cons_succ, Option.getD_some, Option.bind_some, DL.le_int]
    cases h1 : decide (a ≤ i) <;> cases h2 : decide (i ≤ b) <;> rfl
  | _ => rfl
theorem f_mixed {j : Nat} (hj : prog[j]? = some cMixed) (a b : Int) (t : DL.T) : ∃ v : Int, 0 ≤ v ∧ Fd prog fu (k + 1) j [.d (.int a), .d (.int b)] t = .ok (.d (.int v)) t := by
  rw [fd_at hj rfl]
  have p61 : binD .pow (.int 2) (.int 61) = some (.int 2305843009213693952) := by
    have e : opInt .pow 2 61 = some 2305843009213693952 := by decide +kernel
    show (opInt .pow 2 61).map PyData.int = _
    rw [e]
    rfl
  have sh : ∀ x y : Int, 0 ≤ y → binD .shr (.int x) (.int y) = some (.int (x / 2 ^ y.toNat)) := fun x y h => by
    show (if decide (0 ≤ y) then some (x / 2 ^ y.toNat) else none).map PyData.int = _
    rw [if_pos (decide_eq_true h)]
    rfl
  have xo : ∀ x y : Int, binD .bxor (.int x) (.int y) = some (.int (Builtin.bitXor x y)) := fun _ _ => rfl
  refine ⟨?v, ?h, ?e⟩
  case e =>
    simp only [callRun, cMixed, DL.runs, DL.run, DL.ev, DL.tr, R.out, R.bind, Out.andThen, Out.answer, optR, W.dat, bindT, List.getD, List.cons_append, List.nil_append, List.getElem?_cons_zero, List.getElem?_cons_succ, Option.getD_some, Option.bind_some, List.length_cons, List.length_nil, List.replicate, List.set,
      p61, add_i, sub_i, DL.mod_i (show (0 : Int) < 2305843009213693952 by decide), DL.mod_i (show (0 : Int) < 2305843009213693952 - 1 by decide), xo, sh _ 29 (by decide), sh _ 31 (by decide),
      DL.mul_r (show (-18446744073709551616 : Int) < 6364136223846793005 ∧ (6364136223846793005 : Int) < 18446744073709551616 by decide), DL.mul_r (show (-18446744073709551616 : Int) < 1442695040888963407 ∧ (1442695040888963407 : Int) < 18446744073709551616 by decide),
      DL.mul_r (show (-18446744073709551616 : Int) < 3935559000370003845 ∧ (3935559000370003845 : Int) < 18446744073709551616 by decide), DL.mul_r (show (-18446744073709551616 : Int) < 2862933555777941757 ∧ (2862933555777941757 : Int) < 18446744073709551616 by decide)]
    rfl
  case h => exact Int.emod_nonneg _ (by decide)
/-- how the draws' list stands -/
def TapeOk (t : DL.T) : Prop := ∃ (turn left : Int) (cs : List Int), t = [.int turn, .int left, .list (cs.map PyData.int)] ∧ 0 ≤ turn ∧ 0 ≤ left ∧ 0 < cs.length ∧ cs.length ≤ 64 ∧ ∀ c ∈ cs, 0 ≤ c
theorem at_int (cs : List Int) (i : Int) (h0 : 0 ≤ i) (h1 : i < cs.length) : ∃ c ∈ cs, ixD (.list (cs.map PyData.int)) (.int i) = some (.int c) := by
  have hn : i.toNat < cs.length := by omega
  refine ⟨cs[i.toNat], List.getElem_mem hn, ?_⟩
  show L2.atI (cs.map PyData.int) i = _
  unfold L2.atI
  have e : L2.ixN (cs.map PyData.int).length i = some i.toNat := by
    unfold L2.ixN
    rw [List.length_map]
    simp [h0, hn]
    omega
  rw [e]
  show (cs.map PyData.int)[i.toNat]? = _
  rw [List.getElem?_map, List.getElem?_eq_getElem hn]
  rfl
theorem f_draw {j m : Nat} (hj : prog[j]? = some (cDraw m)) (hm : prog[m]? = some cMixed) {t : DL.T} (h : TapeOk t) {size : Int} (h1 : 0 < size) (h2 : size < 1073741824) : ∃ (r : Int) (t' : DL.T), Fd prog fu (k + 2) j [.tape, .d (.int size)] t = .ok (.d (.int r)) t' ∧ 0 ≤ r ∧ r < size ∧ TapeOk t' := by
  obtain ⟨turn, left, cs, rfl, ht, hl, hc, hc2, hpos⟩ := h
  rw [fd_at hj rfl]
  have hlen : bltD .len [.list (cs.map PyData.int)] = some (.int cs.length) := by
    show some (PyData.int (cs.map PyData.int).length) = _
    rw [List.length_map]
  obtain ⟨c, hcm, hix⟩ := at_int cs (turn % cs.length) (Int.emod_nonneg _ (by omega)) (Int.emod_lt_of_pos _ (by omega))
  obtain ⟨v, hv, hmix⟩ := f_mixed (fu := fu) (k := k) hm c turn [.int turn, .int left, .list (cs.map PyData.int)]
  have p18 : binD .pow (.int 10) (.int 18) = some (.int 1000000000000000000) := by
    have e : opInt .pow 10 18 = some 1000000000000000000 := by decide +kernel
    show (opInt .pow 10 18).map PyData.int = _
    rw [e]
    rfl
  have n0 : L2.ixN 3 0 = some 0 := rfl
  have n1 : L2.ixN 3 1 = some 1 := rfl
  have out : ∀ turn' left' : Int, 0 ≤ turn' → 0 ≤ left' → TapeOk [.int turn', .int (left' / size), .list (cs.map PyData.int)] := fun turn' left' a b => ⟨turn', left' / size, cs, rfl, a, Int.ediv_nonneg b (Int.le_of_lt h1), hc, hc2, hpos⟩
  have res : ∀ left' : Int, 0 ≤ left' % size ∧ left' % size < size := fun left' => ⟨Int.emod_nonneg _ (by omega), Int.emod_lt_of_pos _ h1⟩
  by_cases b1 : left < size
  · by_cases b2 : turn < cs.length
    · by_cases b3 : 1000000000000000000 ≤ c
      · simp only [callRun, cDraw, DL.runs, DL.run, DL.ev, DL.evs, DL.tr, R.out, R.bind, Out.andThen, Out.answer, optR, W.dat, W.truth, W.arg, bindT, bindTs, allDat, asInt, List.all_cons, List.all_nil, List.getD, List.cons_append, List.nil_append, List.getElem?_cons_zero, List.getElem?_cons_succ, Option.getD_some, Option.bind_some, Option.map_some, List.length_cons, List.length_nil, List.replicate, List.set, if_true,
    DL.lt_int, DL.ge_int, hlen, DL.mod_i h1, DL.div_i h1 h2, DL.mod_i (show (0 : Int) < cs.length by omega), hix, p18, add_i, hmix, if_false, Bool.false_eq_true, Bool.and_self, decide_true, decide_false, n0, n1, decide_eq_true b1, decide_eq_true b2, decide_eq_true b3]
        exact ⟨c % size, _, rfl, (res c).1, (res c).2, out (turn + 1) c (by omega) (hpos c hcm)⟩
      · simp only [callRun, cDraw, DL.runs, DL.run, DL.ev, DL.evs, DL.tr, R.out, R.bind, Out.andThen, Out.answer, optR, W.dat, W.truth, W.arg, bindT, bindTs, allDat, asInt, List.all_cons, List.all_nil, List.getD, List.cons_append, List.nil_append, List.getElem?_cons_zero, List.getElem?_cons_succ, Option.getD_some, Option.bind_some, Option.map_some, List.length_cons, List.length_nil, List.replicate, List.set, if_true,
    DL.lt_int, DL.ge_int, hlen, DL.mod_i h1, DL.div_i h1 h2, DL.mod_i (show (0 : Int) < cs.length by omega), hix, p18, add_i, hmix, if_false, Bool.false_eq_true, Bool.and_self, decide_true, decide_false, n0, n1, decide_eq_true b1, decide_eq_true b2, decide_eq_false b3]
        exact ⟨v % size, _, rfl, (res v).1, (res v).2, out (turn + 1) v (by omega) hv⟩
    · simp only [callRun, cDraw, DL.runs, DL.run, DL.ev, DL.evs, DL.tr, R.out, R.bind, Out.andThen, Out.answer, optR, W.dat, W.truth, W.arg, bindT, bindTs, allDat, asInt, List.all_cons, List.all_nil, List.getD, List.cons_append, List.nil_append, List.getElem?_cons_zero, List.getElem?_cons_succ, Option.getD_some, Option.bind_some, Option.map_some, List.length_cons, List.length_nil, List.replicate, List.set, if_true,
    DL.lt_int, DL.ge_int, hlen, DL.mod_i h1, DL.div_i h1 h2, DL.mod_i (show (0 : Int) < cs.length by omega), hix, p18, add_i, hmix, if_false, Bool.false_eq_true, Bool.and_self, decide_true, decide_false, n0, n1, decide_eq_true b1, decide_eq_false b2]
      exact ⟨v % size, _, rfl, (res v).1, (res v).2, out (turn + 1) v (by omega) hv⟩
  · simp only [callRun, cDraw, DL.runs, DL.run, DL.ev, DL.evs, DL.tr, R.out, R.bind, Out.andThen, Out.answer, optR, W.dat, W.truth, W.arg, bindT, bindTs, allDat, asInt, List.all_cons, List.all_nil, List.getD, List.cons_append, List.nil_append, List.getElem?_cons_zero, List.getElem?_cons_succ, Option.getD_some, Option.bind_some, Option.map_some, List.length_cons, List.length_nil, List.replicate, List.set, if_true,
    DL.lt_int, DL.ge_int, hlen, DL.mod_i h1, DL.div_i h1 h2, DL.mod_i (show (0 : Int) < cs.length by omega), hix, p18, add_i, hmix, if_false, Bool.false_eq_true, Bool.and_self, decide_true, decide_false, n0, n1, decide_eq_false b1]
    exact ⟨left % size, _, rfl, (res left).1, (res left).2, out turn left ht hl⟩
def num (x : PyData) (a b : Int) : Bool := match x with
  | .int i => decide (a ≤ i) && decide (i ≤ b)
  | _ => false
theorem f_num' {j : Nat} (hj : prog[j]? = some cNum) (x : PyData) (a b : Int) (t : DL.T) : Fd prog fu (k + 1) j [.d x, .d (.int a), .d (.int b)] t = .ok (.d (.bool (num x a b))) t := f_num hj x a b t
theorem num_int {x : PyData} {a b : Int} (h : num x a b = true) : ∃ i, x = .int i ∧ a ≤ i ∧ i ≤ b := by
  cases x with
  | int i =>
    refine ⟨i, rfl, ?_⟩
    have : (decide (a ≤ i) && decide (i ≤ b)) = true := h
    rw [Bool.and_eq_true] at this
    exact ⟨of_decide_eq_true this.1, of_decide_eq_true this.2⟩
  | _ => cases h
theorem f_open {j : Nat} (hj : prog[j]? = some cOpen) (ns : List Int) (h : ns.length ≤ 63) (t : DL.T) : ∃ cs : List Int, Fd prog fu (k + 1) j [.d (.list (ns.map PyData.int))] t = .ok (.fresh [.int 0, .int 0, .list (cs.map PyData.int)]) t ∧ 0 < cs.length ∧ cs.length ≤ 64 ∧ ∀ c ∈ cs, 0 ≤ c := by
  refine ⟨ns.map (fun i => (i.natAbs : Int)) ++ [0], ?_, by simp, by simpa using h, fun c hc => ?_⟩
  · rw [fd_at hj rfl]
    unfold cOpen
    have ht : cutD (ns.map PyData.int) none (some 63) = ns.map PyData.int := by
      have := cut_take (ns.map PyData.int) 63
      rw [List.take_of_length_le (by simpa using h)] at this
      exact this
    have hl : lenOk ns.length = true := decide_eq_true (by omega)
    have ha : binD .add (.list (ns.map fun i => PyData.int (i.natAbs : Int))) (.list [.int 0]) = some (.list (ns.map (fun i => PyData.int (i.natAbs : Int)) ++ [.int 0])) := add_l (by simp; omega)
    trivial
    rw [DL.comp_map PyData.int (fun i => PyData.int (i.natAbs : Int))]
    · trivial
      simp
    · intro i _
      refine ⟨_, rfl, ?_, ?_⟩
      · trivial
      · trivial
  · rcases List.mem_append.mp hc with z | z
    · obtain ⟨i, _, rfl⟩ := List.mem_map.mp z
      omega
    · rw [List.mem_singleton.mp z]
      omega
def Wins (o : Out) : Prop := ∃ t, o = .ret (.d (.bool true)) t
end HA
/-! M55: the plain law of k55: chairs, floors, how far legs are apart. -/
namespace K55
open PySem PySem.Spec PyProof.Rows L2 DL
local macro_rules | `(tactic| decreasing_trivial) => `(tactic| simp only [S.fin_some, S.finB_some, S.finT_some, S.finL_some, S.kvar_d, S.kvar_own, S.kvar_tape, S.ev_var, S.ev_lit, S.ev_glob, S.evs_nil, S.evs_cons, S.ks1_ok, S.ks1_err, S.ks2_ok, S.ks2_err, S.ev_tup, S.ev_lst, S.ktup_ok, S.ktup_err, S.klst_ok, S.klst_err, S.ev_bin, S.kbin1_ok, S.kbin1_err, S.kbin2_ok, S.kbin2_err, S.ev_cmp, S.kcmp1_ok, S.kcmp1_err, S.kcmp2_ok, S.kcmp2_err, S.ev_idx, S.kidx1_ok, S.kidx1_err, S.kidx2_ok, S.kidx2_err, S.ev_neg, S.kneg_ok, S.ev_not, S.knot_ok, S.knot_err, S.tr_ok, S.tr_err, S.ev_and, S.kand1_ok, S.kand1_err, S.kand2_t, S.kand2_f, S.ev_or, S.kor1_ok, S.kor1_err, S.kor2_t, S.kor2_f, S.ev_ite, S.kite_t, S.kite_f, S.kite_err, S.ev_chain, S.kch1_ok, S.kch2_ok, S.kch3_t, S.kch3_f, S.kch4_ok, S.ev_slc, S.kslc1_ok, S.kslc2_ok, S.kslc3_ok, S.kslc4_t, S.kslc4_l, S.evo_omit, S.evo_lit, S.evo_var, S.evo_neg, S.evo_glob, S.evo_bin, S.evo_blt, S.evo_idx, S.evo_call, S.koi_ok, S.ev_isa, S.kisa_ok, S.ev_call, S.kc1_ok, S.kc1_err, S.kc2_t, S.kc3_d, S.kc3_f, S.kc3_err, S.ev_callF, S.kg1_ok, S.kg2_t, S.kg3_f, S.ev_blt, S.kblt_ok, S.kblt_err, S.ev_comp, S.kcp1_ok, S.kcp2_ok, S.kcp3_t, S.kq2_ok, S.ev_gall, S.kq1all_ok, S.ev_gany, S.kq1any_ok, S.kg5_ok, S.kg4_ok, S.ev_gsum, S.ev_gmin, S.ev_gmax, S.ev_gtuple, S.ev_glist, S.ev_gsorted, S.kst2_ok, S.kst1_ok, S.ev_sset, S.ev_tlen, S.ktl_ok, S.ev_tpop, S.ktp_ok, S.ev_revl, S.krv_l, S.krv_t, S.ts_nil, S.ts_cons, S.kts_nil, S.kts_t, S.kts_f, S.ei_seq, S.ksq_ok, S.seqO_own, S.krg3_t, S.krg2_ok, S.ei_rng, S.krg1_ok, S.ei_rng1, S.krg0_ok, S.ei_enum, S.ken_l, S.ken_t, S.ei_zip, S.kzp1_ok, S.kzp2_l, S.kzp2_t, S.ei_rev, S.krs_l, S.krs_t, S.ei_dk, S.kdk_ok, S.kas2_ok, S.kas1_ok, S.kas1_err, S.run_asg, S.bt_nm, S.kbt_t, S.bt_t, S.bt_l, S.kbs_ok, S.bs_nil, S.bs_cons, S.kow_ok, S.run_own, S.kap3_t, S.kap2_ok, S.kap1_ok, S.run_app, S.kau3_ok, S.kau2_ok, S.kau1_ok, S.run_aug, S.kex3_t, S.kex2_ok, S.kex1_ok, S.run_ext, S.kse4_ok, S.kse3_ok, S.kse2_ok, S.kse1_ok, S.run_seti, S.kre_d, S.kre_own, S.kre_err, S.run_ret, S.krf_ok, S.run_retF, S.run_retN, S.kif_t, S.kif_f, S.kif_err, S.run_ifs, S.kfo_ok, S.run_for, S.kwc_is, S.run_whil, S.kxp_ok, S.kxp_err, S.run_expr, S.run_raise, S.run_brk, S.run_cnt, S.run_pass, S.kfz_ok, S.run_frz, S.kpp3_ok, S.kpp2_ok, S.kpp1_ok, S.kpp1_err, S.evP_nil, S.evP_cons, S.flag_t, S.flag_f, S.parE_nil, S.parE_t, S.parE_f, S.kpa_ok, S.kpa_err, S.run_par, S.ktn_ok, S.run_tun, S.kte4_ok, S.kte3_ok, S.kte2_ok, S.kte1_ok, S.run_tset, S.kro_ok, S.run_retO, S.kty2_ok, S.kty_err, S.kty_ret, S.kty_nx, S.run_tryr, S.runs_nil, S.runs_cons, S.kth_nx, S.kth_ret, S.kth_cnt, S.kth_brk, S.kth_err, S.kcr4_ok, S.kcr3_ok, S.kcr2_t, S.kcr2_f, S.kcr1_ok, S.cr_nil, S.kqa3_1, S.kqa3_2, S.kqa2_t, S.kqa2_f, S.kqa1_ok, S.qra_nil, S.kqo3_1, S.kqo3_2, S.kqo2_t, S.kqo2_f, S.kqo1_ok, S.qro_nil, S.kfr2_nx, S.kfr2_cnt, S.kfr2_brk, S.kfr2_ret, S.kfr2_err, S.kfr1_ok, S.fr_nil, callRun, wipeE, S.optR_some, S.ans_nx, S.ans_ret, S.ans_err, S.dat_d, S.dat_own, S.truth_bool, S.truth_int, S.truth_list, S.truth_tuple, S.arg_d, S.arg_tape, S.all_nil, S.all_cons, S.all_own, rng_irg, S.allD_nil, S.allD_cons, S.blt1, S.blt2, S.len_list, S.len_tuple, S.int_int, S.abs_int, S.tup_of, S.lst_of, S.sorted_of, S.min2_of, S.max2_of, S.ix_t0, S.ix_t1, S.ix_t2, S.ix_t3, S.ix_l3, S.zip_nil, S.zip_cons, S.ix_l0, S.ix_l1, S.ix_l2, S.seq_t, S.seq_l, S.seqO_d, S.is_bb, S.isnot_bb, S.isin_is, S.min_l, S.min_t, S.max_l, S.max_t, DL.le_int, DL.lt_int, DL.ge_int, DL.gt_int, DL.eq_int, DL.ne_int, DL.ne_nil, DL.eq_nil, add_i, sub_i, tyD, PyData.isTuple, PyData.isInt, PyData.isBool, PyData.isList, PyData.isStr, List.getD_cons_zero, List.getD_cons_succ, List.set_cons_zero, List.set_cons_succ, List.cons_append, List.nil_append, List.length_cons, List.length_nil, List.length_map, List.length_take, List.isEmpty_nil, List.isEmpty_map, List.isEmpty_cons, List.map_cons, List.map_nil, List.replicate, Nat.reduceAdd, Nat.reduceSub, List.all_cons, List.all_nil, Option.bind_some, Option.map_some, Bool.and_true, Bool.true_and, Bool.and_self, Bool.not_true, Bool.not_false, Bool.false_eq_true, if_true, if_false, reduceCtorEq, Int.cast_ofNat_Int, Int.reduceEq, Int.reduceLT, Int.reduceLE, Int.reduceAdd, Int.reduceSub, Int.reduceMod, Int.reduceNeg, Int.zero_add, Int.reduceMul, decide_true, decide_false, beq_self_eq_true, BEq.rfl, Bool.or_true, Bool.or_false, ne_eq, not_true_eq_false, not_false_eq_true, *])
local macro_rules | `(tactic| trivial) => `(tactic| simp only [S.fin_some, S.finB_some, S.finT_some, S.finL_some, S.kvar_d, S.kvar_own, S.kvar_tape, S.ev_var, S.ev_lit, S.ev_glob, S.evs_nil, S.evs_cons, S.ks1_ok, S.ks1_err, S.ks2_ok, S.ks2_err, S.ev_tup, S.ev_lst, S.ktup_ok, S.ktup_err, S.klst_ok, S.klst_err, S.ev_bin, S.kbin1_ok, S.kbin1_err, S.kbin2_ok, S.kbin2_err, S.ev_cmp, S.kcmp1_ok, S.kcmp1_err, S.kcmp2_ok, S.kcmp2_err, S.ev_idx, S.kidx1_ok, S.kidx1_err, S.kidx2_ok, S.kidx2_err, S.ev_neg, S.kneg_ok, S.ev_not, S.knot_ok, S.knot_err, S.tr_ok, S.tr_err, S.ev_and, S.kand1_ok, S.kand1_err, S.kand2_t, S.kand2_f, S.ev_or, S.kor1_ok, S.kor1_err, S.kor2_t, S.kor2_f, S.ev_ite, S.kite_t, S.kite_f, S.kite_err, S.ev_chain, S.kch1_ok, S.kch2_ok, S.kch3_t, S.kch3_f, S.kch4_ok, S.ev_slc, S.kslc1_ok, S.kslc2_ok, S.kslc3_ok, S.kslc4_t, S.kslc4_l, S.evo_omit, S.evo_lit, S.evo_var, S.evo_neg, S.evo_glob, S.evo_bin, S.evo_blt, S.evo_idx, S.evo_call, S.koi_ok, S.ev_isa, S.kisa_ok, S.ev_call, S.kc1_ok, S.kc1_err, S.kc2_t, S.kc3_d, S.kc3_f, S.kc3_err, S.ev_callF, S.kg1_ok, S.kg2_t, S.kg3_f, S.ev_blt, S.kblt_ok, S.kblt_err, S.ev_comp, S.kcp1_ok, S.kcp2_ok, S.kcp3_t, S.kq2_ok, S.ev_gall, S.kq1all_ok, S.ev_gany, S.kq1any_ok, S.kg5_ok, S.kg4_ok, S.ev_gsum, S.ev_gmin, S.ev_gmax, S.ev_gtuple, S.ev_glist, S.ev_gsorted, S.kst2_ok, S.kst1_ok, S.ev_sset, S.ev_tlen, S.ktl_ok, S.ev_tpop, S.ktp_ok, S.ev_revl, S.krv_l, S.krv_t, S.ts_nil, S.ts_cons, S.kts_nil, S.kts_t, S.kts_f, S.ei_seq, S.ksq_ok, S.seqO_own, S.krg3_t, S.krg2_ok, S.ei_rng, S.krg1_ok, S.ei_rng1, S.krg0_ok, S.ei_enum, S.ken_l, S.ken_t, S.ei_zip, S.kzp1_ok, S.kzp2_l, S.kzp2_t, S.ei_rev, S.krs_l, S.krs_t, S.ei_dk, S.kdk_ok, S.kas2_ok, S.kas1_ok, S.kas1_err, S.run_asg, S.bt_nm, S.kbt_t, S.bt_t, S.bt_l, S.kbs_ok, S.bs_nil, S.bs_cons, S.kow_ok, S.run_own, S.kap3_t, S.kap2_ok, S.kap1_ok, S.run_app, S.kau3_ok, S.kau2_ok, S.kau1_ok, S.run_aug, S.kex3_t, S.kex2_ok, S.kex1_ok, S.run_ext, S.kse4_ok, S.kse3_ok, S.kse2_ok, S.kse1_ok, S.run_seti, S.kre_d, S.kre_own, S.kre_err, S.run_ret, S.krf_ok, S.run_retF, S.run_retN, S.kif_t, S.kif_f, S.kif_err, S.run_ifs, S.kfo_ok, S.run_for, S.kwc_is, S.run_whil, S.kxp_ok, S.kxp_err, S.run_expr, S.run_raise, S.run_brk, S.run_cnt, S.run_pass, S.kfz_ok, S.run_frz, S.kpp3_ok, S.kpp2_ok, S.kpp1_ok, S.kpp1_err, S.evP_nil, S.evP_cons, S.flag_t, S.flag_f, S.parE_nil, S.parE_t, S.parE_f, S.kpa_ok, S.kpa_err, S.run_par, S.ktn_ok, S.run_tun, S.kte4_ok, S.kte3_ok, S.kte2_ok, S.kte1_ok, S.run_tset, S.kro_ok, S.run_retO, S.kty2_ok, S.kty_err, S.kty_ret, S.kty_nx, S.run_tryr, S.runs_nil, S.runs_cons, S.kth_nx, S.kth_ret, S.kth_cnt, S.kth_brk, S.kth_err, S.kcr4_ok, S.kcr3_ok, S.kcr2_t, S.kcr2_f, S.kcr1_ok, S.cr_nil, S.cr_cons, S.kqa3_1, S.kqa3_2, S.kqa2_t, S.kqa2_f, S.kqa1_ok, S.qra_nil, S.qra_cons, S.kqo3_1, S.kqo3_2, S.kqo2_t, S.kqo2_f, S.kqo1_ok, S.qro_nil, S.qro_cons, S.kfr2_nx, S.kfr2_cnt, S.kfr2_brk, S.kfr2_ret, S.kfr2_err, S.kfr1_ok, S.fr_nil, S.fr_cons, callRun, wipeE, S.optR_some, S.ans_nx, S.ans_ret, S.ans_err, S.dat_d, S.dat_own, S.truth_bool, S.truth_int, S.truth_list, S.truth_tuple, S.arg_d, S.arg_tape, S.all_nil, S.all_cons, S.all_own, rng_irg, S.allD_nil, S.allD_cons, S.blt1, S.blt2, S.len_list, S.len_tuple, S.int_int, S.abs_int, S.tup_of, S.lst_of, S.sorted_of, S.min2_of, S.max2_of, S.ix_t0, S.ix_t1, S.ix_t2, S.ix_t3, S.ix_l3, S.zip_nil, S.zip_cons, S.ix_l0, S.ix_l1, S.ix_l2, S.seq_t, S.seq_l, S.seqO_d, S.is_bb, S.isnot_bb, S.isin_is, S.min_l, S.min_t, S.max_l, S.max_t, DL.le_int, DL.lt_int, DL.ge_int, DL.gt_int, DL.eq_int, DL.ne_int, DL.ne_nil, DL.eq_nil, add_i, sub_i, tyD, PyData.isTuple, PyData.isInt, PyData.isBool, PyData.isList, PyData.isStr, List.getD_cons_zero, List.getD_cons_succ, List.set_cons_zero, List.set_cons_succ, List.cons_append, List.nil_append, List.length_cons, List.length_nil, List.length_map, List.length_take, List.isEmpty_nil, List.isEmpty_map, List.isEmpty_cons, List.map_cons, List.map_nil, List.replicate, Nat.reduceAdd, Nat.reduceSub, List.all_cons, List.all_nil, Option.bind_some, Option.map_some, Bool.and_true, Bool.true_and, Bool.and_self, Bool.not_true, Bool.not_false, Bool.false_eq_true, if_true, if_false, reduceCtorEq, Int.cast_ofNat_Int, Int.reduceEq, Int.reduceLT, Int.reduceLE, Int.reduceAdd, Int.reduceSub, Int.reduceMod, Int.reduceNeg, Int.zero_add, Int.reduceMul, decide_true, decide_false, beq_self_eq_true, BEq.rfl, Bool.or_true, Bool.or_false, ne_eq, not_true_eq_false, not_false_eq_true, *])
variable {fu k : Nat}
theorem p0 : Q.prog[0]? = some HA.cOpen := rfl
theorem p2 : Q.prog[2]? = some HA.cNum := rfl
theorem p7 : Q.prog[7]? = some HA.cMixed := rfl
theorem p8 : Q.prog[8]? = some (HA.cDraw 7) := rfl
theorem p13 : Q.prog[13]? = some HA.cInt := rfl
theorem p14 : Q.prog[14]? = some HA.cSame := rfl
/-- four numbers from lo to hi -/
def four (x : PyData) (lo hi : Int) : Bool := match x with
  | .tuple [a, b, c, d] => HA.num a lo hi && HA.num b lo hi && HA.num c lo hi && HA.num d lo hi
  | _ => false
theorem f_four (x : PyData) (lo hi : Int) (t : DL.T) : Fd Q.prog fu (k + 2) 9 [.d x, .d (.int lo), .d (.int hi)] t = .ok (.d (.bool (four x lo hi))) t := by
  rw [HA.fd_at (d := c_are_four) rfl rfl]
  unfold c_are_four
  have fn := fun x a b t => HA.f_num' (fu := fu) (k := k) p2 x a b t
  cases x with
  | tuple xs =>
    match xs with
    | [] => rfl
    | [a] => rfl
    | [a, b] => rfl
    | [a, b, c] => rfl
    | a :: b :: c :: d :: e :: xs =>
      have e1 : decide (((xs.length + 1 + 1 + 1 + 1 + 1 : Nat) : Int) = 4) = false := decide_eq_false (by omega)
      trivial
      rfl
    | [a, b, c, d] =>
      cases ha : HA.num a lo hi with
      | false =>
        trivial
        simp [four, ha]
      | true =>
        cases hb : HA.num b lo hi with
        | false =>
          trivial
          simp [four, ha, hb]
        | true =>
          cases hc : HA.num c lo hi with
          | false =>
            trivial
            simp [four, ha, hb, hc]
          | true =>
            cases hd : HA.num d lo hi with
            | false =>
              trivial
              simp [four, ha, hb, hc, hd]
            | true =>
              trivial
              simp [four, ha, hb, hc, hd]
  | _ => rfl
theorem f_chair (x : PyData) (t : DL.T) : Fd Q.prog fu (k + 3) 10 [.d x] t = .ok (.d (.bool (four x 100 999))) t := by
  rw [HA.fd_at (d := c_is_chair) rfl rfl]
  unfold c_is_chair
  have ff := fun x lo hi t => f_four (fu := fu) (k := k) x lo hi t
  trivial
theorem f_floor (x : PyData) (t : DL.T) : Fd Q.prog fu (k + 3) 11 [.d x] t = .ok (.d (.bool (four x 0 99))) t := by
  rw [HA.fd_at (d := c_is_floor) rfl rfl]
  unfold c_is_floor
  have ff := fun x lo hi t => f_four (fu := fu) (k := k) x lo hi t
  trivial
/-! ### how far -/
/-- a chair or a floor -/
structure Q4 where
  a : Int
  b : Int
  c : Int
  d : Int
def Q4.d' (q : Q4) : PyData := .tuple [.int q.a, .int q.b, .int q.c, .int q.d]
/-- the floor turned -/
def rot (f : Q4) : Nat → Q4
  | 0 => f
  | 1 => ⟨f.b, f.c, f.d, f.a⟩
  | 2 => ⟨f.c, f.d, f.a, f.b⟩
  | _ => ⟨f.d, f.a, f.b, f.c⟩
def mm (c f : Q4) (n : Nat) : Int := (c.a + (rot f n).a) + (c.c + (rot f n).c) - (c.b + (rot f n).b) - (c.d + (rot f n).d)
theorem f_apart (c f : Q4) (n : Nat) (hn : n < 4) (t : DL.T) : Fd Q.prog fu (k + 2) 3 [.d c.d', .d f.d', .d (.int n)] t = .ok (.d (.int (mm c f n))) t := by
  rw [HA.fd_at (d := c_apart) rfl rfl]
  unfold c_apart Q4.d'
  have fn := fun x a b t => HA.f_num' (fu := fu) (k := k) p2 x a b t
  have md : ∀ x, binD .mod (.int x) (.int 4) = some (.int (x % 4)) := fun x => DL.mod_i (by decide)
  have hl : lenOk 4 = true := by decide
  match n, hn with
  | 0, _ =>
    have h0 : HA.num (.int 0) 0 3 = true := by decide
    trivial
    rfl
  | 1, _ =>
    have h0 : HA.num (.int 1) 0 3 = true := by decide
    trivial
    rfl
  | 2, _ =>
    have h0 : HA.num (.int 2) 0 3 = true := by decide
    trivial
    rfl
  | 3, _ =>
    have h0 : HA.num (.int 3) 0 3 = true := by decide
    trivial
    rfl
theorem f_apart_no (x y : PyData) (i : Int) (hi : HA.num (.int i) 0 3 = false) (t : DL.T) : Fd Q.prog fu (k + 2) 3 [.d x, .d y, .d (.int i)] t = .err 0 t := by
  rw [HA.fd_at (d := c_apart) rfl rfl]
  unfold c_apart
  have fn := fun x a b t => HA.f_num' (fu := fu) (k := k) p2 x a b t
  trivial
end K55
/-! M55b: the plain law of k55: what the defs give. -/
namespace K55
open PySem PySem.Spec PyProof.Rows L2 DL
local macro_rules | `(tactic| decreasing_trivial) => `(tactic| simp only [S.fin_some, S.finB_some, S.finT_some, S.finL_some, S.kvar_d, S.kvar_own, S.kvar_tape, S.ev_var, S.ev_lit, S.ev_glob, S.evs_nil, S.evs_cons, S.ks1_ok, S.ks1_err, S.ks2_ok, S.ks2_err, S.ev_tup, S.ev_lst, S.ktup_ok, S.ktup_err, S.klst_ok, S.klst_err, S.ev_bin, S.kbin1_ok, S.kbin1_err, S.kbin2_ok, S.kbin2_err, S.ev_cmp, S.kcmp1_ok, S.kcmp1_err, S.kcmp2_ok, S.kcmp2_err, S.ev_idx, S.kidx1_ok, S.kidx1_err, S.kidx2_ok, S.kidx2_err, S.ev_neg, S.kneg_ok, S.ev_not, S.knot_ok, S.knot_err, S.tr_ok, S.tr_err, S.ev_and, S.kand1_ok, S.kand1_err, S.kand2_t, S.kand2_f, S.ev_or, S.kor1_ok, S.kor1_err, S.kor2_t, S.kor2_f, S.ev_ite, S.kite_t, S.kite_f, S.kite_err, S.ev_chain, S.kch1_ok, S.kch2_ok, S.kch3_t, S.kch3_f, S.kch4_ok, S.ev_slc, S.kslc1_ok, S.kslc2_ok, S.kslc3_ok, S.kslc4_t, S.kslc4_l, S.evo_omit, S.evo_lit, S.evo_var, S.evo_neg, S.evo_glob, S.evo_bin, S.evo_blt, S.evo_idx, S.evo_call, S.koi_ok, S.ev_isa, S.kisa_ok, S.ev_call, S.kc1_ok, S.kc1_err, S.kc2_t, S.kc3_d, S.kc3_f, S.kc3_err, S.ev_callF, S.kg1_ok, S.kg2_t, S.kg3_f, S.ev_blt, S.kblt_ok, S.kblt_err, S.ev_comp, S.kcp1_ok, S.kcp2_ok, S.kcp3_t, S.kq2_ok, S.ev_gall, S.kq1all_ok, S.ev_gany, S.kq1any_ok, S.kg5_ok, S.kg4_ok, S.ev_gsum, S.ev_gmin, S.ev_gmax, S.ev_gtuple, S.ev_glist, S.ev_gsorted, S.kst2_ok, S.kst1_ok, S.ev_sset, S.ev_tlen, S.ktl_ok, S.ev_tpop, S.ktp_ok, S.ev_revl, S.krv_l, S.krv_t, S.ts_nil, S.ts_cons, S.kts_nil, S.kts_t, S.kts_f, S.ei_seq, S.ksq_ok, S.seqO_own, S.krg3_t, S.krg2_ok, S.ei_rng, S.krg1_ok, S.ei_rng1, S.krg0_ok, S.ei_enum, S.ken_l, S.ken_t, S.ei_zip, S.kzp1_ok, S.kzp2_l, S.kzp2_t, S.ei_rev, S.krs_l, S.krs_t, S.ei_dk, S.kdk_ok, S.kas2_ok, S.kas1_ok, S.kas1_err, S.run_asg, S.bt_nm, S.kbt_t, S.bt_t, S.bt_l, S.kbs_ok, S.bs_nil, S.bs_cons, S.kow_ok, S.run_own, S.kap3_t, S.kap2_ok, S.kap1_ok, S.run_app, S.kau3_ok, S.kau2_ok, S.kau1_ok, S.run_aug, S.kex3_t, S.kex2_ok, S.kex1_ok, S.run_ext, S.kse4_ok, S.kse3_ok, S.kse2_ok, S.kse1_ok, S.run_seti, S.kre_d, S.kre_own, S.kre_err, S.run_ret, S.krf_ok, S.run_retF, S.run_retN, S.kif_t, S.kif_f, S.kif_err, S.run_ifs, S.kfo_ok, S.run_for, S.kwc_is, S.run_whil, S.kxp_ok, S.kxp_err, S.run_expr, S.run_raise, S.run_brk, S.run_cnt, S.run_pass, S.kfz_ok, S.run_frz, S.kpp3_ok, S.kpp2_ok, S.kpp1_ok, S.kpp1_err, S.evP_nil, S.evP_cons, S.flag_t, S.flag_f, S.parE_nil, S.parE_t, S.parE_f, S.kpa_ok, S.kpa_err, S.run_par, S.ktn_ok, S.run_tun, S.kte4_ok, S.kte3_ok, S.kte2_ok, S.kte1_ok, S.run_tset, S.kro_ok, S.run_retO, S.kty2_ok, S.kty_err, S.kty_ret, S.kty_nx, S.run_tryr, S.runs_nil, S.runs_cons, S.kth_nx, S.kth_ret, S.kth_cnt, S.kth_brk, S.kth_err, S.kcr4_ok, S.kcr3_ok, S.kcr2_t, S.kcr2_f, S.kcr1_ok, S.cr_nil, S.kqa3_1, S.kqa3_2, S.kqa2_t, S.kqa2_f, S.kqa1_ok, S.qra_nil, S.kqo3_1, S.kqo3_2, S.kqo2_t, S.kqo2_f, S.kqo1_ok, S.qro_nil, S.kfr2_nx, S.kfr2_cnt, S.kfr2_brk, S.kfr2_ret, S.kfr2_err, S.kfr1_ok, S.fr_nil, callRun, wipeE, S.optR_some, S.ans_nx, S.ans_ret, S.ans_err, S.dat_d, S.dat_own, S.truth_bool, S.truth_int, S.truth_list, S.truth_tuple, S.arg_d, S.arg_tape, S.all_nil, S.all_cons, S.all_own, rng_irg, S.allD_nil, S.allD_cons, S.blt1, S.blt2, S.len_list, S.len_tuple, S.int_int, S.abs_int, S.tup_of, S.lst_of, S.sorted_of, S.min2_of, S.max2_of, S.ix_t0, S.ix_t1, S.ix_t2, S.ix_t3, S.ix_l3, S.zip_nil, S.zip_cons, S.ix_l0, S.ix_l1, S.ix_l2, S.seq_t, S.seq_l, S.seqO_d, S.is_bb, S.isnot_bb, S.isin_is, S.min_l, S.min_t, S.max_l, S.max_t, DL.le_int, DL.lt_int, DL.ge_int, DL.gt_int, DL.eq_int, DL.ne_int, DL.ne_nil, DL.eq_nil, add_i, sub_i, tyD, PyData.isTuple, PyData.isInt, PyData.isBool, PyData.isList, PyData.isStr, List.getD_cons_zero, List.getD_cons_succ, List.set_cons_zero, List.set_cons_succ, List.cons_append, List.nil_append, List.length_cons, List.length_nil, List.length_map, List.length_take, List.isEmpty_nil, List.isEmpty_map, List.isEmpty_cons, List.map_cons, List.map_nil, List.replicate, Nat.reduceAdd, Nat.reduceSub, List.all_cons, List.all_nil, Option.bind_some, Option.map_some, Bool.and_true, Bool.true_and, Bool.and_self, Bool.not_true, Bool.not_false, Bool.false_eq_true, if_true, if_false, reduceCtorEq, Int.cast_ofNat_Int, Int.reduceEq, Int.reduceLT, Int.reduceLE, Int.reduceAdd, Int.reduceSub, Int.reduceMod, Int.reduceNeg, Int.zero_add, Int.reduceMul, decide_true, decide_false, beq_self_eq_true, BEq.rfl, Bool.or_true, Bool.or_false, ne_eq, not_true_eq_false, not_false_eq_true, *])
local macro_rules | `(tactic| trivial) => `(tactic| simp only [S.fin_some, S.finB_some, S.finT_some, S.finL_some, S.kvar_d, S.kvar_own, S.kvar_tape, S.ev_var, S.ev_lit, S.ev_glob, S.evs_nil, S.evs_cons, S.ks1_ok, S.ks1_err, S.ks2_ok, S.ks2_err, S.ev_tup, S.ev_lst, S.ktup_ok, S.ktup_err, S.klst_ok, S.klst_err, S.ev_bin, S.kbin1_ok, S.kbin1_err, S.kbin2_ok, S.kbin2_err, S.ev_cmp, S.kcmp1_ok, S.kcmp1_err, S.kcmp2_ok, S.kcmp2_err, S.ev_idx, S.kidx1_ok, S.kidx1_err, S.kidx2_ok, S.kidx2_err, S.ev_neg, S.kneg_ok, S.ev_not, S.knot_ok, S.knot_err, S.tr_ok, S.tr_err, S.ev_and, S.kand1_ok, S.kand1_err, S.kand2_t, S.kand2_f, S.ev_or, S.kor1_ok, S.kor1_err, S.kor2_t, S.kor2_f, S.ev_ite, S.kite_t, S.kite_f, S.kite_err, S.ev_chain, S.kch1_ok, S.kch2_ok, S.kch3_t, S.kch3_f, S.kch4_ok, S.ev_slc, S.kslc1_ok, S.kslc2_ok, S.kslc3_ok, S.kslc4_t, S.kslc4_l, S.evo_omit, S.evo_lit, S.evo_var, S.evo_neg, S.evo_glob, S.evo_bin, S.evo_blt, S.evo_idx, S.evo_call, S.koi_ok, S.ev_isa, S.kisa_ok, S.ev_call, S.kc1_ok, S.kc1_err, S.kc2_t, S.kc3_d, S.kc3_f, S.kc3_err, S.ev_callF, S.kg1_ok, S.kg2_t, S.kg3_f, S.ev_blt, S.kblt_ok, S.kblt_err, S.ev_comp, S.kcp1_ok, S.kcp2_ok, S.kcp3_t, S.kq2_ok, S.ev_gall, S.kq1all_ok, S.ev_gany, S.kq1any_ok, S.kg5_ok, S.kg4_ok, S.ev_gsum, S.ev_gmin, S.ev_gmax, S.ev_gtuple, S.ev_glist, S.ev_gsorted, S.kst2_ok, S.kst1_ok, S.ev_sset, S.ev_tlen, S.ktl_ok, S.ev_tpop, S.ktp_ok, S.ev_revl, S.krv_l, S.krv_t, S.ts_nil, S.ts_cons, S.kts_nil, S.kts_t, S.kts_f, S.ei_seq, S.ksq_ok, S.seqO_own, S.krg3_t, S.krg2_ok, S.ei_rng, S.krg1_ok, S.ei_rng1, S.krg0_ok, S.ei_enum, S.ken_l, S.ken_t, S.ei_zip, S.kzp1_ok, S.kzp2_l, S.kzp2_t, S.ei_rev, S.krs_l, S.krs_t, S.ei_dk, S.kdk_ok, S.kas2_ok, S.kas1_ok, S.kas1_err, S.run_asg, S.bt_nm, S.kbt_t, S.bt_t, S.bt_l, S.kbs_ok, S.bs_nil, S.bs_cons, S.kow_ok, S.run_own, S.kap3_t, S.kap2_ok, S.kap1_ok, S.run_app, S.kau3_ok, S.kau2_ok, S.kau1_ok, S.run_aug, S.kex3_t, S.kex2_ok, S.kex1_ok, S.run_ext, S.kse4_ok, S.kse3_ok, S.kse2_ok, S.kse1_ok, S.run_seti, S.kre_d, S.kre_own, S.kre_err, S.run_ret, S.krf_ok, S.run_retF, S.run_retN, S.kif_t, S.kif_f, S.kif_err, S.run_ifs, S.kfo_ok, S.run_for, S.kwc_is, S.run_whil, S.kxp_ok, S.kxp_err, S.run_expr, S.run_raise, S.run_brk, S.run_cnt, S.run_pass, S.kfz_ok, S.run_frz, S.kpp3_ok, S.kpp2_ok, S.kpp1_ok, S.kpp1_err, S.evP_nil, S.evP_cons, S.flag_t, S.flag_f, S.parE_nil, S.parE_t, S.parE_f, S.kpa_ok, S.kpa_err, S.run_par, S.ktn_ok, S.run_tun, S.kte4_ok, S.kte3_ok, S.kte2_ok, S.kte1_ok, S.run_tset, S.kro_ok, S.run_retO, S.kty2_ok, S.kty_err, S.kty_ret, S.kty_nx, S.run_tryr, S.runs_nil, S.runs_cons, S.kth_nx, S.kth_ret, S.kth_cnt, S.kth_brk, S.kth_err, S.kcr4_ok, S.kcr3_ok, S.kcr2_t, S.kcr2_f, S.kcr1_ok, S.cr_nil, S.cr_cons, S.kqa3_1, S.kqa3_2, S.kqa2_t, S.kqa2_f, S.kqa1_ok, S.qra_nil, S.qra_cons, S.kqo3_1, S.kqo3_2, S.kqo2_t, S.kqo2_f, S.kqo1_ok, S.qro_nil, S.qro_cons, S.kfr2_nx, S.kfr2_cnt, S.kfr2_brk, S.kfr2_ret, S.kfr2_err, S.kfr1_ok, S.fr_nil, S.fr_cons, callRun, wipeE, S.optR_some, S.ans_nx, S.ans_ret, S.ans_err, S.dat_d, S.dat_own, S.truth_bool, S.truth_int, S.truth_list, S.truth_tuple, S.arg_d, S.arg_tape, S.all_nil, S.all_cons, S.all_own, rng_irg, S.allD_nil, S.allD_cons, S.blt1, S.blt2, S.len_list, S.len_tuple, S.int_int, S.abs_int, S.tup_of, S.lst_of, S.sorted_of, S.min2_of, S.max2_of, S.ix_t0, S.ix_t1, S.ix_t2, S.ix_t3, S.ix_l3, S.zip_nil, S.zip_cons, S.ix_l0, S.ix_l1, S.ix_l2, S.seq_t, S.seq_l, S.seqO_d, S.is_bb, S.isnot_bb, S.isin_is, S.min_l, S.min_t, S.max_l, S.max_t, DL.le_int, DL.lt_int, DL.ge_int, DL.gt_int, DL.eq_int, DL.ne_int, DL.ne_nil, DL.eq_nil, add_i, sub_i, tyD, PyData.isTuple, PyData.isInt, PyData.isBool, PyData.isList, PyData.isStr, List.getD_cons_zero, List.getD_cons_succ, List.set_cons_zero, List.set_cons_succ, List.cons_append, List.nil_append, List.length_cons, List.length_nil, List.length_map, List.length_take, List.isEmpty_nil, List.isEmpty_map, List.isEmpty_cons, List.map_cons, List.map_nil, List.replicate, Nat.reduceAdd, Nat.reduceSub, List.all_cons, List.all_nil, Option.bind_some, Option.map_some, Bool.and_true, Bool.true_and, Bool.and_self, Bool.not_true, Bool.not_false, Bool.false_eq_true, if_true, if_false, reduceCtorEq, Int.cast_ofNat_Int, Int.reduceEq, Int.reduceLT, Int.reduceLE, Int.reduceAdd, Int.reduceSub, Int.reduceMod, Int.reduceNeg, Int.zero_add, Int.reduceMul, decide_true, decide_false, beq_self_eq_true, BEq.rfl, Bool.or_true, Bool.or_false, ne_eq, not_true_eq_false, not_false_eq_true, *])
variable {fu k : Nat}
theorem r4 : rngD 0 4 = [.int 0, .int 1, .int 2, .int 3] := rfl
theorem r4ok : rngOk 0 4 = true := by decide
def tp (c f : Q4) (n : Nat) : List PyData := [.int (c.a + (rot f n).a), .int (c.b + (rot f n).b), .int (c.c + (rot f n).c), .int (c.d + (rot f n).d)]
theorem f_tops (c f : Q4) (n : Nat) (hn : n < 4) (t : DL.T) : Fd Q.prog fu (k + 1) 1 [.d c.d', .d f.d', .d (.int n)] t = .ok (.fresh (tp c f n)) t := by
  rw [HA.fd_at (d := c__law_tops) rfl rfl]
  unfold c__law_tops Q4.d'
  have h4 := r4
  have h4k := r4ok
  have hl : lenOk 4 = true := by decide
  have ha : binD .add (.tuple [.int f.a, .int f.b, .int f.c, .int f.d]) (.tuple [.int f.a, .int f.b, .int f.c, .int f.d]) = some (.tuple [.int f.a, .int f.b, .int f.c, .int f.d, .int f.a, .int f.b, .int f.c, .int f.d]) := rfl
  have i4 : ixD (.tuple [.int f.a, .int f.b, .int f.c, .int f.d, .int f.a, .int f.b, .int f.c, .int f.d]) (.int 4) = some (.int f.a) := rfl
  have i5 : ixD (.tuple [.int f.a, .int f.b, .int f.c, .int f.d, .int f.a, .int f.b, .int f.c, .int f.d]) (.int 5) = some (.int f.b) := rfl
  have i6 : ixD (.tuple [.int f.a, .int f.b, .int f.c, .int f.d, .int f.a, .int f.b, .int f.c, .int f.d]) (.int 6) = some (.int f.c) := rfl
  match n, hn with
  | 0, _ =>
    trivial
    rfl
  | 1, _ =>
    trivial
    rfl
  | 2, _ =>
    trivial
    rfl
  | 3, _ =>
    trivial
    rfl
theorem f_stand (c f : Q4) (n : Nat) (hn : n < 4) (t : DL.T) : Fd Q.prog fu (k + 3) 4 [.d c.d', .d f.d', .d (.int n)] t = .ok (.d (.bool (decide (mm c f n = 0)))) t := by
  rw [HA.fd_at (d := c_does_stand) rfl rfl]
  unfold c_does_stand
  have h := f_apart (fu := fu) (k := k) c f n hn t
  trivial
theorem f_stand_no (x y : PyData) (i : Int) (hi : HA.num (.int i) 0 3 = false) (t : DL.T) : Fd Q.prog fu (k + 3) 4 [.d x, .d y, .d (.int i)] t = .err 0 t := by
  rw [HA.fd_at (d := c_does_stand) rfl rfl]
  unfold c_does_stand
  have h := f_apart_no (fu := fu) (k := k) x y i hi t
  trivial
def tm (m : Int) : PyData := if 0 < m then .tuple [.int 0, .int 0, .int m, .int 0] else .tuple [.int 0, .int 0, .int 0, .int (-m)]
theorem f_trims (c f : Q4) (n : Nat) (hn : n < 4) (t : DL.T) : Fd Q.prog fu (k + 3) 5 [.d c.d', .d f.d', .d (.int n)] t = .ok (.d (tm (mm c f n))) t := by
  rw [HA.fd_at (d := c_told_trims) rfl rfl]
  unfold c_told_trims tm
  have h := f_apart (fu := fu) (k := k) c f n hn t
  by_cases hm : 0 < mm c f n
  · trivial
  · trivial
theorem f_trims_no (x y : PyData) (i : Int) (hi : HA.num (.int i) 0 3 = false) (t : DL.T) : Fd Q.prog fu (k + 3) 5 [.d x, .d y, .d (.int i)] t = .err 0 t := by
  rw [HA.fd_at (d := c_told_trims) rfl rfl]
  unfold c_told_trims
  have h := f_apart_no (fu := fu) (k := k) x y i hi t
  trivial
theorem f_ask0 (c f : Q4) (n : Nat) (hn : n < 4) (t : DL.T) : Fd Q.prog fu (k + 4) 6 [.d (.int 0), .d c.d', .d f.d', .d (.int n)] t = .ok (.d (.bool (decide (mm c f n = 0)))) t := by
  rw [HA.fd_at (d := c__law_asked) rfl rfl]
  unfold c__law_asked
  have h := f_stand (fu := fu) (k := k) c f n hn t
  trivial
theorem f_ask1 (c f : Q4) (n : Nat) (hn : n < 4) (t : DL.T) : Fd Q.prog fu (k + 4) 6 [.d (.int 1), .d c.d', .d f.d', .d (.int n)] t = .ok (.d (tm (mm c f n))) t := by
  rw [HA.fd_at (d := c__law_asked) rfl rfl]
  unfold c__law_asked
  have h := f_trims (fu := fu) (k := k) c f n hn t
  trivial
theorem f_ask_no (w : Int) (x y : PyData) (i : Int) (hi : HA.num (.int i) 0 3 = false) (t : DL.T) : Fd Q.prog fu (k + 4) 6 [.d (.int w), .d x, .d y, .d (.int i)] t = .ok (.d (.str "OutOfRange")) t := by
  rw [HA.fd_at (d := c__law_asked) rfl rfl]
  unfold c__law_asked
  have h := f_stand_no (fu := fu) (k := k) x y i hi t
  have h' := f_trims_no (fu := fu) (k := k) x y i hi t
  by_cases hw : w = 0
  · trivial
    rfl
  · trivial
    rfl
end K55
/-! M55c: the plain law of k55: the best turn; all rows of trims. -/
namespace K55
open PySem PySem.Spec PyProof.Rows L2 DL
local macro_rules | `(tactic| decreasing_trivial) => `(tactic| simp only [S.fin_some, S.finB_some, S.finT_some, S.finL_some, S.kvar_d, S.kvar_own, S.kvar_tape, S.ev_var, S.ev_lit, S.ev_glob, S.evs_nil, S.evs_cons, S.ks1_ok, S.ks1_err, S.ks2_ok, S.ks2_err, S.ev_tup, S.ev_lst, S.ktup_ok, S.ktup_err, S.klst_ok, S.klst_err, S.ev_bin, S.kbin1_ok, S.kbin1_err, S.kbin2_ok, S.kbin2_err, S.ev_cmp, S.kcmp1_ok, S.kcmp1_err, S.kcmp2_ok, S.kcmp2_err, S.ev_idx, S.kidx1_ok, S.kidx1_err, S.kidx2_ok, S.kidx2_err, S.ev_neg, S.kneg_ok, S.ev_not, S.knot_ok, S.knot_err, S.tr_ok, S.tr_err, S.ev_and, S.kand1_ok, S.kand1_err, S.kand2_t, S.kand2_f, S.ev_or, S.kor1_ok, S.kor1_err, S.kor2_t, S.kor2_f, S.ev_ite, S.kite_t, S.kite_f, S.kite_err, S.ev_chain, S.kch1_ok, S.kch2_ok, S.kch3_t, S.kch3_f, S.kch4_ok, S.ev_slc, S.kslc1_ok, S.kslc2_ok, S.kslc3_ok, S.kslc4_t, S.kslc4_l, S.evo_omit, S.evo_lit, S.evo_var, S.evo_neg, S.evo_glob, S.evo_bin, S.evo_blt, S.evo_idx, S.evo_call, S.koi_ok, S.ev_isa, S.kisa_ok, S.ev_call, S.kc1_ok, S.kc1_err, S.kc2_t, S.kc3_d, S.kc3_f, S.kc3_err, S.ev_callF, S.kg1_ok, S.kg2_t, S.kg3_f, S.ev_blt, S.kblt_ok, S.kblt_err, S.ev_comp, S.kcp1_ok, S.kcp2_ok, S.kcp3_t, S.kq2_ok, S.ev_gall, S.kq1all_ok, S.ev_gany, S.kq1any_ok, S.kg5_ok, S.kg4_ok, S.ev_gsum, S.ev_gmin, S.ev_gmax, S.ev_gtuple, S.ev_glist, S.ev_gsorted, S.kst2_ok, S.kst1_ok, S.ev_sset, S.ev_tlen, S.ktl_ok, S.ev_tpop, S.ktp_ok, S.ev_revl, S.krv_l, S.krv_t, S.ts_nil, S.ts_cons, S.kts_nil, S.kts_t, S.kts_f, S.ei_seq, S.ksq_ok, S.seqO_own, S.krg3_t, S.krg2_ok, S.ei_rng, S.krg1_ok, S.ei_rng1, S.krg0_ok, S.ei_enum, S.ken_l, S.ken_t, S.ei_zip, S.kzp1_ok, S.kzp2_l, S.kzp2_t, S.ei_rev, S.krs_l, S.krs_t, S.ei_dk, S.kdk_ok, S.kas2_ok, S.kas1_ok, S.kas1_err, S.run_asg, S.bt_nm, S.kbt_t, S.bt_t, S.bt_l, S.kbs_ok, S.bs_nil, S.bs_cons, S.kow_ok, S.run_own, S.kap3_t, S.kap2_ok, S.kap1_ok, S.run_app, S.kau3_ok, S.kau2_ok, S.kau1_ok, S.run_aug, S.kex3_t, S.kex2_ok, S.kex1_ok, S.run_ext, S.kse4_ok, S.kse3_ok, S.kse2_ok, S.kse1_ok, S.run_seti, S.kre_d, S.kre_own, S.kre_err, S.run_ret, S.krf_ok, S.run_retF, S.run_retN, S.kif_t, S.kif_f, S.kif_err, S.run_ifs, S.kfo_ok, S.run_for, S.kwc_is, S.run_whil, S.kxp_ok, S.kxp_err, S.run_expr, S.run_raise, S.run_brk, S.run_cnt, S.run_pass, S.kfz_ok, S.run_frz, S.kpp3_ok, S.kpp2_ok, S.kpp1_ok, S.kpp1_err, S.evP_nil, S.evP_cons, S.flag_t, S.flag_f, S.parE_nil, S.parE_t, S.parE_f, S.kpa_ok, S.kpa_err, S.run_par, S.ktn_ok, S.run_tun, S.kte4_ok, S.kte3_ok, S.kte2_ok, S.kte1_ok, S.run_tset, S.kro_ok, S.run_retO, S.kty2_ok, S.kty_err, S.kty_ret, S.kty_nx, S.run_tryr, S.runs_nil, S.runs_cons, S.kth_nx, S.kth_ret, S.kth_cnt, S.kth_brk, S.kth_err, S.kcr4_ok, S.kcr3_ok, S.kcr2_t, S.kcr2_f, S.kcr1_ok, S.cr_nil, S.kqa3_1, S.kqa3_2, S.kqa2_t, S.kqa2_f, S.kqa1_ok, S.qra_nil, S.kqo3_1, S.kqo3_2, S.kqo2_t, S.kqo2_f, S.kqo1_ok, S.qro_nil, S.kfr2_nx, S.kfr2_cnt, S.kfr2_brk, S.kfr2_ret, S.kfr2_err, S.kfr1_ok, S.fr_nil, callRun, wipeE, S.optR_some, S.ans_nx, S.ans_ret, S.ans_err, S.dat_d, S.dat_own, S.truth_bool, S.truth_int, S.truth_list, S.truth_tuple, S.arg_d, S.arg_tape, S.all_nil, S.all_cons, S.all_own, rng_irg, S.allD_nil, S.allD_cons, S.blt1, S.blt2, S.len_list, S.len_tuple, S.int_int, S.abs_int, S.tup_of, S.lst_of, S.sorted_of, S.min2_of, S.max2_of, S.ix_t0, S.ix_t1, S.ix_t2, S.ix_t3, S.ix_l3, S.zip_nil, S.zip_cons, S.ix_l0, S.ix_l1, S.ix_l2, S.seq_t, S.seq_l, S.seqO_d, S.is_bb, S.isnot_bb, S.isin_is, S.min_l, S.min_t, S.max_l, S.max_t, DL.le_int, DL.lt_int, DL.ge_int, DL.gt_int, DL.eq_int, DL.ne_int, DL.ne_nil, DL.eq_nil, add_i, sub_i, tyD, PyData.isTuple, PyData.isInt, PyData.isBool, PyData.isList, PyData.isStr, List.getD_cons_zero, List.getD_cons_succ, List.set_cons_zero, List.set_cons_succ, List.cons_append, List.nil_append, List.length_cons, List.length_nil, List.length_map, List.length_take, List.isEmpty_nil, List.isEmpty_map, List.isEmpty_cons, List.map_cons, List.map_nil, List.replicate, Nat.reduceAdd, Nat.reduceSub, List.all_cons, List.all_nil, Option.bind_some, Option.map_some, Bool.and_true, Bool.true_and, Bool.and_self, Bool.not_true, Bool.not_false, Bool.false_eq_true, if_true, if_false, reduceCtorEq, Int.cast_ofNat_Int, Int.reduceEq, Int.reduceLT, Int.reduceLE, Int.reduceAdd, Int.reduceSub, Int.reduceMod, Int.reduceNeg, Int.zero_add, Int.reduceMul, decide_true, decide_false, beq_self_eq_true, BEq.rfl, Bool.or_true, Bool.or_false, ne_eq, not_true_eq_false, not_false_eq_true, *])
local macro_rules | `(tactic| trivial) => `(tactic| simp only [S.fin_some, S.finB_some, S.finT_some, S.finL_some, S.kvar_d, S.kvar_own, S.kvar_tape, S.ev_var, S.ev_lit, S.ev_glob, S.evs_nil, S.evs_cons, S.ks1_ok, S.ks1_err, S.ks2_ok, S.ks2_err, S.ev_tup, S.ev_lst, S.ktup_ok, S.ktup_err, S.klst_ok, S.klst_err, S.ev_bin, S.kbin1_ok, S.kbin1_err, S.kbin2_ok, S.kbin2_err, S.ev_cmp, S.kcmp1_ok, S.kcmp1_err, S.kcmp2_ok, S.kcmp2_err, S.ev_idx, S.kidx1_ok, S.kidx1_err, S.kidx2_ok, S.kidx2_err, S.ev_neg, S.kneg_ok, S.ev_not, S.knot_ok, S.knot_err, S.tr_ok, S.tr_err, S.ev_and, S.kand1_ok, S.kand1_err, S.kand2_t, S.kand2_f, S.ev_or, S.kor1_ok, S.kor1_err, S.kor2_t, S.kor2_f, S.ev_ite, S.kite_t, S.kite_f, S.kite_err, S.ev_chain, S.kch1_ok, S.kch2_ok, S.kch3_t, S.kch3_f, S.kch4_ok, S.ev_slc, S.kslc1_ok, S.kslc2_ok, S.kslc3_ok, S.kslc4_t, S.kslc4_l, S.evo_omit, S.evo_lit, S.evo_var, S.evo_neg, S.evo_glob, S.evo_bin, S.evo_blt, S.evo_idx, S.evo_call, S.koi_ok, S.ev_isa, S.kisa_ok, S.ev_call, S.kc1_ok, S.kc1_err, S.kc2_t, S.kc3_d, S.kc3_f, S.kc3_err, S.ev_callF, S.kg1_ok, S.kg2_t, S.kg3_f, S.ev_blt, S.kblt_ok, S.kblt_err, S.ev_comp, S.kcp1_ok, S.kcp2_ok, S.kcp3_t, S.kq2_ok, S.ev_gall, S.kq1all_ok, S.ev_gany, S.kq1any_ok, S.kg5_ok, S.kg4_ok, S.ev_gsum, S.ev_gmin, S.ev_gmax, S.ev_gtuple, S.ev_glist, S.ev_gsorted, S.kst2_ok, S.kst1_ok, S.ev_sset, S.ev_tlen, S.ktl_ok, S.ev_tpop, S.ktp_ok, S.ev_revl, S.krv_l, S.krv_t, S.ts_nil, S.ts_cons, S.kts_nil, S.kts_t, S.kts_f, S.ei_seq, S.ksq_ok, S.seqO_own, S.krg3_t, S.krg2_ok, S.ei_rng, S.krg1_ok, S.ei_rng1, S.krg0_ok, S.ei_enum, S.ken_l, S.ken_t, S.ei_zip, S.kzp1_ok, S.kzp2_l, S.kzp2_t, S.ei_rev, S.krs_l, S.krs_t, S.ei_dk, S.kdk_ok, S.kas2_ok, S.kas1_ok, S.kas1_err, S.run_asg, S.bt_nm, S.kbt_t, S.bt_t, S.bt_l, S.kbs_ok, S.bs_nil, S.bs_cons, S.kow_ok, S.run_own, S.kap3_t, S.kap2_ok, S.kap1_ok, S.run_app, S.kau3_ok, S.kau2_ok, S.kau1_ok, S.run_aug, S.kex3_t, S.kex2_ok, S.kex1_ok, S.run_ext, S.kse4_ok, S.kse3_ok, S.kse2_ok, S.kse1_ok, S.run_seti, S.kre_d, S.kre_own, S.kre_err, S.run_ret, S.krf_ok, S.run_retF, S.run_retN, S.kif_t, S.kif_f, S.kif_err, S.run_ifs, S.kfo_ok, S.run_for, S.kwc_is, S.run_whil, S.kxp_ok, S.kxp_err, S.run_expr, S.run_raise, S.run_brk, S.run_cnt, S.run_pass, S.kfz_ok, S.run_frz, S.kpp3_ok, S.kpp2_ok, S.kpp1_ok, S.kpp1_err, S.evP_nil, S.evP_cons, S.flag_t, S.flag_f, S.parE_nil, S.parE_t, S.parE_f, S.kpa_ok, S.kpa_err, S.run_par, S.ktn_ok, S.run_tun, S.kte4_ok, S.kte3_ok, S.kte2_ok, S.kte1_ok, S.run_tset, S.kro_ok, S.run_retO, S.kty2_ok, S.kty_err, S.kty_ret, S.kty_nx, S.run_tryr, S.runs_nil, S.runs_cons, S.kth_nx, S.kth_ret, S.kth_cnt, S.kth_brk, S.kth_err, S.kcr4_ok, S.kcr3_ok, S.kcr2_t, S.kcr2_f, S.kcr1_ok, S.cr_nil, S.cr_cons, S.kqa3_1, S.kqa3_2, S.kqa2_t, S.kqa2_f, S.kqa1_ok, S.qra_nil, S.qra_cons, S.kqo3_1, S.kqo3_2, S.kqo2_t, S.kqo2_f, S.kqo1_ok, S.qro_nil, S.qro_cons, S.kfr2_nx, S.kfr2_cnt, S.kfr2_brk, S.kfr2_ret, S.kfr2_err, S.kfr1_ok, S.fr_nil, S.fr_cons, callRun, wipeE, S.optR_some, S.ans_nx, S.ans_ret, S.ans_err, S.dat_d, S.dat_own, S.truth_bool, S.truth_int, S.truth_list, S.truth_tuple, S.arg_d, S.arg_tape, S.all_nil, S.all_cons, S.all_own, rng_irg, S.allD_nil, S.allD_cons, S.blt1, S.blt2, S.len_list, S.len_tuple, S.int_int, S.abs_int, S.tup_of, S.lst_of, S.sorted_of, S.min2_of, S.max2_of, S.ix_t0, S.ix_t1, S.ix_t2, S.ix_t3, S.ix_l3, S.zip_nil, S.zip_cons, S.ix_l0, S.ix_l1, S.ix_l2, S.seq_t, S.seq_l, S.seqO_d, S.is_bb, S.isnot_bb, S.isin_is, S.min_l, S.min_t, S.max_l, S.max_t, DL.le_int, DL.lt_int, DL.ge_int, DL.gt_int, DL.eq_int, DL.ne_int, DL.ne_nil, DL.eq_nil, add_i, sub_i, tyD, PyData.isTuple, PyData.isInt, PyData.isBool, PyData.isList, PyData.isStr, List.getD_cons_zero, List.getD_cons_succ, List.set_cons_zero, List.set_cons_succ, List.cons_append, List.nil_append, List.length_cons, List.length_nil, List.length_map, List.length_take, List.isEmpty_nil, List.isEmpty_map, List.isEmpty_cons, List.map_cons, List.map_nil, List.replicate, Nat.reduceAdd, Nat.reduceSub, List.all_cons, List.all_nil, Option.bind_some, Option.map_some, Bool.and_true, Bool.true_and, Bool.and_self, Bool.not_true, Bool.not_false, Bool.false_eq_true, if_true, if_false, reduceCtorEq, Int.cast_ofNat_Int, Int.reduceEq, Int.reduceLT, Int.reduceLE, Int.reduceAdd, Int.reduceSub, Int.reduceMod, Int.reduceNeg, Int.zero_add, Int.reduceMul, decide_true, decide_false, beq_self_eq_true, BEq.rfl, Bool.or_true, Bool.or_false, ne_eq, not_true_eq_false, not_false_eq_true, *])
variable {fu k : Nat}
def ab (m : Int) : Int := if 0 < m then m else -m
theorem nat_ab (m : Int) : (m.natAbs : Int) = ab m := by
  unfold ab
  split <;> omega
/-- how far the legs are apart, turn by turn -/
def mk (c f : Q4) : List PyData := [.tuple [.int (ab (mm c f 0)), .int 0], .tuple [.int (ab (mm c f 1)), .int 1], .tuple [.int (ab (mm c f 2)), .int 2], .tuple [.int (ab (mm c f 3)), .int 3]]
theorem mk_min (c f : Q4) : ∃ a n : Int, minOfD (mk c f) = some (.tuple [.int a, .int n]) := by
  obtain ⟨y, hy, e⟩ := minOf_sh (.tup [.int, .int]) (by decide) (xs := mk c f) (by unfold mk; exact List.cons_ne_nil _ _) (fun x hx => by
    unfold mk at hx
    simp only [List.mem_cons, List.not_mem_nil, or_false] at hx
    rcases hx with rfl | rfl | rfl | rfl <;> rfl)
  rw [e]
  unfold mk at hy
  simp only [List.mem_cons, List.not_mem_nil, or_false] at hy
  rcases hy with rfl | rfl | rfl | rfl <;> exact ⟨_, _, rfl⟩
theorem f_best (c f : Q4) (a n : Int) (h : minOfD (mk c f) = some (.tuple [.int a, .int n])) (t : DL.T) : Fd Q.prog fu (k + 3) 12 [.d c.d', .d f.d'] t = .ok (.d (.int n)) t := by
  rw [HA.fd_at (d := c_best_turn) rfl rfl]
  unfold c_best_turn
  have h4 : irg 0 4 = [0, 1, 2, 3] := rfl
  have h4k := r4ok
  have h0 : Fd Q.prog fu (k + 2) 3 [.d c.d', .d f.d', .d (.int 0)] t = .ok (.d (.int (mm c f 0))) t := f_apart (fu := fu) (k := k) c f 0 (by decide) t
  have h1 : Fd Q.prog fu (k + 2) 3 [.d c.d', .d f.d', .d (.int 1)] t = .ok (.d (.int (mm c f 1))) t := f_apart (fu := fu) (k := k) c f 1 (by decide) t
  have h2 : Fd Q.prog fu (k + 2) 3 [.d c.d', .d f.d', .d (.int 2)] t = .ok (.d (.int (mm c f 2))) t := f_apart (fu := fu) (k := k) c f 2 (by decide) t
  have h3 : Fd Q.prog fu (k + 2) 3 [.d c.d', .d f.d', .d (.int 3)] t = .ok (.d (.int (mm c f 3))) t := f_apart (fu := fu) (k := k) c f 3 (by decide) t
  have hl : lenOk 4 = true := by decide
  have ha := nat_ab
  unfold mk at h
  trivial
/-! ### rows of trims -/
def g3 (v a b c : Int) : List Q4 := ((irg 0 (v + 1)).filter fun d => decide (a + b + c + d ≤ v)).map fun d => ⟨a, b, c, d⟩
def g2 (v a b : Int) : List Q4 := (irg 0 (v + 1)).flatMap (g3 v a b)
def g1 (v a : Int) : List Q4 := (irg 0 (v + 1)).flatMap (g2 v a)
def g0 (v : Int) : List Q4 := (irg 0 (v + 1)).flatMap (g1 v)
theorem len3 (v a b c : Int) (hv : v < 6) : (g3 v a b c).length ≤ 6 := by
  unfold g3
  rw [List.length_map]
  refine Nat.le_trans (List.length_filter_le _ _) ?_
  rw [len_irg]
  omega
theorem irg6 (v : Int) (hv : v < 6) : (irg 0 (v + 1)).length ≤ 6 := by
  rw [len_irg]
  omega
theorem len2 (v a b : Int) (hv : v < 6) : (g2 v a b).length ≤ 36 := Nat.le_trans (len_fm fun y _ => len3 v a b y hv) (Nat.mul_le_mul_right 6 (irg6 v hv))
theorem len1 (v a : Int) (hv : v < 6) : (g1 v a).length ≤ 216 := Nat.le_trans (len_fm fun y _ => len2 v a y hv) (Nat.mul_le_mul_right 36 (irg6 v hv))
theorem len0 (v : Int) (hv : v < 6) : (g0 v).length ≤ 1296 := Nat.le_trans (len_fm fun y _ => len1 v y hv) (Nat.mul_le_mul_right 216 (irg6 v hv))
theorem mem_g0 {v : Int} {q : Q4} : q ∈ g0 v ↔ 0 ≤ q.a ∧ 0 ≤ q.b ∧ 0 ≤ q.c ∧ 0 ≤ q.d ∧ q.a + q.b + q.c + q.d ≤ v := by
  unfold g0 g1 g2 g3
  simp only [List.mem_flatMap, List.mem_map, List.mem_filter, decide_eq_true_eq, mem_irg]
  constructor
  · rintro ⟨a, ha, b, hb, c, hc, d, ⟨hd, h⟩, rfl⟩
    exact ⟨ha.1, hb.1, hc.1, hd.1, h⟩
  · rintro ⟨ha, hb, hc, hd, h⟩
    exact ⟨q.a, ⟨ha, by omega⟩, q.b, ⟨hb, by omega⟩, q.c, ⟨hc, by omega⟩, q.d, ⟨⟨hd, by omega⟩, h⟩, rfl⟩
theorem f_rows (v : Int) (h0 : 0 ≤ v) (hv : v < 6) (t : DL.T) : Fd Q.prog fu (k + 1) 15 [.d (.int v)] t = .ok (.d (.list ((g0 v).map Q4.d'))) t := by
  rw [HA.fd_at (d := c__law_trims) rfl rfl]
  unfold c__law_trims
  have hr : rngD 0 (v + 1) = (irg 0 (v + 1)).map PyData.int := rng_irg _ _
  have ho : rngOk 0 (v + 1) = true := rngOk_of (by omega) (by omega) (by omega) (by omega)
  trivial
  refine for_acc_in (P := fun o => (S.kth _ _ _ o).answer = _) PyData.int (g1 v) 1296 (fun acc e => ∃ x y z u, e = [.d (.int v), .d (.list (acc.map Q4.d')), x, y, z, u]) [] ?_ ⟨_, _, _, _, rfl⟩ ?_ ?_
  · have := len0 v hv
    unfold g0 at this
    simpa using this
  · rintro a ha acc e hl ⟨x, y, z, u, rfl⟩
    refine ⟨_, rfl, ?_⟩
    trivial
    refine for_acc_in (P := fun o => Goes t _ (S.kth _ _ _ o)) PyData.int (g2 v a) 1296 (fun acc e => ∃ y z u, e = [.d (.int v), .d (.list (acc.map Q4.d')), .d (.int a), y, z, u]) acc hl ⟨_, _, _, rfl⟩ ?_ ?_
    · rintro b hb acc e hl ⟨y, z, u, rfl⟩
      refine ⟨_, rfl, ?_⟩
      trivial
      refine for_acc_in (P := fun o => Goes t _ (S.kth _ _ _ o)) PyData.int (g3 v a b) 1296 (fun acc e => ∃ z u, e = [.d (.int v), .d (.list (acc.map Q4.d')), .d (.int a), .d (.int b), z, u]) acc hl ⟨_, _, rfl⟩ ?_ ?_
      · rintro c hc acc e hl ⟨z, u, rfl⟩
        refine ⟨_, rfl, ?_⟩
        trivial
        rw [comp_pure PyData.int (fun d => decide (a + b + c + d ≤ v)) (fun d => (⟨a, b, c, d⟩ : Q4).d')]
        · have e3 : ((irg 0 (v + 1)).filter fun d => decide (a + b + c + d ≤ v)).map (fun d => (⟨a, b, c, d⟩ : Q4).d') = (g3 v a b c).map Q4.d' := by
            unfold g3
            rw [List.map_map]
            rfl
          rw [e3]
          have l1 : lenOk (g3 v a b c).length = true := decide_eq_true (by omega)
          have ad : binD .add (.list (acc.map Q4.d')) (.list ((g3 v a b c).map Q4.d')) = some (.list (acc.map Q4.d' ++ (g3 v a b c).map Q4.d')) := add_l (by rw [List.length_map, List.length_map]; omega)
          trivial
          exact goes_nx ⟨_, _, by rw [List.map_append]⟩
        · intro d _
          refine ⟨_, rfl, ?_, fun _ => ?_⟩
          · trivial
          · trivial
            rfl
      · rintro e ⟨z, u, rfl⟩
        trivial
        exact goes_nx ⟨_, _, _, rfl⟩
    · rintro e ⟨y, z, u, rfl⟩
      trivial
      exact goes_nx ⟨_, _, _, _, rfl⟩
  · rintro e ⟨x, y, z, u, rfl⟩
    trivial
    rfl
end K55
/-! M55i: the plain law of k55: the law, first part: the chair, the floor. -/
namespace K55
open PySem PySem.Spec PyProof.Rows L2 DL
local macro_rules | `(tactic| decreasing_trivial) => `(tactic| simp only [S.fin_some, S.finB_some, S.finT_some, S.finL_some, S.kvar_d, S.kvar_own, S.kvar_tape, S.ev_var, S.ev_lit, S.ev_glob, S.evs_nil, S.evs_cons, S.ks1_ok, S.ks1_err, S.ks2_ok, S.ks2_err, S.ev_tup, S.ev_lst, S.ktup_ok, S.ktup_err, S.klst_ok, S.klst_err, S.ev_bin, S.kbin1_ok, S.kbin1_err, S.kbin2_ok, S.kbin2_err, S.ev_cmp, S.kcmp1_ok, S.kcmp1_err, S.kcmp2_ok, S.kcmp2_err, S.ev_idx, S.kidx1_ok, S.kidx1_err, S.kidx2_ok, S.kidx2_err, S.ev_neg, S.kneg_ok, S.ev_not, S.knot_ok, S.knot_err, S.tr_ok, S.tr_err, S.ev_and, S.kand1_ok, S.kand1_err, S.kand2_t, S.kand2_f, S.ev_or, S.kor1_ok, S.kor1_err, S.kor2_t, S.kor2_f, S.ev_ite, S.kite_t, S.kite_f, S.kite_err, S.ev_chain, S.kch1_ok, S.kch2_ok, S.kch3_t, S.kch3_f, S.kch4_ok, S.ev_slc, S.kslc1_ok, S.kslc2_ok, S.kslc3_ok, S.kslc4_t, S.kslc4_l, S.evo_omit, S.evo_lit, S.evo_var, S.evo_neg, S.evo_glob, S.evo_bin, S.evo_blt, S.evo_idx, S.evo_call, S.koi_ok, S.ev_isa, S.kisa_ok, S.ev_call, S.kc1_ok, S.kc1_err, S.kc2_t, S.kc3_d, S.kc3_f, S.kc3_err, S.ev_callF, S.kg1_ok, S.kg2_t, S.kg3_f, S.ev_blt, S.kblt_ok, S.kblt_err, S.ev_comp, S.kcp1_ok, S.kcp2_ok, S.kcp3_t, S.kq2_ok, S.ev_gall, S.kq1all_ok, S.ev_gany, S.kq1any_ok, S.kg5_ok, S.kg4_ok, S.ev_gsum, S.ev_gmin, S.ev_gmax, S.ev_gtuple, S.ev_glist, S.ev_gsorted, S.kst2_ok, S.kst1_ok, S.ev_sset, S.ev_tlen, S.ktl_ok, S.ev_tpop, S.ktp_ok, S.ev_revl, S.krv_l, S.krv_t, S.ts_nil, S.ts_cons, S.kts_nil, S.kts_t, S.kts_f, S.ei_seq, S.ksq_ok, S.seqO_own, S.krg3_t, S.krg2_ok, S.ei_rng, S.krg1_ok, S.ei_rng1, S.krg0_ok, S.ei_enum, S.ken_l, S.ken_t, S.ei_zip, S.kzp1_ok, S.kzp2_l, S.kzp2_t, S.ei_rev, S.krs_l, S.krs_t, S.ei_dk, S.kdk_ok, S.kas2_ok, S.kas1_ok, S.kas1_err, S.run_asg, S.bt_nm, S.kbt_t, S.bt_t, S.bt_l, S.kbs_ok, S.bs_nil, S.bs_cons, S.kow_ok, S.run_own, S.kap3_t, S.kap2_ok, S.kap1_ok, S.run_app, S.kau3_ok, S.kau2_ok, S.kau1_ok, S.run_aug, S.kex3_t, S.kex2_ok, S.kex1_ok, S.run_ext, S.kse4_ok, S.kse3_ok, S.kse2_ok, S.kse1_ok, S.run_seti, S.kre_d, S.kre_own, S.kre_err, S.run_ret, S.krf_ok, S.run_retF, S.run_retN, S.kif_t, S.kif_f, S.kif_err, S.run_ifs, S.kfo_ok, S.run_for, S.kwc_is, S.run_whil, S.kxp_ok, S.kxp_err, S.run_expr, S.run_raise, S.run_brk, S.run_cnt, S.run_pass, S.kfz_ok, S.run_frz, S.kpp3_ok, S.kpp2_ok, S.kpp1_ok, S.kpp1_err, S.evP_nil, S.evP_cons, S.flag_t, S.flag_f, S.parE_nil, S.parE_t, S.parE_f, S.kpa_ok, S.kpa_err, S.run_par, S.ktn_ok, S.run_tun, S.kte4_ok, S.kte3_ok, S.kte2_ok, S.kte1_ok, S.run_tset, S.kro_ok, S.run_retO, S.kty2_ok, S.kty_err, S.kty_ret, S.kty_nx, S.run_tryr, S.runs_nil, S.runs_cons, S.kth_nx, S.kth_ret, S.kth_cnt, S.kth_brk, S.kth_err, S.kcr4_ok, S.kcr3_ok, S.kcr2_t, S.kcr2_f, S.kcr1_ok, S.cr_nil, S.kqa3_1, S.kqa3_2, S.kqa2_t, S.kqa2_f, S.kqa1_ok, S.qra_nil, S.kqo3_1, S.kqo3_2, S.kqo2_t, S.kqo2_f, S.kqo1_ok, S.qro_nil, S.kfr2_nx, S.kfr2_cnt, S.kfr2_brk, S.kfr2_ret, S.kfr2_err, S.kfr1_ok, S.fr_nil, callRun, wipeE, S.optR_some, S.ans_nx, S.ans_ret, S.ans_err, S.dat_d, S.dat_own, S.truth_bool, S.truth_int, S.truth_list, S.truth_tuple, S.arg_d, S.arg_tape, S.all_nil, S.all_cons, S.all_own, rng_irg, S.allD_nil, S.allD_cons, S.blt1, S.blt2, S.len_list, S.len_tuple, S.int_int, S.abs_int, S.tup_of, S.lst_of, S.sorted_of, S.min2_of, S.max2_of, S.ix_t0, S.ix_t1, S.ix_t2, S.ix_t3, S.ix_l3, S.zip_nil, S.zip_cons, S.ix_l0, S.ix_l1, S.ix_l2, S.seq_t, S.seq_l, S.seqO_d, S.is_bb, S.isnot_bb, S.isin_is, S.min_l, S.min_t, S.max_l, S.max_t, DL.le_int, DL.lt_int, DL.ge_int, DL.gt_int, DL.eq_int, DL.ne_int, DL.ne_nil, DL.eq_nil, add_i, sub_i, tyD, PyData.isTuple, PyData.isInt, PyData.isBool, PyData.isList, PyData.isStr, List.getD_cons_zero, List.getD_cons_succ, List.set_cons_zero, List.set_cons_succ, List.cons_append, List.nil_append, List.length_cons, List.length_nil, List.length_map, List.length_take, List.isEmpty_nil, List.isEmpty_map, List.isEmpty_cons, List.map_cons, List.map_nil, List.replicate, Nat.reduceAdd, Nat.reduceSub, List.all_cons, List.all_nil, Option.bind_some, Option.map_some, Bool.and_true, Bool.true_and, Bool.and_self, Bool.not_true, Bool.not_false, Bool.false_eq_true, if_true, if_false, reduceCtorEq, Int.cast_ofNat_Int, Int.reduceEq, Int.reduceLT, Int.reduceLE, Int.reduceAdd, Int.reduceSub, Int.reduceMod, Int.reduceNeg, Int.zero_add, Int.reduceMul, decide_true, decide_false, beq_self_eq_true, BEq.rfl, Bool.or_true, Bool.or_false, ne_eq, not_true_eq_false, not_false_eq_true, *])
local macro_rules | `(tactic| trivial) => `(tactic| simp only [S.fin_some, S.finB_some, S.finT_some, S.finL_some, S.kvar_d, S.kvar_own, S.kvar_tape, S.ev_var, S.ev_lit, S.ev_glob, S.evs_nil, S.evs_cons, S.ks1_ok, S.ks1_err, S.ks2_ok, S.ks2_err, S.ev_tup, S.ev_lst, S.ktup_ok, S.ktup_err, S.klst_ok, S.klst_err, S.ev_bin, S.kbin1_ok, S.kbin1_err, S.kbin2_ok, S.kbin2_err, S.ev_cmp, S.kcmp1_ok, S.kcmp1_err, S.kcmp2_ok, S.kcmp2_err, S.ev_idx, S.kidx1_ok, S.kidx1_err, S.kidx2_ok, S.kidx2_err, S.ev_neg, S.kneg_ok, S.ev_not, S.knot_ok, S.knot_err, S.tr_ok, S.tr_err, S.ev_and, S.kand1_ok, S.kand1_err, S.kand2_t, S.kand2_f, S.ev_or, S.kor1_ok, S.kor1_err, S.kor2_t, S.kor2_f, S.ev_ite, S.kite_t, S.kite_f, S.kite_err, S.ev_chain, S.kch1_ok, S.kch2_ok, S.kch3_t, S.kch3_f, S.kch4_ok, S.ev_slc, S.kslc1_ok, S.kslc2_ok, S.kslc3_ok, S.kslc4_t, S.kslc4_l, S.evo_omit, S.evo_lit, S.evo_var, S.evo_neg, S.evo_glob, S.evo_bin, S.evo_blt, S.evo_idx, S.evo_call, S.koi_ok, S.ev_isa, S.kisa_ok, S.ev_call, S.kc1_ok, S.kc1_err, S.kc2_t, S.kc3_d, S.kc3_f, S.kc3_err, S.ev_callF, S.kg1_ok, S.kg2_t, S.kg3_f, S.ev_blt, S.kblt_ok, S.kblt_err, S.ev_comp, S.kcp1_ok, S.kcp2_ok, S.kcp3_t, S.kq2_ok, S.ev_gall, S.kq1all_ok, S.ev_gany, S.kq1any_ok, S.kg5_ok, S.kg4_ok, S.ev_gsum, S.ev_gmin, S.ev_gmax, S.ev_gtuple, S.ev_glist, S.ev_gsorted, S.kst2_ok, S.kst1_ok, S.ev_sset, S.ev_tlen, S.ktl_ok, S.ev_tpop, S.ktp_ok, S.ev_revl, S.krv_l, S.krv_t, S.ts_nil, S.ts_cons, S.kts_nil, S.kts_t, S.kts_f, S.ei_seq, S.ksq_ok, S.seqO_own, S.krg3_t, S.krg2_ok, S.ei_rng, S.krg1_ok, S.ei_rng1, S.krg0_ok, S.ei_enum, S.ken_l, S.ken_t, S.ei_zip, S.kzp1_ok, S.kzp2_l, S.kzp2_t, S.ei_rev, S.krs_l, S.krs_t, S.ei_dk, S.kdk_ok, S.kas2_ok, S.kas1_ok, S.kas1_err, S.run_asg, S.bt_nm, S.kbt_t, S.bt_t, S.bt_l, S.kbs_ok, S.bs_nil, S.bs_cons, S.kow_ok, S.run_own, S.kap3_t, S.kap2_ok, S.kap1_ok, S.run_app, S.kau3_ok, S.kau2_ok, S.kau1_ok, S.run_aug, S.kex3_t, S.kex2_ok, S.kex1_ok, S.run_ext, S.kse4_ok, S.kse3_ok, S.kse2_ok, S.kse1_ok, S.run_seti, S.kre_d, S.kre_own, S.kre_err, S.run_ret, S.krf_ok, S.run_retF, S.run_retN, S.kif_t, S.kif_f, S.kif_err, S.run_ifs, S.kfo_ok, S.run_for, S.kwc_is, S.run_whil, S.kxp_ok, S.kxp_err, S.run_expr, S.run_raise, S.run_brk, S.run_cnt, S.run_pass, S.kfz_ok, S.run_frz, S.kpp3_ok, S.kpp2_ok, S.kpp1_ok, S.kpp1_err, S.evP_nil, S.evP_cons, S.flag_t, S.flag_f, S.parE_nil, S.parE_t, S.parE_f, S.kpa_ok, S.kpa_err, S.run_par, S.ktn_ok, S.run_tun, S.kte4_ok, S.kte3_ok, S.kte2_ok, S.kte1_ok, S.run_tset, S.kro_ok, S.run_retO, S.kty2_ok, S.kty_err, S.kty_ret, S.kty_nx, S.run_tryr, S.runs_nil, S.runs_cons, S.kth_nx, S.kth_ret, S.kth_cnt, S.kth_brk, S.kth_err, S.kcr4_ok, S.kcr3_ok, S.kcr2_t, S.kcr2_f, S.kcr1_ok, S.cr_nil, S.cr_cons, S.kqa3_1, S.kqa3_2, S.kqa2_t, S.kqa2_f, S.kqa1_ok, S.qra_nil, S.qra_cons, S.kqo3_1, S.kqo3_2, S.kqo2_t, S.kqo2_f, S.kqo1_ok, S.qro_nil, S.qro_cons, S.kfr2_nx, S.kfr2_cnt, S.kfr2_brk, S.kfr2_ret, S.kfr2_err, S.kfr1_ok, S.fr_nil, S.fr_cons, callRun, wipeE, S.optR_some, S.ans_nx, S.ans_ret, S.ans_err, S.dat_d, S.dat_own, S.truth_bool, S.truth_int, S.truth_list, S.truth_tuple, S.arg_d, S.arg_tape, S.all_nil, S.all_cons, S.all_own, rng_irg, S.allD_nil, S.allD_cons, S.blt1, S.blt2, S.len_list, S.len_tuple, S.int_int, S.abs_int, S.tup_of, S.lst_of, S.sorted_of, S.min2_of, S.max2_of, S.ix_t0, S.ix_t1, S.ix_t2, S.ix_t3, S.ix_l3, S.zip_nil, S.zip_cons, S.ix_l0, S.ix_l1, S.ix_l2, S.seq_t, S.seq_l, S.seqO_d, S.is_bb, S.isnot_bb, S.isin_is, S.min_l, S.min_t, S.max_l, S.max_t, DL.le_int, DL.lt_int, DL.ge_int, DL.gt_int, DL.eq_int, DL.ne_int, DL.ne_nil, DL.eq_nil, add_i, sub_i, tyD, PyData.isTuple, PyData.isInt, PyData.isBool, PyData.isList, PyData.isStr, List.getD_cons_zero, List.getD_cons_succ, List.set_cons_zero, List.set_cons_succ, List.cons_append, List.nil_append, List.length_cons, List.length_nil, List.length_map, List.length_take, List.isEmpty_nil, List.isEmpty_map, List.isEmpty_cons, List.map_cons, List.map_nil, List.replicate, Nat.reduceAdd, Nat.reduceSub, List.all_cons, List.all_nil, Option.bind_some, Option.map_some, Bool.and_true, Bool.true_and, Bool.and_self, Bool.not_true, Bool.not_false, Bool.false_eq_true, if_true, if_false, reduceCtorEq, Int.cast_ofNat_Int, Int.reduceEq, Int.reduceLT, Int.reduceLE, Int.reduceAdd, Int.reduceSub, Int.reduceMod, Int.reduceNeg, Int.zero_add, Int.reduceMul, decide_true, decide_false, beq_self_eq_true, BEq.rfl, Bool.or_true, Bool.or_false, ne_eq, not_true_eq_false, not_false_eq_true, *])
variable {fu k : Nat}
def st (i : Nat) : S := l_law.rest.getD i .pass
def bodyOf : S → List S
  | .forr _ _ b => b
  | _ => []
theorem draw {t : DL.T} (h : HA.TapeOk t) {size : Int} (h1 : 0 < size) (h2 : size < 1073741824) : ∃ (r : Int) (t' : DL.T), Fd Q.prog fu 6 8 [.tape, .d (.int size)] t = .ok (.d (.int r)) t' ∧ 0 ≤ r ∧ r < size ∧ HA.TapeOk t' := HA.f_draw (k := 4) p8 p7 h h1 h2
/-- as drawn -/
structure Drawn (c f : Q4) (b : Int) : Prop where
  b0 : 100 ≤ b
  b1 : b ≤ 999
  a0 : 100 ≤ c.a ∧ c.a ≤ 999
  a1 : 100 ≤ c.b ∧ c.b ≤ 999
  a2 : 100 ≤ c.c ∧ c.c ≤ 999
  a3 : 100 ≤ c.d ∧ c.d ≤ 999
  f0 : 0 ≤ f.a ∧ f.a ≤ 99
  f1 : 0 ≤ f.b ∧ f.b ≤ 99
  f2 : 0 ≤ f.c ∧ f.c ≤ 99
  f3 : 0 ≤ f.d ∧ f.d ≤ 99
theorem law_1 {t0 : DL.T} (hT : HA.TapeOk t0) (ns : PyData) (post : List S)
    (next : ∀ (c f : Q4) (b : Int) (t : DL.T) (x2 : W), HA.TapeOk t → Drawn c f b → HA.Wins (runs (Fd Q.prog fu 6) fu post [.d ns, .tape, x2, .d (.int b), .d c.d', .d f.d', .un, .un, .un, .un, .un, .un, .un, .un, .un, .un, .un, .un, .un, .un, .un, .un] t)) :
    HA.Wins (runs (Fd Q.prog fu 6) fu (st 0 :: st 1 :: st 2 :: post) [.d ns, .tape, .un, .un, .un, .un, .un, .un, .un, .un, .un, .un, .un, .un, .un, .un, .un, .un, .un, .un, .un, .un] t0) := by
  obtain ⟨r1, t1, d1, a1, b1, T1⟩ := draw (fu := fu) hT (size := 3) (by decide) (by decide)
  obtain ⟨s1, m1, i1⟩ := HA.at_int [2, 4, 200] r1 a1 b1
  replace m1 : s1 = 2 ∨ s1 = 4 ∨ s1 = 200 := by simpa using m1
  obtain ⟨r2, t2, d2, a2, b2, T2⟩ := draw (fu := fu) T1 (size := 700) (by decide) (by decide)
  obtain ⟨r3, t3, d3, a3, b3, T3⟩ := draw (fu := fu) T2 (size := s1) (by omega) (by omega)
  obtain ⟨r4, t4, d4, a4, b4, T4⟩ := draw (fu := fu) T3 (size := s1) (by omega) (by omega)
  obtain ⟨r5, t5, d5, a5, b5, T5⟩ := draw (fu := fu) T4 (size := s1) (by omega) (by omega)
  obtain ⟨r6, t6, d6, a6, b6, T6⟩ := draw (fu := fu) T5 (size := s1) (by omega) (by omega)
  obtain ⟨r7, t7, d7, a7, b7, T7⟩ := draw (fu := fu) T6 (size := 3) (by decide) (by decide)
  obtain ⟨s7, m7, i7⟩ := HA.at_int [1, 3, 100] r7 a7 b7
  replace m7 : s7 = 1 ∨ s7 = 3 ∨ s7 = 100 := by simpa using m7
  obtain ⟨r8, t8, d8, a8, b8, T8⟩ := draw (fu := fu) T7 (size := s7) (by omega) (by omega)
  obtain ⟨r9, t9, d9, a9, b9, T9⟩ := draw (fu := fu) T8 (size := 3) (by decide) (by decide)
  obtain ⟨s9, m9, i9⟩ := HA.at_int [1, 3, 100] r9 a9 b9
  replace m9 : s9 = 1 ∨ s9 = 3 ∨ s9 = 100 := by simpa using m9
  obtain ⟨r10, t10, d10, a10, b10, T10⟩ := draw (fu := fu) T9 (size := s9) (by omega) (by omega)
  obtain ⟨r11, t11, d11, a11, b11, T11⟩ := draw (fu := fu) T10 (size := 3) (by decide) (by decide)
  obtain ⟨s11, m11, i11⟩ := HA.at_int [1, 3, 100] r11 a11 b11
  replace m11 : s11 = 1 ∨ s11 = 3 ∨ s11 = 100 := by simpa using m11
  obtain ⟨r12, t12, d12, a12, b12, T12⟩ := draw (fu := fu) T11 (size := s11) (by omega) (by omega)
  obtain ⟨r13, t13, d13, a13, b13, T13⟩ := draw (fu := fu) T12 (size := 3) (by decide) (by decide)
  obtain ⟨s13, m13, i13⟩ := HA.at_int [1, 3, 100] r13 a13 b13
  replace m13 : s13 = 1 ∨ s13 = 3 ∨ s13 = 100 := by simpa using m13
  obtain ⟨r14, t14, d14, a14, b14, T14⟩ := draw (fu := fu) T13 (size := s13) (by omega) (by omega)
  have fin := next ⟨100 + r2 + r3, 100 + r2 + r4, 100 + r2 + r5, 100 + r2 + r6⟩ ⟨r8, r10, r12, r14⟩ (100 + r2) t14
  have bd : Drawn ⟨100 + r2 + r3, 100 + r2 + r4, 100 + r2 + r5, 100 + r2 + r6⟩ ⟨r8, r10, r12, r14⟩ (100 + r2) := by
    constructor <;> (try dsimp only) <;> omega
  dsimp only [List.map] at i1 i7 i9 i11 i13
  have hr : rngOk 0 4 = true := by decide
  have hg : irg 0 4 = [0, 1, 2, 3] := rfl
  have hl2 : lenOk 1 = true := by decide
  have hl3 : lenOk 2 = true := by decide
  have hl4 : lenOk 4 = true := by decide
  clear m1 m7 m9 m11 m13 a1 b1 a2 b2 a3 b3 a4 b4 a5 b5 a6 b6 a7 b7 a8 b8 a9 b9 a10 b10 a11 b11 a12 b12 a13 b13 a14 b14 T1 T2 T3 T4 T5 T6 T7 T8 T9 T10 T11 T12 T13 next hT
  dsimp only [Q4.d'] at fin
  replace fin := fun x2 => fin x2 T14 bd
  clear bd T14
  dsimp only [st, l_law, List.getD_cons_succ, List.getD_cons_zero]
  trivial
end K55
/-! M55j: the plain law of k55: the law: what is no chair, no floor. -/
namespace K55
open PySem PySem.Spec PyProof.Rows L2 DL
local macro_rules | `(tactic| decreasing_trivial) => `(tactic| simp only [S.fin_some, S.finB_some, S.finT_some, S.finL_some, S.kvar_d, S.kvar_own, S.kvar_tape, S.ev_var, S.ev_lit, S.ev_glob, S.evs_nil, S.evs_cons, S.ks1_ok, S.ks1_err, S.ks2_ok, S.ks2_err, S.ev_tup, S.ev_lst, S.ktup_ok, S.ktup_err, S.klst_ok, S.klst_err, S.ev_bin, S.kbin1_ok, S.kbin1_err, S.kbin2_ok, S.kbin2_err, S.ev_cmp, S.kcmp1_ok, S.kcmp1_err, S.kcmp2_ok, S.kcmp2_err, S.ev_idx, S.kidx1_ok, S.kidx1_err, S.kidx2_ok, S.kidx2_err, S.ev_neg, S.kneg_ok, S.ev_not, S.knot_ok, S.knot_err, S.tr_ok, S.tr_err, S.ev_and, S.kand1_ok, S.kand1_err, S.kand2_t, S.kand2_f, S.ev_or, S.kor1_ok, S.kor1_err, S.kor2_t, S.kor2_f, S.ev_ite, S.kite_t, S.kite_f, S.kite_err, S.ev_chain, S.kch1_ok, S.kch2_ok, S.kch3_t, S.kch3_f, S.kch4_ok, S.ev_slc, S.kslc1_ok, S.kslc2_ok, S.kslc3_ok, S.kslc4_t, S.kslc4_l, S.evo_omit, S.evo_lit, S.evo_var, S.evo_neg, S.evo_glob, S.evo_bin, S.evo_blt, S.evo_idx, S.evo_call, S.koi_ok, S.ev_isa, S.kisa_ok, S.ev_call, S.kc1_ok, S.kc1_err, S.kc2_t, S.kc3_d, S.kc3_f, S.kc3_err, S.ev_callF, S.kg1_ok, S.kg2_t, S.kg3_f, S.ev_blt, S.kblt_ok, S.kblt_err, S.ev_comp, S.kcp1_ok, S.kcp2_ok, S.kcp3_t, S.kq2_ok, S.ev_gall, S.kq1all_ok, S.ev_gany, S.kq1any_ok, S.kg5_ok, S.kg4_ok, S.ev_gsum, S.ev_gmin, S.ev_gmax, S.ev_gtuple, S.ev_glist, S.ev_gsorted, S.kst2_ok, S.kst1_ok, S.ev_sset, S.ev_tlen, S.ktl_ok, S.ev_tpop, S.ktp_ok, S.ev_revl, S.krv_l, S.krv_t, S.ts_nil, S.ts_cons, S.kts_nil, S.kts_t, S.kts_f, S.ei_seq, S.ksq_ok, S.seqO_own, S.krg3_t, S.krg2_ok, S.ei_rng, S.krg1_ok, S.ei_rng1, S.krg0_ok, S.ei_enum, S.ken_l, S.ken_t, S.ei_zip, S.kzp1_ok, S.kzp2_l, S.kzp2_t, S.ei_rev, S.krs_l, S.krs_t, S.ei_dk, S.kdk_ok, S.kas2_ok, S.kas1_ok, S.kas1_err, S.run_asg, S.bt_nm, S.kbt_t, S.bt_t, S.bt_l, S.kbs_ok, S.bs_nil, S.bs_cons, S.kow_ok, S.run_own, S.kap3_t, S.kap2_ok, S.kap1_ok, S.run_app, S.kau3_ok, S.kau2_ok, S.kau1_ok, S.run_aug, S.kex3_t, S.kex2_ok, S.kex1_ok, S.run_ext, S.kse4_ok, S.kse3_ok, S.kse2_ok, S.kse1_ok, S.run_seti, S.kre_d, S.kre_own, S.kre_err, S.run_ret, S.krf_ok, S.run_retF, S.run_retN, S.kif_t, S.kif_f, S.kif_err, S.run_ifs, S.kfo_ok, S.run_for, S.kwc_is, S.run_whil, S.kxp_ok, S.kxp_err, S.run_expr, S.run_raise, S.run_brk, S.run_cnt, S.run_pass, S.kfz_ok, S.run_frz, S.kpp3_ok, S.kpp2_ok, S.kpp1_ok, S.kpp1_err, S.evP_nil, S.evP_cons, S.flag_t, S.flag_f, S.parE_nil, S.parE_t, S.parE_f, S.kpa_ok, S.kpa_err, S.run_par, S.ktn_ok, S.run_tun, S.kte4_ok, S.kte3_ok, S.kte2_ok, S.kte1_ok, S.run_tset, S.kro_ok, S.run_retO, S.kty2_ok, S.kty_err, S.kty_ret, S.kty_nx, S.run_tryr, S.runs_nil, S.runs_cons, S.kth_nx, S.kth_ret, S.kth_cnt, S.kth_brk, S.kth_err, S.kcr4_ok, S.kcr3_ok, S.kcr2_t, S.kcr2_f, S.kcr1_ok, S.cr_nil, S.kqa3_1, S.kqa3_2, S.kqa2_t, S.kqa2_f, S.kqa1_ok, S.qra_nil, S.kqo3_1, S.kqo3_2, S.kqo2_t, S.kqo2_f, S.kqo1_ok, S.qro_nil, S.kfr2_nx, S.kfr2_cnt, S.kfr2_brk, S.kfr2_ret, S.kfr2_err, S.kfr1_ok, S.fr_nil, callRun, wipeE, S.optR_some, S.ans_nx, S.ans_ret, S.ans_err, S.dat_d, S.dat_own, S.truth_bool, S.truth_int, S.truth_list, S.truth_tuple, S.arg_d, S.arg_tape, S.all_nil, S.all_cons, S.all_own, rng_irg, S.allD_nil, S.allD_cons, S.blt1, S.blt2, S.len_list, S.len_tuple, S.int_int, S.abs_int, S.tup_of, S.lst_of, S.sorted_of, S.min2_of, S.max2_of, S.ix_t0, S.ix_t1, S.ix_t2, S.ix_t3, S.ix_l3, S.zip_nil, S.zip_cons, S.ix_l0, S.ix_l1, S.ix_l2, S.seq_t, S.seq_l, S.seqO_d, S.is_bb, S.isnot_bb, S.isin_is, S.min_l, S.min_t, S.max_l, S.max_t, DL.le_int, DL.lt_int, DL.ge_int, DL.gt_int, DL.eq_int, DL.ne_int, DL.ne_nil, DL.eq_nil, add_i, sub_i, tyD, PyData.isTuple, PyData.isInt, PyData.isBool, PyData.isList, PyData.isStr, List.getD_cons_zero, List.getD_cons_succ, List.set_cons_zero, List.set_cons_succ, List.cons_append, List.nil_append, List.length_cons, List.length_nil, List.length_map, List.length_take, List.isEmpty_nil, List.isEmpty_map, List.isEmpty_cons, List.map_cons, List.map_nil, List.replicate, Nat.reduceAdd, Nat.reduceSub, List.all_cons, List.all_nil, Option.bind_some, Option.map_some, Bool.and_true, Bool.true_and, Bool.and_self, Bool.not_true, Bool.not_false, Bool.false_eq_true, if_true, if_false, reduceCtorEq, Int.cast_ofNat_Int, Int.reduceEq, Int.reduceLT, Int.reduceLE, Int.reduceAdd, Int.reduceSub, Int.reduceMod, Int.reduceNeg, Int.zero_add, Int.reduceMul, decide_true, decide_false, beq_self_eq_true, BEq.rfl, Bool.or_true, Bool.or_false, ne_eq, not_true_eq_false, not_false_eq_true, *])
local macro_rules | `(tactic| trivial) => `(tactic| simp only [S.fin_some, S.finB_some, S.finT_some, S.finL_some, S.kvar_d, S.kvar_own, S.kvar_tape, S.ev_var, S.ev_lit, S.ev_glob, S.evs_nil, S.evs_cons, S.ks1_ok, S.ks1_err, S.ks2_ok, S.ks2_err, S.ev_tup, S.ev_lst, S.ktup_ok, S.ktup_err, S.klst_ok, S.klst_err, S.ev_bin, S.kbin1_ok, S.kbin1_err, S.kbin2_ok, S.kbin2_err, S.ev_cmp, S.kcmp1_ok, S.kcmp1_err, S.kcmp2_ok, S.kcmp2_err, S.ev_idx, S.kidx1_ok, S.kidx1_err, S.kidx2_ok, S.kidx2_err, S.ev_neg, S.kneg_ok, S.ev_not, S.knot_ok, S.knot_err, S.tr_ok, S.tr_err, S.ev_and, S.kand1_ok, S.kand1_err, S.kand2_t, S.kand2_f, S.ev_or, S.kor1_ok, S.kor1_err, S.kor2_t, S.kor2_f, S.ev_ite, S.kite_t, S.kite_f, S.kite_err, S.ev_chain, S.kch1_ok, S.kch2_ok, S.kch3_t, S.kch3_f, S.kch4_ok, S.ev_slc, S.kslc1_ok, S.kslc2_ok, S.kslc3_ok, S.kslc4_t, S.kslc4_l, S.evo_omit, S.evo_lit, S.evo_var, S.evo_neg, S.evo_glob, S.evo_bin, S.evo_blt, S.evo_idx, S.evo_call, S.koi_ok, S.ev_isa, S.kisa_ok, S.ev_call, S.kc1_ok, S.kc1_err, S.kc2_t, S.kc3_d, S.kc3_f, S.kc3_err, S.ev_callF, S.kg1_ok, S.kg2_t, S.kg3_f, S.ev_blt, S.kblt_ok, S.kblt_err, S.ev_comp, S.kcp1_ok, S.kcp2_ok, S.kcp3_t, S.kq2_ok, S.ev_gall, S.kq1all_ok, S.ev_gany, S.kq1any_ok, S.kg5_ok, S.kg4_ok, S.ev_gsum, S.ev_gmin, S.ev_gmax, S.ev_gtuple, S.ev_glist, S.ev_gsorted, S.kst2_ok, S.kst1_ok, S.ev_sset, S.ev_tlen, S.ktl_ok, S.ev_tpop, S.ktp_ok, S.ev_revl, S.krv_l, S.krv_t, S.ts_nil, S.ts_cons, S.kts_nil, S.kts_t, S.kts_f, S.ei_seq, S.ksq_ok, S.seqO_own, S.krg3_t, S.krg2_ok, S.ei_rng, S.krg1_ok, S.ei_rng1, S.krg0_ok, S.ei_enum, S.ken_l, S.ken_t, S.ei_zip, S.kzp1_ok, S.kzp2_l, S.kzp2_t, S.ei_rev, S.krs_l, S.krs_t, S.ei_dk, S.kdk_ok, S.kas2_ok, S.kas1_ok, S.kas1_err, S.run_asg, S.bt_nm, S.kbt_t, S.bt_t, S.bt_l, S.kbs_ok, S.bs_nil, S.bs_cons, S.kow_ok, S.run_own, S.kap3_t, S.kap2_ok, S.kap1_ok, S.run_app, S.kau3_ok, S.kau2_ok, S.kau1_ok, S.run_aug, S.kex3_t, S.kex2_ok, S.kex1_ok, S.run_ext, S.kse4_ok, S.kse3_ok, S.kse2_ok, S.kse1_ok, S.run_seti, S.kre_d, S.kre_own, S.kre_err, S.run_ret, S.krf_ok, S.run_retF, S.run_retN, S.kif_t, S.kif_f, S.kif_err, S.run_ifs, S.kfo_ok, S.run_for, S.kwc_is, S.run_whil, S.kxp_ok, S.kxp_err, S.run_expr, S.run_raise, S.run_brk, S.run_cnt, S.run_pass, S.kfz_ok, S.run_frz, S.kpp3_ok, S.kpp2_ok, S.kpp1_ok, S.kpp1_err, S.evP_nil, S.evP_cons, S.flag_t, S.flag_f, S.parE_nil, S.parE_t, S.parE_f, S.kpa_ok, S.kpa_err, S.run_par, S.ktn_ok, S.run_tun, S.kte4_ok, S.kte3_ok, S.kte2_ok, S.kte1_ok, S.run_tset, S.kro_ok, S.run_retO, S.kty2_ok, S.kty_err, S.kty_ret, S.kty_nx, S.run_tryr, S.runs_nil, S.runs_cons, S.kth_nx, S.kth_ret, S.kth_cnt, S.kth_brk, S.kth_err, S.kcr4_ok, S.kcr3_ok, S.kcr2_t, S.kcr2_f, S.kcr1_ok, S.cr_nil, S.cr_cons, S.kqa3_1, S.kqa3_2, S.kqa2_t, S.kqa2_f, S.kqa1_ok, S.qra_nil, S.qra_cons, S.kqo3_1, S.kqo3_2, S.kqo2_t, S.kqo2_f, S.kqo1_ok, S.qro_nil, S.qro_cons, S.kfr2_nx, S.kfr2_cnt, S.kfr2_brk, S.kfr2_ret, S.kfr2_err, S.kfr1_ok, S.fr_nil, S.fr_cons, callRun, wipeE, S.optR_some, S.ans_nx, S.ans_ret, S.ans_err, S.dat_d, S.dat_own, S.truth_bool, S.truth_int, S.truth_list, S.truth_tuple, S.arg_d, S.arg_tape, S.all_nil, S.all_cons, S.all_own, rng_irg, S.allD_nil, S.allD_cons, S.blt1, S.blt2, S.len_list, S.len_tuple, S.int_int, S.abs_int, S.tup_of, S.lst_of, S.sorted_of, S.min2_of, S.max2_of, S.ix_t0, S.ix_t1, S.ix_t2, S.ix_t3, S.ix_l3, S.zip_nil, S.zip_cons, S.ix_l0, S.ix_l1, S.ix_l2, S.seq_t, S.seq_l, S.seqO_d, S.is_bb, S.isnot_bb, S.isin_is, S.min_l, S.min_t, S.max_l, S.max_t, DL.le_int, DL.lt_int, DL.ge_int, DL.gt_int, DL.eq_int, DL.ne_int, DL.ne_nil, DL.eq_nil, add_i, sub_i, tyD, PyData.isTuple, PyData.isInt, PyData.isBool, PyData.isList, PyData.isStr, List.getD_cons_zero, List.getD_cons_succ, List.set_cons_zero, List.set_cons_succ, List.cons_append, List.nil_append, List.length_cons, List.length_nil, List.length_map, List.length_take, List.isEmpty_nil, List.isEmpty_map, List.isEmpty_cons, List.map_cons, List.map_nil, List.replicate, Nat.reduceAdd, Nat.reduceSub, List.all_cons, List.all_nil, Option.bind_some, Option.map_some, Bool.and_true, Bool.true_and, Bool.and_self, Bool.not_true, Bool.not_false, Bool.false_eq_true, if_true, if_false, reduceCtorEq, Int.cast_ofNat_Int, Int.reduceEq, Int.reduceLT, Int.reduceLE, Int.reduceAdd, Int.reduceSub, Int.reduceMod, Int.reduceNeg, Int.zero_add, Int.reduceMul, decide_true, decide_false, beq_self_eq_true, BEq.rfl, Bool.or_true, Bool.or_false, ne_eq, not_true_eq_false, not_false_eq_true, *])
variable {fu k : Nat}
theorem law_2 {c f : Q4} (b : Int) (t : DL.T) (post : List S) (x0 x2 : W)
    (next : ∀ xs : List PyData, (∀ v ∈ xs, four v 100 999 = false) → HA.Wins (runs (Fd Q.prog fu 6) fu post [x0, .tape, x2, .d (.int b), .d c.d', .d f.d', .d (.list xs), .un, .un, .un, .un, .un, .un, .un, .un, .un, .un, .un, .un, .un, .un, .un] t)) :
    HA.Wins (runs (Fd Q.prog fu 6) fu (st 3 :: post) [x0, .tape, x2, .d (.int b), .d c.d', .d f.d', .un, .un, .un, .un, .un, .un, .un, .un, .un, .un, .un, .un, .un, .un, .un, .un] t) := by
  obtain ⟨a, b, c, d⟩ := c
  have wr : ∀ v ∈ [.none, .tuple [], .tuple [.int a, .int b, .int c], .tuple [.int a, .int b, .int c, .int d, .int a], .list [.int a, .int b, .int c, .int d], .tuple [.int a, .int b, .int c, .int 99], .tuple [.int a, .int b, .int c, .int 1000], .tuple [.int a, .int b, .int c, .bool true], .tuple [.int a, .int b, .int c, .none], .tuple [.str "500", .int b, .int c, .int d], .int 5], four v 100 999 = false := by
    intro v hv
    simp only [List.mem_cons, List.not_mem_nil, or_false] at hv
    rcases hv with rfl | rfl | rfl | rfl | rfl | rfl | rfl | rfl | rfl | rfl | rfl <;> simp [four, HA.num]
  have c3 : cutD [.int a, .int b, .int c, .int d] none (some 3) = [.int a, .int b, .int c] := cut_take _ 3
  have c1 : cutD [.int a, .int b, .int c, .int d] none (some 1) = [.int a] := cut_take _ 1
  have c0 : cutD [.int a, .int b, .int c, .int d] (some 1) none = [.int b, .int c, .int d] := rfl
  have ad : ∀ x, binD .add (.tuple [.int a, .int b, .int c]) (.tuple [x]) = some (.tuple [.int a, .int b, .int c, x]) := fun _ => rfl
  have ad2 : binD .add (.tuple [.int a, .int b, .int c, .int d]) (.tuple [.int a]) = some (.tuple [.int a, .int b, .int c, .int d, .int a]) := rfl
  have ad3 : ∀ x, binD .add (.tuple [x]) (.tuple [.int b, .int c, .int d]) = some (.tuple [x, .int b, .int c, .int d]) := fun _ => rfl
  replace next := next _ wr
  clear wr
  dsimp only [st, l_law, List.getD_cons_succ, List.getD_cons_zero, Q4.d'] at next ⊢
  trivial
theorem law_3 {c f : Q4} {b : Int} (hd : Drawn c f b) (t : DL.T) (post : List S) (x0 x2 : W) (xs : List PyData) (hx : ∀ v ∈ xs, four v 100 999 = false)
    (next : HA.Wins (runs (Fd Q.prog fu 6) fu post [x0, .tape, x2, .d (.int b), .d c.d', .d f.d', .d (.list xs), .un, .un, .un, .un, .un, .un, .un, .un, .un, .un, .un, .un, .un, .un, .un] t)) :
    HA.Wins (runs (Fd Q.prog fu 6) fu (st 4 :: post) [x0, .tape, x2, .d (.int b), .d c.d', .d f.d', .d (.list xs), .un, .un, .un, .un, .un, .un, .un, .un, .un, .un, .un, .un, .un, .un, .un] t) := by
  have q1 : four c.d' 100 999 = true := by
    obtain ⟨_, _, h1, h2, h3, h4, _, _, _, _⟩ := hd
    simp [Q4.d', four, HA.num]; omega
  have q2 : four (.tuple [.int 999, .int 100, .int 999, .int 100]) 100 999 = true := by decide
  have fb : ∀ x t, Fd Q.prog fu 6 10 [.d x] t = .ok (.d (.bool (four x 100 999))) t := fun x t => f_chair (k := 3) x t
  have hl : lenOk 0 = true := by decide
  clear hd
  dsimp only [st, l_law, List.getD_cons_succ, List.getD_cons_zero]
  trivial
  rw [comp_none']
  · trivial
  · intro v hv
    have := hx v hv
    refine ⟨_, rfl, ?_⟩
    trivial
theorem law_4 {c f : Q4} (b : Int) (t : DL.T) (post : List S) (x0 x2 x6 : W)
    (next : ∀ xs : List PyData, (∀ v ∈ xs, four v 0 99 = false) → HA.Wins (runs (Fd Q.prog fu 6) fu post [x0, .tape, x2, .d (.int b), .d c.d', .d f.d', .d (.list xs), .un, .un, .un, .un, .un, .un, .un, .un, .un, .un, .un, .un, .un, .un, .un] t)) :
    HA.Wins (runs (Fd Q.prog fu 6) fu (st 5 :: post) [x0, .tape, x2, .d (.int b), .d c.d', .d f.d', x6, .un, .un, .un, .un, .un, .un, .un, .un, .un, .un, .un, .un, .un, .un, .un] t) := by
  obtain ⟨a, b, c, d⟩ := f
  have wr : ∀ v ∈ [.none, .tuple [], .tuple [.int a, .int b, .int c], .tuple [.int a, .int b, .int c, .int d, .int a], .list [.int a, .int b, .int c, .int d], .tuple [.int a, .int b, .int c, .int (-1)], .tuple [.int a, .int b, .int c, .int 100], .tuple [.int a, .int b, .int c, .bool true], .tuple [.int a, .int b, .int c, .none], .tuple [.str "1", .int b, .int c, .int d], .int 5], four v 0 99 = false := by
    intro v hv
    simp only [List.mem_cons, List.not_mem_nil, or_false] at hv
    rcases hv with rfl | rfl | rfl | rfl | rfl | rfl | rfl | rfl | rfl | rfl | rfl <;> simp [four, HA.num]
  have c3 : cutD [.int a, .int b, .int c, .int d] none (some 3) = [.int a, .int b, .int c] := cut_take _ 3
  have c1 : cutD [.int a, .int b, .int c, .int d] none (some 1) = [.int a] := cut_take _ 1
  have c0 : cutD [.int a, .int b, .int c, .int d] (some 1) none = [.int b, .int c, .int d] := rfl
  have ad : ∀ x, binD .add (.tuple [.int a, .int b, .int c]) (.tuple [x]) = some (.tuple [.int a, .int b, .int c, x]) := fun _ => rfl
  have ad2 : binD .add (.tuple [.int a, .int b, .int c, .int d]) (.tuple [.int a]) = some (.tuple [.int a, .int b, .int c, .int d, .int a]) := rfl
  have ad3 : ∀ x, binD .add (.tuple [x]) (.tuple [.int b, .int c, .int d]) = some (.tuple [x, .int b, .int c, .int d]) := fun _ => rfl
  replace next := next _ wr
  clear wr
  dsimp only [st, l_law, List.getD_cons_succ, List.getD_cons_zero, Q4.d'] at next ⊢
  trivial
theorem law_5 {c f : Q4} {b : Int} (hd : Drawn c f b) (t : DL.T) (post : List S) (x0 x2 : W) (xs : List PyData) (hx : ∀ v ∈ xs, four v 0 99 = false)
    (next : HA.Wins (runs (Fd Q.prog fu 6) fu post [x0, .tape, x2, .d (.int b), .d c.d', .d f.d', .d (.list xs), .own [], .un, .un, .un, .un, .un, .un, .un, .un, .un, .un, .un, .un, .un, .un] t)) :
    HA.Wins (runs (Fd Q.prog fu 6) fu (st 6 :: st 7 :: post) [x0, .tape, x2, .d (.int b), .d c.d', .d f.d', .d (.list xs), .un, .un, .un, .un, .un, .un, .un, .un, .un, .un, .un, .un, .un, .un, .un] t) := by
  have q1 : four f.d' 0 99 = true := by
    obtain ⟨_, _, _, _, _, _, h1, h2, h3, h4⟩ := hd
    simp [Q4.d', four, HA.num]; omega
  have q2 : four (.tuple [.int 99, .int 0, .int 99, .int 0]) 0 99 = true := by decide
  have fb : ∀ x t, Fd Q.prog fu 6 11 [.d x] t = .ok (.d (.bool (four x 0 99))) t := fun x t => f_floor (k := 3) x t
  have hl : lenOk 0 = true := by decide
  clear hd
  dsimp only [st, l_law, List.getD_cons_succ, List.getD_cons_zero]
  trivial
  rw [comp_none']
  · trivial
  · intro v hv
    have := hx v hv
    refine ⟨_, rfl, ?_⟩
    trivial
end K55
/-! M55k: the plain law of k55: the law's loop over turns. -/
namespace K55
open PySem PySem.Spec PyProof.Rows L2 DL
local macro_rules | `(tactic| decreasing_trivial) => `(tactic| simp only [S.fin_some, S.finB_some, S.finT_some, S.finL_some, S.kvar_d, S.kvar_own, S.kvar_tape, S.ev_var, S.ev_lit, S.ev_glob, S.evs_nil, S.evs_cons, S.ks1_ok, S.ks1_err, S.ks2_ok, S.ks2_err, S.ev_tup, S.ev_lst, S.ktup_ok, S.ktup_err, S.klst_ok, S.klst_err, S.ev_bin, S.kbin1_ok, S.kbin1_err, S.kbin2_ok, S.kbin2_err, S.ev_cmp, S.kcmp1_ok, S.kcmp1_err, S.kcmp2_ok, S.kcmp2_err, S.ev_idx, S.kidx1_ok, S.kidx1_err, S.kidx2_ok, S.kidx2_err, S.ev_neg, S.kneg_ok, S.ev_not, S.knot_ok, S.knot_err, S.tr_ok, S.tr_err, S.ev_and, S.kand1_ok, S.kand1_err, S.kand2_t, S.kand2_f, S.ev_or, S.kor1_ok, S.kor1_err, S.kor2_t, S.kor2_f, S.ev_ite, S.kite_t, S.kite_f, S.kite_err, S.ev_chain, S.kch1_ok, S.kch2_ok, S.kch3_t, S.kch3_f, S.kch4_ok, S.ev_slc, S.kslc1_ok, S.kslc2_ok, S.kslc3_ok, S.kslc4_t, S.kslc4_l, S.evo_omit, S.evo_lit, S.evo_var, S.evo_neg, S.evo_glob, S.evo_bin, S.evo_blt, S.evo_idx, S.evo_call, S.koi_ok, S.ev_isa, S.kisa_ok, S.ev_call, S.kc1_ok, S.kc1_err, S.kc2_t, S.kc3_d, S.kc3_f, S.kc3_err, S.ev_callF, S.kg1_ok, S.kg2_t, S.kg3_f, S.ev_blt, S.kblt_ok, S.kblt_err, S.ev_comp, S.kcp1_ok, S.kcp2_ok, S.kcp3_t, S.kq2_ok, S.ev_gall, S.kq1all_ok, S.ev_gany, S.kq1any_ok, S.kg5_ok, S.kg4_ok, S.ev_gsum, S.ev_gmin, S.ev_gmax, S.ev_gtuple, S.ev_glist, S.ev_gsorted, S.kst2_ok, S.kst1_ok, S.ev_sset, S.ev_tlen, S.ktl_ok, S.ev_tpop, S.ktp_ok, S.ev_revl, S.krv_l, S.krv_t, S.ts_nil, S.ts_cons, S.kts_nil, S.kts_t, S.kts_f, S.ei_seq, S.ksq_ok, S.seqO_own, S.krg3_t, S.krg2_ok, S.ei_rng, S.krg1_ok, S.ei_rng1, S.krg0_ok, S.ei_enum, S.ken_l, S.ken_t, S.ei_zip, S.kzp1_ok, S.kzp2_l, S.kzp2_t, S.ei_rev, S.krs_l, S.krs_t, S.ei_dk, S.kdk_ok, S.kas2_ok, S.kas1_ok, S.kas1_err, S.run_asg, S.bt_nm, S.kbt_t, S.bt_t, S.bt_l, S.kbs_ok, S.bs_nil, S.bs_cons, S.kow_ok, S.run_own, S.kap3_t, S.kap2_ok, S.kap1_ok, S.run_app, S.kau3_ok, S.kau2_ok, S.kau1_ok, S.run_aug, S.kex3_t, S.kex2_ok, S.kex1_ok, S.run_ext, S.kse4_ok, S.kse3_ok, S.kse2_ok, S.kse1_ok, S.run_seti, S.kre_d, S.kre_own, S.kre_err, S.run_ret, S.krf_ok, S.run_retF, S.run_retN, S.kif_t, S.kif_f, S.kif_err, S.run_ifs, S.kfo_ok, S.run_for, S.kwc_is, S.run_whil, S.kxp_ok, S.kxp_err, S.run_expr, S.run_raise, S.run_brk, S.run_cnt, S.run_pass, S.kfz_ok, S.run_frz, S.kpp3_ok, S.kpp2_ok, S.kpp1_ok, S.kpp1_err, S.evP_nil, S.evP_cons, S.flag_t, S.flag_f, S.parE_nil, S.parE_t, S.parE_f, S.kpa_ok, S.kpa_err, S.run_par, S.ktn_ok, S.run_tun, S.kte4_ok, S.kte3_ok, S.kte2_ok, S.kte1_ok, S.run_tset, S.kro_ok, S.run_retO, S.kty2_ok, S.kty_err, S.kty_ret, S.kty_nx, S.run_tryr, S.runs_nil, S.runs_cons, S.kth_nx, S.kth_ret, S.kth_cnt, S.kth_brk, S.kth_err, S.kcr4_ok, S.kcr3_ok, S.kcr2_t, S.kcr2_f, S.kcr1_ok, S.cr_nil, S.kqa3_1, S.kqa3_2, S.kqa2_t, S.kqa2_f, S.kqa1_ok, S.qra_nil, S.kqo3_1, S.kqo3_2, S.kqo2_t, S.kqo2_f, S.kqo1_ok, S.qro_nil, S.kfr2_nx, S.kfr2_cnt, S.kfr2_brk, S.kfr2_ret, S.kfr2_err, S.kfr1_ok, S.fr_nil, callRun, wipeE, S.optR_some, S.ans_nx, S.ans_ret, S.ans_err, S.dat_d, S.dat_own, S.truth_bool, S.truth_int, S.truth_list, S.truth_tuple, S.arg_d, S.arg_tape, S.all_nil, S.all_cons, S.all_own, rng_irg, S.allD_nil, S.allD_cons, S.blt1, S.blt2, S.len_list, S.len_tuple, S.int_int, S.abs_int, S.tup_of, S.lst_of, S.sorted_of, S.min2_of, S.max2_of, S.ix_t0, S.ix_t1, S.ix_t2, S.ix_t3, S.ix_l3, S.zip_nil, S.zip_cons, S.ix_l0, S.ix_l1, S.ix_l2, S.seq_t, S.seq_l, S.seqO_d, S.is_bb, S.isnot_bb, S.isin_is, S.min_l, S.min_t, S.max_l, S.max_t, DL.le_int, DL.lt_int, DL.ge_int, DL.gt_int, DL.eq_int, DL.ne_int, DL.ne_nil, DL.eq_nil, add_i, sub_i, tyD, PyData.isTuple, PyData.isInt, PyData.isBool, PyData.isList, PyData.isStr, List.getD_cons_zero, List.getD_cons_succ, List.set_cons_zero, List.set_cons_succ, List.cons_append, List.nil_append, List.length_cons, List.length_nil, List.length_map, List.length_take, List.isEmpty_nil, List.isEmpty_map, List.isEmpty_cons, List.map_cons, List.map_nil, List.replicate, Nat.reduceAdd, Nat.reduceSub, List.all_cons, List.all_nil, Option.bind_some, Option.map_some, Bool.and_true, Bool.true_and, Bool.and_self, Bool.not_true, Bool.not_false, Bool.false_eq_true, if_true, if_false, reduceCtorEq, Int.cast_ofNat_Int, Int.reduceEq, Int.reduceLT, Int.reduceLE, Int.reduceAdd, Int.reduceSub, Int.reduceMod, Int.reduceNeg, Int.zero_add, Int.reduceMul, decide_true, decide_false, beq_self_eq_true, BEq.rfl, Bool.or_true, Bool.or_false, ne_eq, not_true_eq_false, not_false_eq_true, *])
local macro_rules | `(tactic| trivial) => `(tactic| simp only [S.fin_some, S.finB_some, S.finT_some, S.finL_some, S.kvar_d, S.kvar_own, S.kvar_tape, S.ev_var, S.ev_lit, S.ev_glob, S.evs_nil, S.evs_cons, S.ks1_ok, S.ks1_err, S.ks2_ok, S.ks2_err, S.ev_tup, S.ev_lst, S.ktup_ok, S.ktup_err, S.klst_ok, S.klst_err, S.ev_bin, S.kbin1_ok, S.kbin1_err, S.kbin2_ok, S.kbin2_err, S.ev_cmp, S.kcmp1_ok, S.kcmp1_err, S.kcmp2_ok, S.kcmp2_err, S.ev_idx, S.kidx1_ok, S.kidx1_err, S.kidx2_ok, S.kidx2_err, S.ev_neg, S.kneg_ok, S.ev_not, S.knot_ok, S.knot_err, S.tr_ok, S.tr_err, S.ev_and, S.kand1_ok, S.kand1_err, S.kand2_t, S.kand2_f, S.ev_or, S.kor1_ok, S.kor1_err, S.kor2_t, S.kor2_f, S.ev_ite, S.kite_t, S.kite_f, S.kite_err, S.ev_chain, S.kch1_ok, S.kch2_ok, S.kch3_t, S.kch3_f, S.kch4_ok, S.ev_slc, S.kslc1_ok, S.kslc2_ok, S.kslc3_ok, S.kslc4_t, S.kslc4_l, S.evo_omit, S.evo_lit, S.evo_var, S.evo_neg, S.evo_glob, S.evo_bin, S.evo_blt, S.evo_idx, S.evo_call, S.koi_ok, S.ev_isa, S.kisa_ok, S.ev_call, S.kc1_ok, S.kc1_err, S.kc2_t, S.kc3_d, S.kc3_f, S.kc3_err, S.ev_callF, S.kg1_ok, S.kg2_t, S.kg3_f, S.ev_blt, S.kblt_ok, S.kblt_err, S.ev_comp, S.kcp1_ok, S.kcp2_ok, S.kcp3_t, S.kq2_ok, S.ev_gall, S.kq1all_ok, S.ev_gany, S.kq1any_ok, S.kg5_ok, S.kg4_ok, S.ev_gsum, S.ev_gmin, S.ev_gmax, S.ev_gtuple, S.ev_glist, S.ev_gsorted, S.kst2_ok, S.kst1_ok, S.ev_sset, S.ev_tlen, S.ktl_ok, S.ev_tpop, S.ktp_ok, S.ev_revl, S.krv_l, S.krv_t, S.ts_nil, S.ts_cons, S.kts_nil, S.kts_t, S.kts_f, S.ei_seq, S.ksq_ok, S.seqO_own, S.krg3_t, S.krg2_ok, S.ei_rng, S.krg1_ok, S.ei_rng1, S.krg0_ok, S.ei_enum, S.ken_l, S.ken_t, S.ei_zip, S.kzp1_ok, S.kzp2_l, S.kzp2_t, S.ei_rev, S.krs_l, S.krs_t, S.ei_dk, S.kdk_ok, S.kas2_ok, S.kas1_ok, S.kas1_err, S.run_asg, S.bt_nm, S.kbt_t, S.bt_t, S.bt_l, S.kbs_ok, S.bs_nil, S.bs_cons, S.kow_ok, S.run_own, S.kap3_t, S.kap2_ok, S.kap1_ok, S.run_app, S.kau3_ok, S.kau2_ok, S.kau1_ok, S.run_aug, S.kex3_t, S.kex2_ok, S.kex1_ok, S.run_ext, S.kse4_ok, S.kse3_ok, S.kse2_ok, S.kse1_ok, S.run_seti, S.kre_d, S.kre_own, S.kre_err, S.run_ret, S.krf_ok, S.run_retF, S.run_retN, S.kif_t, S.kif_f, S.kif_err, S.run_ifs, S.kfo_ok, S.run_for, S.kwc_is, S.run_whil, S.kxp_ok, S.kxp_err, S.run_expr, S.run_raise, S.run_brk, S.run_cnt, S.run_pass, S.kfz_ok, S.run_frz, S.kpp3_ok, S.kpp2_ok, S.kpp1_ok, S.kpp1_err, S.evP_nil, S.evP_cons, S.flag_t, S.flag_f, S.parE_nil, S.parE_t, S.parE_f, S.kpa_ok, S.kpa_err, S.run_par, S.ktn_ok, S.run_tun, S.kte4_ok, S.kte3_ok, S.kte2_ok, S.kte1_ok, S.run_tset, S.kro_ok, S.run_retO, S.kty2_ok, S.kty_err, S.kty_ret, S.kty_nx, S.run_tryr, S.runs_nil, S.runs_cons, S.kth_nx, S.kth_ret, S.kth_cnt, S.kth_brk, S.kth_err, S.kcr4_ok, S.kcr3_ok, S.kcr2_t, S.kcr2_f, S.kcr1_ok, S.cr_nil, S.cr_cons, S.kqa3_1, S.kqa3_2, S.kqa2_t, S.kqa2_f, S.kqa1_ok, S.qra_nil, S.qra_cons, S.kqo3_1, S.kqo3_2, S.kqo2_t, S.kqo2_f, S.kqo1_ok, S.qro_nil, S.qro_cons, S.kfr2_nx, S.kfr2_cnt, S.kfr2_brk, S.kfr2_ret, S.kfr2_err, S.kfr1_ok, S.fr_nil, S.fr_cons, callRun, wipeE, S.optR_some, S.ans_nx, S.ans_ret, S.ans_err, S.dat_d, S.dat_own, S.truth_bool, S.truth_int, S.truth_list, S.truth_tuple, S.arg_d, S.arg_tape, S.all_nil, S.all_cons, S.all_own, rng_irg, S.allD_nil, S.allD_cons, S.blt1, S.blt2, S.len_list, S.len_tuple, S.int_int, S.abs_int, S.tup_of, S.lst_of, S.sorted_of, S.min2_of, S.max2_of, S.ix_t0, S.ix_t1, S.ix_t2, S.ix_t3, S.ix_l3, S.zip_nil, S.zip_cons, S.ix_l0, S.ix_l1, S.ix_l2, S.seq_t, S.seq_l, S.seqO_d, S.is_bb, S.isnot_bb, S.isin_is, S.min_l, S.min_t, S.max_l, S.max_t, DL.le_int, DL.lt_int, DL.ge_int, DL.gt_int, DL.eq_int, DL.ne_int, DL.ne_nil, DL.eq_nil, add_i, sub_i, tyD, PyData.isTuple, PyData.isInt, PyData.isBool, PyData.isList, PyData.isStr, List.getD_cons_zero, List.getD_cons_succ, List.set_cons_zero, List.set_cons_succ, List.cons_append, List.nil_append, List.length_cons, List.length_nil, List.length_map, List.length_take, List.isEmpty_nil, List.isEmpty_map, List.isEmpty_cons, List.map_cons, List.map_nil, List.replicate, Nat.reduceAdd, Nat.reduceSub, List.all_cons, List.all_nil, Option.bind_some, Option.map_some, Bool.and_true, Bool.true_and, Bool.and_self, Bool.not_true, Bool.not_false, Bool.false_eq_true, if_true, if_false, reduceCtorEq, Int.cast_ofNat_Int, Int.reduceEq, Int.reduceLT, Int.reduceLE, Int.reduceAdd, Int.reduceSub, Int.reduceMod, Int.reduceNeg, Int.zero_add, Int.reduceMul, decide_true, decide_false, beq_self_eq_true, BEq.rfl, Bool.or_true, Bool.or_false, ne_eq, not_true_eq_false, not_false_eq_true, *])
variable {fu k : Nat}
theorem lt_self (x : PyData) : PySem.W.dataLt x x = false := PyProof.Rows.lex_irrefl (O := PyProof.Rows.itemOrd) _
def bs (i : Nat) : S := (bodyOf (st 8)).getD i .pass
/-- the trims told, as four numbers -/
def tq (m : Int) : Q4 := if 0 < m then ⟨0, 0, m, 0⟩ else ⟨0, 0, 0, -m⟩
theorem tm_tq (m : Int) : tm m = (tq m).d' := by
  unfold tm tq
  split <;> rfl
/-- the sum of what is cut off, with the row -/
def ke (q : Q4) : PyData := .tuple [.int (q.a + (q.b + (q.c + (q.d + 0)))), q.d']
def evn (p : Q4) (q : Q4) : Bool := decide (p.a - q.a + p.c - q.c = p.b - q.b + p.d - q.d)
theorem min_trims (p : Q4) (m : Int) (hm : m = p.a + p.c - p.b - p.d) : minOfD (((g0 (ab m)).filter (evn p)).map ke) = some (ke (tq m)) := by
  refine minOf_is ke (.tup [.int, .tup [.int, .int, .int, .int]]) (by decide) (fun _ _ => rfl) ?_ ?_ ?_
  · refine List.mem_filter.mpr ⟨mem_g0.mpr ?_, decide_eq_true ?_⟩ <;> unfold tq <;> try unfold ab
    · split <;> dsimp only <;> omega
    · split <;> dsimp only <;> omega
  · rintro ⟨a, b, c, d⟩ hy
    obtain ⟨h1, h2⟩ := List.mem_filter.mp hy
    obtain ⟨a0, b0, c0, d0, hs⟩ := mem_g0.mp h1
    have h2 := of_decide_eq_true h2
    dsimp only at a0 b0 c0 d0 hs h2
    unfold ke
    rw [PySem.W.dataLt_pair rfl rfl]
    split
    · split
      · rfl
      · unfold tq Q4.d'
        unfold ab at hs
        split
        · rename_i h3
          rw [if_pos h3] at hs
          dsimp only
          rw [DL.lt_cons, DL.lt_cons, DL.lt_cons, DL.lt_cons]
          have hb : b = 0 := by omega
          have hd : d = 0 := by omega
          subst hb hd
          simp only [Bool.or_eq_false_iff, Bool.and_eq_false_iff, decide_eq_false_iff_not]
          refine ⟨by omega, ?_⟩
          by_cases ha : a = 0
          · right
            refine ⟨by omega, .inr ⟨by omega, .inr ⟨by omega, .inr (lt_self _)⟩⟩⟩
          · exact .inl ha
        · rename_i h3
          rw [if_neg h3] at hs
          dsimp only
          rw [DL.lt_cons, DL.lt_cons, DL.lt_cons, DL.lt_cons]
          have ha : a = 0 := by omega
          have hc : c = 0 := by omega
          subst ha hc
          simp only [Bool.or_eq_false_iff, Bool.and_eq_false_iff, decide_eq_false_iff_not]
          refine ⟨by omega, .inr ⟨by omega, ?_⟩⟩
          by_cases hb : b = 0
          · right
            refine ⟨by omega, .inr ⟨by omega, .inr (lt_self _)⟩⟩
          · exact .inl hb
    · rename_i he
      exfalso
      apply he
      rw [eqv_int]
      refine decide_eq_true ?_
      unfold tq
      unfold ab at hs
      split <;> rename_i h3
      · rw [if_pos h3] at hs
        dsimp only
        omega
      · rw [if_neg h3] at hs
        dsimp only
        omega
  · rintro ⟨a, b, c, d⟩ _ h
    revert h
    generalize tq m = z
    obtain ⟨a', b', c', d'⟩ := z
    simp [ke, Q4.d', PySem.W.keyToks, PySem.W.keyToksAll]
    done
end K55
/-! M55l: the plain law of k55: the law's loop over turns: its body. -/
namespace K55
open PySem PySem.Spec PyProof.Rows L2 DL
local macro_rules | `(tactic| decreasing_trivial) => `(tactic| simp only [S.fin_some, S.finB_some, S.finT_some, S.finL_some, S.kvar_d, S.kvar_own, S.kvar_tape, S.ev_var, S.ev_lit, S.ev_glob, S.evs_nil, S.evs_cons, S.ks1_ok, S.ks1_err, S.ks2_ok, S.ks2_err, S.ev_tup, S.ev_lst, S.ktup_ok, S.ktup_err, S.klst_ok, S.klst_err, S.ev_bin, S.kbin1_ok, S.kbin1_err, S.kbin2_ok, S.kbin2_err, S.ev_cmp, S.kcmp1_ok, S.kcmp1_err, S.kcmp2_ok, S.kcmp2_err, S.ev_idx, S.kidx1_ok, S.kidx1_err, S.kidx2_ok, S.kidx2_err, S.ev_neg, S.kneg_ok, S.ev_not, S.knot_ok, S.knot_err, S.tr_ok, S.tr_err, S.ev_and, S.kand1_ok, S.kand1_err, S.kand2_t, S.kand2_f, S.ev_or, S.kor1_ok, S.kor1_err, S.kor2_t, S.kor2_f, S.ev_ite, S.kite_t, S.kite_f, S.kite_err, S.ev_chain, S.kch1_ok, S.kch2_ok, S.kch3_t, S.kch3_f, S.kch4_ok, S.ev_slc, S.kslc1_ok, S.kslc2_ok, S.kslc3_ok, S.kslc4_t, S.kslc4_l, S.evo_omit, S.evo_lit, S.evo_var, S.evo_neg, S.evo_glob, S.evo_bin, S.evo_blt, S.evo_idx, S.evo_call, S.koi_ok, S.ev_isa, S.kisa_ok, S.ev_call, S.kc1_ok, S.kc1_err, S.kc2_t, S.kc3_d, S.kc3_f, S.kc3_err, S.ev_callF, S.kg1_ok, S.kg2_t, S.kg3_f, S.ev_blt, S.kblt_ok, S.kblt_err, S.ev_comp, S.kcp1_ok, S.kcp2_ok, S.kcp3_t, S.kq2_ok, S.ev_gall, S.kq1all_ok, S.ev_gany, S.kq1any_ok, S.kg5_ok, S.kg4_ok, S.ev_gsum, S.ev_gmin, S.ev_gmax, S.ev_gtuple, S.ev_glist, S.ev_gsorted, S.kst2_ok, S.kst1_ok, S.ev_sset, S.ev_tlen, S.ktl_ok, S.ev_tpop, S.ktp_ok, S.ev_revl, S.krv_l, S.krv_t, S.ts_nil, S.ts_cons, S.kts_nil, S.kts_t, S.kts_f, S.ei_seq, S.ksq_ok, S.seqO_own, S.krg3_t, S.krg2_ok, S.ei_rng, S.krg1_ok, S.ei_rng1, S.krg0_ok, S.ei_enum, S.ken_l, S.ken_t, S.ei_zip, S.kzp1_ok, S.kzp2_l, S.kzp2_t, S.ei_rev, S.krs_l, S.krs_t, S.ei_dk, S.kdk_ok, S.kas2_ok, S.kas1_ok, S.kas1_err, S.run_asg, S.bt_nm, S.kbt_t, S.bt_t, S.bt_l, S.kbs_ok, S.bs_nil, S.bs_cons, S.kow_ok, S.run_own, S.kap3_t, S.kap2_ok, S.kap1_ok, S.run_app, S.kau3_ok, S.kau2_ok, S.kau1_ok, S.run_aug, S.kex3_t, S.kex2_ok, S.kex1_ok, S.run_ext, S.kse4_ok, S.kse3_ok, S.kse2_ok, S.kse1_ok, S.run_seti, S.kre_d, S.kre_own, S.kre_err, S.run_ret, S.krf_ok, S.run_retF, S.run_retN, S.kif_t, S.kif_f, S.kif_err, S.run_ifs, S.kfo_ok, S.run_for, S.kwc_is, S.run_whil, S.kxp_ok, S.kxp_err, S.run_expr, S.run_raise, S.run_brk, S.run_cnt, S.run_pass, S.kfz_ok, S.run_frz, S.kpp3_ok, S.kpp2_ok, S.kpp1_ok, S.kpp1_err, S.evP_nil, S.evP_cons, S.flag_t, S.flag_f, S.parE_nil, S.parE_t, S.parE_f, S.kpa_ok, S.kpa_err, S.run_par, S.ktn_ok, S.run_tun, S.kte4_ok, S.kte3_ok, S.kte2_ok, S.kte1_ok, S.run_tset, S.kro_ok, S.run_retO, S.kty2_ok, S.kty_err, S.kty_ret, S.kty_nx, S.run_tryr, S.runs_nil, S.runs_cons, S.kth_nx, S.kth_ret, S.kth_cnt, S.kth_brk, S.kth_err, S.kcr4_ok, S.kcr3_ok, S.kcr2_t, S.kcr2_f, S.kcr1_ok, S.cr_nil, S.kqa3_1, S.kqa3_2, S.kqa2_t, S.kqa2_f, S.kqa1_ok, S.qra_nil, S.kqo3_1, S.kqo3_2, S.kqo2_t, S.kqo2_f, S.kqo1_ok, S.qro_nil, S.kfr2_nx, S.kfr2_cnt, S.kfr2_brk, S.kfr2_ret, S.kfr2_err, S.kfr1_ok, S.fr_nil, callRun, wipeE, S.optR_some, S.ans_nx, S.ans_ret, S.ans_err, S.dat_d, S.dat_own, S.truth_bool, S.truth_int, S.truth_list, S.truth_tuple, S.arg_d, S.arg_tape, S.all_nil, S.all_cons, S.all_own, rng_irg, S.allD_nil, S.allD_cons, S.blt1, S.blt2, S.len_list, S.len_tuple, S.int_int, S.abs_int, S.tup_of, S.lst_of, S.sorted_of, S.min2_of, S.max2_of, S.ix_t0, S.ix_t1, S.ix_t2, S.ix_t3, S.ix_l3, S.zip_nil, S.zip_cons, S.ix_l0, S.ix_l1, S.ix_l2, S.seq_t, S.seq_l, S.seqO_d, S.is_bb, S.isnot_bb, S.isin_is, S.min_l, S.min_t, S.max_l, S.max_t, DL.le_int, DL.lt_int, DL.ge_int, DL.gt_int, DL.eq_int, DL.ne_int, DL.ne_nil, DL.eq_nil, add_i, sub_i, tyD, PyData.isTuple, PyData.isInt, PyData.isBool, PyData.isList, PyData.isStr, List.getD_cons_zero, List.getD_cons_succ, List.set_cons_zero, List.set_cons_succ, List.cons_append, List.nil_append, List.length_cons, List.length_nil, List.length_map, List.length_take, List.isEmpty_nil, List.isEmpty_map, List.isEmpty_cons, List.map_cons, List.map_nil, List.replicate, Nat.reduceAdd, Nat.reduceSub, List.all_cons, List.all_nil, Option.bind_some, Option.map_some, Bool.and_true, Bool.true_and, Bool.and_self, Bool.not_true, Bool.not_false, Bool.false_eq_true, if_true, if_false, reduceCtorEq, Int.cast_ofNat_Int, Int.reduceEq, Int.reduceLT, Int.reduceLE, Int.reduceAdd, Int.reduceSub, Int.reduceMod, Int.reduceNeg, Int.zero_add, Int.reduceMul, decide_true, decide_false, beq_self_eq_true, BEq.rfl, Bool.or_true, Bool.or_false, ne_eq, not_true_eq_false, not_false_eq_true, *])
local macro_rules | `(tactic| trivial) => `(tactic| simp only [S.fin_some, S.finB_some, S.finT_some, S.finL_some, S.kvar_d, S.kvar_own, S.kvar_tape, S.ev_var, S.ev_lit, S.ev_glob, S.evs_nil, S.evs_cons, S.ks1_ok, S.ks1_err, S.ks2_ok, S.ks2_err, S.ev_tup, S.ev_lst, S.ktup_ok, S.ktup_err, S.klst_ok, S.klst_err, S.ev_bin, S.kbin1_ok, S.kbin1_err, S.kbin2_ok, S.kbin2_err, S.ev_cmp, S.kcmp1_ok, S.kcmp1_err, S.kcmp2_ok, S.kcmp2_err, S.ev_idx, S.kidx1_ok, S.kidx1_err, S.kidx2_ok, S.kidx2_err, S.ev_neg, S.kneg_ok, S.ev_not, S.knot_ok, S.knot_err, S.tr_ok, S.tr_err, S.ev_and, S.kand1_ok, S.kand1_err, S.kand2_t, S.kand2_f, S.ev_or, S.kor1_ok, S.kor1_err, S.kor2_t, S.kor2_f, S.ev_ite, S.kite_t, S.kite_f, S.kite_err, S.ev_chain, S.kch1_ok, S.kch2_ok, S.kch3_t, S.kch3_f, S.kch4_ok, S.ev_slc, S.kslc1_ok, S.kslc2_ok, S.kslc3_ok, S.kslc4_t, S.kslc4_l, S.evo_omit, S.evo_lit, S.evo_var, S.evo_neg, S.evo_glob, S.evo_bin, S.evo_blt, S.evo_idx, S.evo_call, S.koi_ok, S.ev_isa, S.kisa_ok, S.ev_call, S.kc1_ok, S.kc1_err, S.kc2_t, S.kc3_d, S.kc3_f, S.kc3_err, S.ev_callF, S.kg1_ok, S.kg2_t, S.kg3_f, S.ev_blt, S.kblt_ok, S.kblt_err, S.ev_comp, S.kcp1_ok, S.kcp2_ok, S.kcp3_t, S.kq2_ok, S.ev_gall, S.kq1all_ok, S.ev_gany, S.kq1any_ok, S.kg5_ok, S.kg4_ok, S.ev_gsum, S.ev_gmin, S.ev_gmax, S.ev_gtuple, S.ev_glist, S.ev_gsorted, S.kst2_ok, S.kst1_ok, S.ev_sset, S.ev_tlen, S.ktl_ok, S.ev_tpop, S.ktp_ok, S.ev_revl, S.krv_l, S.krv_t, S.ts_nil, S.ts_cons, S.kts_nil, S.kts_t, S.kts_f, S.ei_seq, S.ksq_ok, S.seqO_own, S.krg3_t, S.krg2_ok, S.ei_rng, S.krg1_ok, S.ei_rng1, S.krg0_ok, S.ei_enum, S.ken_l, S.ken_t, S.ei_zip, S.kzp1_ok, S.kzp2_l, S.kzp2_t, S.ei_rev, S.krs_l, S.krs_t, S.ei_dk, S.kdk_ok, S.kas2_ok, S.kas1_ok, S.kas1_err, S.run_asg, S.bt_nm, S.kbt_t, S.bt_t, S.bt_l, S.kbs_ok, S.bs_nil, S.bs_cons, S.kow_ok, S.run_own, S.kap3_t, S.kap2_ok, S.kap1_ok, S.run_app, S.kau3_ok, S.kau2_ok, S.kau1_ok, S.run_aug, S.kex3_t, S.kex2_ok, S.kex1_ok, S.run_ext, S.kse4_ok, S.kse3_ok, S.kse2_ok, S.kse1_ok, S.run_seti, S.kre_d, S.kre_own, S.kre_err, S.run_ret, S.krf_ok, S.run_retF, S.run_retN, S.kif_t, S.kif_f, S.kif_err, S.run_ifs, S.kfo_ok, S.run_for, S.kwc_is, S.run_whil, S.kxp_ok, S.kxp_err, S.run_expr, S.run_raise, S.run_brk, S.run_cnt, S.run_pass, S.kfz_ok, S.run_frz, S.kpp3_ok, S.kpp2_ok, S.kpp1_ok, S.kpp1_err, S.evP_nil, S.evP_cons, S.flag_t, S.flag_f, S.parE_nil, S.parE_t, S.parE_f, S.kpa_ok, S.kpa_err, S.run_par, S.ktn_ok, S.run_tun, S.kte4_ok, S.kte3_ok, S.kte2_ok, S.kte1_ok, S.run_tset, S.kro_ok, S.run_retO, S.kty2_ok, S.kty_err, S.kty_ret, S.kty_nx, S.run_tryr, S.runs_nil, S.runs_cons, S.kth_nx, S.kth_ret, S.kth_cnt, S.kth_brk, S.kth_err, S.kcr4_ok, S.kcr3_ok, S.kcr2_t, S.kcr2_f, S.kcr1_ok, S.cr_nil, S.cr_cons, S.kqa3_1, S.kqa3_2, S.kqa2_t, S.kqa2_f, S.kqa1_ok, S.qra_nil, S.qra_cons, S.kqo3_1, S.kqo3_2, S.kqo2_t, S.kqo2_f, S.kqo1_ok, S.qro_nil, S.qro_cons, S.kfr2_nx, S.kfr2_cnt, S.kfr2_brk, S.kfr2_ret, S.kfr2_err, S.kfr1_ok, S.fr_nil, S.fr_cons, callRun, wipeE, S.optR_some, S.ans_nx, S.ans_ret, S.ans_err, S.dat_d, S.dat_own, S.truth_bool, S.truth_int, S.truth_list, S.truth_tuple, S.arg_d, S.arg_tape, S.all_nil, S.all_cons, S.all_own, rng_irg, S.allD_nil, S.allD_cons, S.blt1, S.blt2, S.len_list, S.len_tuple, S.int_int, S.abs_int, S.tup_of, S.lst_of, S.sorted_of, S.min2_of, S.max2_of, S.ix_t0, S.ix_t1, S.ix_t2, S.ix_t3, S.ix_l3, S.zip_nil, S.zip_cons, S.ix_l0, S.ix_l1, S.ix_l2, S.seq_t, S.seq_l, S.seqO_d, S.is_bb, S.isnot_bb, S.isin_is, S.min_l, S.min_t, S.max_l, S.max_t, DL.le_int, DL.lt_int, DL.ge_int, DL.gt_int, DL.eq_int, DL.ne_int, DL.ne_nil, DL.eq_nil, add_i, sub_i, tyD, PyData.isTuple, PyData.isInt, PyData.isBool, PyData.isList, PyData.isStr, List.getD_cons_zero, List.getD_cons_succ, List.set_cons_zero, List.set_cons_succ, List.cons_append, List.nil_append, List.length_cons, List.length_nil, List.length_map, List.length_take, List.isEmpty_nil, List.isEmpty_map, List.isEmpty_cons, List.map_cons, List.map_nil, List.replicate, Nat.reduceAdd, Nat.reduceSub, List.all_cons, List.all_nil, Option.bind_some, Option.map_some, Bool.and_true, Bool.true_and, Bool.and_self, Bool.not_true, Bool.not_false, Bool.false_eq_true, if_true, if_false, reduceCtorEq, Int.cast_ofNat_Int, Int.reduceEq, Int.reduceLT, Int.reduceLE, Int.reduceAdd, Int.reduceSub, Int.reduceMod, Int.reduceNeg, Int.zero_add, Int.reduceMul, decide_true, decide_false, beq_self_eq_true, BEq.rfl, Bool.or_true, Bool.or_false, ne_eq, not_true_eq_false, not_false_eq_true, *])
variable {fu k : Nat}
variable {P : Out → Prop}
theorem body_1 (c f : Q4) (n : Nat) (hn : n < 4) (b : PyData) (t : DL.T) (post : List S) (acc : List PyData) (x0 x2 x6 x9 x10 x11 x12 x13 x14 x15 x16 x17 x18 x19 x20 x21 : W)
    (next : P (runs (Fd Q.prog fu 6) fu post [x0, .tape, x2, .d b, .d c.d', .d f.d', x6, .own acc, .d (.int n), .d (.list (tp c f n)), .d (.int (mm c f n)), .d (.int (ab (mm c f n))), .d (tm (mm c f n)), x13, x14, x15, x16, x17, x18, x19, x20, x21] t)) :
    P (runs (Fd Q.prog fu 6) fu (bs 0 :: bs 1 :: bs 2 :: bs 3 :: post) [x0, .tape, x2, .d b, .d c.d', .d f.d', x6, .own acc, .d (.int n), x9, x10, x11, x12, x13, x14, x15, x16, x17, x18, x19, x20, x21] t) := by
  have h1 := f_tops (fu := fu) (k := 5) c f n hn t
  have h2 := f_ask1 (fu := fu) (k := 2) c f n hn t
  dsimp only [bs, bodyOf, st, l_law, List.getD_cons_succ, List.getD_cons_zero]
  have hm : (c.a + (rot f n).a) + (c.c + (rot f n).c) - (c.b + (rot f n).b) - (c.d + (rot f n).d) = mm c f n := rfl
  unfold tp at h1 next
  generalize mm c f n = m at *
  by_cases h0 : 0 < m
  · have ha : ab m = m := if_pos h0
    rw [ha] at next
    clear ha
    trivial
  · have ha : ab m = -m := if_neg h0
    rw [ha] at next
    clear ha
    trivial
theorem body_2 (c f : Q4) (n : Nat) (hn : n < 4) (b : PyData) (t : DL.T) (post : List S) (acc : List PyData) (x0 x2 x6 x9 x10 x13 x14 x15 x16 x17 x18 x19 x20 x21 : W)
    (next : P (runs (Fd Q.prog fu 6) fu post [x0, .tape, x2, .d b, .d c.d', .d f.d', x6, .own acc, .d (.int n), x9, x10, .d (.int (ab (mm c f n))), .d (tm (mm c f n)), x13, x14, x15, x16, x17, x18, x19, x20, x21] t)) :
    P (runs (Fd Q.prog fu 6) fu (bs 4 :: post) [x0, .tape, x2, .d b, .d c.d', .d f.d', x6, .own acc, .d (.int n), x9, x10, .d (.int (ab (mm c f n))), .d (tm (mm c f n)), x13, x14, x15, x16, x17, x18, x19, x20, x21] t) := by
  have h1 := f_ask0 (fu := fu) (k := 2) c f n hn t
  have h2 : ∀ x b t, Fd Q.prog fu 6 14 [.d (.bool x), .d (.bool b)] t = .ok (.d (.bool (PyData.eqv (.bool x) (.bool b)))) t := fun x b t => HA.f_same (k := 5) p14 (.bool x) b t ⟨x, rfl⟩
  have h3 : ∀ x t, Fd Q.prog fu 6 13 [.d x] t = .ok (.d (.bool (HA.pint x))) t := fun x t => HA.f_int (k := 5) p13 x t
  have h4 : ∀ i, HA.pint (.int i) = true := fun _ => rfl
  have hl : lenOk 0 = true := by decide
  have sm : ∀ a b c d : Int, b1 .sum (.tuple [.int a, .int b, .int c, .int d]) = some (.int (a + (b + (c + (d + 0))))) := fun _ _ _ _ => rfl
  have z0 : ∀ x : Int, x + 0 = x := Int.add_zero
  dsimp only [bs, bodyOf, st, l_law, List.getD_cons_succ, List.getD_cons_zero]
  generalize mm c f n = m at *
  have q1 : PyData.eqv (.bool (decide (m = 0))) (.bool (decide (ab m = 0))) = true := by
    have : decide (m = 0) = decide (ab m = 0) := by
      unfold ab
      refine decide_eq_decide.mpr ?_
      split <;> omega
    rw [this]
    cases decide (ab m = 0) <;> rfl
  by_cases h0 : 0 < m
  · have ht : tm m = .tuple [.int 0, .int 0, .int m, .int 0] := if_pos h0
    have ha : ab m = m := if_pos h0
    have h5 : ¬ m < 0 := by omega
    have h6 : decide (m < 0) = false := decide_eq_false h5
    rw [ht, ha] at next ⊢
    rw [ha] at q1
    clear ht ha h0
    trivial
  · have ht : tm m = .tuple [.int 0, .int 0, .int 0, .int (-m)] := if_neg h0
    have ha : ab m = -m := if_neg h0
    have h5 : ¬ -m < 0 := by omega
    have h6 : decide (-m < 0) = false := decide_eq_false h5
    rw [ht, ha] at next ⊢
    rw [ha] at q1
    clear ht ha h0
    trivial
theorem body_3 (c f p : Q4) (m n : Int) (hm : m = p.a + p.c - p.b - p.d) (b : PyData) (t : DL.T) (post : List S) (acc : List PyData) (x0 x2 x6 x10 x11 x13 x14 x15 x16 x17 x18 x19 x20 x21 : W)
    (next : ∀ x13, P (runs (Fd Q.prog fu 6) fu post [x0, .tape, x2, .d b, .d c.d', .d f.d', x6, .own acc, .d (.int n), .d (.list [.int p.a, .int p.b, .int p.c, .int p.d]), x10, x11, .d (tm m), x13, x14, x15, x16, x17, x18, x19, x20, x21] t)) :
    P (runs (Fd Q.prog fu 6) fu (bs 5 :: bs 6 :: bs 7 :: post) [x0, .tape, x2, .d b, .d c.d', .d f.d', x6, .own acc, .d (.int n), .d (.list [.int p.a, .int p.b, .int p.c, .int p.d]), x10, x11, .d (tm m), x13, x14, x15, x16, x17, x18, x19, x20, x21] t) := by
  have hr : rngOk 0 4 = true := by decide
  have hg : irg 0 4 = [0, 1, 2, 3] := rfl
  have hl : lenOk 4 = true := by decide
  dsimp only [bs, bodyOf, st, l_law, List.getD_cons_succ, List.getD_cons_zero]
  by_cases h0 : 0 < m
  · have ht : tm m = .tuple [.int 0, .int 0, .int m, .int 0] := if_pos h0
    rw [ht] at next ⊢
    have e : p.a - 0 + (p.c - m) = p.b - 0 + (p.d - 0) := by omega
    clear ht h0 hm
    trivial
  · have ht : tm m = .tuple [.int 0, .int 0, .int 0, .int (-m)] := if_neg h0
    rw [ht] at next ⊢
    have e : p.a - 0 + (p.c - 0) = p.b - 0 + (p.d - -m) := by omega
    clear ht h0 hm
    trivial
end K55
/-! M55m: the plain law of k55: the law's loop over turns: the least trims; the loop. -/
namespace K55
open PySem PySem.Spec PyProof.Rows L2 DL
local macro_rules | `(tactic| decreasing_trivial) => `(tactic| simp only [S.fin_some, S.finB_some, S.finT_some, S.finL_some, S.kvar_d, S.kvar_own, S.kvar_tape, S.ev_var, S.ev_lit, S.ev_glob, S.evs_nil, S.evs_cons, S.ks1_ok, S.ks1_err, S.ks2_ok, S.ks2_err, S.ev_tup, S.ev_lst, S.ktup_ok, S.ktup_err, S.klst_ok, S.klst_err, S.ev_bin, S.kbin1_ok, S.kbin1_err, S.kbin2_ok, S.kbin2_err, S.ev_cmp, S.kcmp1_ok, S.kcmp1_err, S.kcmp2_ok, S.kcmp2_err, S.ev_idx, S.kidx1_ok, S.kidx1_err, S.kidx2_ok, S.kidx2_err, S.ev_neg, S.kneg_ok, S.ev_not, S.knot_ok, S.knot_err, S.tr_ok, S.tr_err, S.ev_and, S.kand1_ok, S.kand1_err, S.kand2_t, S.kand2_f, S.ev_or, S.kor1_ok, S.kor1_err, S.kor2_t, S.kor2_f, S.ev_ite, S.kite_t, S.kite_f, S.kite_err, S.ev_chain, S.kch1_ok, S.kch2_ok, S.kch3_t, S.kch3_f, S.kch4_ok, S.ev_slc, S.kslc1_ok, S.kslc2_ok, S.kslc3_ok, S.kslc4_t, S.kslc4_l, S.evo_omit, S.evo_lit, S.evo_var, S.evo_neg, S.evo_glob, S.evo_bin, S.evo_blt, S.evo_idx, S.evo_call, S.koi_ok, S.ev_isa, S.kisa_ok, S.ev_call, S.kc1_ok, S.kc1_err, S.kc2_t, S.kc3_d, S.kc3_f, S.kc3_err, S.ev_callF, S.kg1_ok, S.kg2_t, S.kg3_f, S.ev_blt, S.kblt_ok, S.kblt_err, S.ev_comp, S.kcp1_ok, S.kcp2_ok, S.kcp3_t, S.kq2_ok, S.ev_gall, S.kq1all_ok, S.ev_gany, S.kq1any_ok, S.kg5_ok, S.kg4_ok, S.ev_gsum, S.ev_gmin, S.ev_gmax, S.ev_gtuple, S.ev_glist, S.ev_gsorted, S.kst2_ok, S.kst1_ok, S.ev_sset, S.ev_tlen, S.ktl_ok, S.ev_tpop, S.ktp_ok, S.ev_revl, S.krv_l, S.krv_t, S.ts_nil, S.ts_cons, S.kts_nil, S.kts_t, S.kts_f, S.ei_seq, S.ksq_ok, S.seqO_own, S.krg3_t, S.krg2_ok, S.ei_rng, S.krg1_ok, S.ei_rng1, S.krg0_ok, S.ei_enum, S.ken_l, S.ken_t, S.ei_zip, S.kzp1_ok, S.kzp2_l, S.kzp2_t, S.ei_rev, S.krs_l, S.krs_t, S.ei_dk, S.kdk_ok, S.kas2_ok, S.kas1_ok, S.kas1_err, S.run_asg, S.bt_nm, S.kbt_t, S.bt_t, S.bt_l, S.kbs_ok, S.bs_nil, S.bs_cons, S.kow_ok, S.run_own, S.kap3_t, S.kap2_ok, S.kap1_ok, S.run_app, S.kau3_ok, S.kau2_ok, S.kau1_ok, S.run_aug, S.kex3_t, S.kex2_ok, S.kex1_ok, S.run_ext, S.kse4_ok, S.kse3_ok, S.kse2_ok, S.kse1_ok, S.run_seti, S.kre_d, S.kre_own, S.kre_err, S.run_ret, S.krf_ok, S.run_retF, S.run_retN, S.kif_t, S.kif_f, S.kif_err, S.run_ifs, S.kfo_ok, S.run_for, S.kwc_is, S.run_whil, S.kxp_ok, S.kxp_err, S.run_expr, S.run_raise, S.run_brk, S.run_cnt, S.run_pass, S.kfz_ok, S.run_frz, S.kpp3_ok, S.kpp2_ok, S.kpp1_ok, S.kpp1_err, S.evP_nil, S.evP_cons, S.flag_t, S.flag_f, S.parE_nil, S.parE_t, S.parE_f, S.kpa_ok, S.kpa_err, S.run_par, S.ktn_ok, S.run_tun, S.kte4_ok, S.kte3_ok, S.kte2_ok, S.kte1_ok, S.run_tset, S.kro_ok, S.run_retO, S.kty2_ok, S.kty_err, S.kty_ret, S.kty_nx, S.run_tryr, S.runs_nil, S.runs_cons, S.kth_nx, S.kth_ret, S.kth_cnt, S.kth_brk, S.kth_err, S.kcr4_ok, S.kcr3_ok, S.kcr2_t, S.kcr2_f, S.kcr1_ok, S.cr_nil, S.kqa3_1, S.kqa3_2, S.kqa2_t, S.kqa2_f, S.kqa1_ok, S.qra_nil, S.kqo3_1, S.kqo3_2, S.kqo2_t, S.kqo2_f, S.kqo1_ok, S.qro_nil, S.kfr2_nx, S.kfr2_cnt, S.kfr2_brk, S.kfr2_ret, S.kfr2_err, S.kfr1_ok, S.fr_nil, callRun, wipeE, S.optR_some, S.ans_nx, S.ans_ret, S.ans_err, S.dat_d, S.dat_own, S.truth_bool, S.truth_int, S.truth_list, S.truth_tuple, S.arg_d, S.arg_tape, S.all_nil, S.all_cons, S.all_own, rng_irg, S.allD_nil, S.allD_cons, S.blt1, S.blt2, S.len_list, S.len_tuple, S.int_int, S.abs_int, S.tup_of, S.lst_of, S.sorted_of, S.min2_of, S.max2_of, S.ix_t0, S.ix_t1, S.ix_t2, S.ix_t3, S.ix_l3, S.zip_nil, S.zip_cons, S.ix_l0, S.ix_l1, S.ix_l2, S.seq_t, S.seq_l, S.seqO_d, S.is_bb, S.isnot_bb, S.isin_is, S.min_l, S.min_t, S.max_l, S.max_t, DL.le_int, DL.lt_int, DL.ge_int, DL.gt_int, DL.eq_int, DL.ne_int, DL.ne_nil, DL.eq_nil, add_i, sub_i, tyD, PyData.isTuple, PyData.isInt, PyData.isBool, PyData.isList, PyData.isStr, List.getD_cons_zero, List.getD_cons_succ, List.set_cons_zero, List.set_cons_succ, List.cons_append, List.nil_append, List.length_cons, List.length_nil, List.length_map, List.length_take, List.isEmpty_nil, List.isEmpty_map, List.isEmpty_cons, List.map_cons, List.map_nil, List.replicate, Nat.reduceAdd, Nat.reduceSub, List.all_cons, List.all_nil, Option.bind_some, Option.map_some, Bool.and_true, Bool.true_and, Bool.and_self, Bool.not_true, Bool.not_false, Bool.false_eq_true, if_true, if_false, reduceCtorEq, Int.cast_ofNat_Int, Int.reduceEq, Int.reduceLT, Int.reduceLE, Int.reduceAdd, Int.reduceSub, Int.reduceMod, Int.reduceNeg, Int.zero_add, Int.reduceMul, decide_true, decide_false, beq_self_eq_true, BEq.rfl, Bool.or_true, Bool.or_false, ne_eq, not_true_eq_false, not_false_eq_true, *])
local macro_rules | `(tactic| trivial) => `(tactic| simp only [S.fin_some, S.finB_some, S.finT_some, S.finL_some, S.kvar_d, S.kvar_own, S.kvar_tape, S.ev_var, S.ev_lit, S.ev_glob, S.evs_nil, S.evs_cons, S.ks1_ok, S.ks1_err, S.ks2_ok, S.ks2_err, S.ev_tup, S.ev_lst, S.ktup_ok, S.ktup_err, S.klst_ok, S.klst_err, S.ev_bin, S.kbin1_ok, S.kbin1_err, S.kbin2_ok, S.kbin2_err, S.ev_cmp, S.kcmp1_ok, S.kcmp1_err, S.kcmp2_ok, S.kcmp2_err, S.ev_idx, S.kidx1_ok, S.kidx1_err, S.kidx2_ok, S.kidx2_err, S.ev_neg, S.kneg_ok, S.ev_not, S.knot_ok, S.knot_err, S.tr_ok, S.tr_err, S.ev_and, S.kand1_ok, S.kand1_err, S.kand2_t, S.kand2_f, S.ev_or, S.kor1_ok, S.kor1_err, S.kor2_t, S.kor2_f, S.ev_ite, S.kite_t, S.kite_f, S.kite_err, S.ev_chain, S.kch1_ok, S.kch2_ok, S.kch3_t, S.kch3_f, S.kch4_ok, S.ev_slc, S.kslc1_ok, S.kslc2_ok, S.kslc3_ok, S.kslc4_t, S.kslc4_l, S.evo_omit, S.evo_lit, S.evo_var, S.evo_neg, S.evo_glob, S.evo_bin, S.evo_blt, S.evo_idx, S.evo_call, S.koi_ok, S.ev_isa, S.kisa_ok, S.ev_call, S.kc1_ok, S.kc1_err, S.kc2_t, S.kc3_d, S.kc3_f, S.kc3_err, S.ev_callF, S.kg1_ok, S.kg2_t, S.kg3_f, S.ev_blt, S.kblt_ok, S.kblt_err, S.ev_comp, S.kcp1_ok, S.kcp2_ok, S.kcp3_t, S.kq2_ok, S.ev_gall, S.kq1all_ok, S.ev_gany, S.kq1any_ok, S.kg5_ok, S.kg4_ok, S.ev_gsum, S.ev_gmin, S.ev_gmax, S.ev_gtuple, S.ev_glist, S.ev_gsorted, S.kst2_ok, S.kst1_ok, S.ev_sset, S.ev_tlen, S.ktl_ok, S.ev_tpop, S.ktp_ok, S.ev_revl, S.krv_l, S.krv_t, S.ts_nil, S.ts_cons, S.kts_nil, S.kts_t, S.kts_f, S.ei_seq, S.ksq_ok, S.seqO_own, S.krg3_t, S.krg2_ok, S.ei_rng, S.krg1_ok, S.ei_rng1, S.krg0_ok, S.ei_enum, S.ken_l, S.ken_t, S.ei_zip, S.kzp1_ok, S.kzp2_l, S.kzp2_t, S.ei_rev, S.krs_l, S.krs_t, S.ei_dk, S.kdk_ok, S.kas2_ok, S.kas1_ok, S.kas1_err, S.run_asg, S.bt_nm, S.kbt_t, S.bt_t, S.bt_l, S.kbs_ok, S.bs_nil, S.bs_cons, S.kow_ok, S.run_own, S.kap3_t, S.kap2_ok, S.kap1_ok, S.run_app, S.kau3_ok, S.kau2_ok, S.kau1_ok, S.run_aug, S.kex3_t, S.kex2_ok, S.kex1_ok, S.run_ext, S.kse4_ok, S.kse3_ok, S.kse2_ok, S.kse1_ok, S.run_seti, S.kre_d, S.kre_own, S.kre_err, S.run_ret, S.krf_ok, S.run_retF, S.run_retN, S.kif_t, S.kif_f, S.kif_err, S.run_ifs, S.kfo_ok, S.run_for, S.kwc_is, S.run_whil, S.kxp_ok, S.kxp_err, S.run_expr, S.run_raise, S.run_brk, S.run_cnt, S.run_pass, S.kfz_ok, S.run_frz, S.kpp3_ok, S.kpp2_ok, S.kpp1_ok, S.kpp1_err, S.evP_nil, S.evP_cons, S.flag_t, S.flag_f, S.parE_nil, S.parE_t, S.parE_f, S.kpa_ok, S.kpa_err, S.run_par, S.ktn_ok, S.run_tun, S.kte4_ok, S.kte3_ok, S.kte2_ok, S.kte1_ok, S.run_tset, S.kro_ok, S.run_retO, S.kty2_ok, S.kty_err, S.kty_ret, S.kty_nx, S.run_tryr, S.runs_nil, S.runs_cons, S.kth_nx, S.kth_ret, S.kth_cnt, S.kth_brk, S.kth_err, S.kcr4_ok, S.kcr3_ok, S.kcr2_t, S.kcr2_f, S.kcr1_ok, S.cr_nil, S.cr_cons, S.kqa3_1, S.kqa3_2, S.kqa2_t, S.kqa2_f, S.kqa1_ok, S.qra_nil, S.qra_cons, S.kqo3_1, S.kqo3_2, S.kqo2_t, S.kqo2_f, S.kqo1_ok, S.qro_nil, S.qro_cons, S.kfr2_nx, S.kfr2_cnt, S.kfr2_brk, S.kfr2_ret, S.kfr2_err, S.kfr1_ok, S.fr_nil, S.fr_cons, callRun, wipeE, S.optR_some, S.ans_nx, S.ans_ret, S.ans_err, S.dat_d, S.dat_own, S.truth_bool, S.truth_int, S.truth_list, S.truth_tuple, S.arg_d, S.arg_tape, S.all_nil, S.all_cons, S.all_own, rng_irg, S.allD_nil, S.allD_cons, S.blt1, S.blt2, S.len_list, S.len_tuple, S.int_int, S.abs_int, S.tup_of, S.lst_of, S.sorted_of, S.min2_of, S.max2_of, S.ix_t0, S.ix_t1, S.ix_t2, S.ix_t3, S.ix_l3, S.zip_nil, S.zip_cons, S.ix_l0, S.ix_l1, S.ix_l2, S.seq_t, S.seq_l, S.seqO_d, S.is_bb, S.isnot_bb, S.isin_is, S.min_l, S.min_t, S.max_l, S.max_t, DL.le_int, DL.lt_int, DL.ge_int, DL.gt_int, DL.eq_int, DL.ne_int, DL.ne_nil, DL.eq_nil, add_i, sub_i, tyD, PyData.isTuple, PyData.isInt, PyData.isBool, PyData.isList, PyData.isStr, List.getD_cons_zero, List.getD_cons_succ, List.set_cons_zero, List.set_cons_succ, List.cons_append, List.nil_append, List.length_cons, List.length_nil, List.length_map, List.length_take, List.isEmpty_nil, List.isEmpty_map, List.isEmpty_cons, List.map_cons, List.map_nil, List.replicate, Nat.reduceAdd, Nat.reduceSub, List.all_cons, List.all_nil, Option.bind_some, Option.map_some, Bool.and_true, Bool.true_and, Bool.and_self, Bool.not_true, Bool.not_false, Bool.false_eq_true, if_true, if_false, reduceCtorEq, Int.cast_ofNat_Int, Int.reduceEq, Int.reduceLT, Int.reduceLE, Int.reduceAdd, Int.reduceSub, Int.reduceMod, Int.reduceNeg, Int.zero_add, Int.reduceMul, decide_true, decide_false, beq_self_eq_true, BEq.rfl, Bool.or_true, Bool.or_false, ne_eq, not_true_eq_false, not_false_eq_true, *])
variable {fu k : Nat}
variable {P : Out → Prop}
theorem body_4 (c f p : Q4) (m n : Int) (hm : m = p.a + p.c - p.b - p.d) (b : PyData) (t : DL.T) (post : List S) (acc : List PyData) (hacc : acc.length ≤ 4) (x0 x2 x6 x10 x13 x14 x15 x16 x17 x18 x19 x20 x21 : W)
    (next : ∀ x14, P (runs (Fd Q.prog fu 6) fu post [x0, .tape, x2, .d b, .d c.d', .d f.d', x6, .own (acc ++ [.tuple [.int (ab m), .int n]]), .d (.int n), .d (.list [.int p.a, .int p.b, .int p.c, .int p.d]), x10, .d (.int (ab m)), .d (tm m), x13, x14, x15, x16, x17, x18, x19, x20, x21] t)) :
    P (runs (Fd Q.prog fu 6) fu (bs 8 :: bs 9 :: post) [x0, .tape, x2, .d b, .d c.d', .d f.d', x6, .own acc, .d (.int n), .d (.list [.int p.a, .int p.b, .int p.c, .int p.d]), x10, .d (.int (ab m)), .d (tm m), x13, x14, x15, x16, x17, x18, x19, x20, x21] t) := by
  have ha0 : 0 ≤ ab m := by unfold ab; split <;> omega
  have hl1 : lenOk (acc.length + 1) = true := decide_eq_true (by omega)
  dsimp only [bs, bodyOf, st, l_law, List.getD_cons_succ, List.getD_cons_zero]
  by_cases h6 : ab m < 6
  · have h1 : ∀ t, Fd Q.prog fu 6 15 [.d (.int (ab m))] t = .ok (.d (.list ((g0 (ab m)).map Q4.d'))) t := fun t => f_rows (fu := fu) (k := 5) (ab m) ha0 h6 t
    have h2 := min_trims p m hm
    have sm : ∀ a b c d : Int, b1 .sum (.tuple [.int a, .int b, .int c, .int d]) = some (.int (a + (b + (c + (d + 0))))) := fun _ _ _ _ => rfl
    have h3 : lenOk ((g0 (ab m)).filter (evn p)).length = true := decide_eq_true (by have := len0 (ab m) h6; have := List.length_filter_le (evn p) (g0 (ab m)); omega)
    have ne : cmpD .ne (tm m) (tq m).d' = some false := by
      rw [tm_tq]
      exact ne_self_t .int (by decide) fun x hx => by
        simp only [List.mem_cons, List.not_mem_nil, or_false] at hx
        rcases hx with rfl | rfl | rfl | rfl <;> rfl
    have hke : ixD (ke (tq m)) (.int 1) = some (tq m).d' := rfl
    generalize tm m = tt at *
    clear hm ha0
    trivial
    rw [comp_pure Q4.d' (evn p) ke]
    · trivial
    · rintro ⟨a', b', c', d'⟩ _
      unfold Q4.d'
      refine ⟨_, rfl, ?_, fun _ => ?_⟩
      · trivial
        rfl
      · trivial
        rfl
  · clear hm ha0
    trivial
end K55
/-! M55n: the plain law of k55: the law's loop; best turns. -/
namespace K55
open PySem PySem.Spec PyProof.Rows L2 DL
local macro_rules | `(tactic| decreasing_trivial) => `(tactic| simp only [S.fin_some, S.finB_some, S.finT_some, S.finL_some, S.kvar_d, S.kvar_own, S.kvar_tape, S.ev_var, S.ev_lit, S.ev_glob, S.evs_nil, S.evs_cons, S.ks1_ok, S.ks1_err, S.ks2_ok, S.ks2_err, S.ev_tup, S.ev_lst, S.ktup_ok, S.ktup_err, S.klst_ok, S.klst_err, S.ev_bin, S.kbin1_ok, S.kbin1_err, S.kbin2_ok, S.kbin2_err, S.ev_cmp, S.kcmp1_ok, S.kcmp1_err, S.kcmp2_ok, S.kcmp2_err, S.ev_idx, S.kidx1_ok, S.kidx1_err, S.kidx2_ok, S.kidx2_err, S.ev_neg, S.kneg_ok, S.ev_not, S.knot_ok, S.knot_err, S.tr_ok, S.tr_err, S.ev_and, S.kand1_ok, S.kand1_err, S.kand2_t, S.kand2_f, S.ev_or, S.kor1_ok, S.kor1_err, S.kor2_t, S.kor2_f, S.ev_ite, S.kite_t, S.kite_f, S.kite_err, S.ev_chain, S.kch1_ok, S.kch2_ok, S.kch3_t, S.kch3_f, S.kch4_ok, S.ev_slc, S.kslc1_ok, S.kslc2_ok, S.kslc3_ok, S.kslc4_t, S.kslc4_l, S.evo_omit, S.evo_lit, S.evo_var, S.evo_neg, S.evo_glob, S.evo_bin, S.evo_blt, S.evo_idx, S.evo_call, S.koi_ok, S.ev_isa, S.kisa_ok, S.ev_call, S.kc1_ok, S.kc1_err, S.kc2_t, S.kc3_d, S.kc3_f, S.kc3_err, S.ev_callF, S.kg1_ok, S.kg2_t, S.kg3_f, S.ev_blt, S.kblt_ok, S.kblt_err, S.ev_comp, S.kcp1_ok, S.kcp2_ok, S.kcp3_t, S.kq2_ok, S.ev_gall, S.kq1all_ok, S.ev_gany, S.kq1any_ok, S.kg5_ok, S.kg4_ok, S.ev_gsum, S.ev_gmin, S.ev_gmax, S.ev_gtuple, S.ev_glist, S.ev_gsorted, S.kst2_ok, S.kst1_ok, S.ev_sset, S.ev_tlen, S.ktl_ok, S.ev_tpop, S.ktp_ok, S.ev_revl, S.krv_l, S.krv_t, S.ts_nil, S.ts_cons, S.kts_nil, S.kts_t, S.kts_f, S.ei_seq, S.ksq_ok, S.seqO_own, S.krg3_t, S.krg2_ok, S.ei_rng, S.krg1_ok, S.ei_rng1, S.krg0_ok, S.ei_enum, S.ken_l, S.ken_t, S.ei_zip, S.kzp1_ok, S.kzp2_l, S.kzp2_t, S.ei_rev, S.krs_l, S.krs_t, S.ei_dk, S.kdk_ok, S.kas2_ok, S.kas1_ok, S.kas1_err, S.run_asg, S.bt_nm, S.kbt_t, S.bt_t, S.bt_l, S.kbs_ok, S.bs_nil, S.bs_cons, S.kow_ok, S.run_own, S.kap3_t, S.kap2_ok, S.kap1_ok, S.run_app, S.kau3_ok, S.kau2_ok, S.kau1_ok, S.run_aug, S.kex3_t, S.kex2_ok, S.kex1_ok, S.run_ext, S.kse4_ok, S.kse3_ok, S.kse2_ok, S.kse1_ok, S.run_seti, S.kre_d, S.kre_own, S.kre_err, S.run_ret, S.krf_ok, S.run_retF, S.run_retN, S.kif_t, S.kif_f, S.kif_err, S.run_ifs, S.kfo_ok, S.run_for, S.kwc_is, S.run_whil, S.kxp_ok, S.kxp_err, S.run_expr, S.run_raise, S.run_brk, S.run_cnt, S.run_pass, S.kfz_ok, S.run_frz, S.kpp3_ok, S.kpp2_ok, S.kpp1_ok, S.kpp1_err, S.evP_nil, S.evP_cons, S.flag_t, S.flag_f, S.parE_nil, S.parE_t, S.parE_f, S.kpa_ok, S.kpa_err, S.run_par, S.ktn_ok, S.run_tun, S.kte4_ok, S.kte3_ok, S.kte2_ok, S.kte1_ok, S.run_tset, S.kro_ok, S.run_retO, S.kty2_ok, S.kty_err, S.kty_ret, S.kty_nx, S.run_tryr, S.runs_nil, S.runs_cons, S.kth_nx, S.kth_ret, S.kth_cnt, S.kth_brk, S.kth_err, S.kcr4_ok, S.kcr3_ok, S.kcr2_t, S.kcr2_f, S.kcr1_ok, S.cr_nil, S.kqa3_1, S.kqa3_2, S.kqa2_t, S.kqa2_f, S.kqa1_ok, S.qra_nil, S.kqo3_1, S.kqo3_2, S.kqo2_t, S.kqo2_f, S.kqo1_ok, S.qro_nil, S.kfr2_nx, S.kfr2_cnt, S.kfr2_brk, S.kfr2_ret, S.kfr2_err, S.kfr1_ok, S.fr_nil, callRun, wipeE, S.optR_some, S.ans_nx, S.ans_ret, S.ans_err, S.dat_d, S.dat_own, S.truth_bool, S.truth_int, S.truth_list, S.truth_tuple, S.arg_d, S.arg_tape, S.all_nil, S.all_cons, S.all_own, rng_irg, S.allD_nil, S.allD_cons, S.blt1, S.blt2, S.len_list, S.len_tuple, S.int_int, S.abs_int, S.tup_of, S.lst_of, S.sorted_of, S.min2_of, S.max2_of, S.ix_t0, S.ix_t1, S.ix_t2, S.ix_t3, S.ix_l3, S.zip_nil, S.zip_cons, S.ix_l0, S.ix_l1, S.ix_l2, S.seq_t, S.seq_l, S.seqO_d, S.is_bb, S.isnot_bb, S.isin_is, S.min_l, S.min_t, S.max_l, S.max_t, DL.le_int, DL.lt_int, DL.ge_int, DL.gt_int, DL.eq_int, DL.ne_int, DL.ne_nil, DL.eq_nil, add_i, sub_i, tyD, PyData.isTuple, PyData.isInt, PyData.isBool, PyData.isList, PyData.isStr, List.getD_cons_zero, List.getD_cons_succ, List.set_cons_zero, List.set_cons_succ, List.cons_append, List.nil_append, List.length_cons, List.length_nil, List.length_map, List.length_take, List.isEmpty_nil, List.isEmpty_map, List.isEmpty_cons, List.map_cons, List.map_nil, List.replicate, Nat.reduceAdd, Nat.reduceSub, List.all_cons, List.all_nil, Option.bind_some, Option.map_some, Bool.and_true, Bool.true_and, Bool.and_self, Bool.not_true, Bool.not_false, Bool.false_eq_true, if_true, if_false, reduceCtorEq, Int.cast_ofNat_Int, Int.reduceEq, Int.reduceLT, Int.reduceLE, Int.reduceAdd, Int.reduceSub, Int.reduceMod, Int.reduceNeg, Int.zero_add, Int.reduceMul, decide_true, decide_false, beq_self_eq_true, BEq.rfl, Bool.or_true, Bool.or_false, ne_eq, not_true_eq_false, not_false_eq_true, *])
local macro_rules | `(tactic| trivial) => `(tactic| simp only [S.fin_some, S.finB_some, S.finT_some, S.finL_some, S.kvar_d, S.kvar_own, S.kvar_tape, S.ev_var, S.ev_lit, S.ev_glob, S.evs_nil, S.evs_cons, S.ks1_ok, S.ks1_err, S.ks2_ok, S.ks2_err, S.ev_tup, S.ev_lst, S.ktup_ok, S.ktup_err, S.klst_ok, S.klst_err, S.ev_bin, S.kbin1_ok, S.kbin1_err, S.kbin2_ok, S.kbin2_err, S.ev_cmp, S.kcmp1_ok, S.kcmp1_err, S.kcmp2_ok, S.kcmp2_err, S.ev_idx, S.kidx1_ok, S.kidx1_err, S.kidx2_ok, S.kidx2_err, S.ev_neg, S.kneg_ok, S.ev_not, S.knot_ok, S.knot_err, S.tr_ok, S.tr_err, S.ev_and, S.kand1_ok, S.kand1_err, S.kand2_t, S.kand2_f, S.ev_or, S.kor1_ok, S.kor1_err, S.kor2_t, S.kor2_f, S.ev_ite, S.kite_t, S.kite_f, S.kite_err, S.ev_chain, S.kch1_ok, S.kch2_ok, S.kch3_t, S.kch3_f, S.kch4_ok, S.ev_slc, S.kslc1_ok, S.kslc2_ok, S.kslc3_ok, S.kslc4_t, S.kslc4_l, S.evo_omit, S.evo_lit, S.evo_var, S.evo_neg, S.evo_glob, S.evo_bin, S.evo_blt, S.evo_idx, S.evo_call, S.koi_ok, S.ev_isa, S.kisa_ok, S.ev_call, S.kc1_ok, S.kc1_err, S.kc2_t, S.kc3_d, S.kc3_f, S.kc3_err, S.ev_callF, S.kg1_ok, S.kg2_t, S.kg3_f, S.ev_blt, S.kblt_ok, S.kblt_err, S.ev_comp, S.kcp1_ok, S.kcp2_ok, S.kcp3_t, S.kq2_ok, S.ev_gall, S.kq1all_ok, S.ev_gany, S.kq1any_ok, S.kg5_ok, S.kg4_ok, S.ev_gsum, S.ev_gmin, S.ev_gmax, S.ev_gtuple, S.ev_glist, S.ev_gsorted, S.kst2_ok, S.kst1_ok, S.ev_sset, S.ev_tlen, S.ktl_ok, S.ev_tpop, S.ktp_ok, S.ev_revl, S.krv_l, S.krv_t, S.ts_nil, S.ts_cons, S.kts_nil, S.kts_t, S.kts_f, S.ei_seq, S.ksq_ok, S.seqO_own, S.krg3_t, S.krg2_ok, S.ei_rng, S.krg1_ok, S.ei_rng1, S.krg0_ok, S.ei_enum, S.ken_l, S.ken_t, S.ei_zip, S.kzp1_ok, S.kzp2_l, S.kzp2_t, S.ei_rev, S.krs_l, S.krs_t, S.ei_dk, S.kdk_ok, S.kas2_ok, S.kas1_ok, S.kas1_err, S.run_asg, S.bt_nm, S.kbt_t, S.bt_t, S.bt_l, S.kbs_ok, S.bs_nil, S.bs_cons, S.kow_ok, S.run_own, S.kap3_t, S.kap2_ok, S.kap1_ok, S.run_app, S.kau3_ok, S.kau2_ok, S.kau1_ok, S.run_aug, S.kex3_t, S.kex2_ok, S.kex1_ok, S.run_ext, S.kse4_ok, S.kse3_ok, S.kse2_ok, S.kse1_ok, S.run_seti, S.kre_d, S.kre_own, S.kre_err, S.run_ret, S.krf_ok, S.run_retF, S.run_retN, S.kif_t, S.kif_f, S.kif_err, S.run_ifs, S.kfo_ok, S.run_for, S.kwc_is, S.run_whil, S.kxp_ok, S.kxp_err, S.run_expr, S.run_raise, S.run_brk, S.run_cnt, S.run_pass, S.kfz_ok, S.run_frz, S.kpp3_ok, S.kpp2_ok, S.kpp1_ok, S.kpp1_err, S.evP_nil, S.evP_cons, S.flag_t, S.flag_f, S.parE_nil, S.parE_t, S.parE_f, S.kpa_ok, S.kpa_err, S.run_par, S.ktn_ok, S.run_tun, S.kte4_ok, S.kte3_ok, S.kte2_ok, S.kte1_ok, S.run_tset, S.kro_ok, S.run_retO, S.kty2_ok, S.kty_err, S.kty_ret, S.kty_nx, S.run_tryr, S.runs_nil, S.runs_cons, S.kth_nx, S.kth_ret, S.kth_cnt, S.kth_brk, S.kth_err, S.kcr4_ok, S.kcr3_ok, S.kcr2_t, S.kcr2_f, S.kcr1_ok, S.cr_nil, S.cr_cons, S.kqa3_1, S.kqa3_2, S.kqa2_t, S.kqa2_f, S.kqa1_ok, S.qra_nil, S.qra_cons, S.kqo3_1, S.kqo3_2, S.kqo2_t, S.kqo2_f, S.kqo1_ok, S.qro_nil, S.qro_cons, S.kfr2_nx, S.kfr2_cnt, S.kfr2_brk, S.kfr2_ret, S.kfr2_err, S.kfr1_ok, S.fr_nil, S.fr_cons, callRun, wipeE, S.optR_some, S.ans_nx, S.ans_ret, S.ans_err, S.dat_d, S.dat_own, S.truth_bool, S.truth_int, S.truth_list, S.truth_tuple, S.arg_d, S.arg_tape, S.all_nil, S.all_cons, S.all_own, rng_irg, S.allD_nil, S.allD_cons, S.blt1, S.blt2, S.len_list, S.len_tuple, S.int_int, S.abs_int, S.tup_of, S.lst_of, S.sorted_of, S.min2_of, S.max2_of, S.ix_t0, S.ix_t1, S.ix_t2, S.ix_t3, S.ix_l3, S.zip_nil, S.zip_cons, S.ix_l0, S.ix_l1, S.ix_l2, S.seq_t, S.seq_l, S.seqO_d, S.is_bb, S.isnot_bb, S.isin_is, S.min_l, S.min_t, S.max_l, S.max_t, DL.le_int, DL.lt_int, DL.ge_int, DL.gt_int, DL.eq_int, DL.ne_int, DL.ne_nil, DL.eq_nil, add_i, sub_i, tyD, PyData.isTuple, PyData.isInt, PyData.isBool, PyData.isList, PyData.isStr, List.getD_cons_zero, List.getD_cons_succ, List.set_cons_zero, List.set_cons_succ, List.cons_append, List.nil_append, List.length_cons, List.length_nil, List.length_map, List.length_take, List.isEmpty_nil, List.isEmpty_map, List.isEmpty_cons, List.map_cons, List.map_nil, List.replicate, Nat.reduceAdd, Nat.reduceSub, List.all_cons, List.all_nil, Option.bind_some, Option.map_some, Bool.and_true, Bool.true_and, Bool.and_self, Bool.not_true, Bool.not_false, Bool.false_eq_true, if_true, if_false, reduceCtorEq, Int.cast_ofNat_Int, Int.reduceEq, Int.reduceLT, Int.reduceLE, Int.reduceAdd, Int.reduceSub, Int.reduceMod, Int.reduceNeg, Int.zero_add, Int.reduceMul, decide_true, decide_false, beq_self_eq_true, BEq.rfl, Bool.or_true, Bool.or_false, ne_eq, not_true_eq_false, not_false_eq_true, *])
variable {fu k : Nat}
def gm (c f : Q4) (y : Int) : List PyData := [.tuple [.int (ab (mm c f y.toNat)), .int y]]
theorem law_6 {c f : Q4} (b : PyData) (t : DL.T) (post : List S) (x0 x2 x6 : W)
    (next : ∀ x8 x9 x10 x11 x12 x13 x14 x15 x16 x17 x18 x19 x20 x21, HA.Wins (runs (Fd Q.prog fu 6) fu post [x0, .tape, x2, .d b, .d c.d', .d f.d', x6, .own (mk c f), x8, x9, x10, x11, x12, x13, x14, x15, x16, x17, x18, x19, x20, x21] t)) :
    HA.Wins (runs (Fd Q.prog fu 6) fu (st 8 :: post) [x0, .tape, x2, .d b, .d c.d', .d f.d', x6, .own [], .un, .un, .un, .un, .un, .un, .un, .un, .un, .un, .un, .un, .un, .un] t) := by
  have e8 : st 8 = .forr (.nm 8) (.rng1 (.lit (.int 4))) (bodyOf (st 8)) := rfl
  have hb : bodyOf (st 8) = [bs 0, bs 1, bs 2, bs 3, bs 4, bs 5, bs 6, bs 7, bs 8, bs 9] := rfl
  rw [e8, hb]
  have hr : rngOk 0 4 = true := by decide
  have hm : (irg 0 4).flatMap (gm c f) = mk c f := rfl
  trivial
  refine for_acc_in (P := fun o => HA.Wins (S.kth _ _ _ o)) PyData.int (gm c f) 4 (fun acc e => ∃ x8 x9 x10 x11 x12 x13 x14 x15 x16 x17 x18 x19 x20 x21, e = [x0, .tape, x2, .d b, .d c.d', .d f.d', x6, .own acc, x8, x9, x10, x11, x12, x13, x14, x15, x16, x17, x18, x19, x20, x21]) [] (by rw [hm]; exact Nat.le_refl _) ⟨_, _, _, _, _, _, _, _, _, _, _, _, _, _, rfl⟩ ?_ ?_
  · rintro y hy acc e hl ⟨x8, x9, x10, x11, x12, x13, x14, x15, x16, x17, x18, x19, x20, x21, rfl⟩
    obtain ⟨y0, y1⟩ := mem_irg.mp hy
    have hn : y.toNat < 4 := by omega
    have hyn : ((y.toNat : Nat) : Int) = y := Int.toNat_of_nonneg y0
    refine ⟨_, rfl, ?_⟩
    rw [← hyn]
    refine body_1 c f y.toNat hn b t _ acc _ _ _ _ _ _ _ _ _ _ _ _ _ _ _ _ ?_
    refine body_2 c f y.toNat hn b t _ acc _ _ _ _ _ _ _ _ _ _ _ _ _ _ ?_
    have hm2 : mm c f y.toNat = (c.a + (rot f y.toNat).a) + (c.c + (rot f y.toNat).c) - (c.b + (rot f y.toNat).b) - (c.d + (rot f y.toNat).d) := rfl
    refine body_3 c f ⟨c.a + (rot f y.toNat).a, c.b + (rot f y.toNat).b, c.c + (rot f y.toNat).c, c.d + (rot f y.toNat).d⟩ _ _ hm2 b t _ acc _ _ _ _ _ _ _ _ _ _ _ _ _ _ fun x13 => ?_
    have hl4 : acc.length ≤ 4 := by
      have : acc.length + 1 ≤ 4 := hl
      omega
    refine body_4 c f ⟨c.a + (rot f y.toNat).a, c.b + (rot f y.toNat).b, c.c + (rot f y.toNat).c, c.d + (rot f y.toNat).d⟩ _ _ hm2 b t _ acc hl4 _ _ _ _ _ _ _ _ _ _ _ _ _ fun x14 => ?_
    rw [hyn]
    exact goes_nx ⟨_, _, _, _, _, _, _, _, _, _, _, _, _, _, rfl⟩
  · rintro e ⟨x8, x9, x10, x11, x12, x13, x14, x15, x16, x17, x18, x19, x20, x21, rfl⟩
    rw [List.nil_append, hm]
    exact next _ _ _ _ _ _ _ _ _ _ _ _ _ _
theorem law_7 {c f : Q4} (b : PyData) (t : DL.T) (post : List S) (x0 x2 x6 x8 x9 x10 x11 x12 x13 x14 x15 x16 x17 x18 x19 x20 x21 : W)
    (next : HA.Wins (runs (Fd Q.prog fu 6) fu post [x0, .tape, x2, .d b, .d c.d', .d f.d', x6, .own (mk c f), x8, x9, x10, x11, x12, x13, x14, x15, x16, x17, x18, x19, x20, x21] t)) :
    HA.Wins (runs (Fd Q.prog fu 6) fu (st 9 :: post) [x0, .tape, x2, .d b, .d c.d', .d f.d', x6, .own (mk c f), x8, x9, x10, x11, x12, x13, x14, x15, x16, x17, x18, x19, x20, x21] t) := by
  obtain ⟨a, n, hmin⟩ := mk_min c f
  have h1 : ∀ t, Fd Q.prog fu 6 12 [.d c.d', .d f.d'] t = .ok (.d (.int n)) t := fun t => f_best (k := 3) c f a n hmin t
  have h3 : ∀ x t, Fd Q.prog fu 6 13 [.d x] t = .ok (.d (.bool (HA.pint x))) t := fun x t => HA.f_int (k := 5) p13 x t
  have h4 : ∀ i, HA.pint (.int i) = true := fun _ => rfl
  have e1 : mm c f 0 = mm c f 2 := by
    show (c.a + f.a) + (c.c + f.c) - (c.b + f.b) - (c.d + f.d) = (c.a + f.c) + (c.c + f.a) - (c.b + f.d) - (c.d + f.b)
    omega
  have e2 : mm c f 1 = mm c f 3 := by
    show (c.a + f.b) + (c.c + f.d) - (c.b + f.c) - (c.d + f.a) = (c.a + f.d) + (c.c + f.b) - (c.b + f.a) - (c.d + f.c)
    omega
  unfold mk at *
  rw [e1, e2] at next hmin ⊢
  clear e1 e2
  generalize mm c f 2 = m at *
  generalize mm c f 3 = m' at *
  dsimp only [st, l_law, List.getD_cons_succ, List.getD_cons_zero]
  trivial
end K55
/-! M55o: the plain law of k55: legs alike; turns that are none. -/
namespace K55
open PySem PySem.Spec PyProof.Rows L2 DL
local macro_rules | `(tactic| decreasing_trivial) => `(tactic| simp only [S.fin_some, S.finB_some, S.finT_some, S.finL_some, S.kvar_d, S.kvar_own, S.kvar_tape, S.ev_var, S.ev_lit, S.ev_glob, S.evs_nil, S.evs_cons, S.ks1_ok, S.ks1_err, S.ks2_ok, S.ks2_err, S.ev_tup, S.ev_lst, S.ktup_ok, S.ktup_err, S.klst_ok, S.klst_err, S.ev_bin, S.kbin1_ok, S.kbin1_err, S.kbin2_ok, S.kbin2_err, S.ev_cmp, S.kcmp1_ok, S.kcmp1_err, S.kcmp2_ok, S.kcmp2_err, S.ev_idx, S.kidx1_ok, S.kidx1_err, S.kidx2_ok, S.kidx2_err, S.ev_neg, S.kneg_ok, S.ev_not, S.knot_ok, S.knot_err, S.tr_ok, S.tr_err, S.ev_and, S.kand1_ok, S.kand1_err, S.kand2_t, S.kand2_f, S.ev_or, S.kor1_ok, S.kor1_err, S.kor2_t, S.kor2_f, S.ev_ite, S.kite_t, S.kite_f, S.kite_err, S.ev_chain, S.kch1_ok, S.kch2_ok, S.kch3_t, S.kch3_f, S.kch4_ok, S.ev_slc, S.kslc1_ok, S.kslc2_ok, S.kslc3_ok, S.kslc4_t, S.kslc4_l, S.evo_omit, S.evo_lit, S.evo_var, S.evo_neg, S.evo_glob, S.evo_bin, S.evo_blt, S.evo_idx, S.evo_call, S.koi_ok, S.ev_isa, S.kisa_ok, S.ev_call, S.kc1_ok, S.kc1_err, S.kc2_t, S.kc3_d, S.kc3_f, S.kc3_err, S.ev_callF, S.kg1_ok, S.kg2_t, S.kg3_f, S.ev_blt, S.kblt_ok, S.kblt_err, S.ev_comp, S.kcp1_ok, S.kcp2_ok, S.kcp3_t, S.kq2_ok, S.ev_gall, S.kq1all_ok, S.ev_gany, S.kq1any_ok, S.kg5_ok, S.kg4_ok, S.ev_gsum, S.ev_gmin, S.ev_gmax, S.ev_gtuple, S.ev_glist, S.ev_gsorted, S.kst2_ok, S.kst1_ok, S.ev_sset, S.ev_tlen, S.ktl_ok, S.ev_tpop, S.ktp_ok, S.ev_revl, S.krv_l, S.krv_t, S.ts_nil, S.ts_cons, S.kts_nil, S.kts_t, S.kts_f, S.ei_seq, S.ksq_ok, S.seqO_own, S.krg3_t, S.krg2_ok, S.ei_rng, S.krg1_ok, S.ei_rng1, S.krg0_ok, S.ei_enum, S.ken_l, S.ken_t, S.ei_zip, S.kzp1_ok, S.kzp2_l, S.kzp2_t, S.ei_rev, S.krs_l, S.krs_t, S.ei_dk, S.kdk_ok, S.kas2_ok, S.kas1_ok, S.kas1_err, S.run_asg, S.bt_nm, S.kbt_t, S.bt_t, S.bt_l, S.kbs_ok, S.bs_nil, S.bs_cons, S.kow_ok, S.run_own, S.kap3_t, S.kap2_ok, S.kap1_ok, S.run_app, S.kau3_ok, S.kau2_ok, S.kau1_ok, S.run_aug, S.kex3_t, S.kex2_ok, S.kex1_ok, S.run_ext, S.kse4_ok, S.kse3_ok, S.kse2_ok, S.kse1_ok, S.run_seti, S.kre_d, S.kre_own, S.kre_err, S.run_ret, S.krf_ok, S.run_retF, S.run_retN, S.kif_t, S.kif_f, S.kif_err, S.run_ifs, S.kfo_ok, S.run_for, S.kwc_is, S.run_whil, S.kxp_ok, S.kxp_err, S.run_expr, S.run_raise, S.run_brk, S.run_cnt, S.run_pass, S.kfz_ok, S.run_frz, S.kpp3_ok, S.kpp2_ok, S.kpp1_ok, S.kpp1_err, S.evP_nil, S.evP_cons, S.flag_t, S.flag_f, S.parE_nil, S.parE_t, S.parE_f, S.kpa_ok, S.kpa_err, S.run_par, S.ktn_ok, S.run_tun, S.kte4_ok, S.kte3_ok, S.kte2_ok, S.kte1_ok, S.run_tset, S.kro_ok, S.run_retO, S.kty2_ok, S.kty_err, S.kty_ret, S.kty_nx, S.run_tryr, S.runs_nil, S.runs_cons, S.kth_nx, S.kth_ret, S.kth_cnt, S.kth_brk, S.kth_err, S.kcr4_ok, S.kcr3_ok, S.kcr2_t, S.kcr2_f, S.kcr1_ok, S.cr_nil, S.kqa3_1, S.kqa3_2, S.kqa2_t, S.kqa2_f, S.kqa1_ok, S.qra_nil, S.kqo3_1, S.kqo3_2, S.kqo2_t, S.kqo2_f, S.kqo1_ok, S.qro_nil, S.kfr2_nx, S.kfr2_cnt, S.kfr2_brk, S.kfr2_ret, S.kfr2_err, S.kfr1_ok, S.fr_nil, callRun, wipeE, S.optR_some, S.ans_nx, S.ans_ret, S.ans_err, S.dat_d, S.dat_own, S.truth_bool, S.truth_int, S.truth_list, S.truth_tuple, S.arg_d, S.arg_tape, S.all_nil, S.all_cons, S.all_own, rng_irg, S.allD_nil, S.allD_cons, S.blt1, S.blt2, S.len_list, S.len_tuple, S.int_int, S.abs_int, S.tup_of, S.lst_of, S.sorted_of, S.min2_of, S.max2_of, S.ix_t0, S.ix_t1, S.ix_t2, S.ix_t3, S.ix_l3, S.zip_nil, S.zip_cons, S.ix_l0, S.ix_l1, S.ix_l2, S.seq_t, S.seq_l, S.seqO_d, S.is_bb, S.isnot_bb, S.isin_is, S.min_l, S.min_t, S.max_l, S.max_t, DL.le_int, DL.lt_int, DL.ge_int, DL.gt_int, DL.eq_int, DL.ne_int, DL.ne_nil, DL.eq_nil, add_i, sub_i, tyD, PyData.isTuple, PyData.isInt, PyData.isBool, PyData.isList, PyData.isStr, List.getD_cons_zero, List.getD_cons_succ, List.set_cons_zero, List.set_cons_succ, List.cons_append, List.nil_append, List.length_cons, List.length_nil, List.length_map, List.length_take, List.isEmpty_nil, List.isEmpty_map, List.isEmpty_cons, List.map_cons, List.map_nil, List.replicate, Nat.reduceAdd, Nat.reduceSub, List.all_cons, List.all_nil, Option.bind_some, Option.map_some, Bool.and_true, Bool.true_and, Bool.and_self, Bool.not_true, Bool.not_false, Bool.false_eq_true, if_true, if_false, reduceCtorEq, Int.cast_ofNat_Int, Int.reduceEq, Int.reduceLT, Int.reduceLE, Int.reduceAdd, Int.reduceSub, Int.reduceMod, Int.reduceNeg, Int.zero_add, Int.reduceMul, decide_true, decide_false, beq_self_eq_true, BEq.rfl, Bool.or_true, Bool.or_false, ne_eq, not_true_eq_false, not_false_eq_true, *])
local macro_rules | `(tactic| trivial) => `(tactic| simp only [S.fin_some, S.finB_some, S.finT_some, S.finL_some, S.kvar_d, S.kvar_own, S.kvar_tape, S.ev_var, S.ev_lit, S.ev_glob, S.evs_nil, S.evs_cons, S.ks1_ok, S.ks1_err, S.ks2_ok, S.ks2_err, S.ev_tup, S.ev_lst, S.ktup_ok, S.ktup_err, S.klst_ok, S.klst_err, S.ev_bin, S.kbin1_ok, S.kbin1_err, S.kbin2_ok, S.kbin2_err, S.ev_cmp, S.kcmp1_ok, S.kcmp1_err, S.kcmp2_ok, S.kcmp2_err, S.ev_idx, S.kidx1_ok, S.kidx1_err, S.kidx2_ok, S.kidx2_err, S.ev_neg, S.kneg_ok, S.ev_not, S.knot_ok, S.knot_err, S.tr_ok, S.tr_err, S.ev_and, S.kand1_ok, S.kand1_err, S.kand2_t, S.kand2_f, S.ev_or, S.kor1_ok, S.kor1_err, S.kor2_t, S.kor2_f, S.ev_ite, S.kite_t, S.kite_f, S.kite_err, S.ev_chain, S.kch1_ok, S.kch2_ok, S.kch3_t, S.kch3_f, S.kch4_ok, S.ev_slc, S.kslc1_ok, S.kslc2_ok, S.kslc3_ok, S.kslc4_t, S.kslc4_l, S.evo_omit, S.evo_lit, S.evo_var, S.evo_neg, S.evo_glob, S.evo_bin, S.evo_blt, S.evo_idx, S.evo_call, S.koi_ok, S.ev_isa, S.kisa_ok, S.ev_call, S.kc1_ok, S.kc1_err, S.kc2_t, S.kc3_d, S.kc3_f, S.kc3_err, S.ev_callF, S.kg1_ok, S.kg2_t, S.kg3_f, S.ev_blt, S.kblt_ok, S.kblt_err, S.ev_comp, S.kcp1_ok, S.kcp2_ok, S.kcp3_t, S.kq2_ok, S.ev_gall, S.kq1all_ok, S.ev_gany, S.kq1any_ok, S.kg5_ok, S.kg4_ok, S.ev_gsum, S.ev_gmin, S.ev_gmax, S.ev_gtuple, S.ev_glist, S.ev_gsorted, S.kst2_ok, S.kst1_ok, S.ev_sset, S.ev_tlen, S.ktl_ok, S.ev_tpop, S.ktp_ok, S.ev_revl, S.krv_l, S.krv_t, S.ts_nil, S.ts_cons, S.kts_nil, S.kts_t, S.kts_f, S.ei_seq, S.ksq_ok, S.seqO_own, S.krg3_t, S.krg2_ok, S.ei_rng, S.krg1_ok, S.ei_rng1, S.krg0_ok, S.ei_enum, S.ken_l, S.ken_t, S.ei_zip, S.kzp1_ok, S.kzp2_l, S.kzp2_t, S.ei_rev, S.krs_l, S.krs_t, S.ei_dk, S.kdk_ok, S.kas2_ok, S.kas1_ok, S.kas1_err, S.run_asg, S.bt_nm, S.kbt_t, S.bt_t, S.bt_l, S.kbs_ok, S.bs_nil, S.bs_cons, S.kow_ok, S.run_own, S.kap3_t, S.kap2_ok, S.kap1_ok, S.run_app, S.kau3_ok, S.kau2_ok, S.kau1_ok, S.run_aug, S.kex3_t, S.kex2_ok, S.kex1_ok, S.run_ext, S.kse4_ok, S.kse3_ok, S.kse2_ok, S.kse1_ok, S.run_seti, S.kre_d, S.kre_own, S.kre_err, S.run_ret, S.krf_ok, S.run_retF, S.run_retN, S.kif_t, S.kif_f, S.kif_err, S.run_ifs, S.kfo_ok, S.run_for, S.kwc_is, S.run_whil, S.kxp_ok, S.kxp_err, S.run_expr, S.run_raise, S.run_brk, S.run_cnt, S.run_pass, S.kfz_ok, S.run_frz, S.kpp3_ok, S.kpp2_ok, S.kpp1_ok, S.kpp1_err, S.evP_nil, S.evP_cons, S.flag_t, S.flag_f, S.parE_nil, S.parE_t, S.parE_f, S.kpa_ok, S.kpa_err, S.run_par, S.ktn_ok, S.run_tun, S.kte4_ok, S.kte3_ok, S.kte2_ok, S.kte1_ok, S.run_tset, S.kro_ok, S.run_retO, S.kty2_ok, S.kty_err, S.kty_ret, S.kty_nx, S.run_tryr, S.runs_nil, S.runs_cons, S.kth_nx, S.kth_ret, S.kth_cnt, S.kth_brk, S.kth_err, S.kcr4_ok, S.kcr3_ok, S.kcr2_t, S.kcr2_f, S.kcr1_ok, S.cr_nil, S.cr_cons, S.kqa3_1, S.kqa3_2, S.kqa2_t, S.kqa2_f, S.kqa1_ok, S.qra_nil, S.qra_cons, S.kqo3_1, S.kqo3_2, S.kqo2_t, S.kqo2_f, S.kqo1_ok, S.qro_nil, S.qro_cons, S.kfr2_nx, S.kfr2_cnt, S.kfr2_brk, S.kfr2_ret, S.kfr2_err, S.kfr1_ok, S.fr_nil, S.fr_cons, callRun, wipeE, S.optR_some, S.ans_nx, S.ans_ret, S.ans_err, S.dat_d, S.dat_own, S.truth_bool, S.truth_int, S.truth_list, S.truth_tuple, S.arg_d, S.arg_tape, S.all_nil, S.all_cons, S.all_own, rng_irg, S.allD_nil, S.allD_cons, S.blt1, S.blt2, S.len_list, S.len_tuple, S.int_int, S.abs_int, S.tup_of, S.lst_of, S.sorted_of, S.min2_of, S.max2_of, S.ix_t0, S.ix_t1, S.ix_t2, S.ix_t3, S.ix_l3, S.zip_nil, S.zip_cons, S.ix_l0, S.ix_l1, S.ix_l2, S.seq_t, S.seq_l, S.seqO_d, S.is_bb, S.isnot_bb, S.isin_is, S.min_l, S.min_t, S.max_l, S.max_t, DL.le_int, DL.lt_int, DL.ge_int, DL.gt_int, DL.eq_int, DL.ne_int, DL.ne_nil, DL.eq_nil, add_i, sub_i, tyD, PyData.isTuple, PyData.isInt, PyData.isBool, PyData.isList, PyData.isStr, List.getD_cons_zero, List.getD_cons_succ, List.set_cons_zero, List.set_cons_succ, List.cons_append, List.nil_append, List.length_cons, List.length_nil, List.length_map, List.length_take, List.isEmpty_nil, List.isEmpty_map, List.isEmpty_cons, List.map_cons, List.map_nil, List.replicate, Nat.reduceAdd, Nat.reduceSub, List.all_cons, List.all_nil, Option.bind_some, Option.map_some, Bool.and_true, Bool.true_and, Bool.and_self, Bool.not_true, Bool.not_false, Bool.false_eq_true, if_true, if_false, reduceCtorEq, Int.cast_ofNat_Int, Int.reduceEq, Int.reduceLT, Int.reduceLE, Int.reduceAdd, Int.reduceSub, Int.reduceMod, Int.reduceNeg, Int.zero_add, Int.reduceMul, decide_true, decide_false, beq_self_eq_true, BEq.rfl, Bool.or_true, Bool.or_false, ne_eq, not_true_eq_false, not_false_eq_true, *])
variable {fu k : Nat}
theorem law_8 {c f : Q4} (b : Int) (t : DL.T) (post : List S) (x0 x2 x6 x7 x8 x9 x10 x11 x12 x13 x14 x15 x16 x17 x18 x19 x20 x21 : W)
    (next : ∀ x15, HA.Wins (runs (Fd Q.prog fu 6) fu post [x0, .tape, x2, .d (.int b), .d c.d', .d f.d', x6, x7, x8, x9, x10, x11, x12, x13, x14, x15, x16, x17, x18, x19, x20, x21] t)) :
    HA.Wins (runs (Fd Q.prog fu 6) fu (st 10 :: st 11 :: post) [x0, .tape, x2, .d (.int b), .d c.d', .d f.d', x6, x7, x8, x9, x10, x11, x12, x13, x14, x15, x16, x17, x18, x19, x20, x21] t) := by
  have hmul : binD .mul (.tuple [.int b]) (.int 4) = some (.tuple [.int b, .int b, .int b, .int b]) := rfl
  have h2 : ∀ x b t, Fd Q.prog fu 6 14 [.d (.bool x), .d (.bool b)] t = .ok (.d (.bool (PyData.eqv (.bool x) (.bool b)))) t := fun x b t => HA.f_same (k := 5) p14 (.bool x) b t ⟨x, rfl⟩
  have hl : lenOk 0 = true := by decide
  have hr : rngOk 0 4 = true := by decide
  dsimp only [st, l_law, List.getD_cons_succ, List.getD_cons_zero]
  trivial
  rw [DL.comp_none PyData.int]
  · trivial
  · intro y hy
    obtain ⟨y0, y1⟩ := mem_irg.mp hy
    have hn : y.toNat < 4 := by omega
    have hyn : ((y.toNat : Nat) : Int) = y := Int.toNat_of_nonneg y0
    have h1 := f_stand (fu := fu) (k := 3) ⟨b, b, b, b⟩ f y.toNat hn t
    rw [hyn] at h1
    have hd : decide (mm ⟨b, b, b, b⟩ f y.toNat = 0) = decide (f.a + f.c = f.b + f.d) := by
      generalize y.toNat = n at hn
      refine decide_eq_decide.mpr ?_
      match n, hn with
      | 0, _ =>
        show (b + f.a) + (b + f.c) - (b + f.b) - (b + f.d) = 0 ↔ _
        omega
      | 1, _ =>
        show (b + f.b) + (b + f.d) - (b + f.c) - (b + f.a) = 0 ↔ _
        omega
      | 2, _ =>
        show (b + f.c) + (b + f.a) - (b + f.d) - (b + f.b) = 0 ↔ _
        omega
      | 3, _ =>
        show (b + f.d) + (b + f.b) - (b + f.a) - (b + f.c) = 0 ↔ _
        omega
    rw [hd] at h1
    clear hd hn hyn
    have q1 : ∀ x, PyData.eqv (.bool x) (.bool x) = true := fun x => by cases x <;> rfl
    unfold Q4.d' at *
    refine ⟨_, rfl, ?_⟩
    trivial
theorem law_9 {c f : Q4} (b : PyData) (t : DL.T) (x0 x2 x6 x7 x8 x9 x10 x11 x12 x13 x14 x15 x16 x17 x18 x19 x20 x21 : W) :
    HA.Wins (runs (Fd Q.prog fu 6) fu [st 12, st 13, st 14] [x0, .tape, x2, .d b, .d c.d', .d f.d', x6, x7, x8, x9, x10, x11, x12, x13, x14, x15, x16, x17, x18, x19, x20, x21] t) := by
  have h1 : ∀ w t, Fd Q.prog fu 6 6 [.d (.int w), .d c.d', .d f.d', .d (.int (-1))] t = .ok (.d (.str "OutOfRange")) t := fun w t => f_ask_no (k := 2) w _ _ (-1) rfl t
  have h2 : ∀ w t, Fd Q.prog fu 6 6 [.d (.int w), .d c.d', .d f.d', .d (.int 4)] t = .ok (.d (.str "OutOfRange")) t := fun w t => f_ask_no (k := 2) w _ _ 4 rfl t
  have hr : rngOk 0 2 = true := by decide
  have hi : irg 0 2 = [0, 1] := rfl
  have hl : lenOk 2 = true := by decide
  have a1 : ∀ s : PyData, binD .add (.list []) (.list [s, s]) = some (.list [s, s]) := fun _ => rfl
  have a2 : ∀ s : PyData, binD .add (.list [s, s]) (.list [s, s]) = some (.list [s, s, s, s]) := fun _ => rfl
  have a3 : ∀ s : PyData, binD .mul (.list [s]) (.int 4) = some (.list [s, s, s, s]) := fun _ => rfl
  have a4 : cmpD .eq (.list [.str "OutOfRange", .str "OutOfRange", .str "OutOfRange", .str "OutOfRange"]) (.list [.str "OutOfRange", .str "OutOfRange", .str "OutOfRange", .str "OutOfRange"]) = some true := eq_self rfl (by decide)
  dsimp only [st, l_law, List.getD_cons_succ, List.getD_cons_zero]
  trivial
  exact ⟨_, rfl⟩
end K55
/-! M55z: the plain law of k55. -/
namespace K55
open PySem PySem.Spec PyProof.Rows L2 DL
local macro_rules | `(tactic| decreasing_trivial) => `(tactic| simp only [S.fin_some, S.finB_some, S.finT_some, S.finL_some, S.kvar_d, S.kvar_own, S.kvar_tape, S.ev_var, S.ev_lit, S.ev_glob, S.evs_nil, S.evs_cons, S.ks1_ok, S.ks1_err, S.ks2_ok, S.ks2_err, S.ev_tup, S.ev_lst, S.ktup_ok, S.ktup_err, S.klst_ok, S.klst_err, S.ev_bin, S.kbin1_ok, S.kbin1_err, S.kbin2_ok, S.kbin2_err, S.ev_cmp, S.kcmp1_ok, S.kcmp1_err, S.kcmp2_ok, S.kcmp2_err, S.ev_idx, S.kidx1_ok, S.kidx1_err, S.kidx2_ok, S.kidx2_err, S.ev_neg, S.kneg_ok, S.ev_not, S.knot_ok, S.knot_err, S.tr_ok, S.tr_err, S.ev_and, S.kand1_ok, S.kand1_err, S.kand2_t, S.kand2_f, S.ev_or, S.kor1_ok, S.kor1_err, S.kor2_t, S.kor2_f, S.ev_ite, S.kite_t, S.kite_f, S.kite_err, S.ev_chain, S.kch1_ok, S.kch2_ok, S.kch3_t, S.kch3_f, S.kch4_ok, S.ev_slc, S.kslc1_ok, S.kslc2_ok, S.kslc3_ok, S.kslc4_t, S.kslc4_l, S.evo_omit, S.evo_lit, S.evo_var, S.evo_neg, S.evo_glob, S.evo_bin, S.evo_blt, S.evo_idx, S.evo_call, S.koi_ok, S.ev_isa, S.kisa_ok, S.ev_call, S.kc1_ok, S.kc1_err, S.kc2_t, S.kc3_d, S.kc3_f, S.kc3_err, S.ev_callF, S.kg1_ok, S.kg2_t, S.kg3_f, S.ev_blt, S.kblt_ok, S.kblt_err, S.ev_comp, S.kcp1_ok, S.kcp2_ok, S.kcp3_t, S.kq2_ok, S.ev_gall, S.kq1all_ok, S.ev_gany, S.kq1any_ok, S.kg5_ok, S.kg4_ok, S.ev_gsum, S.ev_gmin, S.ev_gmax, S.ev_gtuple, S.ev_glist, S.ev_gsorted, S.kst2_ok, S.kst1_ok, S.ev_sset, S.ev_tlen, S.ktl_ok, S.ev_tpop, S.ktp_ok, S.ev_revl, S.krv_l, S.krv_t, S.ts_nil, S.ts_cons, S.kts_nil, S.kts_t, S.kts_f, S.ei_seq, S.ksq_ok, S.seqO_own, S.krg3_t, S.krg2_ok, S.ei_rng, S.krg1_ok, S.ei_rng1, S.krg0_ok, S.ei_enum, S.ken_l, S.ken_t, S.ei_zip, S.kzp1_ok, S.kzp2_l, S.kzp2_t, S.ei_rev, S.krs_l, S.krs_t, S.ei_dk, S.kdk_ok, S.kas2_ok, S.kas1_ok, S.kas1_err, S.run_asg, S.bt_nm, S.kbt_t, S.bt_t, S.bt_l, S.kbs_ok, S.bs_nil, S.bs_cons, S.kow_ok, S.run_own, S.kap3_t, S.kap2_ok, S.kap1_ok, S.run_app, S.kau3_ok, S.kau2_ok, S.kau1_ok, S.run_aug, S.kex3_t, S.kex2_ok, S.kex1_ok, S.run_ext, S.kse4_ok, S.kse3_ok, S.kse2_ok, S.kse1_ok, S.run_seti, S.kre_d, S.kre_own, S.kre_err, S.run_ret, S.krf_ok, S.run_retF, S.run_retN, S.kif_t, S.kif_f, S.kif_err, S.run_ifs, S.kfo_ok, S.run_for, S.kwc_is, S.run_whil, S.kxp_ok, S.kxp_err, S.run_expr, S.run_raise, S.run_brk, S.run_cnt, S.run_pass, S.kfz_ok, S.run_frz, S.kpp3_ok, S.kpp2_ok, S.kpp1_ok, S.kpp1_err, S.evP_nil, S.evP_cons, S.flag_t, S.flag_f, S.parE_nil, S.parE_t, S.parE_f, S.kpa_ok, S.kpa_err, S.run_par, S.ktn_ok, S.run_tun, S.kte4_ok, S.kte3_ok, S.kte2_ok, S.kte1_ok, S.run_tset, S.kro_ok, S.run_retO, S.kty2_ok, S.kty_err, S.kty_ret, S.kty_nx, S.run_tryr, S.runs_nil, S.runs_cons, S.kth_nx, S.kth_ret, S.kth_cnt, S.kth_brk, S.kth_err, S.kcr4_ok, S.kcr3_ok, S.kcr2_t, S.kcr2_f, S.kcr1_ok, S.cr_nil, S.kqa3_1, S.kqa3_2, S.kqa2_t, S.kqa2_f, S.kqa1_ok, S.qra_nil, S.kqo3_1, S.kqo3_2, S.kqo2_t, S.kqo2_f, S.kqo1_ok, S.qro_nil, S.kfr2_nx, S.kfr2_cnt, S.kfr2_brk, S.kfr2_ret, S.kfr2_err, S.kfr1_ok, S.fr_nil, callRun, wipeE, S.optR_some, S.ans_nx, S.ans_ret, S.ans_err, S.dat_d, S.dat_own, S.truth_bool, S.truth_int, S.truth_list, S.truth_tuple, S.arg_d, S.arg_tape, S.all_nil, S.all_cons, S.all_own, rng_irg, S.allD_nil, S.allD_cons, S.blt1, S.blt2, S.len_list, S.len_tuple, S.int_int, S.abs_int, S.tup_of, S.lst_of, S.sorted_of, S.min2_of, S.max2_of, S.ix_t0, S.ix_t1, S.ix_t2, S.ix_t3, S.ix_l3, S.zip_nil, S.zip_cons, S.ix_l0, S.ix_l1, S.ix_l2, S.seq_t, S.seq_l, S.seqO_d, S.is_bb, S.isnot_bb, S.isin_is, S.min_l, S.min_t, S.max_l, S.max_t, DL.le_int, DL.lt_int, DL.ge_int, DL.gt_int, DL.eq_int, DL.ne_int, DL.ne_nil, DL.eq_nil, add_i, sub_i, tyD, PyData.isTuple, PyData.isInt, PyData.isBool, PyData.isList, PyData.isStr, List.getD_cons_zero, List.getD_cons_succ, List.set_cons_zero, List.set_cons_succ, List.cons_append, List.nil_append, List.length_cons, List.length_nil, List.length_map, List.length_take, List.isEmpty_nil, List.isEmpty_map, List.isEmpty_cons, List.map_cons, List.map_nil, List.replicate, Nat.reduceAdd, Nat.reduceSub, List.all_cons, List.all_nil, Option.bind_some, Option.map_some, Bool.and_true, Bool.true_and, Bool.and_self, Bool.not_true, Bool.not_false, Bool.false_eq_true, if_true, if_false, reduceCtorEq, Int.cast_ofNat_Int, Int.reduceEq, Int.reduceLT, Int.reduceLE, Int.reduceAdd, Int.reduceSub, Int.reduceMod, Int.reduceNeg, Int.zero_add, Int.reduceMul, decide_true, decide_false, beq_self_eq_true, BEq.rfl, Bool.or_true, Bool.or_false, ne_eq, not_true_eq_false, not_false_eq_true, *])
local macro_rules | `(tactic| trivial) => `(tactic| simp only [S.fin_some, S.finB_some, S.finT_some, S.finL_some, S.kvar_d, S.kvar_own, S.kvar_tape, S.ev_var, S.ev_lit, S.ev_glob, S.evs_nil, S.evs_cons, S.ks1_ok, S.ks1_err, S.ks2_ok, S.ks2_err, S.ev_tup, S.ev_lst, S.ktup_ok, S.ktup_err, S.klst_ok, S.klst_err, S.ev_bin, S.kbin1_ok, S.kbin1_err, S.kbin2_ok, S.kbin2_err, S.ev_cmp, S.kcmp1_ok, S.kcmp1_err, S.kcmp2_ok, S.kcmp2_err, S.ev_idx, S.kidx1_ok, S.kidx1_err, S.kidx2_ok, S.kidx2_err, S.ev_neg, S.kneg_ok, S.ev_not, S.knot_ok, S.knot_err, S.tr_ok, S.tr_err, S.ev_and, S.kand1_ok, S.kand1_err, S.kand2_t, S.kand2_f, S.ev_or, S.kor1_ok, S.kor1_err, S.kor2_t, S.kor2_f, S.ev_ite, S.kite_t, S.kite_f, S.kite_err, S.ev_chain, S.kch1_ok, S.kch2_ok, S.kch3_t, S.kch3_f, S.kch4_ok, S.ev_slc, S.kslc1_ok, S.kslc2_ok, S.kslc3_ok, S.kslc4_t, S.kslc4_l, S.evo_omit, S.evo_lit, S.evo_var, S.evo_neg, S.evo_glob, S.evo_bin, S.evo_blt, S.evo_idx, S.evo_call, S.koi_ok, S.ev_isa, S.kisa_ok, S.ev_call, S.kc1_ok, S.kc1_err, S.kc2_t, S.kc3_d, S.kc3_f, S.kc3_err, S.ev_callF, S.kg1_ok, S.kg2_t, S.kg3_f, S.ev_blt, S.kblt_ok, S.kblt_err, S.ev_comp, S.kcp1_ok, S.kcp2_ok, S.kcp3_t, S.kq2_ok, S.ev_gall, S.kq1all_ok, S.ev_gany, S.kq1any_ok, S.kg5_ok, S.kg4_ok, S.ev_gsum, S.ev_gmin, S.ev_gmax, S.ev_gtuple, S.ev_glist, S.ev_gsorted, S.kst2_ok, S.kst1_ok, S.ev_sset, S.ev_tlen, S.ktl_ok, S.ev_tpop, S.ktp_ok, S.ev_revl, S.krv_l, S.krv_t, S.ts_nil, S.ts_cons, S.kts_nil, S.kts_t, S.kts_f, S.ei_seq, S.ksq_ok, S.seqO_own, S.krg3_t, S.krg2_ok, S.ei_rng, S.krg1_ok, S.ei_rng1, S.krg0_ok, S.ei_enum, S.ken_l, S.ken_t, S.ei_zip, S.kzp1_ok, S.kzp2_l, S.kzp2_t, S.ei_rev, S.krs_l, S.krs_t, S.ei_dk, S.kdk_ok, S.kas2_ok, S.kas1_ok, S.kas1_err, S.run_asg, S.bt_nm, S.kbt_t, S.bt_t, S.bt_l, S.kbs_ok, S.bs_nil, S.bs_cons, S.kow_ok, S.run_own, S.kap3_t, S.kap2_ok, S.kap1_ok, S.run_app, S.kau3_ok, S.kau2_ok, S.kau1_ok, S.run_aug, S.kex3_t, S.kex2_ok, S.kex1_ok, S.run_ext, S.kse4_ok, S.kse3_ok, S.kse2_ok, S.kse1_ok, S.run_seti, S.kre_d, S.kre_own, S.kre_err, S.run_ret, S.krf_ok, S.run_retF, S.run_retN, S.kif_t, S.kif_f, S.kif_err, S.run_ifs, S.kfo_ok, S.run_for, S.kwc_is, S.run_whil, S.kxp_ok, S.kxp_err, S.run_expr, S.run_raise, S.run_brk, S.run_cnt, S.run_pass, S.kfz_ok, S.run_frz, S.kpp3_ok, S.kpp2_ok, S.kpp1_ok, S.kpp1_err, S.evP_nil, S.evP_cons, S.flag_t, S.flag_f, S.parE_nil, S.parE_t, S.parE_f, S.kpa_ok, S.kpa_err, S.run_par, S.ktn_ok, S.run_tun, S.kte4_ok, S.kte3_ok, S.kte2_ok, S.kte1_ok, S.run_tset, S.kro_ok, S.run_retO, S.kty2_ok, S.kty_err, S.kty_ret, S.kty_nx, S.run_tryr, S.runs_nil, S.runs_cons, S.kth_nx, S.kth_ret, S.kth_cnt, S.kth_brk, S.kth_err, S.kcr4_ok, S.kcr3_ok, S.kcr2_t, S.kcr2_f, S.kcr1_ok, S.cr_nil, S.cr_cons, S.kqa3_1, S.kqa3_2, S.kqa2_t, S.kqa2_f, S.kqa1_ok, S.qra_nil, S.qra_cons, S.kqo3_1, S.kqo3_2, S.kqo2_t, S.kqo2_f, S.kqo1_ok, S.qro_nil, S.qro_cons, S.kfr2_nx, S.kfr2_cnt, S.kfr2_brk, S.kfr2_ret, S.kfr2_err, S.kfr1_ok, S.fr_nil, S.fr_cons, callRun, wipeE, S.optR_some, S.ans_nx, S.ans_ret, S.ans_err, S.dat_d, S.dat_own, S.truth_bool, S.truth_int, S.truth_list, S.truth_tuple, S.arg_d, S.arg_tape, S.all_nil, S.all_cons, S.all_own, rng_irg, S.allD_nil, S.allD_cons, S.blt1, S.blt2, S.len_list, S.len_tuple, S.int_int, S.abs_int, S.tup_of, S.lst_of, S.sorted_of, S.min2_of, S.max2_of, S.ix_t0, S.ix_t1, S.ix_t2, S.ix_t3, S.ix_l3, S.zip_nil, S.zip_cons, S.ix_l0, S.ix_l1, S.ix_l2, S.seq_t, S.seq_l, S.seqO_d, S.is_bb, S.isnot_bb, S.isin_is, S.min_l, S.min_t, S.max_l, S.max_t, DL.le_int, DL.lt_int, DL.ge_int, DL.gt_int, DL.eq_int, DL.ne_int, DL.ne_nil, DL.eq_nil, add_i, sub_i, tyD, PyData.isTuple, PyData.isInt, PyData.isBool, PyData.isList, PyData.isStr, List.getD_cons_zero, List.getD_cons_succ, List.set_cons_zero, List.set_cons_succ, List.cons_append, List.nil_append, List.length_cons, List.length_nil, List.length_map, List.length_take, List.isEmpty_nil, List.isEmpty_map, List.isEmpty_cons, List.map_cons, List.map_nil, List.replicate, Nat.reduceAdd, Nat.reduceSub, List.all_cons, List.all_nil, Option.bind_some, Option.map_some, Bool.and_true, Bool.true_and, Bool.and_self, Bool.not_true, Bool.not_false, Bool.false_eq_true, if_true, if_false, reduceCtorEq, Int.cast_ofNat_Int, Int.reduceEq, Int.reduceLT, Int.reduceLE, Int.reduceAdd, Int.reduceSub, Int.reduceMod, Int.reduceNeg, Int.zero_add, Int.reduceMul, decide_true, decide_false, beq_self_eq_true, BEq.rfl, Bool.or_true, Bool.or_false, ne_eq, not_true_eq_false, not_false_eq_true, *])
variable {fu k : Nat}
theorem plain (fu : Nat) (ns : List Int) (h : ns.length ≤ 63) : ∃ t, lawRun (Fd Q.prog fu 6) fu Q.L ns = .ret (.d (.bool true)) t := by
  obtain ⟨cs, hc, c1, c2, c3⟩ := HA.f_open (fu := fu) (k := 5) p0 ns h []
  have hc' : Fd Q.prog fu 6 0 [.d (.list (ns.map PyData.int))] [] = _ := hc
  have e : ev (Fd Q.prog fu 6) (.callF 0 [.var 0]) [.d (.list (ns.map PyData.int)), .un, .un, .un, .un, .un, .un, .un, .un, .un, .un, .un, .un, .un, .un, .un, .un, .un, .un, .un, .un, .un] [] = .ok (.d (.list [.int 0, .int 0, .list (cs.map PyData.int)])) [] := by
    trivial
  have e1 : ev (Fd Q.prog fu 6) Q.L.c (lawEnv Q.L ns) [] = .ok (.d (.list [.int 0, .int 0, .list (cs.map PyData.int)])) [] := e
  unfold lawRun
  rw [e1]
  have hT : HA.TapeOk [.int 0, .int 0, .list (cs.map PyData.int)] := ⟨0, 0, cs, rfl, by decide, by decide, c1, c2, c3⟩
  have hr : l_law.rest = [st 0, st 1, st 2, st 3, st 4, st 5, st 6, st 7, st 8, st 9, st 10, st 11, st 12, st 13, st 14] := rfl
  show HA.Wins (runs (Fd Q.prog fu 6) fu l_law.rest [.d (.list (ns.map PyData.int)), .tape, .un, .un, .un, .un, .un, .un, .un, .un, .un, .un, .un, .un, .un, .un, .un, .un, .un, .un, .un, .un] [.int 0, .int 0, .list (cs.map PyData.int)])
  rw [hr]
  refine law_1 hT _ _ fun c f b t x2 hT hd => ?_
  refine law_2 _ _ _ _ _ fun xs hx => ?_
  refine law_3 hd _ _ _ _ _ hx ?_
  refine law_4 _ _ _ _ _ _ fun xs hx => ?_
  refine law_5 hd _ _ _ _ _ hx ?_
  refine law_6 _ _ _ _ _ _ fun _ _ _ _ _ _ _ _ _ _ _ _ _ _ => ?_
  refine law_7 _ _ _ _ _ _ _ _ _ _ _ _ _ _ _ _ _ _ _ _ ?_
  refine law_8 _ _ _ _ _ _ _ _ _ _ _ _ _ _ _ _ _ _ _ _ _ fun _ => ?_
  exact law_9 _ _ _ _ _ _ _ _ _ _ _ _ _ _ _ _ _ _ _ _
end K55
namespace K55
open PySem PySem.Spec PyProof.Rows L2 DL
/-! the head -/
abbrev R : PySem.W.OpenRow := PySem.W.OpenLaw.row PySem.Challenge.rw_sawheld_k55_whole_chairs_on_floors
abbrev hk : PySem.W.Hook := He.hookX 5 Q.fa Q.fn [] Q.tf Q.ex
def ob (s : PySem.W.SharedT) : He.AlX := He.obsX 5 Q.fa Q.fn [] Q.tf Q.ex (HandSHeadRun.getT s)
theorem ob_eq (s : PySem.W.SharedT) : ob s = hk.obs s.abs := He.obsX_eq (HandSHeadRun.getT_eq s)
def loose : List Str := ["SawError", "OutOfRange", "Malformed", "NotThere", "Refused", "TooMuch", "is_number", "LEGS", "SHORTEST", "LONGEST", "MOST_FLOOR", "are_four", "is_chair", "is_floor", "apart", "does_stand", "told_trims", "best_turn", "_law_open", "_law_mixed", "_law_draw", "_law_told", "_law_int", "_law_same", "_law_tops", "_law_trims", "_law_asked"]
abbrev qv : Program := PySem.W.view R.prog [31]
theorem run (w : World) : HandSHeadRun.RunEq R qv hk ob 20000 loose w := by
  intro os
  kernel_rfl
end K55
open PySem PySem.W PySem.Calls PyProof.Rows
theorem PySem.Challenge.cw_sawheld_k55_whole_chairs_on_floors_holds : PySem.Challenge.rw_sawheld_k55_whole_chairs_on_floors.Holds := by
  w_on; o_law
  refine HandSHeadRun.head_any (r := OpenLaw.row PySem.Challenge.rw_sawheld_k55_whole_chairs_on_floors) (q := K55.qv) (H := K55.hk) (ob := K55.ob) (M := 20000) (loose := K55.loose) (d := HandSHeadRun.topDef (OpenLaw.row PySem.Challenge.rw_sawheld_k55_whole_chairs_on_floors).prog 31) (kwd := []) K55.ob_eq
    (by kernel_rfl) (fun s => by kernel_rfl) K55.run (by kernel_rfl) (by kernel_rfl) (by kernel_rfl) (by rfl) (by first | assumption | decide +kernel) (by decide +kernel) ⟨rfl, rfl, rfl, rfl, rfl, by decide +kernel⟩ ?hw ?hc
  case hw => w_witness2
  case hc =>
    exact DL.Lk.walk (l := PySem.Challenge.rw_sawheld_k55_whole_chairs_on_floors) (nm := 63) (N := 5) (k := 6) (fu := 1000) (x := "script") K55.Q rfl (by decide) (by kernel_rfl) ⟨rfl, by decide, by decide⟩ K55.ok K55.bnd (by kernel_rfl) rfl K55.hotOk fun ns h _ => K55.plain 1000 ns h
