import PyProof.Rows.All
import Wide.All
import OpenK.AllK
import Wide.FinOn
import HandS.ForMost
import HandS.Exc
import HandS.Defaults
import HandS.IsInst
import HandS.Deep
import HandS.TupAny
import HandS.TupMul
import HandS.Conv
import HandS.HeadHook1
import HandS.HeadHook2
import HandS.Style
import PyProof.ListMulRoad
import PyProof.FactsAll.tuple_2
import KE.KFmtOwn
import HandS.Small
import HandS.Dict
import HandS.Codes
import HandS.Head0
import HandS.Head1
import HandS.Head2
import HandS.HeadEnd
import HandS.HeadHook4
import PySem.Challenge.RW_untoldrules_k76_level_papers_judged
import KE.KStateDown
set_option Elab.async false
set_option linter.all false
set_option maxRecDepth 100000
set_option maxHeartbeats 4000000
namespace UK
open PySem PySem.Spec PyProof.Rows L2

abbrev St := L2.St
/-! ### data by value, the drawing pen, the monad -/
inductive D where
  | non | bl (b : Bool) | int (i : Int) | str (x : Str)
  | tup (xs : List D) | lst (xs : List D) | ins (c : Nat) (xs : List D) | dic (ks : List Key) (vs : List D)
  | pen
structure Pen where
  cells : List Int
  pos : Int
  digits : Int
  count : Int
  fold : Int
def M (α : Type) : Type := Pen → Option (α × Pen)
def ret {α : Type} (a : α) : M α := fun π => some (a, π)
def stuck {α : Type} : M α := fun _ => none
def bnd {α β : Type} (m : M α) (f : α → M β) : M β := fun π => match m π with
  | some (a, π') => f a π'
  | none => none
@[simp] theorem bnd_ret {α β : Type} (a : α) (f : α → M β) : bnd (ret a) f = f a := rfl
@[simp] theorem bnd_stuck {α β : Type} (f : α → M β) : bnd (stuck : M α) f = stuck := rfl
@[simp] theorem bnd_bnd {α β γ : Type} (m : M α) (f : α → M β) (g : β → M γ) : bnd (bnd m f) g = bnd m fun a => bnd (f a) g := by
  funext π
  unfold bnd
  cases m π <;> rfl
theorem bnd_some {α β : Type} {m : M α} {f : α → M β} {π : Pen} {b : β} {π' : Pen} (h : bnd m f π = some (b, π')) : ∃ a π1, m π = some (a, π1) ∧ f a π1 = some (b, π') := by
  unfold bnd at h
  cases q : m π with
  | none => rw [q] at h; cases h
  | some r => obtain ⟨a, π1⟩ := r; rw [q] at h; exact ⟨a, π1, rfl, h⟩
theorem ret_some {α : Type} {a b : α} {π π' : Pen} (h : ret a π = some (b, π')) : b = a ∧ π' = π := by
  cases h
  exact ⟨rfl, rfl⟩

/-! ### how a datum lies in the heap -/
abbrev CTab := List (Str × List Str)
mutual
inductive Rep (K : PySem.W.Frag) (CT : CTab) (p : Addr) (S : Hp) : D → V → Prop
  | non : Rep K CT p S .non .non
  | bl (b : Bool) : Rep K CT p S (.bl b) (.bl b)
  | int (i : Int) : Rep K CT p S (.int i) (.int i)
  | str (x : Str) : Rep K CT p S (.str x) (.str x)
  | tup {a : Addr} {vs : List V} {ds : List D} : SqT K S a vs → Reps K CT p S ds vs → Rep K CT p S (.tup ds) (.ref a)
  | lst {a : Addr} {vs : List V} {ds : List D} : S a = some (.lst vs) → Reps K CT p S ds vs → Rep K CT p S (.lst ds) (.ref a)
  | ins {c : Nat} {C : Str} {fns : List Str} {a dx : Addr} {fvs : List (Str × V)} {ds : List D} : CT[c]? = some (C, fns) → S a = some (.ins (He.ga K C) dx fvs) → fvs.map (·.1) = fns → Reps K CT p S ds (fvs.map (·.2)) → Rep K CT p S (.ins c ds) (.ref a)
  | dic {a : Addr} {kvs : List (Key × V)} {ks : List Key} {ds : List D} : S a = some (.dK kvs) → kvs.map (·.1) = ks → Reps K CT p S ds (kvs.map (·.2)) → Rep K CT p S (.dic ks ds) (.ref a)
  | pen : Rep K CT p S .pen (.ref p)
inductive Reps (K : PySem.W.Frag) (CT : CTab) (p : Addr) (S : Hp) : List D → List V → Prop
  | nil : Reps K CT p S [] []
  | cons {d : D} {ds : List D} {v : V} {vs : List V} : Rep K CT p S d v → Reps K CT p S ds vs → Reps K CT p S (d :: ds) (v :: vs)
end
section
variable {K : PySem.W.Frag} {CT : CTab} {p : Addr} {S S' H H' : Hp}
theorem same_t {a : Addr} {xs : List V} (e : Same S S') (h : SqT K S a xs) : SqT K S' a xs := by
  rcases h with (h | ⟨o, h⟩) | h
  · exact .inl (.inl (e _ _ h))
  · exact .inl (.inr ⟨o, e _ _ h⟩)
  · exact .inr h
theorem mono2 (e : Same S S') : (∀ d v, Rep K CT p S d v → Rep K CT p S' d v) ∧ (∀ ds vs, Reps K CT p S ds vs → Reps K CT p S' ds vs) := by
  constructor
  · intro d v h
    refine Rep.rec (motive_1 := fun d v _ => Rep K CT p S' d v) (motive_2 := fun ds vs _ => Reps K CT p S' ds vs) .non .bl .int .str ?_ ?_ ?_ ?_ .pen .nil ?_ h
    · intro a vs ds h1 _ h2; exact .tup (same_t e h1) h2
    · intro a vs ds h1 _ h2; exact .lst (e _ _ h1) h2
    · intro c C fns a dx fvs ds h1 h2 h3 _ h4; exact .ins h1 (e _ _ h2) h3 h4
    · intro a kvs ks ds h1 h2 _ h3; exact .dic (e _ _ h1) h2 h3
    · intro d ds v vs _ _ h1 h2; exact .cons h1 h2
  · intro ds vs h
    refine Reps.rec (motive_1 := fun d v _ => Rep K CT p S' d v) (motive_2 := fun ds vs _ => Reps K CT p S' ds vs) .non .bl .int .str ?_ ?_ ?_ ?_ .pen .nil ?_ h
    · intro a vs ds h1 _ h2; exact .tup (same_t e h1) h2
    · intro a vs ds h1 _ h2; exact .lst (e _ _ h1) h2
    · intro c C fns a dx fvs ds h1 h2 h3 _ h4; exact .ins h1 (e _ _ h2) h3 h4
    · intro a kvs ks ds h1 h2 _ h3; exact .dic (e _ _ h1) h2 h3
    · intro d ds v vs _ _ h1 h2; exact .cons h1 h2
theorem Rep.mono {d : D} {v : V} (h : Rep K CT p S d v) (e : Same S S') : Rep K CT p S' d v := (mono2 e).1 d v h
theorem Reps.mono {ds : List D} {vs : List V} (h : Reps K CT p S ds vs) (e : Same S S') : Reps K CT p S' ds vs := (mono2 e).2 ds vs h
theorem Reps.length : ∀ {ds : List D} {vs : List V}, Reps K CT p S ds vs → ds.length = vs.length
  | _, _, .nil => rfl
  | _, _, .cons _ t => congrArg Nat.succ t.length
theorem Reps.append : ∀ {ds es : List D} {vs us : List V}, Reps K CT p S ds vs → Reps K CT p S es us → Reps K CT p S (ds ++ es) (vs ++ us)
  | _, _, _, _, .nil, q => q
  | _, _, _, _, .cons r t, q => .cons r (t.append q)
theorem Reps.get : ∀ {ds : List D} {vs : List V} {i : Nat} {d : D}, Reps K CT p S ds vs → ds[i]? = some d → ∃ v, vs[i]? = some v ∧ Rep K CT p S d v
  | _, _, i, _, .nil, e => by simp at e
  | _, _, 0, _, .cons r t, e => by
    simp at e
    subst e
    exact ⟨_, rfl, r⟩
  | _, _, i + 1, _, .cons r t, e => by
    obtain ⟨v, h1, h2⟩ := t.get (i := i) (by simpa using e)
    exact ⟨v, by simpa using h1, h2⟩
theorem Reps.getV : ∀ {ds : List D} {vs : List V} {i : Nat} {v : V}, Reps K CT p S ds vs → vs[i]? = some v → ∃ d, ds[i]? = some d ∧ Rep K CT p S d v
  | _, _, i, _, .nil, e => by simp at e
  | _, _, 0, _, .cons r t, e => by
    simp at e
    subst e
    exact ⟨_, rfl, r⟩
  | _, _, i + 1, _, .cons r t, e => by
    obtain ⟨v, h1, h2⟩ := t.getV (i := i) (by simpa using e)
    exact ⟨v, by simpa using h1, h2⟩
theorem Reps.set : ∀ {ds : List D} {vs : List V} {d : D} {v : V} (i : Nat), Reps K CT p S ds vs → Rep K CT p S d v → Reps K CT p S (ds.set i d) (vs.set i v)
  | _, _, _, _, _, .nil, _ => .nil
  | _, _, _, _, 0, .cons _ t, q => .cons q t
  | _, _, _, _, i + 1, .cons r t, q => .cons r (t.set i q)
theorem Reps.take : ∀ {ds : List D} {vs : List V} (n : Nat), Reps K CT p S ds vs → Reps K CT p S (ds.take n) (vs.take n)
  | _, _, 0, _ => .nil
  | _, _, _ + 1, .nil => .nil
  | _, _, n + 1, .cons r t => .cons r (t.take n)
theorem Reps.drop : ∀ {ds : List D} {vs : List V} (n : Nat), Reps K CT p S ds vs → Reps K CT p S (ds.drop n) (vs.drop n)
  | _, _, 0, r => r
  | _, _, _ + 1, .nil => .nil
  | _, _, n + 1, .cons _ t => t.drop n
theorem Reps.reverse {ds : List D} {vs : List V} (h : Reps K CT p S ds vs) : Reps K CT p S ds.reverse vs.reverse := by
  have key : ∀ {ds : List D} {vs : List V}, Reps K CT p S ds vs → Reps K CT p S ds.reverse vs.reverse := by
    intro ds
    induction ds with
    | nil => intro vs h; cases h; exact .nil
    | cons d ds ih =>
      intro vs h
      cases h with
      | cons r t =>
        rw [List.reverse_cons, List.reverse_cons]
        exact (ih t).append (.cons r .nil)
  exact key h
theorem Reps.eraseIdx : ∀ {ds : List D} {vs : List V} (i : Nat), Reps K CT p S ds vs → Reps K CT p S (ds.eraseIdx i) (vs.eraseIdx i)
  | _, _, _, .nil => .nil
  | _, _, 0, .cons _ t => t
  | _, _, i + 1, .cons r t => .cons r (t.eraseIdx i)
theorem Reps.rep {ds : List D} {vs : List V} (h : Reps K CT p S ds vs) : ∀ n : Nat, Reps K CT p S (List.replicate n ds).flatten (List.replicate n vs).flatten
  | 0 => .nil
  | n + 1 => by
    rw [List.replicate_succ, List.replicate_succ, List.flatten_cons, List.flatten_cons]
    exact h.append (h.rep n)
theorem Reps.ints {vs : List V} : ∀ {is : List Int}, Reps K CT p S (is.map D.int) vs → vs = is.map V.int := by
  intro is
  induction is generalizing vs with
  | nil => intro h; cases h; rfl
  | cons i is ih =>
    intro h
    cases h with
    | cons r t => cases r; rw [ih t]; rfl
theorem Reps.ofInts : ∀ (is : List Int), Reps K CT p S (is.map D.int) (is.map V.int)
  | [] => .nil
  | i :: is => .cons (.int i) (Reps.ofInts is)
theorem Reps.bls {vs : List V} : ∀ {is : List Bool}, Reps K CT p S (is.map D.bl) vs → vs = is.map V.bl := by
  intro is
  induction is generalizing vs with
  | nil => intro h; cases h; rfl
  | cons i is ih =>
    intro h
    cases h with
    | cons r t => cases r; rw [ih t]; rfl
end

/-! ### the world: the shared part S, the pen, the heap H -/
def PenAt (p : Addr) (π : Pen) (S H : Hp) : Prop := ∃ c, H p = some (.dK [(.inr "cells", .ref c), (.inr "at", .int π.pos), (.inr "digits", .int π.digits), (.inr "count", .int π.count), (.inr "fold", .int π.fold)]) ∧ S c = some (.lst (π.cells.map V.int))
structure Wd (p : Addr) (S : Hp) (π : Pen) (H : Hp) : Prop where
  sub : Same S H
  pen : PenAt p π S H
  np : S p = none
structure Stp (p : Addr) (S H S' H' : Hp) : Prop where
  s : Same S S'
  h : ∀ b o, b ≠ p → H b = some o → H' b = some o
  f : ∀ b o, S' b = some o → S b = some o ∨ H b = none
  n : ∀ b, H' b = none → H b = none
section
variable {K : PySem.W.Frag} {CT : CTab} {p : Addr} {S S' S1 S2 H H' H1 H2 : Hp} {π π' : Pen}
theorem Stp.refl (p : Addr) (S H : Hp) : Stp p S H S H := ⟨Same.refl S, fun _ _ _ h => h, fun _ _ h => .inl h, fun _ h => h⟩
theorem Stp.trans (a : Stp p S H S1 H1) (b : Stp p S1 H1 S2 H2) : Stp p S H S2 H2 :=
  ⟨a.s.trans b.s, fun c o n h => b.h c o n (a.h c o n h), fun c o h => by
    rcases b.f c o h with h | h
    · exact a.f c o h
    · exact .inr (a.n c h), fun c h => a.n c (b.n c h)⟩
theorem Wd.hp (w : Wd p S π H) : H p ≠ none := by
  obtain ⟨c, h, _⟩ := w.pen
  rw [h]
  intro z
  cases z
/-- a new object, laid and shared -/
theorem Wd.new (w : Wd p S π H) {a : Addr} {o : HO} (h : H a = none) : Stp p S H (upd S a o) (upd H a o) ∧ Wd p (upd S a o) π (upd H a o) ∧ upd S a o a = some o := by
  have hs : S a = none := w.sub.free h
  have hp : p ≠ a := fun e => w.hp (e ▸ h)
  have s1 : Same S (upd S a o) := fun b u e => by rw [upd_ne (ne_of_none e hs)]; exact e
  refine ⟨⟨s1, fun b u _ e => ?_, fun b u e => ?_, fun b e => ?_⟩, ⟨fun b u e => ?_, ?_, ?_⟩, upd_same⟩
  · rw [upd_ne (ne_of_none e h)]; exact e
  · by_cases q : b = a
    · subst q; exact .inr h
    · rw [upd_ne q] at e; exact .inl e
  · by_cases q : b = a
    · subst q; exact h
    · rw [upd_ne q] at e; exact e
  · by_cases q : b = a
    · subst q; rw [upd_same] at e ⊢; exact e
    · rw [upd_ne q] at e ⊢; exact w.sub b u e
  · obtain ⟨c, h1, h2⟩ := w.pen
    exact ⟨c, by rw [upd_ne hp]; exact h1, s1 _ _ h2⟩
  · rw [upd_ne hp]; exact w.np
end
end UK

set_option Elab.async false
set_option linter.all false
set_option maxRecDepth 100000
set_option maxHeartbeats 4000000
namespace UK
open PySem PySem.Spec PyProof.Rows L2

/-! ### the language -/
inductive Bop where
  | add | sub | mul | fdiv | mod | pow | shl | shr | band | bor | bxor
  deriving DecidableEq
inductive Cop where
  | eq | ne | lt | le | gt | ge | isin | notin | isN | notN
  deriving DecidableEq
/-- built-ins of one argument, of two -/
inductive B1 where
  | len | tuple | list | int | sum | all | any | max | min | abs
  deriving DecidableEq
inductive B2 where
  | max | min
  deriving DecidableEq
inductive Ty where
  | int | bool | str | tuple | list | cls (c : Nat)
  deriving DecidableEq
/-- the pen's own -/
inductive PK where
  | cells | pos | digits | count | fold
  deriving DecidableEq
def PK.name : PK → Str
  | .cells => "cells"
  | .pos => "at"
  | .digits => "digits"
  | .count => "count"
  | .fold => "fold"
def pval : PK → Pen → D
  | .cells, π => .lst (π.cells.map .int)
  | .pos, π => .int π.pos
  | .digits, π => .int π.digits
  | .count, π => .int π.count
  | .fold, π => .int π.fold
def pputs : PK → Int → Pen → Option Pen
  | .cells, _, _ => none
  | .pos, v, π => some { π with pos := v }
  | .digits, v, π => some { π with digits := v }
  | .count, v, π => some { π with count := v }
  | .fold, v, π => some { π with fold := v }
mutual
inductive E where
  | var (i : Nat) | slot (i : Nat) | non | bl (b : Bool) | int (i : Int) | str (x : Str)
  | bin (op : Bop) (a b : E) | neg (a : E) | cmp (op : Cop) (a b : E) | chn (o1 o2 : Cop) (a b c : E)
  | and (a b : E) | or (a b : E) | not (a : E) | ite (c a b : E)
  | call (f : Nat) (as : A) | mk (c : Nat) (as : A) | fld (a : E) (x : Str) | nfl (i : Nat) (x : Str)
  | idx (a i : E) | slc (a : E) (lo hi : O) | rev (a : E)
  | tup (as : A) | b1 (f : B1) (a : E) | b2 (f : B2) (a b : E) | isi (a : E) (ts : List Ty)
  | lst (as : A) | lc (own : List Nat) (elt : E) (tg : List Nat) (it : Itn) (c : O)
  | lc2 (own : List Nat) (elt : E) (tg : List Nat) (it : Itn) (c : O) (tg2 : List Nat) (it2 : Itn) (c2 : O)
  | dic (k : Key) (v : E) | bad | pget (i : Nat) (k : PK) | lrg (a : E)
inductive A where
  | nil | cons (e : E) (r : A)
inductive O where
  | no | yes (e : E)
inductive Itn where
  | r1 (a : E) | r2 (a b : E) | sq (a : E)
end
/-- rows of one's own -/
inductive Rw where
  | lc (own : List Nat) (elt : E) (tg : List Nat) (it : Itn) | call (f : Nat) (as : A) | ite (c : E) (a b : Rw) | var (i : Nat)
inductive Sm where
  | nop | seq (a b : Sm) | set (i : Nat) (e : E) | own (i : Nat) (e : E) | unp (is : List Nat) (e : E)
  | par (i j : Nat) (o1 : Bool) (e1 : E) (o2 : Bool) (e2 : E) | rws (i : Nat) (r : Rw) | put2 (i : Nat) (k1 k2 e : E) | rrt (r : Rw) | apop (f r : Nat) (e : E) | pset (i : Nat) (k : PK) (e : E)
  | app (i : Nat) (e : E) | put (i : Nat) (k e : E) | exp (e : E) | ite (c : E) (a b : Sm)
  | for_ (tg : List Nat) (it : Itn) (b : Sm) | whl (n : Nat) (c : E) (b : Sm) | ret (e : E) | brk | cnt | fld (x : Str) (e : E) | nev

/-! ### values -/
mutual
def toPy : D → Option PyData
  | .non => some .none
  | .bl b => some (.bool b)
  | .int i => some (.int i)
  | .str x => some (.str x)
  | .tup xs => (toPys xs).map .tuple
  | .lst xs => (toPys xs).map .list
  | _ => none
def toPys : List D → Option (List PyData)
  | [] => some []
  | d :: ds => match toPy d, toPys ds with
    | some x, some xs => some (x :: xs)
    | _, _ => none
end
def opt {α : Type} : Option α → M α
  | some a => ret a
  | none => stuck
def guardM {α : Type} (c : Bool) (m : M α) : M α := if c then m else stuck
/-- a limit of sizes: far below the machine's -/
def LIM : Nat := 100000
def small64 (i : Int) : Bool := decide (-(2 ^ 64) < i) && decide (i < 2 ^ 64)
def binD : Bop → D → D → M D
  | .add, .int i, .int j => ret (.int (i + j))
  | .add, .tup xs, .tup ys => guardM (decide (xs.length + ys.length ≤ LIM)) (ret (.tup (xs ++ ys)))
  | .add, .lst xs, .lst ys => guardM (decide (xs.length + ys.length ≤ LIM)) (ret (.lst (xs ++ ys)))
  | .sub, .int i, .int j => ret (.int (i - j))
  | .mul, .int i, .int j => guardM (small64 i || small64 j) (ret (.int (i * j)))
  | .mul, .tup xs, .int k => guardM (decide (xs.length = 1) && (decide (0 ≤ k) && decide (k ≤ 1000))) (ret (.tup (List.replicate k.toNat xs).flatten))
  | .mul, .lst xs, .int k => guardM (decide (xs.length ≤ 1000) && (decide (0 ≤ k) && decide (k ≤ 1000))) (ret (.lst (List.replicate k.toNat xs).flatten))
  | .fdiv, .int i, .int j => guardM (decide (0 < j) && decide (j < 1073741824)) (ret (.int (i / j)))
  | .mod, .int i, .int j => guardM (decide (0 < j)) (ret (.int (i % j)))
  | .pow, .int i, .int j => guardM (decide (0 ≤ j) && (decide (j ≤ 1000000) && decide (i.natAbs < 2 ^ 64))) (ret (.int (i ^ j.toNat)))
  | .shl, .int i, .int j => guardM (decide (0 ≤ j) && (decide (j ≤ 1000000) && decide (i.natAbs < 2 ^ 64))) (ret (.int (i * 2 ^ j.toNat)))
  | .shr, .int i, .int j => guardM (decide (0 ≤ j)) (ret (.int (i / 2 ^ j.toNat)))
  | .band, .int i, .int j => ret (.int (Builtin.bitAnd i j))
  | .bor, .int i, .int j => ret (.int (Builtin.bitOr i j))
  | .bxor, .int i, .int j => ret (.int (Builtin.bitXor i j))
  | _, _, _ => stuck
def eqD (a b : D) : Option Bool := match toPy a, toPy b with
  | some x, some y => if SeqAt.shaped x && SeqAt.shaped y then some (PyData.eqv x y) else none
  | _, _ => none
def flatP : PyData → Bool
  | .none | .bool _ | .int _ | .str _ => true
  | _ => false
def inD (a : D) : D → Option Bool
  | .lst ys => match toPy a, toPys ys with
    | some x, some zs => if SeqAt.shaped x && SeqAt.shaped (.list zs) then some (zs.any fun z => PyData.eqv z x) else none
    | _, _ => none
  | .tup ys => match toPy a, toPys ys with
    | some x, some zs => if flatP x && zs.all flatP then some (zs.any fun z => PyData.eqv z x) else none
    | _, _ => none
  | _ => none
/-- the own == of a class -/
abbrev EqT := List (Nat × Nat)
abbrev Fns := Nat → List D → M D
def eqM (φ : Fns) (eqt : EqT) (a b : D) : M D := match a, b with
  | .ins c xs, .ins c' ys => match decide (c = c'), eqt.lookup c with
    | true, some f => φ f [.ins c xs, .ins c' ys]
    | _, _ => stuck
  | a, b => match eqD a b with
    | some r => ret (.bl r)
    | none => stuck
def notD : D → M D
  | .bl b => ret (.bl (!b))
  | _ => stuck
def sameB : D → Bool → Bool
  | .bl c, b => c == b
  | _, _ => false
def nonB : D → Bool
  | .non => true
  | _ => false
def cmpM (φ : Fns) (eqt : EqT) : Cop → D → D → M D
  | .eq, a, b => eqM φ eqt a b
  | .ne, a, b => bnd (eqM φ eqt a b) notD
  | .lt, .int i, .int j => ret (.bl (decide (i < j)))
  | .le, .int i, .int j => ret (.bl (decide (i ≤ j)))
  | .gt, .int i, .int j => ret (.bl (decide (j < i)))
  | .ge, .int i, .int j => ret (.bl (decide (j ≤ i)))
  | .isin, a, b => match inD a b with
    | some r => ret (.bl r)
    | none => stuck
  | .notin, a, b => match inD a b with
    | some r => ret (.bl (!r))
    | none => stuck
  | .isN, a, .bl b => ret (.bl (sameB a b))
  | .notN, a, .bl b => ret (.bl (!sameB a b))
  | .isN, a, .non => ret (.bl (nonB a))
  | .notN, a, .non => ret (.bl (!nonB a))
  | _, _, _ => stuck
def atD (xs : List D) (i : Int) : Option D := atI xs i
def idxD : D → D → M D
  | .tup xs, .int i => opt (atI xs i)
  | .lst xs, .int i => opt (atI xs i)
  | _, _ => stuck
def cutD {α : Type} (xs : List α) (lo hi : Option Int) : List α := (xs.drop (HT.sIx xs.length 0 lo)).take (HT.sIx xs.length xs.length hi - HT.sIx xs.length 0 lo)
def partD : Option D → M (Option Int)
  | none => ret none
  | some (.int i) => ret (some i)
  | _ => stuck
def slcD (a : D) (lo hi : Option Int) : M D := match a with
  | .tup xs => ret (.tup (cutD xs lo hi))
  | .lst xs => ret (.lst (cutD xs lo hi))
  | _ => stuck
def revD : D → M D
  | .tup xs => ret (.tup xs.reverse)
  | .lst xs => ret (.lst xs.reverse)
  | _ => stuck
def intsOf : List D → Option (List Int)
  | [] => some []
  | .int i :: r => (intsOf r).map (i :: ·)
  | _ => none
def blsOf : List D → Option (List Bool)
  | [] => some []
  | .bl i :: r => (blsOf r).map (i :: ·)
  | _ => none
def maxI : List Int → Int
  | [] => 0
  | [a] => a
  | a :: r => let m := maxI r; if m > a then m else a
def minI : List Int → Int
  | [] => 0
  | [a] => a
  | a :: r => let m := minI r; if m < a then m else a
def b1D : B1 → D → M D
  | .len, .tup xs => ret (.int xs.length)
  | .len, .lst xs => ret (.int xs.length)
  | .tuple, .tup xs => ret (.tup xs)
  | .tuple, .lst xs => ret (.tup xs)
  | .list, .tup xs => ret (.lst xs)
  | .list, .lst xs => ret (.lst xs)
  | .int, .int i => ret (.int i)
  | .int, .bl b => ret (.int (if b then 1 else 0))
  | .sum, .lst xs => match intsOf xs with
    | some is => ret (.int is.sum)
    | none => stuck
  | .all, .lst xs => match blsOf xs with
    | some is => ret (.bl (is.all id))
    | none => stuck
  | .any, .lst xs => match blsOf xs with
    | some is => ret (.bl (is.any id))
    | none => stuck
  | .max, .lst xs => match intsOf xs with
    | some is => guardM (decide (0 < is.length)) (ret (.int (maxI is)))
    | none => stuck
  | .min, .lst xs => match intsOf xs with
    | some is => guardM (decide (0 < is.length)) (ret (.int (minI is)))
    | none => stuck
  | .abs, .int i => ret (.int (if i < 0 then -i else i))
  | _, _ => stuck
def b2D : B2 → D → D → M D
  | .max, .int i, .int j => ret (.int (if j > i then j else i))
  | .min, .int i, .int j => ret (.int (if j < i then j else i))
  | _, _, _ => stuck
def isT : D → Ty → Bool
  | .int _, .int => true
  | .bl _, .int => true
  | .bl _, .bool => true
  | .str _, .str => true
  | .tup _, .tuple => true
  | .lst _, .list => true
  | .ins c _, .cls c' => decide (c = c')
  | _, _ => false
def fldD (CT : CTab) (x : Str) : D → M D
  | .ins c ds => match CT[c]? with
    | some (_, fns) => opt (ds[fns.idxOf x]?)
    | none => stuck
  | _ => stuck

/-! ### slots -/
inductive Slot where
  | un | sh (d : D) | ow (ds : List D) | se (c : Nat) (fs : List (Str × D)) | rw (rss : List (List D))
abbrev Env' := List Slot
def getSh (env : Env') (i : Nat) : M D := match env[i]? with
  | some (.sh d) => ret d
  | _ => stuck
def getAny (env : Env') (i : Nat) : M D := match env[i]? with
  | some (.sh d) => ret d
  | some (.ow ds) => ret (.lst ds)
  | _ => stuck
/-- a name's attribute -/
def nflD (CT : CTab) (x : Str) (env : Env') (i : Nat) : M D := match env[i]? with
  | some (.sh d) => fldD CT x d
  | some (.se _ fs) => opt (fs.lookup x)
  | _ => stuck
def wipeE (env : Env') : List Nat → Env'
  | [] => env
  | v :: vs => (wipeE env vs).set v .un
def seqD : D → Option (List D)
  | .tup xs => some xs
  | .lst xs => some xs
  | _ => none
def setAll : List Nat → List D → Env' → Option Env'
  | [], [], env => some env
  | i :: is, d :: ds, env => setAll is ds (env.set i (.sh d))
  | _, _, _ => none
/-- the loop's target: one name, or a tuple of names -/
def setTg : List Nat → D → Env' → Option Env'
  | [i], d, env => some (env.set i (.sh d))
  | is, .tup ds, env => setAll is ds env
  | _, _, _ => none
def mapM' (f : D → M (Option D)) : List D → M (List D)
  | [] => ret []
  | x :: xs => bnd (f x) fun r => bnd (mapM' f xs) fun ys => ret (match r with | some y => y :: ys | none => ys)
def flatM (f : D → M (List D)) : List D → M (List D)
  | [] => ret []
  | x :: xs => bnd (f x) fun r => bnd (flatM f xs) fun ys => ret (r ++ ys)
def rngD (lo : Int) (n : Nat) : List D := (List.range n).map fun (k : Nat) => D.int (lo + k)
def smallR (i : Int) : Bool := decide (-1000000 ≤ i) && decide (i ≤ 1000000)
def isBl (d : D) : M Bool := match d with
  | .bl b => ret b
  | _ => stuck

/-- a clause's tests: none or one -/
def ifM {α : Type} (mc : Env' → M (Option D)) (env : Env') (y n : M α) : M α := bnd (mc env) fun k => match k with
  | none => y
  | some (.bl true) => y
  | some (.bl false) => n
  | _ => stuck
def elM (tg : List Nat) (me : Env' → M D) (mc : Env' → M (Option D)) (env : Env') (x : D) : M (Option D) := match setTg tg x env with
  | some env' => ifM mc env' (bnd (me env') fun y => ret (some y)) (ret none)
  | none => stuck
def el2M (tg tg2 : List Nat) (me : Env' → M D) (mc : Env' → M (Option D)) (mi2 : Env' → M (List D)) (mc2 : Env' → M (Option D)) (env : Env') (x : D) : M (List D) := match setTg tg x env with
  | some env' => ifM mc env' (bnd (mi2 env') fun zs => mapM' (elM tg2 me mc2 (wipeE env' tg2)) zs) (ret [])
  | none => stuck
def getP (k : PK) : M D := fun π => some (pval k π, π)
def putP {α : Type} (k : PK) (v : Int) (a : α) : M α := fun π => match pputs k v π with
  | some π' => some (a, π')
  | none => none
/-! ### expressions -/
structure Tabs where
  CT : CTab
  eqt : EqT
  rwf : List Nat
  ar : List Nat
section
variable (T : Tabs) (φ ψ : Fns)
mutual
def evE : E → Env' → M D
  | .var i, env => getSh env i
  | .slot i, env => getAny env i
  | .non, _ => ret .non
  | .bl b, _ => ret (.bl b)
  | .int i, _ => ret (.int i)
  | .str x, _ => ret (.str x)
  | .bin op a b, env => bnd (evE a env) fun x => bnd (evE b env) fun y => binD op x y
  | .neg a, env => bnd (evE a env) fun x => match x with | .int i => ret (.int (-i)) | _ => stuck
  | .cmp op a b, env => bnd (evE a env) fun x => bnd (evE b env) fun y => cmpM φ T.eqt op x y
  | .chn o1 o2 a b c, env => bnd (evE a env) fun x => bnd (evE b env) fun y => bnd (cmpM φ T.eqt o1 x y) fun r => match r with
    | .bl true => bnd (evE c env) fun z => cmpM φ T.eqt o2 y z
    | .bl false => ret (.bl false)
    | _ => stuck
  | .and a b, env => bnd (evE a env) fun x => match x with
    | .bl true => evE b env
    | .bl false => ret (.bl false)
    | _ => stuck
  | .or a b, env => bnd (evE a env) fun x => match x with
    | .bl true => ret (.bl true)
    | .bl false => evE b env
    | _ => stuck
  | .not a, env => bnd (evE a env) notD
  | .ite c a b, env => bnd (evE c env) fun x => match x with
    | .bl true => evE a env
    | .bl false => evE b env
    | _ => stuck
  | .call f as, env => bnd (evA as env) fun xs => φ f xs
  | .mk c as, env => bnd (evA as env) fun xs => ψ c xs
  | .fld a x, env => bnd (evE a env) fun d => fldD T.CT x d
  | .nfl i x, env => nflD T.CT x env i
  | .idx a i, env => bnd (evE a env) fun x => bnd (evE i env) fun y => idxD x y
  | .slc a lo hi, env => bnd (evE a env) fun x => bnd (evO lo env) fun l => bnd (partD l) fun l => bnd (evO hi env) fun h => bnd (partD h) fun h => slcD x l h
  | .rev a, env => bnd (evE a env) revD
  | .tup as, env => bnd (evA as env) fun xs => guardM (decide (xs.length ≤ LIM)) (ret (.tup xs))
  | .b1 f a, env => bnd (evE a env) (b1D f)
  | .b2 f a b, env => bnd (evE a env) fun x => bnd (evE b env) fun y => b2D f x y
  | .isi a ts, env => bnd (evE a env) fun x => ret (.bl (ts.any (isT x)))
  | .lst as, env => bnd (evA as env) fun xs => guardM (decide (xs.length ≤ LIM)) (ret (.lst xs))
  | .lc own elt tg it c, env => bnd (evI it env) fun xs => guardM (decide (xs.length ≤ LIM)) (bnd (mapM' (elM tg (fun e => evE elt e) (fun e => evO c e) (wipeE env own)) xs) fun ys => ret (.lst ys))
  | .lc2 own elt tg it c tg2 it2 c2, env => bnd (evI it env) fun xs => bnd (flatM (el2M tg tg2 (fun e => evE elt e) (fun e => evO c e) (fun e => evI it2 e) (fun e => evO c2 e) (wipeE env own)) xs) fun ys => guardM (decide (ys.length ≤ LIM)) (ret (.lst ys))
  | .dic k v, env => bnd (evE v env) fun d => ret (.dic [k] [d])
  | .bad, _ => stuck
  | .lrg a, env => bnd (evE a env) fun d => match d with
    | .int n => guardM (smallR n) (ret (.lst (rngD 0 n.toNat)))
    | _ => stuck
  | .pget i k, env => bnd (getSh env i) fun d => match d with
    | .pen => getP k
    | _ => stuck
def evA : A → Env' → M (List D)
  | .nil, _ => ret []
  | .cons e r, env => bnd (evE e env) fun x => bnd (evA r env) fun xs => ret (x :: xs)
def evO : O → Env' → M (Option D)
  | .no, _ => ret none
  | .yes e, env => bnd (evE e env) fun x => ret (some x)
def evI : Itn → Env' → M (List D)
  | .r1 a, env => bnd (evE a env) fun x => match x with
    | .int n => guardM (smallR n) (ret (rngD 0 n.toNat))
    | _ => stuck
  | .r2 a b, env => bnd (evE a env) fun x => bnd (evE b env) fun y => match x, y with
    | .int i, .int j => guardM (smallR i && smallR j) (ret (rngD i (j - i).toNat))
    | _, _ => stuck
  | .sq a, env => bnd (evE a env) fun x => opt (seqD x)
end

/-! ### statements -/
inductive Flw where
  | nx | ret (d : D) | brk | cnt | rr (rss : List (List D))
/-! names read as values that may be kept: their lists are shared from there on -/
mutual
def frE : E → List Nat
  | .var i => [i]
  | .lrg a => frE a
  | .slot _ | .non | .bl _ | .int _ | .str _ | .nfl _ _ | .bad | .pget _ _ => []
  | .bin _ a b | .cmp _ a b | .and a b | .or a b | .idx a b | .b2 _ a b => frE a ++ frE b
  | .neg a | .not a | .fld a _ | .rev a | .b1 _ a | .isi a _ | .dic _ a => frE a
  | .chn _ _ a b c | .ite a b c => frE a ++ frE b ++ frE c
  | .call _ as | .mk _ as | .tup as | .lst as => frA as
  | .slc a lo hi => frE a ++ frO lo ++ frO hi
  | .lc _ elt _ it c => frE elt ++ frI it ++ frO c
  | .lc2 _ elt _ it c _ it2 c2 => frE elt ++ frI it ++ frO c ++ frI it2 ++ frO c2
def frA : A → List Nat
  | .nil => []
  | .cons e r => frE e ++ frA r
def frO : O → List Nat
  | .no => []
  | .yes e => frE e
def frI : Itn → List Nat
  | .r1 a => frE a
  | .r2 a b => frE a ++ frE b
  | .sq a => frE a
end
def frz1 (env : Env') (i : Nat) : Env' := match env[i]? with
  | some (.ow ds) => env.set i (.sh (.lst ds))
  | some (.rw rss) => env.set i (.sh (.lst (rss.map .lst)))
  | _ => env
def frz (is : List Nat) (env : Env') : Env' := is.foldl frz1 env
def forD (b : Env' → M (Flw × Env')) (tg : List Nat) : List D → Env' → M (Flw × Env')
  | [], env => ret (.nx, env)
  | x :: xs, env => match setTg tg x env with
    | some env' => bnd (b env') fun r => match r with
      | (.nx, env2) => forD b tg xs env2
      | (.cnt, env2) => forD b tg xs env2
      | (.brk, env2) => ret (.nx, env2)
      | (.ret d, env2) => ret (.ret d, env2)
      | (.rr d, env2) => ret (.rr d, env2)
    | none => stuck
def whlD (c : Env' → M (D × Env')) (b : Env' → M (Flw × Env')) : Nat → Env' → M (Flw × Env')
  | 0, _ => stuck
  | n + 1, env => bnd (c env) fun r => match r with
    | (.bl true, env1) => bnd (b env1) fun r => match r with
      | (.nx, env2) => whlD c b n env2
      | (.cnt, env2) => whlD c b n env2
      | (.brk, env2) => ret (.nx, env2)
      | (.ret d, env2) => ret (.ret d, env2)
      | (.rr d, env2) => ret (.rr d, env2)
    | (.bl false, env1) => ret (.nx, env1)
    | _ => stuck
/-- an expression ahead of which the lists that it may keep are shared -/
def evX (e : E) (env : Env') : M (D × Env') := bnd (evE T φ ψ e (frz (frE e) env)) fun d => ret (d, frz (frE e) env)
def lstD : D → M (List D)
  | .lst ds => ret ds
  | _ => stuck
def lstsD : List D → Option (List (List D))
  | [] => some []
  | .lst ds :: r => (lstsD r).map (ds :: ·)
  | _ => none
def mapR (f : D → M (List D)) : List D → M (List (List D))
  | [] => ret []
  | x :: xs => bnd (f x) fun y => bnd (mapR f xs) fun ys => ret (y :: ys)
def elR (tg : List Nat) (me : Env' → M D) (env : Env') (x : D) : M (List D) := match setTg tg x env with
  | some env' => bnd (me env') lstD
  | none => stuck
def frR : Rw → List Nat
  | .lc _ elt _ it => frE elt ++ frI it
  | .call _ as => frA as
  | .ite c a b => frE c ++ frR a ++ frR b
  | .var _ => []
def rowsD : D → M (List (List D))
  | .lst ds => opt (lstsD ds)
  | _ => stuck
def getRw (env : Env') (i : Nat) : M (List (List D)) := match env[i]? with
  | some (.rw rss) => ret rss
  | _ => stuck
def evR : Rw → Env' → M (List (List D))
  | .lc own elt tg it, env => bnd (evI T φ ψ it env) fun xs => guardM (decide (xs.length ≤ LIM)) (mapR (elR tg (fun e => evE T φ ψ elt e) (wipeE env own)) xs)
  | .call f as, env => bnd (bnd (evA T φ ψ as env) fun xs => φ f xs) rowsD
  | .ite c a b, env => bnd (evE T φ ψ c env) fun x => match x with
    | .bl true => evR a env
    | .bl false => evR b env
    | _ => stuck
  | .var i, env => getRw env i
def putRw (rss : List (List D)) (i j : Int) (d : D) : Option (List (List D)) := match ixN rss.length i with
  | some n => match rss[n]? with
    | some ds => match ixN ds.length j with
      | some k => some (rss.set n (ds.set k d))
      | none => none
    | none => none
  | none => none
def slD (o : Bool) (d : D) : M Slot := if o then (match d with | .lst ds => ret (.ow ds) | _ => stuck) else ret (.sh d)
def evS : Sm → Env' → M (Flw × Env')
  | .nop, env => ret (.nx, env)
  | .seq a b, env => bnd (evS a env) fun r => match r with
    | (.nx, env') => evS b env'
    | r => ret r
  | .set i e, env => bnd (evX T φ ψ e env) fun r => ret (.nx, r.2.set i (.sh r.1))
  | .own i e, env => bnd (evX T φ ψ e env) fun r => match r.1 with
    | .lst ds => ret (.nx, r.2.set i (.ow ds))
    | _ => stuck
  | .unp is e, env => bnd (evX T φ ψ e env) fun r => match r.1 with
    | .tup ds => match setAll is ds r.2 with
      | some env' => ret (.nx, env')
      | none => stuck
    | _ => stuck
  | .app i e, env => bnd (evX T φ ψ e env) fun r => match r.2[i]? with
    | some (.ow ds) => guardM (decide (ds.length ≤ LIM)) (ret (.nx, r.2.set i (.ow (ds ++ [r.1]))))
    | _ => stuck
  | .put i k e, env => bnd (evX T φ ψ e env) fun r => bnd (evX T φ ψ k r.2) fun q => match q.2[i]?, q.1 with
    | some (.ow ds), .int j => match ixN ds.length j with
      | some n => ret (.nx, q.2.set i (.ow (ds.set n r.1)))
      | none => stuck
    | _, _ => stuck
  | .exp e, env => bnd (evX T φ ψ e env) fun r => ret (.nx, r.2)
  | .ite c a b, env => bnd (evX T φ ψ c env) fun r => match r.1 with
    | .bl true => evS a r.2
    | .bl false => evS b r.2
    | _ => stuck
  | .for_ tg it b, env => bnd (evI T φ ψ it (frz (frI it) env)) fun xs => forD (evS b) tg xs (frz (frI it) env)
  | .whl n c b, env => whlD (evX T φ ψ c) (evS b) n env
  | .ret e, env => bnd (evX T φ ψ e env) fun r => ret (.ret r.1, r.2)
  | .brk, env => ret (.brk, env)
  | .cnt, env => ret (.cnt, env)
  | .fld x e, env => bnd (evX T φ ψ e env) fun r => match (r.2[(0 : Nat)]? : Option Slot) with
    | some (.se c fs) => guardM (decide ((T.CT[c]?.bind fun q => q.2[fs.length]?) = some x) && (decide (fs.lookup x = none) && decide (fs.length < 100))) (ret (.nx, r.2.set 0 (.se c (fs ++ [(x, r.1)]))))
    | _ => stuck
  | .nev, _ => stuck
  | .par i j o1 e1 o2 e2, env => bnd (bnd (evE T φ ψ e1 (frz (frE e1 ++ frE e2) env)) (slD o1)) fun x => bnd (bnd (evE T φ ψ e2 (frz (frE e1 ++ frE e2) env)) (slD o2)) fun y => ret (.nx, ((frz (frE e1 ++ frE e2) env).set i x).set j y)
  | .rws i r, env => bnd (evR T φ ψ r (frz (frR r) env)) fun rss => ret (.nx, (frz (frR r) env).set i (.rw rss))
  | .put2 i k1 k2 e, env => bnd (evX T φ ψ e env) fun r => bnd (evX T φ ψ k1 r.2) fun q => bnd (evX T φ ψ k2 q.2) fun z => match z.2[i]?, q.1, z.1 with
    | some (.rw rss), .int j1, .int j2 => match putRw rss j1 j2 r.1 with
      | some rss' => ret (.nx, z.2.set i (.rw rss'))
      | none => stuck
    | _, _, _ => stuck
  | .pset i k e, env => bnd (evX T φ ψ e env) fun r => match r.2[i]?, r.1 with
    | some (.sh .pen), .int v => putP k v (.nx, r.2)
    | _, _ => stuck
  | .rrt r, env => bnd (evR T φ ψ r (frz (frR r) env)) fun rss => ret (.rr rss, env)
  | .apop f r e, env => bnd (evX T φ ψ e env) fun x => match x.2[f]?, x.2[r]?, x.1 with
    | some (.ow fs), some (.ow rs), .int j => match ixN rs.length j with
      | some n => match rs[n]? with
        | some d => guardM (decide (f ≠ r) && (decide (fs.length ≤ LIM) && decide (rs.length ≤ LIM))) (ret (.nx, (x.2.set r (.ow (rs.eraseIdx n))).set f (.ow (fs ++ [d]))))
        | none => stuck
      | none => stuck
    | _, _, _ => stuck
end
end UK

set_option Elab.async false
set_option linter.all false
set_option maxRecDepth 100000
set_option maxHeartbeats 4000000
namespace UK
open PySem PySem.Spec PyProof.Rows L2

/-! ### the weakest wishes, as readings -/
def qE (X : Cx) (e : Expr) : TE := fun σ H Q => ∀ pins s, Inv X pins σ H s → wpAny (model X.prog X.w) X.A (eval e X.env) (EP X pins σ Q) X.xe s
def qT (X : Cx) (e : Expr) : TT := fun σ H Q => ∀ pins s, Inv X pins σ H s → wpAny (model X.prog X.w) X.A (isTrue e X.env (eval e X.env)) (TP X pins σ Q) X.xe s
def qW (X : Cx) (e : Expr) : TT := fun σ H Q => ∀ whole pins s, Inv X pins σ H s → wpAny (model X.prog X.w) X.A (isTrue e X.env whole) (TP X pins σ Q) X.xe s
def qA (X : Cx) (es : List Expr) : TA := fun σ H Q => ∀ pos pins s, Inv X pins σ H s → wpAny (model X.prog X.w) X.A (spliced (backTo pos (starEach es X.env))) (AP X pins σ Q) X.xe s
def qS (X : Cx) (st : Stmt) : TS := fun D σ H => ∀ pins s, Inv X pins σ H s → wpAny (model X.prog X.w) X.A (exec st X.env) (SP X pins D) X.xe s
def qSs (X : Cx) (st : List Stmt) : TS := fun D σ H => ∀ pins s, Inv X pins σ H s → wpAny (model X.prog X.w) X.A (execs st X.env) (SP X pins D) X.xe s
def qI (X : Cx) (tg iter : Expr) : TI := fun σ H R => ∀ pins s, Inv X pins σ H s → wpAny (model X.prog X.w) X.A (eval iter X.env) (fun v s1 => wpAny (model X.prog X.w) X.A (pyIter v) (PIE X pins σ tg R) X.xe s1) X.xe s
def qG (X : Cx) (tg : Expr) : TG := fun v σ H Q => ∀ pins s u, Inv X pins σ H s → RelV v u → wpAny (model X.prog X.w) X.A (assign tg X.env u) (fun _ s' => ∃ σ' H', Inv X pins σ' H' s' ∧ Q σ' H') X.xe s
def qR2 (X : Cx) (f : Value → Value → Sem Value) : R2 := fun x y H Q => ∀ pins s σ v u, Inv X pins σ H s → RelV x v → RelV y u → wpAny (model X.prog X.w) X.A (f v u) (EP X pins σ Q) X.xe s
section
variable {X : Cx} {e : Expr} {es : List Expr} {st : Stmt} {sts : List Stmt} {σ : St} {H : Hp} {Q Q' : VK} {D : Ends} {tg iter : Expr} {R : It → Hp → Prop} {B : Bool → Hp → Prop}
theorem peq : PE X e (qE X e) := ⟨fun pins s _ _ _ I h => h pins s I⟩
theorem ptq : PT X e (qT X e) := ⟨fun pins s _ _ _ I h => h pins s I⟩
theorem pwq : PW X e (qW X e) := ⟨fun wh pins s _ _ _ I h => h wh pins s I⟩
theorem paq : PA X es (qA X es) := ⟨fun pos pins s _ _ _ I h => h pos pins s I⟩
theorem psq : PS X st (qS X st) := ⟨fun pins s _ _ _ I h => h pins s I⟩
theorem pssq : PSs X sts (qSs X sts) := ⟨fun pins s _ _ _ I h => h pins s I⟩
theorem piq : PI X tg iter (qI X tg iter) := ⟨fun pins s _ _ _ I h => h pins s I⟩
theorem pgq : PG X tg (qG X tg) := ⟨fun pins s _ _ _ u _ I r h => h pins s u I r⟩
theorem opq {f : Value → Value → Sem Value} : OpR X f (qR2 X f) := fun pins s σ _ _ _ v u _ I r1 r2 h => h pins s σ v u I r1 r2
theorem qE_of {t : TE} (h : PE X e t) (q : t σ H Q) : qE X e σ H Q := fun pins s I => h.run pins s σ H Q I q
theorem qT_of {t : TT} (h : PT X e t) (q : t σ H B) : qT X e σ H B := fun pins s I => h.run pins s σ H B I q
theorem qW_of {t : TT} (h : PW X e t) (q : t σ H B) : qW X e σ H B := fun wh pins s I => h.run wh pins s σ H B I q
theorem qA_of {t : TA} {Q : List V → Hp → Prop} (h : PA X es t) (q : t σ H Q) : qA X es σ H Q := fun pos pins s I => h.run pos pins s σ H Q I q
theorem qS_of {t : TS} (h : PS X st t) (q : t D σ H) : qS X st D σ H := fun pins s I => h.run pins s σ H D I q
theorem qSs_of {t : TS} (h : PSs X sts t) (q : t D σ H) : qSs X sts D σ H := fun pins s I => h.run pins s σ H D I q
theorem qI_of {t : TI} (h : PI X tg iter t) (q : t σ H R) : qI X tg iter σ H R := fun pins s I => h.run pins s σ H R I q
theorem qG_of {t : TG} {v : V} {Q : St → Hp → Prop} (h : PG X tg t) (q : t v σ H Q) : qG X tg v σ H Q := fun pins s u I r => h.run pins s σ H v u Q I r q
theorem qR2_of {f : Value → Value → Sem Value} {r : R2} {x y : V} (h : OpR X f r) (q : r x y H Q) : qR2 X f x y H Q := fun pins s σ v u I r1 r2 => h pins s σ H x y v u Q I r1 r2 q
theorem ep_mono {pins : List (Addr × Obj)} {u : Value} {s : Shared} (h : EP X pins σ Q u s) (k : ∀ v H', Q v H' → Q' v H') : EP X pins σ Q' u s := by
  obtain ⟨v, H', I, r, q⟩ := h
  exact ⟨v, H', I, r, k v H' q⟩
theorem qE.mono (h : qE X e σ H Q) (k : ∀ v H', Q v H' → Q' v H') : qE X e σ H Q' := fun pins s I => thn (h pins s I) fun _ _ q => ep_mono q k
end

/-- the heap at the entry, and the instance under construction -/
structure Hs where
  h : Hp
  x : Addr
instance : CoeFun Hs (fun _ => Addr → Option HO) := ⟨Hs.h⟩
instance : Coe Hs Hp := ⟨Hs.h⟩
/-! ### the slots -/
section
variable (K : PySem.W.Frag) (CT : CTab) (p : Addr)
def Rws (S H : Hp) : List (List D) → List Addr → Prop
  | [], [] => True
  | ds :: rss, b :: bs => (∃ vs, H b = some (.lst vs) ∧ Reps K CT p S ds vs) ∧ Rws S H rss bs
  | _, _ => False
def SlotOk (S : Hp) (H0 : Hs) (H : Hp) : Slot → Option (Option V) → Prop
  | .un, _ => True
  | .sh d, o => ∃ v, o = some (some v) ∧ Rep K CT p S d v
  | .ow ds, o => ∃ a vs, o = some (some (.ref a)) ∧ H a = some (.lst vs) ∧ Reps K CT p S ds vs ∧ S a = none ∧ a ≠ p ∧ H0 a = none
  | .se c fs, o => ∃ a dx C fns fvs, o = some (some (.ref a)) ∧ CT[c]? = some (C, fns) ∧ H a = some (.ins (He.ga K C) dx fvs) ∧ fvs.map (·.1) = fs.map (·.1) ∧ (∃ r, fns = fs.map (·.1) ++ r) ∧ Reps K CT p S (fs.map (·.2)) (fvs.map (·.2)) ∧ S a = none ∧ a ≠ p ∧ H0 a = none ∧ a = H0.x
  | .rw rss, o => ∃ a bs, o = some (some (.ref a)) ∧ H a = some (.lst (bs.map V.ref)) ∧ Rws K CT p S H rss bs ∧ (a :: bs).Nodup ∧ ∀ b ∈ a :: bs, S b = none ∧ b ≠ p ∧ H0 b = none
def Own : Slot → Prop
  | .ow _ => True
  | .se _ _ => True
  | .rw _ => True
  | _ => False
/-- the addresses that a slot owns -/
def Adr (H : Hp) : Slot → Option (Option V) → Addr → Prop
  | .ow _, o, b => o = some (some (.ref b))
  | .se _ _, o, b => o = some (some (.ref b))
  | .rw _, o, b => o = some (some (.ref b)) ∨ ∃ a vs, o = some (some (.ref a)) ∧ H a = some (.lst vs) ∧ V.ref b ∈ vs
  | _, _, _ => False
structure Agr (S0 : Hp) (H0 : Hs) (S H : Hp) (env : Env') (π : Pen) (σ : St) : Prop where
  st : Stp p S0 H0 S H
  wd : Wd p S π H
  len : env.length = σ.length
  ok : ∀ (i : Nat) (s : Slot), env[i]? = some s → SlotOk K CT p S H0 H s σ[i]?
  dis : ∀ (i j : Nat) (s t : Slot) (a : Addr), i ≠ j → env[i]? = some s → env[j]? = some t → Adr H s σ[i]? a → Adr H t σ[j]? a → False
inductive TRep (S H : Hp) : D → V → Prop
  | st {d : D} {v : V} : Rep K CT p S d v → TRep S H d v
  | ow {a : Addr} {vs : List V} {ds : List D} : H a = some (.lst vs) → Reps K CT p S ds vs → TRep S H (.lst ds) (.ref a)
end
section
variable {K : PySem.W.Frag} {CT : CTab} {p : Addr} {S0 : Hp} {H0 : Hs} {S H S' H' : Hp} {env : Env'} {π π' : Pen} {σ : St}
theorem Rws.next : ∀ {rss : List (List D)} {bs : List Addr}, Rws K CT p S H rss bs → (∀ b ∈ bs, b ≠ p) → Stp p S H S' H' → Rws K CT p S' H' rss bs
  | [], [], _, _, _ => trivial
  | _ :: _, b :: _, ⟨⟨vs, h1, r⟩, h2⟩, hp, t => ⟨⟨vs, t.h _ _ (hp b (List.mem_cons_self ..)) h1, r.mono t.s⟩, h2.next (fun c hc => hp c (List.mem_cons_of_mem _ hc)) t⟩
  | [], _ :: _, h, _, _ => h.elim
  | _ :: _, [], h, _, _ => h.elim
theorem Rws.live : ∀ {rss : List (List D)} {bs : List Addr}, Rws K CT p S H rss bs → ∀ b ∈ bs, H b ≠ none
  | [], [], _, _, h => by cases h
  | _ :: _, c :: _, ⟨⟨vs, h1, r⟩, h2⟩, b, h => by
    rcases List.mem_cons.mp h with rfl | h
    · rw [h1]; intro z; cases z
    · exact h2.live b h
  | [], _ :: _, h, _, _ => h.elim
  | _ :: _, [], h, _, _ => h.elim
theorem rw_some {rss : List (List D)} {a : Addr} {bs : List Addr} (h : H a = some (.lst (bs.map V.ref))) (r : Rws K CT p S H rss bs) : ∀ b ∈ a :: bs, H b ≠ none := fun b hb => by
  rcases List.mem_cons.mp hb with rfl | hb
  · rw [h]; intro z; cases z
  · exact r.live b hb
theorem SlotOk.next {s : Slot} {o : Option (Option V)} (h : SlotOk K CT p S H0 H s o) (t : Stp p S H S' H') : SlotOk K CT p S' H0 H' s o := by
  have fresh : ∀ a, S a = none → H a ≠ none → S' a = none := fun a h1 h2 => by
    cases q : S' a with
    | none => rfl
    | some u =>
      rcases t.f a u q with e | e
      · rw [h1] at e; cases e
      · exact absurd e h2
  cases s with
  | un => trivial
  | sh d => obtain ⟨v, e, r⟩ := h; exact ⟨v, e, r.mono t.s⟩
  | ow ds =>
    obtain ⟨a, vs, e, h1, r, h2, h3, h4⟩ := h
    exact ⟨a, vs, e, t.h _ _ h3 h1, r.mono t.s, fresh a h2 (by rw [h1]; intro z; cases z), h3, h4⟩
  | se c fs =>
    obtain ⟨a, dx, C, fns, fvs, e, e1, h1, e2, e3, r, h2, h3, h4⟩ := h
    exact ⟨a, dx, C, fns, fvs, e, e1, t.h _ _ h3 h1, e2, e3, r.mono t.s, fresh a h2 (by rw [h1]; intro z; cases z), h3, h4⟩
  | rw rss =>
    obtain ⟨a, bs, e, h1, r, nd, hb⟩ := h
    exact ⟨a, bs, e, t.h _ _ (hb a (List.mem_cons_self ..)).2.1 h1, r.next (fun c hc => (hb c (List.mem_cons_of_mem _ hc)).2.1) t, nd, fun b hm => ⟨fresh b (hb b hm).1 (rw_some h1 r b hm), (hb b hm).2⟩⟩
theorem adr_back {s : Slot} {o : Option (Option V)} {b : Addr} (h : SlotOk K CT p S H0 H s o) (t : ∀ b o, b ≠ p → H b = some o → H' b = some o) (q : Adr H' s o b) : Adr H s o b := by
  cases s with
  | un => exact q
  | sh d => exact q
  | ow ds => exact q
  | se c fs => exact q
  | rw rss =>
    obtain ⟨a, bs, e, h1, r, nd, hb⟩ := h
    rcases q with q | ⟨a', vs, e', h', m⟩
    · exact .inl q
    · rw [e] at e'
      cases e'
      rw [t _ _ (hb a (List.mem_cons_self ..)).2.1 h1] at h'
      cases h'
      exact .inr ⟨a, _, e, h1, m⟩
theorem Agr.next (A : Agr K CT p S0 H0 S H env π σ) (t : Stp p S H S' H') (w : Wd p S' π' H') : Agr K CT p S0 H0 S' H' env π' σ :=
  ⟨A.st.trans t, w, A.len, fun i s e => (A.ok i s e).next t, fun i j s u b hne e1 e2 q1 q2 => A.dis i j s u b hne e1 e2 (adr_back (A.ok i s e1) t.h q1) (adr_back (A.ok j u e2) t.h q2)⟩
/-- the same slots under another frame of reference: what stands now -/
theorem TRep.lst {ds : List D} {v : V} (h : TRep K CT p S H (.lst ds) v) (sub : Same S H) : ∃ a vs, v = .ref a ∧ H a = some (.lst vs) ∧ Reps K CT p S ds vs := by
  cases h with
  | st r => cases r with
    | lst h1 r => exact ⟨_, _, rfl, sub _ _ h1, r⟩
  | ow h1 r => exact ⟨_, _, rfl, h1, r⟩
theorem same_sqt {a : Addr} {vs : List V} (e : Same S H) (h : SqT K S a vs) : SqT K H a vs := same_t e h
theorem TRep.tup {ds : List D} {v : V} (h : TRep K CT p S H (.tup ds) v) (sub : Same S H) : ∃ a vs, v = .ref a ∧ SqT K H a vs ∧ SqT K S a vs ∧ Reps K CT p S ds vs := by
  cases h with
  | st r => cases r with
    | tup h1 r => exact ⟨_, _, rfl, same_t sub h1, h1, r⟩
theorem TRep.ins {c : Nat} {ds : List D} {v : V} (h : TRep K CT p S H (.ins c ds) v) (sub : Same S H) : ∃ (C : Str) (fns : List Str) (a dx : Addr) (fvs : List (Str × V)), v = .ref a ∧ CT[c]? = some (C, fns) ∧ H a = some (.ins (He.ga K C) dx fvs) ∧ fvs.map (·.1) = fns ∧ Reps K CT p S ds (fvs.map (·.2)) ∧ Rep K CT p S (.ins c ds) (.ref a) := by
  cases h with
  | st r =>
    have r' := r
    cases r with
    | ins e1 h1 e2 r => exact ⟨_, _, _, _, _, rfl, e1, sub _ _ h1, e2, r, r'⟩
theorem TRep.int {i : Int} {v : V} (h : TRep K CT p S H (.int i) v) : v = .int i := by
  cases h with
  | st r => cases r; rfl
theorem TRep.bl {i : Bool} {v : V} (h : TRep K CT p S H (.bl i) v) : v = .bl i := by
  cases h with
  | st r => cases r; rfl
theorem TRep.str {i : Str} {v : V} (h : TRep K CT p S H (.str i) v) : v = .str i := by
  cases h with
  | st r => cases r; rfl
theorem TRep.non {v : V} (h : TRep K CT p S H .non v) : v = .non := by
  cases h with
  | st r => cases r; rfl
end

/-! ### what an expression's meaning is worth -/
section
variable (X : Cx) (CT : CTab)
def SndE (m : Env' → M D) (e : Expr) : Prop := ∀ (p : Addr) (S0 : Hp) (H0 : Hs) (S H : Hp) (env : Env') (π : Pen) (σ : St) (d : D) (π' : Pen) (Q : VK), Agr X.K CT p S0 H0 S H env π σ → m env π = some (d, π') →
  (∀ S' H' v, Stp p S H S' H' → Wd p S' π' H' → Rep X.K CT p S' d v → Q v H') → qE X e σ H Q
def SndP (m : Env' → M D) (e : Expr) : Prop := ∀ (p : Addr) (S0 : Hp) (H0 : Hs) (S H : Hp) (env : Env') (π : Pen) (σ : St) (d : D) (π' : Pen) (Q : VK), Agr X.K CT p S0 H0 S H env π σ → m env π = some (d, π') →
  (∀ S' H' v, Stp p S H S' H' → Wd p S' π' H' → (∀ S2 H2 π2, Stp p S' H' S2 H2 → Agr X.K CT p S0 H0 S2 H2 env π2 σ → TRep X.K CT p S2 H2 d v) → Q v H') → qE X e σ H Q
def SndA (m : Env' → M (List D)) (es : List Expr) : Prop := ∀ (p : Addr) (S0 : Hp) (H0 : Hs) (S H : Hp) (env : Env') (π : Pen) (σ : St) (ds : List D) (π' : Pen) (Q : List V → Hp → Prop), Agr X.K CT p S0 H0 S H env π σ → m env π = some (ds, π') →
  (∀ S' H' vs, Stp p S H S' H' → Wd p S' π' H' → Reps X.K CT p S' ds vs → Q vs H') → qA X es σ H Q
def SndT (m : Env' → M D) (e : Expr) : Prop := ∀ (p : Addr) (S0 : Hp) (H0 : Hs) (S H : Hp) (env : Env') (π : Pen) (σ : St) (d : D) (π' : Pen) (Q : Bool → Hp → Prop), Agr X.K CT p S0 H0 S H env π σ → m env π = some (d, π') →
  (∃ b, d = .bl b ∧ ∀ S' H', Stp p S H S' H' → Wd p S' π' H' → Q b H') → qT X e σ H Q
def SndO (m : Env' → M (Option D)) (eo : Option Expr) : Prop := match eo with
  | none => m = fun _ => ret none
  | some e => ∃ m', SndE X CT m' e ∧ m = fun env => bnd (m' env) fun d => ret (some d)
/-- an iterator J walks over xs, at a heap H2 with the shared part S2 -/
def WlkAt (p : Addr) (S2 H2 : Hp) (J : It) (xs : List D) : Prop := (∀ i, xs.length ≤ i → J.stop i H2) ∧ ∀ i x, xs[i]? = some x → J.go i H2 ∧ ∀ v H3, J.yld i H2 v H3 → ∃ S3, Stp p S2 H2 S3 H3 ∧ (∀ π, Wd p S2 π H2 → Wd p S3 π H3) ∧ Rep X.K CT p S3 x v
def SndI (tg : Expr) (m : Env' → M (List D)) (iter : Expr) : Prop := ∀ (p : Addr) (S0 : Hp) (H0 : Hs) (S H : Hp) (env : Env') (π : Pen) (σ : St) (xs : List D) (π' : Pen) (R : It → Hp → Prop), Agr X.K CT p S0 H0 S H env π σ → m env π = some (xs, π') →
  (∀ S' H' J, Stp p S H S' H' → Wd p S' π' H' → (∀ S2 H2, Same S' S2 → Same S2 H2 → WlkAt X CT p S2 H2 J xs) → R J H') → qI X tg iter σ H R
def SndIp (tg : Expr) (m : Env' → M (List D)) (iter : Expr) : Prop := ∀ (p : Addr) (S0 : Hp) (H0 : Hs) (S H : Hp) (env : Env') (π : Pen) (σ : St) (xs : List D) (π' : Pen) (R : It → Hp → Prop), Agr X.K CT p S0 H0 S H env π σ → m env π = some (xs, π') →
  (∀ S' H' J, Stp p S H S' H' → Wd p S' π' H' → (∀ S2 H2, Same S' S2 → Same S2 H2 → (∀ b o, b ≠ p → H' b = some o → H2 b = some o) → WlkAt X CT p S2 H2 J xs) → R J H') → qI X tg iter σ H R
end
section
variable {X : Cx} {CT : CTab} {m : Env' → M D} {e : Expr}
theorem SndE.p (h : SndE X CT m e) : SndP X CT m e := fun p S0 H0 S H env π σ d π' Q A hm k => h p S0 H0 S H env π σ d π' Q A hm fun S' H' v t w r => k S' H' v t w fun _ _ _ t2 _ => .st (r.mono t2.s)
theorem SndI.p {tg iter : Expr} {m : Env' → M (List D)} (h : SndI X CT tg m iter) : SndIp X CT tg m iter := fun p S0 H0 S H env π σ d π' Q A hm k => h p S0 H0 S H env π σ d π' Q A hm fun S' H' J t w r => k S' H' J t w fun S2 H2 a b _ => r S2 H2 a b
/-- a binary rule over values -/
def OpSnd (X : Cx) (CT : CTab) (f : Value → Value → Sem Value) (g : D → D → M D) : Prop := ∀ (p : Addr) (S H : Hp) (π : Pen) (a b : D) (x y : V) (d : D) (π' : Pen) (Q : VK), Wd p S π H → TRep X.K CT p S H a x → TRep X.K CT p S H b y → g a b π = some (d, π') →
  (∀ S' H' v, Stp p S H S' H' → Wd p S' π' H' → Rep X.K CT p S' d v → Q v H') → qR2 X f x y H Q
/-- two operands, one behind the other -/
theorem two {ma mb : Env' → M D} {a b : Expr} {g : D → D → M D} {f : Value → Value → Sem Value} (ha : SndP X CT ma a) (hb : SndP X CT mb b) (hf : OpSnd X CT f g)
    {p : Addr} {S0 : Hp} {H0 : Hs} {S H : Hp} {env : Env'} {π : Pen} {σ : St} {d : D} {π' : Pen} {Q : VK} (A : Agr X.K CT p S0 H0 S H env π σ) (h : bnd (ma env) (fun x => bnd (mb env) fun y => g x y) π = some (d, π'))
    (k : ∀ S' H' v, Stp p S H S' H' → Wd p S' π' H' → Rep X.K CT p S' d v → Q v H') : tOp (qR2 X f) (qE X a) (qE X b) σ H Q := by
  obtain ⟨x, π1, h1, h⟩ := bnd_some h
  obtain ⟨y, π2, h2, h⟩ := bnd_some h
  refine ha p S0 H0 S H env π σ x π1 _ A h1 fun S1 H1 u t1 w1 r1 => ?_
  have A1 := A.next t1 w1
  refine hb p S0 H0 S1 H1 env π1 σ y π2 _ A1 h2 fun S2 H2 v t2 w2 r2 => ?_
  have A2 := A1.next t2 w2
  exact hf p S2 H2 π2 x y u v d π' Q w2 (r1 S2 H2 π2 t2 A2) (r2 S2 H2 π2 (Stp.refl _ _ _) A2) h fun S' H' z t w r => k S' H' z ((t1.trans t2).trans t) w r
theorem snd_bin {ma mb : Env' → M D} {a b : Expr} {g : D → D → M D} {op : Operator} {pos : Pos} (ha : SndP X CT ma a) (hb : SndP X CT mb b) (hf : OpSnd X CT (binaryOp op) g) :
    SndE X CT (fun env => bnd (ma env) fun x => bnd (mb env) fun y => g x y) (.BinOp a op b pos) := fun p S0 H0 S H env π σ d π' Q A hm k => qE_of (pe_op opq peq peq) (two ha hb hf A hm k)
theorem snd_cmp {ma mb : Env' → M D} {a b : Expr} {g : D → D → M D} {op : CmpOp} {pos : Pos} (ha : SndP X CT ma a) (hb : SndP X CT mb b) (hf : OpSnd X CT (compareOp op) g) (hm : behindInMarks op b = false) :
    SndE X CT (fun env => bnd (ma env) fun x => bnd (mb env) fun y => g x y) (.Compare a [op] [b] pos) := fun p S0 H0 S H env π σ d π' Q A h k => qE_of (pe_cmpR opq peq peq hm) (two ha hb hf A h k)
theorem snd_cmpT {ma mb : Env' → M D} {a b : Expr} {g : D → D → M D} {op : CmpOp} {pos : Pos} (ha : SndP X CT ma a) (hb : SndP X CT mb b) (hf : OpSnd X CT (compareOp op) g) (hm : behindInMarks op b = false) :
    SndT X CT (fun env => bnd (ma env) fun x => bnd (mb env) fun y => g x y) (.Compare a [op] [b] pos) := fun p S0 H0 S H env π σ d π' Q A h k => by
  obtain ⟨c, rfl, k⟩ := k
  refine qT_of (pt_cmpR opq peq peq hm) (two ha hb hf A h fun S' H' v t w r => ?_)
  cases r
  exact ⟨c, rfl, k S' H' t w⟩
end
end UK

set_option Elab.async false
set_option linter.all false
set_option maxRecDepth 100000
set_option maxHeartbeats 4000000
namespace UK
open PySem PySem.Spec PyProof.Rows L2
section
variable {X : Cx} {CT : CTab}

/-! ### names, constants -/
theorem getSh_some {env : Env'} {i : Nat} {π π' : Pen} {d : D} (h : getSh env i π = some (d, π')) : env[i]? = some (.sh d) ∧ π' = π := by
  unfold getSh at h
  cases e : env[i]? with
  | none => rw [e] at h; cases h
  | some s =>
    rw [e] at h
    cases s with
    | sh d' => obtain ⟨rfl, rfl⟩ := ret_some h; exact ⟨rfl, rfl⟩
    | _ => cases h
theorem snd_var {i : Nat} {x : Str} {pos : Pos} (hN : X.N[i]? = some x) (hv : Vis X.env.scope x) (hd : (x == ("__debug__" : Str)) = false) (hcd : (x == ("__classdict__" : Str)) = false) : SndE X CT (fun env => getSh env i) (.Name x pos) := fun p S0 H0 S H env π σ d π' Q A hm k => by
  obtain ⟨e, rfl⟩ := getSh_some hm
  obtain ⟨v, e2, r⟩ := A.ok i _ e
  exact qE_of (pe_var hN hv hd hcd) ⟨v, e2, k S H v (Stp.refl _ _ _) A.wd r⟩
theorem snd_slot {i : Nat} {x : Str} {pos : Pos} (hN : X.N[i]? = some x) (hv : Vis X.env.scope x) (hd : (x == ("__debug__" : Str)) = false) (hcd : (x == ("__classdict__" : Str)) = false) : SndP X CT (fun env => getAny env i) (.Name x pos) := fun p S0 H0 S H env π σ d π' Q A hm k => by
  have hm : getAny env i π = some (d, π') := hm
  unfold getAny at hm
  cases e : env[i]? with
  | none => rw [e] at hm; cases hm
  | some s =>
    rw [e] at hm
    cases s with
    | un => cases hm
    | sh d' =>
      obtain ⟨rfl, rfl⟩ := ret_some hm
      obtain ⟨v, e2, r⟩ := A.ok i _ e
      exact qE_of (pe_var hN hv hd hcd) ⟨v, e2, k S H v (Stp.refl _ _ _) A.wd fun S2 H2 π2 t _ => .st (r.mono t.s)⟩
    | ow ds =>
      obtain ⟨rfl, rfl⟩ := ret_some hm
      obtain ⟨a, vs, e2, _⟩ := A.ok i _ e
      refine qE_of (pe_var hN hv hd hcd) ⟨.ref a, e2, k S H (.ref a) (Stp.refl _ _ _) A.wd fun S2 H2 π2 t A2 => ?_⟩
      obtain ⟨a', vs', e3, h1, r, _⟩ := A2.ok i _ e
      have q := e2.symm.trans e3
      cases q
      exact .ow h1 r
    | se c fs => cases hm
    | rw rss => cases hm
theorem snd_int {i : Int} {j pos} : SndE X CT (fun _ => ret (.int i)) (.Constant (.int i) j pos) := fun p S0 H0 S H env π σ d π' Q A hm k => by
  obtain ⟨rfl, rfl⟩ := ret_some hm
  exact qE_of pe_int (k S H _ (Stp.refl _ _ _) A.wd (.int i))
theorem snd_bl {i : Bool} {j pos} : SndE X CT (fun _ => ret (.bl i)) (.Constant (.bool i) j pos) := fun p S0 H0 S H env π σ d π' Q A hm k => by
  obtain ⟨rfl, rfl⟩ := ret_some hm
  exact qE_of pe_bl (k S H _ (Stp.refl _ _ _) A.wd (.bl i))
theorem snd_str {i : Str} {j pos} : SndE X CT (fun _ => ret (.str i)) (.Constant (.str i) j pos) := fun p S0 H0 S H env π σ d π' Q A hm k => by
  obtain ⟨rfl, rfl⟩ := ret_some hm
  exact qE_of pe_str (k S H _ (Stp.refl _ _ _) A.wd (.str i))
theorem snd_non {j pos} : SndE X CT (fun _ => ret .non) (.Constant .none j pos) := fun p S0 H0 S H env π σ d π' Q A hm k => by
  obtain ⟨rfl, rfl⟩ := ret_some hm
  exact qE_of pe_non (k S H _ (Stp.refl _ _ _) A.wd .non)

/-! ### operators -/
theorem guard_some {α : Type} {c : Bool} {m : M α} {π : Pen} {r : α × Pen} (h : guardM c m π = some r) : c = true ∧ m π = some r := by
  unfold guardM at h
  cases c with
  | true => exact ⟨rfl, h⟩
  | false => cases h
theorem opSnd_I0 {op : Operator} {g : Int → Int → Int} (ho : OpR X (binaryOp op) (rI0 fun i j => .int (g i j))) {G : D → D → M D} (hG : ∀ a b π r, G a b π = some r → ∃ i j, a = .int i ∧ b = .int j ∧ r = (.int (g i j), π)) : OpSnd X CT (binaryOp op) G :=
  fun p S H π a b x y d π' Q w ra rb h k => by
    obtain ⟨i, j, rfl, rfl, e⟩ := hG _ _ _ _ h
    cases e
    rw [ra.int, rb.int]
    exact qR2_of ho ⟨i, j, rfl, rfl, k S H _ (Stp.refl _ _ _) w (.int _)⟩
theorem opSnd_I {op : Operator} {C : Int → Int → Prop} {g : Int → Int → Int} (ho : OpR X (binaryOp op) (rI C fun i j => .int (g i j))) {G : D → D → M D} (hG : ∀ a b π r, G a b π = some r → ∃ i j, a = .int i ∧ b = .int j ∧ C i j ∧ r = (.int (g i j), π)) : OpSnd X CT (binaryOp op) G :=
  fun p S H π a b x y d π' Q w ra rb h k => by
    obtain ⟨i, j, rfl, rfl, hc, e⟩ := hG _ _ _ _ h
    cases e
    rw [ra.int, rb.int]
    exact qR2_of ho ⟨i, j, rfl, rfl, hc, k S H _ (Stp.refl _ _ _) w (.int _)⟩
theorem sizeLIM {n : Nat} (h : n ≤ LIM) : n ≤ sizeLine := Nat.le_trans h (by decide)
theorem o_add : OpSnd X CT (binaryOp .Add) (binD .add) := fun p S H π a b x y d π' Q w ra rb h k => by
  cases a <;> cases b <;> first | (cases h; done) | skip
  · cases h
    rw [ra.int, rb.int]
    exact qR2_of op_add ⟨_, _, rfl, rfl, k S H _ (Stp.refl _ _ _) w (.int _)⟩
  · rename_i xs ys
    obtain ⟨c, h⟩ := guard_some h
    obtain ⟨rfl, rfl⟩ := ret_some h
    have hl := of_decide_eq_true c
    obtain ⟨a1, vs, rfl, h1, h1s, r1⟩ := ra.tup w.sub
    obtain ⟨a2, us, rfl, h2, h2s, r2⟩ := rb.tup w.sub
    refine qR2_of op_catA ⟨a1, a2, vs, us, rfl, rfl, h1, h2, by rw [← r1.length, ← r2.length]; exact sizeLIM hl, fun e => ?_, fun _ e => ?_, fun _ _ q hq => ?_⟩
    · subst e
      cases r1
      exact k S H _ (Stp.refl _ _ _) w (.tup h2s r2)
    · subst e
      cases r2
      rw [List.append_nil] at k
      exact k S H _ (Stp.refl _ _ _) w (.tup h1s r1)
    · obtain ⟨t, w', e⟩ := w.new (o := .tup (vs ++ us)) hq
      exact k _ _ _ t w' (.tup (SqT.of e) ((r1.append r2).mono t.s))
  · rename_i xs ys
    obtain ⟨c, h⟩ := guard_some h
    obtain ⟨rfl, rfl⟩ := ret_some h
    have hl := of_decide_eq_true c
    obtain ⟨a1, vs, rfl, h1, r1⟩ := ra.lst w.sub
    obtain ⟨a2, us, rfl, h2, r2⟩ := rb.lst w.sub
    refine qR2_of op_cat ⟨a1, a2, vs, us, rfl, rfl, h1, h2, by rw [← r1.length, ← r2.length]; exact sizeLIM hl, fun q hq => ?_⟩
    obtain ⟨t, w', e⟩ := w.new (o := .lst (vs ++ us)) hq
    exact k _ _ _ t w' (.lst e ((r1.append r2).mono t.s))
end
end UK

set_option Elab.async false
set_option linter.all false
set_option maxRecDepth 100000
set_option maxHeartbeats 4000000
namespace UK
open PySem PySem.Spec PyProof.Rows L2
/-! ### rules that the kit lacks: tuple * 0, tuple * 1 -/
theorem tuple_mul1 (l : Addr) (items : Array Value) (n : Nat) (dd : Option Addr) (sl : Array (Option Value)) (u : Tok) :
    Meets (Builtin.«tuple.__mul__» ⟨[.ref l, .int 1 u], []⟩) (fun _ R s => s.heap.get? l = some { cls := .type "tuple", dict := dd, data := .seq items n, slots := sl } ∧ R (.ok (.ret (Value.ref l))) s) :=
  .of_wp fun prog w A R s h => by
    obtain ⟨hp, g, d, tk, os⟩ := s
    obtain ⟨hl, h⟩ := h
    have f1 := AutoSeq1.idx_int
    have c0 : (decide ((1 : Int) < -(2 ^ 63)) || decide ((1 : Int) ≥ 2 ^ 63)) = false := by decide
    have c1 : (items.isEmpty || (1 : Int) == 1) = true := by simp
    wp_walk using wpAny_loadPart' hl
    repeat (first
      | (refine wpAny_ite_false (decide_eq_false (by rw [c0]; exact Bool.false_ne_true)) ?_; wp_walk using wpAny_loadPart' hl)
      | (refine wpAny_ite_true (decide_eq_true (by rw [c1])) ?_; wp_walk using wpAny_loadPart' hl))
    exact ⟨_, rfl, h⟩
theorem tuple_mul0 (l : Addr) (items : Array Value) (n : Nat) (dd : Option Addr) (sl : Array (Option Value)) (u : Tok) (hne : items.isEmpty = false) :
    Meets (Builtin.«tuple.__mul__» ⟨[.ref l, .int 0 u], []⟩) (fun _ R s => s.heap.get? l = some { cls := .type "tuple", dict := dd, data := .seq items n, slots := sl } ∧
      R (.ok (.ret (Value.ref s.heap.objs.size))) { s with heap := s.heap.push { cls := Value.type "tuple", data := Data.seq #[] }, toks := s.toks }) :=
  .of_wp fun prog w A R s h => by
    obtain ⟨hp, g, d, tk, os⟩ := s
    obtain ⟨hl, h⟩ := h
    have f1 := AutoSeq1.idx_int
    have c0 : (decide ((0 : Int) < -(2 ^ 63)) || decide ((0 : Int) ≥ 2 ^ 63)) = false := by decide
    have c1 : (items.isEmpty || (0 : Int) == 1) = false := by rw [hne]; rfl
    have c2 : (decide ((0 : Int) ≤ 0) || items.isEmpty) = true := by simp
    have hsz : (#[] : Array Value).size ≤ sizeLine := by rw [sizeLine_eq]; simp
    wp_walk using wpAny_loadPart' hl
    repeat (first
      | (refine wpAny_ite_false (decide_eq_false (by rw [c0]; exact Bool.false_ne_true)) ?_; wp_walk using wpAny_loadPart' hl)
      | (refine wpAny_ite_false (decide_eq_false (by rw [c1]; exact Bool.false_ne_true)) ?_; wp_walk using wpAny_loadPart' hl)
      | (refine wpAny_ite_true (decide_eq_true (by rw [c2])) ?_; wp_walk using wpAny_loadPart' hl)
      | (refine wpAny_ite_false (decide_eq_false (Nat.not_lt.mpr hsz)) ?_; wp_walk using wpAny_loadPart' hl))
    exact ⟨_, rfl, h⟩
def rRepT01 (K : PySem.W.Frag) : R2 := fun x y H Q => ∃ l k xs, x = .ref l ∧ y = .int k ∧ SqT K H l xs ∧ ((k = 1 ∧ Q (.ref l) H) ∨ (k = 0 ∧ xs ≠ [] ∧ ∀ p, H p = none → Q (.ref p) (upd H p (.tup []))))
section
variable {X : Cx}
theorem op_repT01 : OpR X (binaryOp .Mult) (rRepT01 X.K) := by
  intro pins s σ H x y v u Q I rx ry h
  obtain ⟨l, k, xs, rfl, rfl, hT, h⟩ := h
  cases rx
  obtain ⟨t, rfl⟩ := ry
  obtain ⟨its, r, ⟨⟨cls, dd, data, sl⟩, ho, hc, n, hd⟩, hs⟩ := I.tuple hT
  simp only at hc hd
  subst hc hd
  rcases h with ⟨rfl, q⟩ | ⟨rfl, hne, q⟩
  · exact wpAny_binaryOp_repeat_ref (T := "tuple") (U := "int") (by decide) ⟨_, ho, rfl⟩ (fun s' => typeIs_int s' 1 t) noFill_tuple_mul F.fills_int_mul F.slot_int_rmul repeat_tuple F.slot_int_index.lookup
      (call_meets F.slot_int_rmul (typeIs_int s 1 t) F.entry_int_rmul (F.args_int_rmul_2 _ _) (int_rmul_tuple 1 t l its.toArray n dd sl)
        ⟨ho, rfl, ⟨_, ho, rfl⟩, call_meets F.slot_tuple_mul ⟨_, ho, rfl⟩ F.entry_tuple_mul (F.args_tuple_mul_2 _ _) (tuple_mul1 l its.toArray n dd sl t) ⟨ho, .ref l, H, I, rfl, q⟩⟩)
  · have hi : its.toArray.isEmpty = false := by
      cases its with
      | nil => cases r; exact absurd rfl hne
      | cons a b => rfl
    refine wpAny_binaryOp_repeat_ref (T := "tuple") (U := "int") (by decide) ⟨_, ho, rfl⟩ (fun s' => typeIs_int s' 0 t) noFill_tuple_mul F.fills_int_mul F.slot_int_rmul repeat_tuple F.slot_int_index.lookup
      (call_meets F.slot_int_rmul (typeIs_int s 0 t) F.entry_int_rmul (F.args_int_rmul_2 _ _) (int_rmul_tuple 0 t l its.toArray n dd sl)
        ⟨ho, rfl, ⟨_, ho, rfl⟩, call_meets F.slot_tuple_mul ⟨_, ho, rfl⟩ F.entry_tuple_mul (F.args_tuple_mul_2 _ _) (tuple_mul0 l its.toArray n dd sl t hi) ⟨ho, ?_⟩⟩)
    refine ⟨.ref s.heap.objs.size, _, I.laid (t' := s.toks) (o := .tup []) (fun b ob q => Heap.get?_push_of_some _ q) (Nat.le_refl _) ?_, rfl, q _ (I.hok.fresh (Nat.le_refl _))⟩
    exact ⟨by rw [sizeLine_eq]; simp, [], .nil, IsTup.new _ _⟩
end
/-! ### tuple[::-1] -/
section
variable {prog : Program} {w : World} {A : Around} {E : Value → Shared → Prop} {s : Shared}
theorem adjust_rev (n : Nat) : Builtin.Slice.sliceAdjust none none (-1) (n : Int) = ((n : Int) - 1, -1) := by
  unfold Builtin.Slice.sliceAdjust
  simp
theorem places_rev (n : Nat) : Builtin.Slice.slicePlaces ((n : Int) - 1) (-1) (-1) = n := by
  unfold Builtin.Slice.slicePlaces
  have h1 : ¬ ((-1 : Int) > 0) := by omega
  simp only [h1, if_false]
  split
  · have : ((n : Int) - 1 - (-1) - 1) / (- -1) = (n : Int) - 1 := by simp
    rw [this]; omega
  · omega
theorem sliceApplied_rev {sl : Addr} {vl vu vs : Value} {n : Nat} {Q : Int × Int × Nat → Shared → Prop} (hs : s.heap.IsSliceOf sl vl vu vs) (pl : IsPart vl none) (pu : IsPart vu none) (ps : IsPart vs (some (-1)))
    (h : Q ((n : Int) - 1, -1, n) s) : wpAny (model prog w) A (Builtin.Slice.sliceApplied (.ref sl) (pure (n : Int))) Q E s := by
  obtain ⟨os, hos, hcs, hds⟩ := id hs
  unfold Builtin.Slice.sliceApplied Builtin.Slice.sliceFields
  refine wpAny_bind (wpAny_bind (wpAny_field hos hds (x := vl) rfl (wpAny_bind (wpAny_field hos hds (x := vu) rfl (wpAny_bind (wpAny_field hos hds (x := vs) rfl (wpAny_pure ?_)))))))
  refine wpAny_bind (HT.slicePart_ ps ?_)
  show wpAny _ _ (if ((-1 : Int) == 0) = true then _ else _) _ _ s
  rw [if_neg (by decide)]
  refine wpAny_bind (HT.slicePart_ pl (wpAny_bind (HT.slicePart_ pu (wpAny_bind (wpAny_pure ?_)))))
  show wpAny _ _ (match Builtin.Slice.sliceAdjust none none (-1) (n : Int) with | (lo, hi) => pure (lo, (-1 : Int), Builtin.Slice.slicePlaces lo hi (-1))) _ _ s
  rw [adjust_rev n]
  show wpAny _ _ (pure ((n : Int) - 1, (-1 : Int), Builtin.Slice.slicePlaces ((n : Int) - 1) (-1) (-1))) _ _ s
  rw [places_rev]
  exact wpAny_pure h
theorem filterMap_some' {α β : Type} {f : α → Option β} {g : α → β} : ∀ {l : List α}, (∀ m ∈ l, f m = some (g m)) → l.filterMap f = l.map g
  | [], _ => rfl
  | a :: l, h => by
    rw [List.filterMap_cons, h a (List.mem_cons_self ..), List.map_cons, filterMap_some' fun m hm => h m (List.mem_cons_of_mem _ hm)]
theorem pick_rev (xs : List Value) : ((List.range xs.length).filterMap fun (m : Nat) => xs.toArray[((xs.length : Int) - 1 + (m : Int) * (-1)).toNat]?) = xs.reverse := by
  apply List.ext_getElem?
  intro i
  have e : ∀ m ∈ List.range xs.length, xs.toArray[((xs.length : Int) - 1 + (m : Int) * (-1)).toNat]? = some (xs.reverse.getD m .none) := fun m hm => by
    have hm := List.mem_range.mp hm
    have e1 : ((xs.length : Int) - 1 + (m : Int) * (-1)).toNat = xs.length - 1 - m := by omega
    rw [e1, List.getElem?_toArray, List.getD_eq_getElem?_getD, List.getElem?_reverse (by omega)]
    rw [List.getElem?_eq_getElem (by omega)]
    rfl
  have e2 : (List.range xs.length).filterMap (fun (m : Nat) => xs.toArray[((xs.length : Int) - 1 + (m : Int) * (-1)).toNat]?) = (List.range xs.length).map fun m => xs.reverse.getD m .none := by
    exact filterMap_some' e
  rw [e2, List.getElem?_map]
  by_cases h : i < xs.length
  · rw [List.getElem?_range h]
    show some (xs.reverse.getD i Value.none) = _
    rw [List.getD_eq_getElem?_getD, List.getElem?_eq_getElem (by simpa using h)]
    rfl
  · rw [List.getElem?_eq_none (by simpa using h), List.getElem?_eq_none (by simpa using h)]
    rfl
theorem getItem_tuple_rev {t sl : Addr} {xs : List Value} {vl vu vs : Value} {Q : Value → Shared → Prop} (ht : IsTup s.heap t xs.toArray) (hs : s.heap.IsSliceOf sl vl vu vs) (pl : IsPart vl none) (pu : IsPart vu none) (ps : IsPart vs (some (-1)))
    (h : Q (.ref s.heap.objs.size) { s with heap := s.heap.push { cls := .type "tuple", data := .seq xs.reverse.toArray } })
    (hsz : xs.length ≤ sizeLine) : wpAny (model prog w) A (getItem (.ref t) (.ref sl)) Q E s := by
  have htake : sizeOk (.seq xs.reverse.toArray) := by
    show xs.reverse.toArray.size ≤ sizeLine
    rw [List.size_toArray, List.length_reverse]
    exact hsz
  obtain ⟨os, hos, hcs, hds⟩ := id hs
  have hTs : s.TypeIs (.ref sl) "slice" := ⟨os, hos, hcs⟩
  unfold getItem
  try with_reducible refine wpAny_holding ?_
  first | refine wpAny_bind (wpAny_pure ?_) | skip
  refine wpAny_bind (wpAny_sequenceKey ht.typeIs (by decide) ?_)
  refine wpAny_bind (wpAny_callSpecial?_slot (name := Str.ofString "__getitem__") ht.typeIs PyProof.Rows.slot_tuple_getitem
    (wpAny_call_entry PyProof.Rows.slot_tuple_getitem ht.typeIs entry_tuple_getitem ?_ (args_tuple_getitem _ _)))
  show wpAny _ _ (Builtin.Tuple.tupleItemsOf (.ref t) >>= _) _ _ s
  refine wpAny_bind (tupleItemsOf_ ht ?_)
  refine wpAny_bind (wpAny_typeOf hTs ?_)
  rw [if_pos (by decide)]
  have e0 : xs.toArray.size = xs.length := List.size_toArray
  rw [e0]
  refine wpAny_bind (sliceApplied_rev hs pl pu ps ?_)
  show wpAny _ _ (if (((xs.length : Int) - 1) == 0 && (-1 : Int) == 1 && xs.length == xs.length) = true then _ else _) _ _ s
  rw [if_neg (by simp)]
  rw [pick_rev]
  first
    | exact wpAny_bind (m := Builtin.Tuple.tupleExact _) (wpAny_newObj_type (wpAny_pure ⟨_, rfl, wpAny_pure h⟩) htake)
    | exact wpAny_bind (m := Builtin.Tuple.tupleExact _) (wpAny_newObj_type (wpAny_bind (wpAny_pure (wpAny_pure ⟨_, rfl, wpAny_pure h⟩))) htake)
    | exact wpAny_bind (wpAny_bind (m := Builtin.Tuple.tupleExact _) (wpAny_newObj_type (wpAny_pure (wpAny_pure ⟨_, rfl, wpAny_pure h⟩)) htake))
    | exact wpAny_bind (wpAny_bind (m := Builtin.Tuple.tupleExact _) (wpAny_newObj_type (wpAny_pure ⟨_, rfl, wpAny_pure h⟩) htake))
end
def tRevA (K : PySem.W.Frag) (te : TE) : TE := fun σ H Q => te σ H fun x H1 => ∃ a xs, x = .ref a ∧ ((SqL K H1 a xs ∧ ∀ p, H1 p = none → Q (.ref p) (upd H1 p (.lst xs.reverse))) ∨ (SqT K H1 a xs ∧ ∀ p, H1 p = none → Q (.ref p) (upd H1 p (.tup xs.reverse))))
theorem pe_revA {X : Cx} {e : Expr} {te : TE} {k : Nat} {p1 p2 p3 pos : Pos} (he : PE X e te) : PE X (.Subscript e (.Slice none none (some (.UnaryOp .USub (.Constant (.int 1) k p1) p2)) p3) pos) (tRevA X.K te) := by
  refine ⟨fun pins s σ H Q I h => ?_⟩
  refine Subscript_ (thn (he.run pins s σ H _ I h) fun v s1 ⟨x, H1, I1, r1, q1⟩ => ?_)
  obtain ⟨a, xs, ex, hx⟩ := q1
  subst ex
  cases r1
  have hst : PO X (some (.UnaryOp .USub (.Constant (.int 1) k p1) p2)) (tPart (tUn (rU fun i => .int (-i)) (tC (.int 1)))) := po_some (pe_un un_neg pe_int)
  refine wpAny_Slice (thn (po_none.run pins s1 σ H1 (fun o H2 => o = none ∧ H2 = H1) I1 ⟨rfl, rfl⟩) fun vl s2 ⟨l, H2, I2, pl, el, e2⟩ => ?_)
  subst el e2
  refine thn (po_none.run pins s2 σ H2 (fun o H3 => o = none ∧ H3 = H2) I2 ⟨rfl, rfl⟩) fun vu s3 ⟨u, H3, I3, pu, eu, e3⟩ => ?_
  subst eu e3
  refine thn (hst.run pins s3 σ H3 (fun o H4 => o = some (-1) ∧ H4 = H3) I3 ⟨1, rfl, -1, rfl, rfl, rfl⟩) fun vs s4 ⟨o, H4, I4, ps, eo, e4⟩ => ?_
  subst eo e4
  have I5 : Inv X pins σ H4 { s4 with heap := s4.heap.push { cls := .type "slice", data := .fields #[vl, vu, vs] } } := I4.kept (t' := s4.toks) fun b ob q => Heap.get?_push_of_some _ q
  show wpAny (model X.prog X.w) X.A (subscriptTail e (.Slice none none (some (.UnaryOp .USub (.Constant (.int 1) k p1) p2)) p3) (.ref a) (.ref s4.heap.objs.size)) (EP X pins σ Q) X.xe { s4 with heap := s4.heap.push { cls := .type "slice", data := .fields #[vl, vu, vs] } }
  rcases hx with ⟨hx, q⟩ | ⟨hx, q⟩
  · obtain ⟨its, r, ht, hz⟩ := I5.list hx
    have hlen := r.length
    refine tail_any (ops := [.ref a, .ref s4.heap.objs.size]) ht.isList.typeIs (PySem.slot_list_getitem.lookup) ?_ (by with_unfolding_all rfl)
    refine wpAny_getItem_list_slice ht.isList (Heap.IsSliceOf.new _ vl vu vs) pl pu ps (by decide) ?_ (by rw [List.size_toArray]; omega)
    rw [PySem.W.krv_pick]
    refine ⟨.ref _, _, I5.laid (t' := s4.toks) (o := .lst xs.reverse) (fun b ob q => Heap.get?_push_of_some _ q) (Nat.le_refl _) ?_, rfl, q _ (I5.hok.fresh (Nat.le_refl _))⟩
    exact ⟨by rw [List.length_reverse]; exact hz, _, 0, r.reverse, Heap.get?_push_size _ rfl⟩
  · obtain ⟨its, r, ht, hz⟩ := I5.tuple hx
    have hlen := r.length
    refine tail_any (ops := [.ref a, .ref s4.heap.objs.size]) ht.typeIs (PyProof.Rows.slot_tuple_getitem.lookup) ?_ (by with_unfolding_all rfl)
    refine getItem_tuple_rev ht (Heap.IsSliceOf.new _ vl vu vs) pl pu ps ?_ (by omega)
    refine ⟨.ref _, _, I5.laid (t' := s4.toks) (o := .tup xs.reverse) (fun b ob q => Heap.get?_push_of_some _ q) (Nat.le_refl _) ?_, rfl, q _ (I5.hok.fresh (Nat.le_refl _))⟩
    exact ⟨by rw [List.length_reverse]; exact hz, its.reverse, r.reverse, IsTup.new _ _⟩
end UK

set_option Elab.async false
set_option linter.all false
set_option maxRecDepth 100000
set_option maxHeartbeats 4000000
namespace UK
open PySem PySem.Spec PyProof.Rows L2
section
variable {X : Cx} {CT : CTab}

/-! ### the other operators -/
theorem o_sub : OpSnd X CT (binaryOp .Sub) (binD .sub) := opSnd_I0 op_sub fun a b π r h => by
  cases a <;> cases b <;> first | (cases h; done) | skip
  cases h; exact ⟨_, _, rfl, rfl, rfl⟩
theorem o_band : OpSnd X CT (binaryOp .BitAnd) (binD .band) := opSnd_I0 op_and fun a b π r h => by
  cases a <;> cases b <;> first | (cases h; done) | skip
  cases h; exact ⟨_, _, rfl, rfl, rfl⟩
theorem o_bor : OpSnd X CT (binaryOp .BitOr) (binD .bor) := opSnd_I0 op_or fun a b π r h => by
  cases a <;> cases b <;> first | (cases h; done) | skip
  cases h; exact ⟨_, _, rfl, rfl, rfl⟩
theorem o_bxor : OpSnd X CT (binaryOp .BitXor) (binD .bxor) := opSnd_I0 op_xor fun a b π r h => by
  cases a <;> cases b <;> first | (cases h; done) | skip
  cases h; exact ⟨_, _, rfl, rfl, rfl⟩
theorem and2 {a b : Bool} (h : (a && b) = true) : a = true ∧ b = true := Bool.and_eq_true_iff.mp h
theorem o_fdiv : OpSnd X CT (binaryOp .FloorDiv) (binD .fdiv) := opSnd_I op_fdiv fun a b π r h => by
  cases a <;> cases b <;> first | (cases h; done) | skip
  obtain ⟨c, h⟩ := guard_some h
  cases h
  obtain ⟨c1, c2⟩ := and2 c
  exact ⟨_, _, rfl, rfl, ⟨of_decide_eq_true c1, of_decide_eq_true c2⟩, rfl⟩
theorem o_mod : OpSnd X CT (binaryOp .Mod) (binD .mod) := opSnd_I op_mod fun a b π r h => by
  cases a <;> cases b <;> first | (cases h; done) | skip
  obtain ⟨c, h⟩ := guard_some h
  cases h
  exact ⟨_, _, rfl, rfl, of_decide_eq_true c, rfl⟩
theorem cpow {i j : Int} (c : (decide (0 ≤ j) && (decide (j ≤ 1000000) && decide (i.natAbs < 2 ^ 64))) = true) : CPow i j := by
  obtain ⟨c1, c2⟩ := and2 c
  obtain ⟨c2, c3⟩ := and2 c2
  exact ⟨of_decide_eq_true c1, of_decide_eq_true c2, of_decide_eq_true c3⟩
theorem o_pow : OpSnd X CT (binaryOp .Pow) (binD .pow) := opSnd_I op_pow fun a b π r h => by
  cases a <;> cases b <;> first | (cases h; done) | skip
  obtain ⟨c, h⟩ := guard_some h
  cases h
  exact ⟨_, _, rfl, rfl, cpow c, rfl⟩
theorem o_shl : OpSnd X CT (binaryOp .LShift) (binD .shl) := opSnd_I op_shl fun a b π r h => by
  cases a <;> cases b <;> first | (cases h; done) | skip
  obtain ⟨c, h⟩ := guard_some h
  cases h
  exact ⟨_, _, rfl, rfl, cpow c, rfl⟩
theorem o_shr : OpSnd X CT (binaryOp .RShift) (binD .shr) := opSnd_I op_shr fun a b π r h => by
  cases a <;> cases b <;> first | (cases h; done) | skip
  obtain ⟨c, h⟩ := guard_some h
  cases h
  exact ⟨_, _, rfl, rfl, of_decide_eq_true c, rfl⟩
theorem small64_ok {i : Int} (h : small64 i = true) : -(2 ^ 64) < i ∧ i < 2 ^ 64 := by
  obtain ⟨a, b⟩ := and2 h
  exact ⟨of_decide_eq_true a, of_decide_eq_true b⟩
theorem o_mul : OpSnd X CT (binaryOp .Mult) (binD .mul) := fun p S H π a b x y d π' Q w ra rb h k => by
  cases a <;> cases b <;> first | (cases h; done) | skip
  · obtain ⟨c, h⟩ := guard_some h
    cases h
    rw [ra.int, rb.int]
    refine qR2_of op_mul ⟨_, _, rfl, rfl, ?_, k S H _ (Stp.refl _ _ _) w (.int _)⟩
    rcases Bool.or_eq_true_iff.mp c with c | c
    · exact .inl (small64_ok c)
    · exact .inr (small64_ok c)
  · rename_i xs i
    obtain ⟨c, h⟩ := guard_some h
    cases h
    obtain ⟨c1, c2⟩ := and2 c
    obtain ⟨c2, c3⟩ := and2 c2
    have e1 : xs.length = 1 := of_decide_eq_true c1
    have h0 : 0 ≤ i := of_decide_eq_true c2
    have h1 : i ≤ 1000 := of_decide_eq_true c3
    obtain ⟨a1, vs, rfl, q1, q1s, r1⟩ := ra.tup w.sub
    rw [rb.int]
    have l1 : vs.length = 1 := by rw [← r1.length]; exact e1
    have ne : vs ≠ [] := fun e => by rw [e] at l1; cases l1
    by_cases hk : 2 ≤ i
    · refine qR2_of op_repT ⟨a1, i, vs, rfl, rfl, q1, ne, hk, h1, by omega, fun q hq => ?_⟩
      obtain ⟨t, w', e⟩ := w.new (o := .tup (List.replicate i.toNat vs).flatten) hq
      exact k _ _ _ t w' (.tup (SqT.of e) ((r1.rep i.toNat).mono t.s))
    · by_cases hk1 : i = 1
      · subst hk1
        refine qR2_of op_repT01 ⟨a1, 1, vs, rfl, rfl, q1, .inl ⟨rfl, ?_⟩⟩
        have e2 : (List.replicate (1 : Int).toNat xs).flatten = xs := by
          show (List.replicate 1 xs).flatten = xs
          simp
        rw [e2] at k
        exact k S H _ (Stp.refl _ _ _) w (.tup q1s r1)
      · have hk0 : i = 0 := by omega
        subst hk0
        refine qR2_of op_repT01 ⟨a1, 0, vs, rfl, rfl, q1, .inr ⟨rfl, ne, fun q hq => ?_⟩⟩
        obtain ⟨t, w', e⟩ := w.new (o := .tup []) hq
        exact k _ _ _ t w' (.tup (SqT.of e) .nil)
  · rename_i xs i
    obtain ⟨c, h⟩ := guard_some h
    cases h
    obtain ⟨c1, c2⟩ := and2 c
    obtain ⟨c2, c3⟩ := and2 c2
    have e1 : xs.length ≤ 1000 := of_decide_eq_true c1
    have h0 : 0 ≤ i := of_decide_eq_true c2
    have h1 : i ≤ 1000 := of_decide_eq_true c3
    obtain ⟨a1, vs, rfl, q1, r1⟩ := ra.lst w.sub
    rw [rb.int]
    have l1 : vs.length ≤ 1000 := by rw [← r1.length]; exact e1
    have hz : vs.length * i.toNat ≤ sizeLine := by
      have : vs.length * i.toNat ≤ 1000 * 1000 := Nat.mul_le_mul l1 (by omega)
      rw [sizeLine_eq]; omega
    refine qR2_of op_rep ⟨a1, i, vs, rfl, rfl, q1, by omega, by omega, hz, fun q hq => ?_⟩
    obtain ⟨t, w', e⟩ := w.new (o := .lst (List.replicate i.toNat vs).flatten) hq
    exact k _ _ _ t w' (.lst e ((r1.rep i.toNat).mono t.s))

/-! ### comparisons -/
theorem opSnd_C {op : CmpOp} {g : Int → Int → Bool} (ho : OpR X (compareOp op) (rI0 fun i j => .bl (g i j))) {G : D → D → M D} (hG : ∀ a b π r, G a b π = some r → ∃ i j, a = .int i ∧ b = .int j ∧ r = (.bl (g i j), π)) : OpSnd X CT (compareOp op) G :=
  fun p S H π a b x y d π' Q w ra rb h k => by
    obtain ⟨i, j, rfl, rfl, e⟩ := hG _ _ _ _ h
    cases e
    rw [ra.int, rb.int]
    exact qR2_of ho ⟨i, j, rfl, rfl, k S H _ (Stp.refl _ _ _) w (.bl _)⟩
variable {φ : Fns} {eqt : EqT}
theorem o_lt : OpSnd X CT (compareOp .Lt) (cmpM φ eqt .lt) := opSnd_C op_lt fun a b π r h => by
  cases a <;> cases b <;> first | (cases h; done) | skip
  cases h; exact ⟨_, _, rfl, rfl, rfl⟩
theorem o_le : OpSnd X CT (compareOp .LtE) (cmpM φ eqt .le) := opSnd_C op_le fun a b π r h => by
  cases a <;> cases b <;> first | (cases h; done) | skip
  cases h; exact ⟨_, _, rfl, rfl, rfl⟩
theorem o_gt : OpSnd X CT (compareOp .Gt) (cmpM φ eqt .gt) := opSnd_C op_gt fun a b π r h => by
  cases a <;> cases b <;> first | (cases h; done) | skip
  cases h; exact ⟨_, _, rfl, rfl, rfl⟩
theorem o_ge : OpSnd X CT (compareOp .GtE) (cmpM φ eqt .ge) := opSnd_C op_ge fun a b π r h => by
  cases a <;> cases b <;> first | (cases h; done) | skip
  cases h; exact ⟨_, _, rfl, rfl, rfl⟩
/-- a value that is told apart from True and False by what it is -/
def plainV : V → Prop
  | .non | .bl _ | .int _ | .str _ | .ref _ => True
  | _ => False
theorem op_isB : OpR X (compareOp .Is) (fun x y H Q => ∃ b, y = .bl b ∧ plainV x ∧ Q (.bl (decide (x = .bl b))) H) := by
  intro pins s σ H x y v u Q I rx ry h
  obtain ⟨b, rfl, hp, q⟩ := h
  cases ry
  cases x <;> first | exact hp.elim | skip
  · cases rx; exact wpAny_pure ⟨.bl _, H, I, rfl, q⟩
  · cases rx
    rename_i c
    exact wpAny_pure ⟨.bl _, H, I, by cases c <;> cases b <;> rfl, q⟩
  all_goals first
    | (obtain ⟨t, rfl⟩ := rx; exact wpAny_pure ⟨.bl _, H, I, rfl, q⟩)
    | (cases rx; exact wpAny_pure ⟨.bl _, H, I, rfl, q⟩)
theorem op_notB : OpR X (compareOp .IsNot) (fun x y H Q => ∃ b, y = .bl b ∧ plainV x ∧ Q (.bl (!decide (x = .bl b))) H) := by
  intro pins s σ H x y v u Q I rx ry h
  obtain ⟨b, rfl, hp, q⟩ := h
  cases ry
  cases x <;> first | exact hp.elim | skip
  · cases rx; exact wpAny_pure ⟨.bl _, H, I, rfl, q⟩
  · cases rx
    rename_i c
    exact wpAny_pure ⟨.bl _, H, I, by cases c <;> cases b <;> rfl, q⟩
  all_goals first
    | (obtain ⟨t, rfl⟩ := rx; exact wpAny_pure ⟨.bl _, H, I, rfl, q⟩)
    | (cases rx; exact wpAny_pure ⟨.bl _, H, I, rfl, q⟩)
/-- the value of a datum, as `is` looks at it -/
theorem TRep.look {p : Addr} {S H : Hp} {a : D} {x : V} (ra : TRep X.K CT p S H a x) (sub : Same S H) : plainV x ∧ (∀ b, decide (x = .bl b) = sameB a b) ∧ decide (x = .non) = nonB a := by
  cases a with
  | non => rw [ra.non]; exact ⟨trivial, fun _ => rfl, rfl⟩
  | bl b => rw [ra.bl]; exact ⟨trivial, fun c => by cases b <;> cases c <;> rfl, rfl⟩
  | int b => rw [ra.int]; exact ⟨trivial, fun _ => rfl, rfl⟩
  | str b => rw [ra.str]; exact ⟨trivial, fun _ => rfl, rfl⟩
  | tup b => obtain ⟨_, _, rfl, _⟩ := ra.tup sub; exact ⟨trivial, fun _ => rfl, rfl⟩
  | lst b => obtain ⟨_, _, rfl, _⟩ := ra.lst sub; exact ⟨trivial, fun _ => rfl, rfl⟩
  | ins c b => obtain ⟨_, _, _, _, _, rfl, _⟩ := ra.ins sub; exact ⟨trivial, fun _ => rfl, rfl⟩
  | dic c b => cases ra with | st r => cases r; exact ⟨trivial, fun _ => rfl, rfl⟩
  | pen => cases ra with | st r => cases r; exact ⟨trivial, fun _ => rfl, rfl⟩
theorem o_isN : OpSnd X CT (compareOp .Is) (cmpM φ eqt .isN) := fun p S H π a b x y d π' Q w ra rb h k => by
  obtain ⟨l1, l2, l3⟩ := ra.look w.sub
  cases b <;> first | (cases a <;> cases h; done) | skip
  · rw [rb.non]
    refine qR2_of op_isN ⟨rfl, ?_⟩
    rw [l3]
    cases a <;> (cases h; exact k S H _ (Stp.refl _ _ _) w (.bl _))
  · rename_i b
    rw [rb.bl]
    refine qR2_of op_isB ⟨b, rfl, l1, ?_⟩
    rw [l2]
    cases a <;> (cases h; exact k S H _ (Stp.refl _ _ _) w (.bl _))
theorem o_notN : OpSnd X CT (compareOp .IsNot) (cmpM φ eqt .notN) := fun p S H π a b x y d π' Q w ra rb h k => by
  obtain ⟨l1, l2, l3⟩ := ra.look w.sub
  cases b <;> first | (cases a <;> cases h; done) | skip
  · rw [rb.non]
    refine qR2_of op_notN ⟨rfl, ?_⟩
    rw [l3]
    cases a <;> (cases h; exact k S H _ (Stp.refl _ _ _) w (.bl _))
  · rename_i b
    rw [rb.bl]
    refine qR2_of op_notB ⟨b, rfl, l1, ?_⟩
    rw [l2]
    cases a <;> (cases h; exact k S H _ (Stp.refl _ _ _) w (.bl _))
/-! data compared -/
theorem dp2 {p : Addr} {S H : Hp} {K : PySem.W.Frag} (sub : Same S H) : (∀ d v, Rep K CT p S d v → ∀ x, toPy d = some x → Dp K H v x) ∧ (∀ ds vs, Reps K CT p S ds vs → ∀ xs, toPys ds = some xs → DpAll K H vs xs) := by
  have mt : ∀ {a : Addr} {vs : List V} {ds : List D}, SqT K S a vs → Reps K CT p S ds vs → (∀ xs, toPys ds = some xs → DpAll K H vs xs) → ∀ x, toPy (.tup ds) = some x → Dp K H (.ref a) x := by
    intro a vs ds h1 _ ih x hx
    have hx : (toPys ds).map PyData.tuple = some x := by simpa [toPy] using hx
    cases e : toPys ds with
    | none => rw [e] at hx; cases hx
    | some xs => rw [e] at hx; cases hx; exact .tup (same_t sub h1) (ih xs e)
  have ml : ∀ {a : Addr} {vs : List V} {ds : List D}, S a = some (.lst vs) → Reps K CT p S ds vs → (∀ xs, toPys ds = some xs → DpAll K H vs xs) → ∀ x, toPy (.lst ds) = some x → Dp K H (.ref a) x := by
    intro a vs ds h1 _ ih x hx
    have hx : (toPys ds).map PyData.list = some x := by simpa [toPy] using hx
    cases e : toPys ds with
    | none => rw [e] at hx; cases hx
    | some xs => rw [e] at hx; cases hx; exact .lst (SqL.of (sub _ _ h1)) (ih xs e)
  have mc : ∀ {d : D} {ds : List D} {v : V} {vs : List V}, Rep K CT p S d v → Reps K CT p S ds vs → (∀ x, toPy d = some x → Dp K H v x) → (∀ xs, toPys ds = some xs → DpAll K H vs xs) → ∀ xs, toPys (d :: ds) = some xs → DpAll K H (v :: vs) xs := by
    intro d ds v vs _ _ h1 h2 xs hx
    unfold toPys at hx
    cases e1 : toPy d with
    | none => rw [e1] at hx; simp at hx
    | some x =>
      cases e2 : toPys ds with
      | none => rw [e1, e2] at hx; simp at hx
      | some ys =>
        rw [e1, e2] at hx
        simp at hx
        subst hx
        exact .cons (h1 x e1) (h2 ys e2)
  constructor
  · intro d v h
    refine Rep.rec (motive_1 := fun d v _ => ∀ x, toPy d = some x → Dp K H v x) (motive_2 := fun ds vs _ => ∀ xs, toPys ds = some xs → DpAll K H vs xs) ?_ ?_ ?_ ?_ mt ml ?_ ?_ ?_ ?_ mc h
    · intro x hx; simp [toPy] at hx; subst hx; exact .non
    · intro b x hx; simp [toPy] at hx; subst hx; exact .bl b
    · intro b x hx; simp [toPy] at hx; subst hx; exact .int b
    · intro b x hx; simp [toPy] at hx; subst hx; exact .str b
    · intro _ _ _ _ _ _ _ _ _ _ _ _ x hx; simp [toPy] at hx
    · intro _ _ _ _ _ _ _ _ x hx; simp [toPy] at hx
    · intro x hx; simp [toPy] at hx
    · intro xs hx; simp [toPys] at hx; subst hx; exact .nil
  · intro d v h
    refine Reps.rec (motive_1 := fun d v _ => ∀ x, toPy d = some x → Dp K H v x) (motive_2 := fun ds vs _ => ∀ xs, toPys ds = some xs → DpAll K H vs xs) ?_ ?_ ?_ ?_ mt ml ?_ ?_ ?_ ?_ mc h
    · intro x hx; simp [toPy] at hx; subst hx; exact .non
    · intro b x hx; simp [toPy] at hx; subst hx; exact .bl b
    · intro b x hx; simp [toPy] at hx; subst hx; exact .int b
    · intro b x hx; simp [toPy] at hx; subst hx; exact .str b
    · intro _ _ _ _ _ _ _ _ _ _ _ _ x hx; simp [toPy] at hx
    · intro _ _ _ _ _ _ _ _ x hx; simp [toPy] at hx
    · intro x hx; simp [toPy] at hx
    · intro xs hx; simp [toPys] at hx; subst hx; exact .nil
theorem TRep.dp {p : Addr} {S H : Hp} {K : PySem.W.Frag} {d : D} {v : V} {x : PyData} (h : TRep K CT p S H d v) (sub : Same S H) (e : toPy d = some x) : Dp K H v x := by
  cases h with
  | st r => exact (dp2 sub).1 _ _ r x e
  | ow h1 r =>
    rename_i a vs ds
    have e : (toPys ds).map PyData.list = some x := by simpa [toPy] using e
    cases q : toPys ds with
    | none => rw [q] at e; cases e
    | some xs => rw [q] at e; cases e; exact .lst (SqL.of h1) ((dp2 sub).2 _ _ r xs q)
theorem eqD_some {a b : D} {r : Bool} (h : eqD a b = some r) : ∃ x y, toPy a = some x ∧ toPy b = some y ∧ SeqAt.shaped x = true ∧ SeqAt.shaped y = true ∧ r = PyData.eqv x y := by
  unfold eqD at h
  cases e1 : toPy a with
  | none => rw [e1] at h; simp at h
  | some x =>
    cases e2 : toPy b with
    | none => rw [e1, e2] at h; simp at h
    | some y =>
      rw [e1, e2] at h
      simp only at h
      split at h
      · rename_i c
        obtain ⟨c1, c2⟩ := and2 c
        cases h
        exact ⟨x, y, rfl, rfl, c1, c2, rfl⟩
      · cases h
end
end UK

set_option Elab.async false
set_option linter.all false
set_option maxRecDepth 100000
set_option maxHeartbeats 4000000
namespace UK
open PySem PySem.Spec PyProof.Rows L2

/-! ### promises of defs, what a context must know -/
def spF (K : PySem.W.Frag) (CT : CTab) (n : Nat) (m : List D → M D) : Sp := fun vs H Q _ => ∃ (p : Addr) (S : Hp) (π : Pen) (ds : List D) (d : D) (π' : Pen), vs.length = n ∧ Wd p S π H ∧ Reps K CT p S ds vs ∧ m ds π = some (d, π') ∧
  ∀ S' H' v, Stp p S H S' H' → Wd p S' π' H' → Rep K CT p S' d v → Q v H'
def spI (K : PySem.W.Frag) (CT : CTab) (C : Str) (n : Nat) (m : List D → M D) : Sp := fun vs H Q _ => ∃ (p : Addr) (S H1 : Hp) (π : Pen) (x dx : Addr) (vs' : List V) (ds : List D) (d : D) (π' : Pen), vs = .ref x :: vs' ∧ vs'.length = n ∧
  H = upd (upd H1 dx (.own x)) x (.ins (He.ga K C) dx []) ∧ H1 x = none ∧ H1 dx = none ∧ dx ≠ x ∧ Wd p S π H1 ∧ Reps K CT p S ds vs' ∧ m ds π = some (d, π') ∧
  ∀ S' H', Stp p S H1 S' H' → Wd p S' π' H' → Rep K CT p S' d (.ref x) → Q .non H'
/-- rows of the caller's own -/
def RowsAt (K : PySem.W.Frag) (CT : CTab) (p : Addr) (S H : Hp) (rss : List (List D)) (v : V) (B : Addr → Prop) : Prop := ∃ a bs, v = .ref a ∧ H a = some (.lst (bs.map V.ref)) ∧ Rws K CT p S H rss bs ∧ (a :: bs).Nodup ∧ ∀ b ∈ a :: bs, S b = none ∧ b ≠ p ∧ B b
def spR (K : PySem.W.Frag) (CT : CTab) (n : Nat) (m : List D → M D) : Sp := fun vs H Q _ => ∃ (p : Addr) (S : Hp) (π : Pen) (ds : List D) (rss : List (List D)) (π' : Pen), vs.length = n ∧ Wd p S π H ∧ Reps K CT p S ds vs ∧ bnd (m ds) rowsD π = some (rss, π') ∧
  ∀ S' H' v, Stp p S H S' H' → Wd p S' π' H' → RowsAt K CT p S' H' rss v (fun b => H b = none) → Q v H'
def spM (b : Bool) (K : PySem.W.Frag) (CT : CTab) (n : Nat) (m : List D → M D) : Sp := if b then spR K CT n m else spF K CT n m
def tyNames : List String := ["NoneType", "bool", "int", "str", "tuple", "list", "dict"]
structure ClsF (K : PySem.W.Frag) (mg : Str → Option Value) (CT : CTab) (c : Nat) (C : Str) (fns : List Str) : Prop where
  cls : Cls K (He.ga K C)
  noat : ∀ f ∈ fns, NoAttr K (He.ga K C) f
  nd : fns.Nodup
  glob : mg C = some (.ref (He.ga K C))
  maker : Mk K (He.ga K C) (He.ma K (He.ga K C) "__init__")
  a1 : PySem.W.findIn K (.ref (He.ga K C)) "__class__" = some (some (.builtin "object.__class__"))
  a2 : PySem.W.specialIn K (.builtin "object.__class__") "__get__" = some (some (.builtin "getset_descriptor.__get__"))
  a3 : PySem.W.takesIn K (.builtin "object.__class__") = some true
  a4 : PySem.W.mroIn K (He.ga K C) (.type "object") = some true
  k1 : ∀ T ∈ tyNames, PySem.W.kitOne K (.type T) (.ref (He.ga K C)) = some false
  k2 : ∀ T ∈ tyNames, PySem.W.kitOne K (.ref (He.ga K C)) (.type T) = some false
  k3 : ∀ (c' : Nat) (C' : Str) (fns' : List Str), CT[c']? = some (C', fns') → PySem.W.kitOne K (.ref (He.ga K C)) (.ref (He.ga K C')) = some (decide (c = c'))
abbrev FTab := List ((Str × Option Str) × Nat)
def blts : List Str := ["len", "tuple", "list", "int", "sum", "all", "any", "max", "min", "abs", "isinstance", "range", "bool", "str"]
/-- what every body of the text knows: the module's facts, the callees' promises at level k -/
structure Gok (X : Cx) (T : Tabs) (FN : FTab) (φ ψ : Fns) (k : Nat) : Prop where
  fns : ∀ (i : Nat) (at_ : Str × Option Str) (n : Nat), FN[i]? = some (at_, n) → ∃ fd ps, ps.length = n ∧ FnOk X.prog X.w X.K X.mg X.base CX0 k (He.fAd X.K at_) fd ps (spM (T.rwf.contains i) X.K T.CT n (φ i)) ∧ Binds X.K fd ps [] ∧ PySem.W.keepIn X.K (.ref (He.fAd X.K at_)) = true
  glob : ∀ (i : Nat) (x : Str) (n : Nat), FN[i]? = some ((x, none), n) → X.mg x = some (.ref (He.ga X.K x))
  bl : ∀ b ∈ blts, X.mg b = none
  cls : ∀ (c : Nat) (C : Str) (fns : List Str), T.CT[c]? = some (C, fns) → ClsF X.K X.mg T.CT c C fns
  ini : ∀ (c : Nat) (C : Str) (fns : List Str) (n : Nat), T.CT[c]? = some (C, fns) → T.ar[c]? = some n → ∃ fd ps, ps.length = n + 1 ∧ FnOk X.prog X.w X.K X.mg X.base CX0 k (He.ma X.K (He.ga X.K C) "__init__") fd ps (spI X.K T.CT C n (ψ c)) ∧ Binds X.K fd ps []
  eqs : ∀ (c i : Nat), T.eqt.lookup c = some i → ∃ C fns, T.CT[c]? = some (C, fns) ∧ FN[i]? = some ((C, some ("__eq__" : Str)), 2) ∧ T.rwf.contains i = false ∧ PySem.W.findIn X.K (.ref (He.ga X.K C)) "__eq__" = some (some (.ref (He.ma X.K (He.ga X.K C) "__eq__"))) ∧
    PySem.W.isFn X.K (.ref (He.ma X.K (He.ga X.K C) "__eq__")) = true ∧ PySem.W.findIn X.K (.ref (He.ga X.K C)) "__ne__" = some (some (.builtin "object.__ne__"))
structure Cok0 (X : Cx) (T : Tabs) (FN : FTab) (φ ψ : Fns) (k : Nat) (N : List Str) (sc : Scope) : Prop where
  g : Gok X T FN φ ψ k
  hN : X.N = N
  nd : N.Nodup
  sc : X.env.scope = sc
  calm : X.calm = true
  room : Room (k + 1) X.A
  xe : X.xe = fun _ _ => False

section
variable {X : Cx} {CT : CTab}
/-! ### in -/
def pyV : PyData → V
  | .none => .non
  | .bool b => .bl b
  | .int i => .int i
  | .str x => .str x
  | _ => .non
theorem pyV_eqv {x y : PyData} (hx : flatP x = true) (hy : flatP y = true) : eqV (pyV x) (pyV y) = PyData.eqv x y := by
  cases x <;> cases y <;> first | (cases hx; done) | (cases hy; done) | rfl
theorem pyV_flat {x : PyData} (hx : flatP x = true) : flatV (pyV x) = true := by
  cases x <;> first | (cases hx; done) | rfl
theorem rep_flat {K : PySem.W.Frag} {p : Addr} {S : Hp} {d : D} {v : V} {x : PyData} (r : Rep K CT p S d v) (e : toPy d = some x) (hx : flatP x = true) : v = pyV x := by
  cases r with
  | non => simp [toPy] at e; subst e; rfl
  | bl b => simp [toPy] at e; subst e; rfl
  | int b => simp [toPy] at e; subst e; rfl
  | str b => simp [toPy] at e; subst e; rfl
  | tup _ _ =>
    simp [toPy] at e
    obtain ⟨a, _, rfl⟩ := e
    cases hx
  | lst _ _ =>
    simp [toPy] at e
    obtain ⟨a, _, rfl⟩ := e
    cases hx
  | ins _ _ _ _ => simp [toPy] at e
  | dic _ _ _ => simp [toPy] at e
  | pen => simp [toPy] at e
theorem reps_flat {K : PySem.W.Frag} {p : Addr} {S : Hp} : ∀ {ds : List D} {vs : List V} {xs : List PyData}, Reps K CT p S ds vs → toPys ds = some xs → xs.all flatP = true → vs = xs.map pyV
  | [], _, xs, .nil, e, _ => by simp [toPys] at e; subst e; rfl
  | d :: ds, _, xs, .cons r t, e, h => by
    unfold toPys at e
    cases e1 : toPy d with
    | none => rw [e1] at e; simp at e
    | some x =>
      cases e2 : toPys ds with
      | none => rw [e1, e2] at e; simp at e
      | some ys =>
        rw [e1, e2] at e
        simp at e
        subst e
        rw [List.all_cons] at h
        obtain ⟨h1, h2⟩ := and2 h
        rw [rep_flat r e1 h1, reps_flat t e2 h2]
        rfl
theorem trep_flat {K : PySem.W.Frag} {p : Addr} {S H : Hp} {d : D} {v : V} {x : PyData} (r : TRep K CT p S H d v) (e : toPy d = some x) (hx : flatP x = true) : v = pyV x := by
  cases r with
  | st r => exact rep_flat r e hx
  | ow _ _ =>
    simp [toPy] at e
    obtain ⟨a, _, rfl⟩ := e
    cases hx
theorem inV_py (x : PyData) (hx : flatP x = true) : ∀ (zs : List PyData), zs.all flatP = true → inV (pyV x) (zs.map pyV) = zs.any fun z => PyData.eqv z x
  | [], _ => rfl
  | z :: zs, h => by
    rw [List.all_cons] at h
    obtain ⟨h1, h2⟩ := and2 h
    have ih := inV_py x hx zs h2
    unfold inV at ih ⊢
    rw [List.map_cons, List.any_cons, List.any_cons, ih, pyV_eqv h1 hx]
theorem flats_map : ∀ (zs : List PyData), zs.all flatP = true → (zs.map pyV).all flatV = true
  | [], _ => rfl
  | z :: zs, h => by
    rw [List.all_cons] at h
    obtain ⟨h1, h2⟩ := and2 h
    rw [List.map_cons, List.all_cons, pyV_flat h1, flats_map zs h2]
    rfl
theorem inD_some {a b : D} {r : Bool} (h : inD a b = some r) : (∃ ys x zs, b = .lst ys ∧ toPy a = some x ∧ toPys ys = some zs ∧ SeqAt.shaped x = true ∧ SeqAt.shaped (.list zs) = true ∧ r = zs.any fun z => PyData.eqv z x) ∨
    (∃ ys x zs, b = .tup ys ∧ toPy a = some x ∧ toPys ys = some zs ∧ flatP x = true ∧ zs.all flatP = true ∧ r = zs.any fun z => PyData.eqv z x) := by
  cases b <;> first | (simp [inD] at h; done) | skip
  · rename_i ys
    right
    unfold inD at h
    dsimp only at h
    cases e1 : toPy a with
    | none => rw [e1] at h; simp at h
    | some x =>
      cases e2 : toPys ys with
      | none => rw [e1, e2] at h; simp at h
      | some zs =>
        rw [e1, e2] at h
        simp only at h
        split at h
        · rename_i c
          obtain ⟨c1, c2⟩ := and2 c
          cases h
          exact ⟨ys, x, zs, rfl, rfl, e2, c1, c2, rfl⟩
        · cases h
  · rename_i ys
    left
    unfold inD at h
    dsimp only at h
    cases e1 : toPy a with
    | none => rw [e1] at h; simp at h
    | some x =>
      cases e2 : toPys ys with
      | none => rw [e1, e2] at h; simp at h
      | some zs =>
        rw [e1, e2] at h
        simp only at h
        split at h
        · rename_i c
          obtain ⟨c1, c2⟩ := and2 c
          cases h
          exact ⟨ys, x, zs, rfl, rfl, e2, c1, c2, rfl⟩
        · cases h
theorem o_in {φ : Fns} {eqt : EqT} (hu : X.A.units + 65 < cLine) : OpSnd X CT (compareOp .In) (cmpM φ eqt .isin) := fun p S H π a b x y d π' Q w ra rb h k => by
  have h : (match inD a b with | some r => (ret (D.bl r) : M D) | none => stuck) π = some (d, π') := h
  cases e : inD a b with
  | none => rw [e] at h; cases h
  | some r =>
    rw [e] at h
    obtain ⟨rfl, rfl⟩ := ret_some h
    rcases inD_some e with ⟨ys, z, zs, rfl, e1, e2, s1, s2, rfl⟩ | ⟨ys, z, zs, rfl, e1, e2, f1, f2, rfl⟩
    · have e3 : toPy (.lst ys) = some (.list zs) := by simp [toPy, e2]
      exact qR2_of (op_inD hu) ⟨z, zs, ra.dp w.sub e1, rb.dp w.sub e3, s1, s2, k S H _ (Stp.refl _ _ _) w (.bl _)⟩
    · obtain ⟨a2, us, rfl, h2, h2s, r2⟩ := rb.tup w.sub
      have ev := reps_flat r2 e2 f2
      have ex := trep_flat ra e1 f1
      subst ev ex
      refine qR2_of op_in_seq ⟨a2, _, rfl, .inr h2, pyV_flat f1, flats_map zs f2, ?_⟩
      rw [if_neg Bool.false_ne_true, inV_py z f1 zs f2]
      exact k S H _ (Stp.refl _ _ _) w (.bl _)
theorem o_notin {φ : Fns} {eqt : EqT} (hu : X.A.units + 65 < cLine) : OpSnd X CT (compareOp .NotIn) (cmpM φ eqt .notin) := fun p S H π a b x y d π' Q w ra rb h k => by
  have h : (match inD a b with | some r => (ret (D.bl (!r)) : M D) | none => stuck) π = some (d, π') := h
  cases e : inD a b with
  | none => rw [e] at h; cases h
  | some r =>
    rw [e] at h
    obtain ⟨rfl, rfl⟩ := ret_some h
    rcases inD_some e with ⟨ys, z, zs, rfl, e1, e2, s1, s2, rfl⟩ | ⟨ys, z, zs, rfl, e1, e2, f1, f2, rfl⟩
    · have e3 : toPy (.lst ys) = some (.list zs) := by simp [toPy, e2]
      exact qR2_of (op_notInD hu) ⟨z, zs, ra.dp w.sub e1, rb.dp w.sub e3, s1, s2, k S H _ (Stp.refl _ _ _) w (.bl _)⟩
    · obtain ⟨a2, us, rfl, h2, h2s, r2⟩ := rb.tup w.sub
      have ev := reps_flat r2 e2 f2
      have ex := trep_flat ra e1 f1
      subst ev ex
      refine qR2_of op_notIn_seq ⟨a2, _, rfl, .inr h2, pyV_flat f1, flats_map zs f2, ?_⟩
      rw [if_pos rfl, inV_py z f1 zs f2]
      exact k S H _ (Stp.refl _ _ _) w (.bl _)

/-! ### and, or, not, if, chains -/
theorem snd_not {m : Env' → M D} {e : Expr} {pos : Pos} (h : SndE X CT m e) : SndE X CT (fun env => bnd (m env) notD) (.UnaryOp .Not e pos) := fun p S0 H0 S H env π σ d π' Q A hm k => by
  obtain ⟨x, π1, h1, h2⟩ := bnd_some hm
  refine qE_of (pe_not peq) (h p S0 H0 S H env π σ x π1 _ A h1 fun S' H' v t w r => ?_)
  cases x <;> first | (cases h2; done) | skip
  cases h2
  cases r
  exact ⟨_, rfl, k S' H' _ t w (.bl _)⟩
theorem snd_notT {m : Env' → M D} {e : Expr} {pos : Pos} (h : SndT X CT m e) : SndT X CT (fun env => bnd (m env) notD) (.UnaryOp .Not e pos) := fun p S0 H0 S H env π σ d π' Q A hm k => by
  obtain ⟨x, π1, h1, h2⟩ := bnd_some hm
  cases x <;> first | (cases h2; done) | skip
  cases h2
  obtain ⟨b, e, k⟩ := k
  cases e
  exact qT_of (pt_not ptq) (h p S0 H0 S H env π σ _ _ _ A h1 ⟨_, rfl, fun S' H' t w => k S' H' t w⟩)
theorem snd_neg {m : Env' → M D} {e : Expr} {pos : Pos} (h : SndE X CT m e) : SndE X CT (fun env => bnd (m env) fun x => match x with | .int i => ret (.int (-i)) | _ => stuck) (.UnaryOp .USub e pos) := fun p S0 H0 S H env π σ d π' Q A hm k => by
  obtain ⟨x, π1, h1, h2⟩ := bnd_some hm
  refine qE_of (pe_un un_neg peq) (h p S0 H0 S H env π σ x π1 _ A h1 fun S' H' v t w r => ?_)
  cases x <;> first | (cases h2; done) | skip
  cases h2
  cases r
  exact ⟨_, rfl, k S' H' _ t w (.int _)⟩
def andM (m r : Env' → M D) : Env' → M D := fun env => bnd (m env) fun x => match x with
  | .bl true => r env
  | .bl false => ret (.bl false)
  | _ => stuck
def orM (m r : Env' → M D) : Env' → M D := fun env => bnd (m env) fun x => match x with
  | .bl true => ret (.bl true)
  | .bl false => r env
  | _ => stuck
theorem andM_some {m r : Env' → M D} {env : Env'} {π π' : Pen} {d : D} (h : andM m r env π = some (d, π')) : ∃ b π1, m env π = some (.bl b, π1) ∧ ((b = true ∧ r env π1 = some (d, π')) ∨ (b = false ∧ d = .bl false ∧ π' = π1)) := by
  obtain ⟨x, π1, h1, h2⟩ := bnd_some h
  cases x <;> first | (cases h2; done) | skip
  rename_i b
  cases b with
  | true => exact ⟨true, π1, h1, .inl ⟨rfl, h2⟩⟩
  | false => cases h2; exact ⟨false, _, h1, .inr ⟨rfl, rfl, rfl⟩⟩
theorem orM_some {m r : Env' → M D} {env : Env'} {π π' : Pen} {d : D} (h : orM m r env π = some (d, π')) : ∃ b π1, m env π = some (.bl b, π1) ∧ ((b = false ∧ r env π1 = some (d, π')) ∨ (b = true ∧ d = .bl true ∧ π' = π1)) := by
  obtain ⟨x, π1, h1, h2⟩ := bnd_some h
  cases x <;> first | (cases h2; done) | skip
  rename_i b
  cases b with
  | false => exact ⟨false, π1, h1, .inl ⟨rfl, h2⟩⟩
  | true => cases h2; exact ⟨true, _, h1, .inr ⟨rfl, rfl, rfl⟩⟩
theorem snd_one {m : Env' → M D} {e : Expr} {op : BoolOp} {pos : Pos} (h : SndE X CT m e) : SndE X CT m (.BoolOp op [e] pos) := fun p S0 H0 S H env π σ d π' Q A hm k => qE_of (pe_one peq) (h p S0 H0 S H env π σ d π' Q A hm k)
theorem snd_and {m r : Env' → M D} {a b : Expr} {rest : List Expr} {pos : Pos} (h : SndE X CT m a) (hr : SndE X CT r (.BoolOp .And (b :: rest) pos)) : SndE X CT (andM m r) (.BoolOp .And (a :: b :: rest) pos) := fun p S0 H0 S H env π σ d π' Q A hm k => by
  obtain ⟨c, π1, h1, h2⟩ := andM_some hm
  refine qE_of (pe_and peq peq) (h p S0 H0 S H env π σ _ π1 _ A h1 fun S' H' v t w r' => ?_)
  cases r'
  refine ⟨c, rfl, ?_⟩
  rcases h2 with ⟨rfl, h2⟩ | ⟨rfl, rfl, rfl⟩
  · rw [if_pos rfl]
    exact hr p S0 H0 S' H' env π1 σ d π' Q (A.next t w) h2 fun S2 H2 v t2 w2 r2 => k S2 H2 v (t.trans t2) w2 r2
  · rw [if_neg Bool.false_ne_true]
    exact k S' H' _ t w (.bl _)
theorem snd_or {m r : Env' → M D} {a b : Expr} {rest : List Expr} {pos : Pos} (h : SndE X CT m a) (hr : SndE X CT r (.BoolOp .Or (b :: rest) pos)) : SndE X CT (orM m r) (.BoolOp .Or (a :: b :: rest) pos) := fun p S0 H0 S H env π σ d π' Q A hm k => by
  obtain ⟨c, π1, h1, h2⟩ := orM_some hm
  refine qE_of (pe_or peq peq) (h p S0 H0 S H env π σ _ π1 _ A h1 fun S' H' v t w r' => ?_)
  cases r'
  refine ⟨c, rfl, ?_⟩
  rcases h2 with ⟨rfl, h2⟩ | ⟨rfl, rfl, rfl⟩
  · rw [if_neg Bool.false_ne_true]
    exact hr p S0 H0 S' H' env π1 σ d π' Q (A.next t w) h2 fun S2 H2 v t2 w2 r2 => k S2 H2 v (t.trans t2) w2 r2
  · rw [if_pos rfl]
    exact k S' H' _ t w (.bl _)
/-- a test, whatever its whole is -/
def SndW (X : Cx) (CT : CTab) (m : Env' → M D) (e : Expr) : Prop := ∀ (p : Addr) (S0 : Hp) (H0 : Hs) (S H : Hp) (env : Env') (π : Pen) (σ : St) (d : D) (π' : Pen) (Q : Bool → Hp → Prop), Agr X.K CT p S0 H0 S H env π σ → m env π = some (d, π') →
  (∃ b, d = .bl b ∧ ∀ S' H', Stp p S H S' H' → Wd p S' π' H' → Q b H') → qW X e σ H Q
theorem SndW.t {m : Env' → M D} {e : Expr} (h : SndW X CT m e) : SndT X CT m e := fun p S0 H0 S H env π σ d π' Q A hm k => fun pins s I => h p S0 H0 S H env π σ d π' Q A hm k _ pins s I
theorem snw_and1 {m : Env' → M D} {e : Expr} {pos : Pos} (h : SndT X CT m e) : SndW X CT m (.BoolOp .And [e] pos) := fun p S0 H0 S H env π σ d π' Q A hm k => qW_of (pw_and1 ptq) (h p S0 H0 S H env π σ d π' Q A hm k)
theorem snw_or1 {m : Env' → M D} {e : Expr} {pos : Pos} (h : SndT X CT m e) : SndW X CT m (.BoolOp .Or [e] pos) := fun p S0 H0 S H env π σ d π' Q A hm k => qW_of (pw_or1 ptq) (h p S0 H0 S H env π σ d π' Q A hm k)
theorem snw_and {m r : Env' → M D} {a b : Expr} {rest : List Expr} {pos : Pos} (h : SndT X CT m a) (hr : SndW X CT r (.BoolOp .And (b :: rest) pos)) : SndW X CT (andM m r) (.BoolOp .And (a :: b :: rest) pos) := fun p S0 H0 S H env π σ d π' Q A hm k => by
  obtain ⟨c, π1, h1, h2⟩ := andM_some hm
  refine qW_of (pw_and ptq pwq) (h p S0 H0 S H env π σ _ π1 _ A h1 ⟨c, rfl, fun S' H' t w => ?_⟩)
  rcases h2 with ⟨rfl, h2⟩ | ⟨rfl, rfl, rfl⟩
  · rw [if_pos rfl]
    obtain ⟨b, e, k⟩ := k
    exact hr p S0 H0 S' H' env π1 σ d π' Q (A.next t w) h2 ⟨b, e, fun S2 H2 t2 w2 => k S2 H2 (t.trans t2) w2⟩
  · rw [if_neg Bool.false_ne_true]
    obtain ⟨b, e, k⟩ := k
    cases e
    exact k S' H' t w
theorem snw_or {m r : Env' → M D} {a b : Expr} {rest : List Expr} {pos : Pos} (h : SndT X CT m a) (hr : SndW X CT r (.BoolOp .Or (b :: rest) pos)) : SndW X CT (orM m r) (.BoolOp .Or (a :: b :: rest) pos) := fun p S0 H0 S H env π σ d π' Q A hm k => by
  obtain ⟨c, π1, h1, h2⟩ := orM_some hm
  refine qW_of (pw_or ptq pwq) (h p S0 H0 S H env π σ _ π1 _ A h1 ⟨c, rfl, fun S' H' t w => ?_⟩)
  rcases h2 with ⟨rfl, h2⟩ | ⟨rfl, rfl, rfl⟩
  · rw [if_neg Bool.false_ne_true]
    obtain ⟨b, e, k⟩ := k
    exact hr p S0 H0 S' H' env π1 σ d π' Q (A.next t w) h2 ⟨b, e, fun S2 H2 t2 w2 => k S2 H2 (t.trans t2) w2⟩
  · rw [if_pos rfl]
    obtain ⟨b, e, k⟩ := k
    cases e
    exact k S' H' t w
/-- an expression whose test is the truth of its value -/
def plainTest : Expr → Bool
  | .Compare .. | .BoolOp .. | .UnaryOp .. | .IfExp .. | .Constant .. | .NamedExpr .. => false
  | _ => true
theorem plain_isTrue {e : Expr} (h : plainTest e = true) (env : Env) (whole : Sem Value) : isTrue e env whole = (do let v ← whole; standAt e.pos; holding [v] (truthy v)) := by
  cases e <;> first | (cases h; done) | rfl
theorem snt_val {m : Env' → M D} {e : Expr} (h : SndE X CT m e) (hp : plainTest e = true) : SndT X CT m e := fun p S0 H0 S H env π σ d π' Q A hm k => by
  obtain ⟨b, rfl, k⟩ := k
  refine qT_of (pt_val peq fun whole => plain_isTrue hp X.env whole) (h p S0 H0 S H env π σ _ π' _ A hm fun S' H' v t w r => ?_)
  cases r
  exact ⟨b, rfl, k S' H' t w⟩
def iteM (c a b : Env' → M D) : Env' → M D := fun env => bnd (c env) fun x => match x with
  | .bl true => a env
  | .bl false => b env
  | _ => stuck
theorem iteM_some {c m r : Env' → M D} {env : Env'} {π π' : Pen} {d : D} (h : iteM c m r env π = some (d, π')) : ∃ b π1, c env π = some (.bl b, π1) ∧ (if b = true then m env π1 else r env π1) = some (d, π') := by
  obtain ⟨x, π1, h1, h2⟩ := bnd_some h
  cases x <;> first | (cases h2; done) | skip
  rename_i b
  cases b with
  | true => exact ⟨true, π1, h1, h2⟩
  | false => exact ⟨false, π1, h1, h2⟩
theorem snd_ite {c m r : Env' → M D} {ec ea eb : Expr} {pos : Pos} (hc : SndT X CT c ec) (ha : SndE X CT m ea) (hb : SndE X CT r eb) : SndE X CT (iteM c m r) (.IfExp ec ea eb pos) := fun p S0 H0 S H env π σ d π' Q A hm k => by
  obtain ⟨b, π1, h1, h2⟩ := iteM_some hm
  refine qE_of (pe_ifExp ptq peq peq) (hc p S0 H0 S H env π σ _ π1 _ A h1 ⟨b, rfl, fun S' H' t w => ?_⟩)
  cases b with
  | true => exact ha p S0 H0 S' H' env π1 σ d π' Q (A.next t w) h2 fun S2 H2 v t2 w2 r2 => k S2 H2 v (t.trans t2) w2 r2
  | false => exact hb p S0 H0 S' H' env π1 σ d π' Q (A.next t w) h2 fun S2 H2 v t2 w2 r2 => k S2 H2 v (t.trans t2) w2 r2
def chnM (a b c : Env' → M D) (g1 g2 : D → D → M D) : Env' → M D := fun env => bnd (a env) fun x => bnd (b env) fun y => bnd (g1 x y) fun r => match r with
  | .bl true => bnd (c env) fun z => g2 y z
  | .bl false => ret (.bl false)
  | _ => stuck
theorem chain_ok {ma mb mc : Env' → M D} {a b c : Expr} {g1 g2 : D → D → M D} {f1 f2 : Value → Value → Sem Value} (ha : SndP X CT ma a) (hb : SndP X CT mb b) (hc : SndP X CT mc c) (h1 : OpSnd X CT f1 g1) (h2 : OpSnd X CT f2 g2)
    {p : Addr} {S0 : Hp} {H0 : Hs} {S H : Hp} {env : Env'} {π : Pen} {σ : St} {d : D} {π' : Pen} {Q : VK} (A : Agr X.K CT p S0 H0 S H env π σ) (h : chnM ma mb mc g1 g2 env π = some (d, π'))
    (k : ∀ S' H' v, Stp p S H S' H' → Wd p S' π' H' → Rep X.K CT p S' d v → Q v H') : tChain (qR2 X f1) (qR2 X f2) (qE X a) (qE X b) (qE X c) σ H Q := by
  obtain ⟨x, π1, e1, h⟩ := bnd_some h
  obtain ⟨y, π2, e2, h⟩ := bnd_some h
  obtain ⟨r, π3, e3, h⟩ := bnd_some h
  refine ha p S0 H0 S H env π σ x π1 _ A e1 fun S1 H1 u t1 w1 r1 => ?_
  have A1 := A.next t1 w1
  refine hb p S0 H0 S1 H1 env π1 σ y π2 _ A1 e2 fun S2 H2 v t2 w2 r2 => ?_
  have A2 := A1.next t2 w2
  refine h1 p S2 H2 π2 x y u v r π3 _ w2 (r1 S2 H2 π2 t2 A2) (r2 S2 H2 π2 (Stp.refl _ _ _) A2) e3 fun S3 H3 z t3 w3 r3 => ?_
  have A3 := A2.next t3 w3
  cases r <;> first | (cases h; done) | skip
  rename_i b
  cases r3
  refine ⟨b, rfl, ?_⟩
  cases b with
  | true =>
    rw [if_pos rfl]
    obtain ⟨z, π4, e4, h⟩ := bnd_some h
    refine hc p S0 H0 S3 H3 env π3 σ z π4 _ A3 e4 fun S4 H4 v4 t4 w4 r4 => ?_
    have A4 := A3.next t4 w4
    exact h2 p S4 H4 π4 y z v v4 d π' _ w4 (r2 S4 H4 π4 (t3.trans t4) A4) (r4 S4 H4 π4 (Stp.refl _ _ _) A4) h fun S5 H5 v5 t5 w5 r5 => k S5 H5 v5 ((((t1.trans t2).trans t3).trans t4).trans t5) w5 r5
  | false =>
    rw [if_neg Bool.false_ne_true]
    cases h
    exact k S3 H3 _ ((t1.trans t2).trans t3) w3 (.bl _)
theorem snd_chn {ma mb mc : Env' → M D} {a b c : Expr} {g1 g2 : D → D → M D} {o1 o2 : CmpOp} {pos : Pos} (ha : SndP X CT ma a) (hb : SndP X CT mb b) (hc : SndP X CT mc c) (h1 : OpSnd X CT (compareOp o1) g1) (h2 : OpSnd X CT (compareOp o2) g2) (hm : lastMarks [o1, o2] [b, c] = false) :
    SndE X CT (chnM ma mb mc g1 g2) (.Compare a [o1, o2] [b, c] pos) := fun p S0 H0 S H env π σ d π' Q A h k => qE_of (pe_chain opq opq peq peq peq hm) (chain_ok ha hb hc h1 h2 A h k)
theorem snt_chn {ma mb mc : Env' → M D} {a b c : Expr} {g1 g2 : D → D → M D} {o1 o2 : CmpOp} {pos : Pos} (ha : SndP X CT ma a) (hb : SndP X CT mb b) (hc : SndP X CT mc c) (h1 : OpSnd X CT (compareOp o1) g1) (h2 : OpSnd X CT (compareOp o2) g2) (hm : lastMarks [o1, o2] [b, c] = false) :
    SndT X CT (chnM ma mb mc g1 g2) (.Compare a [o1, o2] [b, c] pos) := fun p S0 H0 S H env π σ d π' Q A h k => by
  obtain ⟨b, rfl, k⟩ := k
  refine qT_of (pt_chain opq opq peq peq peq hm) (chain_ok ha hb hc h1 h2 A h fun S' H' v t w r => ?_)
  cases r
  exact ⟨b, rfl, k S' H' t w⟩
end
end UK

set_option Elab.async false
set_option linter.all false
set_option maxRecDepth 100000
set_option maxHeartbeats 4000000
namespace UK
open PySem PySem.Spec PyProof.Rows L2
section
variable {X : Cx} {CT : CTab}

/-! ### argument lists, displays -/
def notStar : Expr → Bool
  | .Starred .. => false
  | _ => true
theorem starEach_of {e : Expr} (h : notStar e = true) (es : List Expr) (env : Env) : starEach (e :: es) env = (false, eval e env) :: starEach es env := by
  cases e <;> first | (cases h; done) | rfl
theorem backTo_any (pos : Pos) : ∀ (es : List Expr) (env : Env), es.all notStar = true → (backTo pos (starEach es env)).any (·.1) = false := by
  intro es env
  induction es with
  | nil => intro _; rfl
  | cons e es ih =>
    intro h
    rw [List.all_cons] at h
    obtain ⟨h1, h2⟩ := and2 h
    rw [starEach_of h1]
    show (false || (backTo pos (starEach es env)).any (·.1)) = false
    rw [ih h2]
    rfl
theorem snd_anil : SndA X CT (fun _ => ret []) [] := fun p S0 H0 S H env π σ d π' Q A hm k => by
  obtain ⟨rfl, rfl⟩ := ret_some hm
  exact qA_of pa_nil (k S H [] (Stp.refl _ _ _) A.wd .nil)
theorem snd_acons {m : Env' → M D} {r : Env' → M (List D)} {e : Expr} {es : List Expr} (h : SndE X CT m e) (hr : SndA X CT r es) (hs : notStar e = true) : SndA X CT (fun env => bnd (m env) fun x => bnd (r env) fun xs => ret (x :: xs)) (e :: es) := fun p S0 H0 S H env π σ ds π' Q A hm k => by
  obtain ⟨x, π1, h1, hm⟩ := bnd_some hm
  obtain ⟨xs, π2, h2, hm⟩ := bnd_some hm
  obtain ⟨rfl, rfl⟩ := ret_some hm
  refine qA_of (pa_cons peq paq (starEach_of hs _ _)) (h p S0 H0 S H env π σ x π1 _ A h1 fun S1 H1 v t1 w1 r1 => ?_)
  exact hr p S0 H0 S1 H1 env π1 σ xs _ _ (A.next t1 w1) h2 fun S2 H2 vs t2 w2 r2 => k S2 H2 (v :: vs) (t1.trans t2) w2 (.cons (r1.mono t2.s) r2)
theorem snd_tup {m : Env' → M (List D)} {es : List Expr} {k : Nat} {pos : Pos} (h : SndA X CT m es) : SndE X CT (fun env => bnd (m env) fun xs => guardM (decide (xs.length ≤ LIM)) (ret (.tup xs))) (.Tuple es k pos) := fun p S0 H0 S H env π σ d π' Q A hm k => by
  obtain ⟨xs, π1, h1, hm⟩ := bnd_some hm
  obtain ⟨c, hm⟩ := guard_some hm
  obtain ⟨rfl, rfl⟩ := ret_some hm
  refine qE_of (pe_tup paq) (h p S0 H0 S H env π σ xs _ _ A h1 fun S1 H1 vs t1 w1 r1 => ⟨by rw [← r1.length]; exact sizeLIM (of_decide_eq_true c), fun q hq => ?_⟩)
  obtain ⟨t, w', e⟩ := w1.new (o := .tup vs) hq
  exact k _ _ _ (t1.trans t) w' (.tup (SqT.of e) (r1.mono t.s))
theorem snd_lst {m : Env' → M (List D)} {es : List Expr} {pos : Pos} (h : SndA X CT m es) : SndE X CT (fun env => bnd (m env) fun xs => guardM (decide (xs.length ≤ LIM)) (ret (.lst xs))) (.List es pos) := fun p S0 H0 S H env π σ d π' Q A hm k => by
  obtain ⟨xs, π1, h1, hm⟩ := bnd_some hm
  obtain ⟨c, hm⟩ := guard_some hm
  obtain ⟨rfl, rfl⟩ := ret_some hm
  refine qE_of (pe_lst paq) (h p S0 H0 S H env π σ xs _ _ A h1 fun S1 H1 vs t1 w1 r1 => ⟨by rw [← r1.length]; exact sizeLIM (of_decide_eq_true c), fun q hq => ?_⟩)
  obtain ⟨t, w', e⟩ := w1.new (o := .lst vs) hq
  exact k _ _ _ (t1.trans t) w' (.lst e (r1.mono t.s))

/-! ### subscripts -/
def notSlice : Expr → Bool
  | .Slice .. => false
  | _ => true
theorem plainIx_of {b : Expr} (h : notSlice b = true) : PlainIx b := by
  intro o i
  cases b <;> first | (cases h; done) | rfl
theorem atI_rep {K : PySem.W.Frag} {p : Addr} {S : Hp} {ds : List D} {vs : List V} {i : Int} {d : D} (r : Reps K CT p S ds vs) (h : atI ds i = some d) : ∃ v, atI vs i = some v ∧ Rep K CT p S d v := by
  unfold atI at h ⊢
  rw [← r.length]
  cases e : ixN ds.length i with
  | none => rw [e] at h; cases h
  | some j =>
    rw [e] at h
    obtain ⟨v, h1, h2⟩ := r.get (i := j) h
    exact ⟨v, h1, h2⟩
theorem opt_some {α : Type} {o : Option α} {π π' : Pen} {a : α} (h : opt o π = some (a, π')) : o = some a ∧ π' = π := by
  cases o with
  | none => cases h
  | some b => cases h; exact ⟨rfl, rfl⟩
theorem snd_idx {ma mb : Env' → M D} {a b : Expr} {pos : Pos} (ha : SndP X CT ma a) (hb : SndE X CT mb b) (hs : notSlice b = true) : SndE X CT (fun env => bnd (ma env) fun x => bnd (mb env) fun y => idxD x y) (.Subscript a b pos) := fun p S0 H0 S H env π σ d π' Q A hm k => by
  obtain ⟨x, π1, h1, hm⟩ := bnd_some hm
  obtain ⟨y, π2, h2, hm⟩ := bnd_some hm
  refine qE_of (pe_ix ix_seq peq peq (plainIx_of hs)) (ha p S0 H0 S H env π σ x π1 _ A h1 fun S1 H1 u t1 w1 r1 => ?_)
  have A1 := A.next t1 w1
  refine hb p S0 H0 S1 H1 env π1 σ y π2 _ A1 h2 fun S2 H2 v t2 w2 r2 => ?_
  have A2 := A1.next t2 w2
  have ra := r1 S2 H2 π2 t2 A2
  cases y <;> first | (cases x <;> cases hm; done) | skip
  rename_i i
  cases r2
  cases x <;> first | (cases hm; done) | skip
  · obtain ⟨e, rfl⟩ := opt_some hm
    obtain ⟨a1, vs, rfl, q1, q1s, rr⟩ := ra.tup w2.sub
    obtain ⟨v, e1, rv⟩ := atI_rep rr e
    exact .inr (.inl ⟨a1, vs, i, v, rfl, rfl, q1, e1, k S2 H2 v (t1.trans t2) w2 rv⟩)
  · obtain ⟨e, rfl⟩ := opt_some hm
    obtain ⟨a1, vs, rfl, q1, rr⟩ := ra.lst w2.sub
    obtain ⟨v, e1, rv⟩ := atI_rep rr e
    exact .inl ⟨a1, vs, i, v, rfl, rfl, SqL.of q1, e1, k S2 H2 v (t1.trans t2) w2 rv⟩
/-- a part of a slice -/
theorem snd_part {m : Env' → M (Option D)} {eo : Option Expr} (h : SndO X CT m eo) : ∃ t, PO X eo t ∧ ∀ (p : Addr) (S0 : Hp) (H0 : Hs) (S H : Hp) (env : Env') (π : Pen) (σ : St) (o : Option Int) (π' : Pen) (Q : Option Int → Hp → Prop), Agr X.K CT p S0 H0 S H env π σ → bnd (m env) partD π = some (o, π') →
    (∀ S' H', Stp p S H S' H' → Wd p S' π' H' → Q o H') → t σ H Q := by
  cases eo with
  | none =>
    have h : m = fun _ => ret none := h
    subst h
    refine ⟨_, po_none, fun p S0 H0 S H env π σ o π' Q A hm k => ?_⟩
    cases hm
    exact k S H (Stp.refl _ _ _) A.wd
  | some e =>
    obtain ⟨m', h1, rfl⟩ := h
    refine ⟨_, po_some peq, fun p S0 H0 S H env π σ o π' Q A hm k => ?_⟩
    obtain ⟨d, π1, e1, hm⟩ := bnd_some hm
    obtain ⟨x, π2, e2, e3⟩ := bnd_some e1
    cases e3
    refine h1 p S0 H0 S H env π σ x _ _ A e2 fun S' H' v t w r => ?_
    cases x <;> first | (cases hm; done) | skip
    cases hm
    cases r
    exact ⟨_, rfl, k S' H' t w⟩
theorem cut_rep {K : PySem.W.Frag} {p : Addr} {S : Hp} {ds : List D} {vs : List V} {lo hi : Option Int} (r : Reps K CT p S ds vs) : Reps K CT p S (cutD ds lo hi) (cutV vs lo hi) := by
  unfold cutD cutV
  rw [r.length]
  exact (r.drop _).take _
theorem cut_whole {α : Type} {xs : List α} {lo hi : Option Int} (h : HT.sIx xs.length 0 lo = 0 ∧ HT.sIx xs.length xs.length hi = xs.length) : cutD xs lo hi = xs := by
  unfold cutD
  rw [h.1, h.2]
  simp
def slcM (a : Env' → M D) (l h : Env' → M (Option D)) : Env' → M D := fun env => bnd (a env) fun x => bnd (l env) fun l => bnd (partD l) fun l => bnd (h env) fun h => bnd (partD h) fun h => slcD x l h
theorem snd_slc {ma : Env' → M D} {ml mh : Env' → M (Option D)} {a : Expr} {lo hi : Option Expr} {pos p2 : Pos} (ha : SndP X CT ma a) (hl : SndO X CT ml lo) (hh : SndO X CT mh hi) : SndE X CT (slcM ma ml mh) (.Subscript a (.Slice lo hi none p2) pos) := fun p S0 H0 S H env π σ d π' Q A hm k => by
  obtain ⟨tl, pl, kl⟩ := snd_part hl
  obtain ⟨th, ph, kh⟩ := snd_part hh
  obtain ⟨x, π1, h1, hm⟩ := bnd_some hm
  have hm : bnd (bnd (ml env) partD) (fun l => bnd (bnd (mh env) partD) fun h => slcD x l h) π1 = some (d, π') := by
    simp only [bnd_bnd]
    exact hm
  obtain ⟨l, π2, h2, hm⟩ := bnd_some hm
  obtain ⟨h, π3, h3, hm⟩ := bnd_some hm
  refine qE_of (pe_slice (sl_list.or sl_tupA) peq pl ph) (ha p S0 H0 S H env π σ x π1 _ A h1 fun S1 H1 u t1 w1 r1 => ?_)
  have A1 := A.next t1 w1
  refine kl p S0 H0 S1 H1 env π1 σ l π2 _ A1 h2 fun S2 H2 t2 w2 => ?_
  have A2 := A1.next t2 w2
  refine kh p S0 H0 S2 H2 env π2 σ h π3 _ A2 h3 fun S3 H3 t3 w3 => ?_
  have A3 := A2.next t3 w3
  have ra := r1 S3 H3 π3 (t2.trans t3) A3
  have tt := (t1.trans t2).trans t3
  cases x <;> first | (cases hm; done) | skip
  · cases hm
    obtain ⟨a1, vs, rfl, q1, q1s, rr⟩ := ra.tup w3.sub
    refine .inr ⟨a1, vs, rfl, q1, fun hw => ?_, fun _ q hq => ?_⟩
    · rw [← rr.length] at hw
      rw [cut_whole hw] at k
      exact k S3 H3 _ tt w3 (.tup q1s rr)
    · obtain ⟨t, w', e⟩ := w3.new (o := .tup (cutV vs l h)) hq
      exact k _ _ _ (tt.trans t) w' (.tup (SqT.of e) ((cut_rep rr).mono t.s))
  · cases hm
    obtain ⟨a1, vs, rfl, q1, rr⟩ := ra.lst w3.sub
    refine .inl ⟨a1, vs, rfl, SqL.of q1, fun q hq => ?_⟩
    obtain ⟨t, w', e⟩ := w3.new (o := .lst (cutV vs l h)) hq
    exact k _ _ _ (tt.trans t) w' (.lst e ((cut_rep rr).mono t.s))
theorem snd_rev {ma : Env' → M D} {a : Expr} {k : Nat} {p1 p2 p3 pos : Pos} (ha : SndP X CT ma a) : SndE X CT (fun env => bnd (ma env) revD) (.Subscript a (.Slice none none (some (.UnaryOp .USub (.Constant (.int 1) k p1) p2)) p3) pos) := fun p S0 H0 S H env π σ d π' Q A hm k => by
  obtain ⟨x, π1, h1, hm⟩ := bnd_some hm
  refine qE_of (pe_revA peq) (ha p S0 H0 S H env π σ x π1 _ A h1 fun S1 H1 u t1 w1 r1 => ?_)
  have ra := r1 S1 H1 π1 (Stp.refl _ _ _) (A.next t1 w1)
  cases x <;> first | (cases hm; done) | skip
  · cases hm
    obtain ⟨a1, vs, rfl, q1, q1s, rr⟩ := ra.tup w1.sub
    refine ⟨a1, vs, rfl, .inr ⟨q1, fun q hq => ?_⟩⟩
    obtain ⟨t, w', e⟩ := w1.new (o := .tup vs.reverse) hq
    exact k _ _ _ (t1.trans t) w' (.tup (SqT.of e) (rr.reverse.mono t.s))
  · cases hm
    obtain ⟨a1, vs, rfl, q1, rr⟩ := ra.lst w1.sub
    refine ⟨a1, vs, rfl, .inl ⟨SqL.of q1, fun q hq => ?_⟩⟩
    obtain ⟨t, w', e⟩ := w1.new (o := .lst vs.reverse) hq
    exact k _ _ _ (t1.trans t) w' (.lst e (rr.reverse.mono t.s))

/-! ### built-ins of one argument, of two -/
/-- what a built-in's rule asks, by data -/
def Asks1 (X : Cx) (CT : CTab) (r : List V → Hp → VK → Prop) (G : D → M D) : Prop := ∀ (p : Addr) (S H : Hp) (π : Pen) (a : D) (x : V) (d : D) (π' : Pen) (Q : VK), Wd p S π H → TRep X.K CT p S H a x → G a π = some (d, π') →
  (∀ S' H' v, Stp p S H S' H' → Wd p S' π' H' → Rep X.K CT p S' d v → Q v H') → r [x] H Q
theorem snd_b1 {m : Env' → M D} {e : Expr} {x : Str} {id : String} {r : List V → Hp → VK → Prop} {G : D → M D} {p pos : Pos} (h : SndP X CT m e) (hr : Asks1 X CT r G) (hc : CallR X (.builtin id) r) (hg : Gl X x) (hm : X.mg x = none) (hv : bootBuiltins x = some (.builtin id)) (hn : x ≠ "__name__") (hdb : (x == ("__debug__" : Str)) = false) (hs : notStar e = true) :
    SndE X CT (fun env => bnd (m env) G) (.Call (.Name x p) [e] [] pos) := fun q S0 H0 S H env π σ d π' Q A h1 k => by
  obtain ⟨y, π1, h1, h2⟩ := bnd_some h1
  refine qE_of (pe_callB hc hg hm hv (pa_cons peq pa_nil (starEach_of hs _ _)) hn hdb (starEach_of hs _ _) rfl) (h q S0 H0 S H env π σ y π1 _ A h1 fun S1 H1 u t1 w1 r1 => ?_)
  exact hr q S1 H1 π1 y u d π' Q w1 (r1 S1 H1 π1 (Stp.refl _ _ _) (A.next t1 w1)) h2 fun S' H' v t w r => k S' H' v (t1.trans t) w r
theorem snd_t1 {m : Env' → M D} {e : Expr} {x : Str} {id : String} {r : List V → Hp → VK → Prop} {G : D → M D} {p pos : Pos} (h : SndP X CT m e) (hr : Asks1 X CT r G) (hc : CallR X (.type id) r) (hg : Gl X x) (hm : X.mg x = none) (hv : bootBuiltins x = some (.type id)) (hn : x ≠ "__name__") (hdb : (x == ("__debug__" : Str)) = false) (hs : notStar e = true) :
    SndE X CT (fun env => bnd (m env) G) (.Call (.Name x p) [e] [] pos) := fun q S0 H0 S H env π σ d π' Q A h1 k => by
  obtain ⟨y, π1, h1, h2⟩ := bnd_some h1
  refine qE_of (pe_callTy hc hg hm hv (pa_cons peq pa_nil (starEach_of hs _ _)) hn hdb (starEach_of hs _ _) rfl) (h q S0 H0 S H env π σ y π1 _ A h1 fun S1 H1 u t1 w1 r1 => ?_)
  exact hr q S1 H1 π1 y u d π' Q w1 (r1 S1 H1 π1 (Stp.refl _ _ _) (A.next t1 w1)) h2 fun S' H' v t w r => k S' H' v (t1.trans t) w r
theorem as_len : Asks1 X CT (fun xs H Q => ∃ p ys, xs = [.ref p] ∧ (SqL X.K H p ys ∨ SqT X.K H p ys) ∧ Q (.int ys.length) H) (b1D .len) := fun p S H π a x d π' Q w ra h k => by
  cases a <;> first | (cases h; done) | skip
  · cases h
    obtain ⟨a1, vs, rfl, q1, q1s, rr⟩ := ra.tup w.sub
    rw [rr.length] at k
    exact ⟨a1, vs, rfl, .inr q1, k S H _ (Stp.refl _ _ _) w (.int _)⟩
  · cases h
    obtain ⟨a1, vs, rfl, q1, rr⟩ := ra.lst w.sub
    rw [rr.length] at k
    exact ⟨a1, vs, rfl, .inl (SqL.of q1), k S H _ (Stp.refl _ _ _) w (.int _)⟩
theorem as_tuple : Asks1 X CT (fun xs H Q => ∃ p ys, xs = [.ref p] ∧ ((SqL X.K H p ys ∧ ∀ l, H l = none → Q (.ref l) (upd H l (.tup ys))) ∨ (SqT X.K H p ys ∧ Q (.ref p) H))) (b1D .tuple) := fun p S H π a x d π' Q w ra h k => by
  cases a <;> first | (cases h; done) | skip
  · cases h
    obtain ⟨a1, vs, rfl, q1, q1s, rr⟩ := ra.tup w.sub
    exact ⟨a1, vs, rfl, .inr ⟨q1, k S H _ (Stp.refl _ _ _) w (.tup q1s rr)⟩⟩
  · cases h
    obtain ⟨a1, vs, rfl, q1, rr⟩ := ra.lst w.sub
    refine ⟨a1, vs, rfl, .inl ⟨SqL.of q1, fun q hq => ?_⟩⟩
    obtain ⟨t, w', e⟩ := w.new (o := .tup vs) hq
    exact k _ _ _ t w' (.tup (SqT.of e) (rr.mono t.s))
theorem as_list : Asks1 X CT (fun xs H Q => ∃ p ys, xs = [.ref p] ∧ (SqL X.K H p ys ∨ SqT X.K H p ys) ∧ ∀ l, H l = none → Q (.ref l) (upd H l (.lst ys))) (b1D .list) := fun p S H π a x d π' Q w ra h k => by
  cases a <;> first | (cases h; done) | skip
  · cases h
    obtain ⟨a1, vs, rfl, q1, q1s, rr⟩ := ra.tup w.sub
    refine ⟨a1, vs, rfl, .inr q1, fun q hq => ?_⟩
    obtain ⟨t, w', e⟩ := w.new (o := .lst vs) hq
    exact k _ _ _ t w' (.lst e (rr.mono t.s))
  · cases h
    obtain ⟨a1, vs, rfl, q1, rr⟩ := ra.lst w.sub
    refine ⟨a1, vs, rfl, .inl (SqL.of q1), fun q hq => ?_⟩
    obtain ⟨t, w', e⟩ := w.new (o := .lst vs) hq
    exact k _ _ _ t w' (.lst e (rr.mono t.s))
theorem as_int : Asks1 X CT (fun xs H Q => (∃ i, xs = [.int i] ∧ Q (.int i) H) ∨ ∃ k, xs = [.bl k] ∧ Q (.int (if k then 1 else 0)) H) (b1D .int) := fun p S H π a x d π' Q w ra h k => by
  cases a <;> first | (cases h; done) | skip
  · cases h
    rw [ra.bl]
    exact .inr ⟨_, rfl, k S H _ (Stp.refl _ _ _) w (.int _)⟩
  · cases h
    rw [ra.int]
    exact .inl ⟨_, rfl, k S H _ (Stp.refl _ _ _) w (.int _)⟩
theorem intsOf_some : ∀ {xs : List D} {is : List Int}, intsOf xs = some is → xs = is.map D.int
  | [], is, h => by cases h; rfl
  | d :: xs, is, h => by
    cases d <;> first | (cases h; done) | skip
    rename_i i
    have h : (intsOf xs).map (i :: ·) = some is := h
    cases e : intsOf xs with
    | none => rw [e] at h; cases h
    | some js => rw [e] at h; cases h; rw [intsOf_some e]; rfl
theorem blsOf_some : ∀ {xs : List D} {is : List Bool}, blsOf xs = some is → xs = is.map D.bl
  | [], is, h => by cases h; rfl
  | d :: xs, is, h => by
    cases d <;> first | (cases h; done) | skip
    rename_i i
    have h : (blsOf xs).map (i :: ·) = some is := h
    cases e : blsOf xs with
    | none => rw [e] at h; cases h
    | some js => rw [e] at h; cases h; rw [blsOf_some e]; rfl
theorem TRep.ints {K : PySem.W.Frag} {p : Addr} {S H : Hp} {is : List Int} {v : V} (h : TRep K CT p S H (.lst (is.map D.int)) v) (sub : Same S H) : ∃ a, v = .ref a ∧ H a = some (.lst (is.map V.int)) := by
  obtain ⟨a, vs, e, h1, r⟩ := h.lst sub
  rw [r.ints] at h1
  exact ⟨a, e, h1⟩
theorem TRep.bls {K : PySem.W.Frag} {p : Addr} {S H : Hp} {is : List Bool} {v : V} (h : TRep K CT p S H (.lst (is.map D.bl)) v) (sub : Same S H) : ∃ a, v = .ref a ∧ H a = some (.lst (is.map V.bl)) := by
  obtain ⟨a, vs, e, h1, r⟩ := h.lst sub
  rw [r.bls] at h1
  exact ⟨a, e, h1⟩
theorem intsM {xs : List D} {g : List Int → M D} {π π' : Pen} {d : D} (h : (match intsOf xs with | some is => g is | none => stuck) π = some (d, π')) : ∃ is, xs = is.map D.int ∧ g is π = some (d, π') := by
  cases e : intsOf xs with
  | none => rw [e] at h; cases h
  | some is => rw [e] at h; exact ⟨is, intsOf_some e, h⟩
theorem blsM {xs : List D} {g : List Bool → M D} {π π' : Pen} {d : D} (h : (match blsOf xs with | some is => g is | none => stuck) π = some (d, π')) : ∃ is, xs = is.map D.bl ∧ g is π = some (d, π') := by
  cases e : blsOf xs with
  | none => rw [e] at h; cases h
  | some is => rw [e] at h; exact ⟨is, blsOf_some e, h⟩
theorem as_sum : Asks1 X CT (rSum X.K) (b1D .sum) := fun p S H π a x d π' Q w ra h k => by
  cases a <;> first | (cases h; done) | skip
  obtain ⟨is, rfl, h2⟩ := intsM (g := fun is => ret (.int is.sum)) h
  cases h2
  obtain ⟨a, rfl, h1⟩ := ra.ints w.sub
  exact ⟨a, is, rfl, SqL.of h1, k S H _ (Stp.refl _ _ _) w (.int _)⟩
theorem as_all : Asks1 X CT (rAll X.K) (b1D .all) := fun p S H π a x d π' Q w ra h k => by
  cases a <;> first | (cases h; done) | skip
  obtain ⟨is, rfl, h2⟩ := blsM (g := fun is => ret (.bl (is.all id))) h
  cases h2
  obtain ⟨a, rfl, h1⟩ := ra.bls w.sub
  exact ⟨a, is, rfl, SqL.of h1, k S H _ (Stp.refl _ _ _) w (.bl _)⟩
theorem as_any : Asks1 X CT (rAny X.K) (b1D .any) := fun p S H π a x d π' Q w ra h k => by
  cases a <;> first | (cases h; done) | skip
  obtain ⟨is, rfl, h2⟩ := blsM (g := fun is => ret (.bl (is.any id))) h
  cases h2
  obtain ⟨a, rfl, h1⟩ := ra.bls w.sub
  exact ⟨a, is, rfl, SqL.of h1, k S H _ (Stp.refl _ _ _) w (.bl _)⟩
theorem maxI_spec : ∀ (is : List Int), 0 < is.length → maxI is ∈ is ∧ ∀ y ∈ is, y ≤ maxI is
  | [a], _ => ⟨by simp [maxI], by intro y hy; simp at hy; subst hy; exact Int.le_refl _⟩
  | a :: b :: r, _ => by
    obtain ⟨h1, h2⟩ := maxI_spec (b :: r) (by simp)
    have e : maxI (a :: b :: r) = if maxI (b :: r) > a then maxI (b :: r) else a := rfl
    rw [e]
    split
    · rename_i hgt
      refine ⟨List.mem_cons_of_mem _ h1, fun y hy => ?_⟩
      rcases List.mem_cons.mp hy with rfl | hy
      · omega
      · exact h2 y hy
    · rename_i hgt
      refine ⟨List.mem_cons_self .., fun y hy => ?_⟩
      rcases List.mem_cons.mp hy with rfl | hy
      · exact Int.le_refl _
      · have := h2 y hy; omega
theorem minI_spec : ∀ (is : List Int), 0 < is.length → minI is ∈ is ∧ ∀ y ∈ is, minI is ≤ y
  | [a], _ => ⟨by simp [minI], by intro y hy; simp at hy; subst hy; exact Int.le_refl _⟩
  | a :: b :: r, _ => by
    obtain ⟨h1, h2⟩ := minI_spec (b :: r) (by simp)
    have e : minI (a :: b :: r) = if minI (b :: r) < a then minI (b :: r) else a := rfl
    rw [e]
    split
    · rename_i hgt
      refine ⟨List.mem_cons_of_mem _ h1, fun y hy => ?_⟩
      rcases List.mem_cons.mp hy with rfl | hy
      · omega
      · exact h2 y hy
    · rename_i hgt
      refine ⟨List.mem_cons_self .., fun y hy => ?_⟩
      rcases List.mem_cons.mp hy with rfl | hy
      · exact Int.le_refl _
      · have := h2 y hy; omega
theorem as_max : Asks1 X CT (rMax X.K) (b1D .max) := fun p S H π a x d π' Q w ra h k => by
  cases a <;> first | (cases h; done) | skip
  obtain ⟨is, rfl, h2⟩ := intsM (g := fun is => guardM (decide (0 < is.length)) (ret (.int (maxI is)))) h
  obtain ⟨c, h3⟩ := guard_some h2
  cases h3
  obtain ⟨a, rfl, h1⟩ := ra.ints w.sub
  have hl := of_decide_eq_true c
  refine ⟨a, is, rfl, SqL.of h1, hl, fun m hm hg => ?_⟩
  obtain ⟨s1, s2⟩ := maxI_spec is hl
  have e : m = maxI is := Int.le_antisymm (s2 m hm) (hg _ s1)
  subst e
  exact k S H _ (Stp.refl _ _ _) w (.int _)
theorem as_min : Asks1 X CT (rMin X.K) (b1D .min) := fun p S H π a x d π' Q w ra h k => by
  cases a <;> first | (cases h; done) | skip
  obtain ⟨is, rfl, h2⟩ := intsM (g := fun is => guardM (decide (0 < is.length)) (ret (.int (minI is)))) h
  obtain ⟨c, h3⟩ := guard_some h2
  cases h3
  obtain ⟨a, rfl, h1⟩ := ra.ints w.sub
  have hl := of_decide_eq_true c
  refine ⟨a, is, rfl, SqL.of h1, hl, fun m hm hg => ?_⟩
  obtain ⟨s1, s2⟩ := minI_spec is hl
  have e : m = minI is := Int.le_antisymm (hg _ s1) (s2 m hm)
  subst e
  exact k S H _ (Stp.refl _ _ _) w (.int _)
theorem as_abs : Asks1 X CT (fun xs H Q => ∃ i, xs = [.int i] ∧ Q (.int (if i < 0 then -i else i)) H) (b1D .abs) := fun p S H π a x d π' Q w ra h k => by
  cases a <;> first | (cases h; done) | skip
  cases h
  rw [ra.int]
  exact ⟨_, rfl, k S H _ (Stp.refl _ _ _) w (.int _)⟩
def Asks2 (X : Cx) (CT : CTab) (r : List V → Hp → VK → Prop) (G : D → D → M D) : Prop := ∀ (p : Addr) (S H : Hp) (π : Pen) (a b : D) (x y : V) (d : D) (π' : Pen) (Q : VK), Wd p S π H → Rep X.K CT p S a x → Rep X.K CT p S b y → G a b π = some (d, π') →
  (∀ S' H' v, Stp p S H S' H' → Wd p S' π' H' → Rep X.K CT p S' d v → Q v H') → r [x, y] H Q
theorem snd_b2 {ma mb : Env' → M D} {e1 e2 : Expr} {x : Str} {id : String} {r : List V → Hp → VK → Prop} {G : D → D → M D} {p pos : Pos} (ha : SndE X CT ma e1) (hb : SndE X CT mb e2) (hr : Asks2 X CT r G) (hc : CallR X (.builtin id) r) (hg : Gl X x) (hm : X.mg x = none) (hv : bootBuiltins x = some (.builtin id)) (hn : x ≠ "__name__") (hdb : (x == ("__debug__" : Str)) = false) (hs : notStar e1 = true) (hs2 : notStar e2 = true) :
    SndE X CT (fun env => bnd (ma env) fun x => bnd (mb env) fun y => G x y) (.Call (.Name x p) [e1, e2] [] pos) := fun q S0 H0 S H env π σ d π' Q A h1 k => by
  obtain ⟨y, π1, h1, h2⟩ := bnd_some h1
  obtain ⟨z, π2, h2, h3⟩ := bnd_some h2
  refine qE_of (pe_callB hc hg hm hv (pa_cons peq (pa_cons peq pa_nil (starEach_of hs2 _ _)) (starEach_of hs _ _)) hn hdb (starEach_of hs _ _) (backTo_any _ _ _ (by simp [hs2]))) (ha q S0 H0 S H env π σ y π1 _ A h1 fun S1 H1 u t1 w1 r1 => ?_)
  refine hb q S0 H0 S1 H1 env π1 σ z π2 _ (A.next t1 w1) h2 fun S2 H2 v t2 w2 r2 => ?_
  exact hr q S2 H2 π2 y z u v d π' Q w2 (r1.mono t2.s) r2 h3 fun S' H' v t w r => k S' H' v ((t1.trans t2).trans t) w r
theorem as_max2 : Asks2 X CT (fun xs H Q => ∃ i j, xs = [.int i, .int j] ∧ Q (.int (if j > i then j else i)) H) (b2D .max) := fun p S H π a b x y d π' Q w ra rb h k => by
  cases a <;> cases b <;> first | (cases h; done) | skip
  cases h
  cases ra
  cases rb
  exact ⟨_, _, rfl, k S H _ (Stp.refl _ _ _) w (.int _)⟩
theorem as_min2 : Asks2 X CT (fun xs H Q => ∃ i j, xs = [.int i, .int j] ∧ Q (.int (if j < i then j else i)) H) (b2D .min) := fun p S H π a b x y d π' Q w ra rb h k => by
  cases a <;> cases b <;> first | (cases h; done) | skip
  cases h
  cases ra
  cases rb
  exact ⟨_, _, rfl, k S H _ (Stp.refl _ _ _) w (.int _)⟩
end
end UK

set_option Elab.async false
set_option linter.all false
set_option maxRecDepth 100000
set_option maxHeartbeats 4000000
namespace UK
open PySem PySem.Spec PyProof.Rows L2
section
variable {X : Cx} {CT : CTab}

/-! ### isinstance -/
def tyVal (K : PySem.W.Frag) (CT : CTab) : D → Value
  | .non => .type "NoneType"
  | .bl _ => .type "bool"
  | .int _ => .type "int"
  | .str _ => .type "str"
  | .tup _ => .type "tuple"
  | .lst _ => .type "list"
  | .ins c _ => match CT[c]? with
    | some (C, _) => .ref (He.ga K C)
    | none => .type "dict"
  | .dic _ _ => .type "dict"
  | .pen => .type "dict"
def clsV (K : PySem.W.Frag) (CT : CTab) : Ty → V
  | .int => .ty "int"
  | .bool => .ty "bool"
  | .str => .ty "str"
  | .tuple => .ty "tuple"
  | .list => .ty "list"
  | .cls c => match CT[c]? with
    | some (C, _) => .ref (He.ga K C)
    | none => .ty "int"
def clsU (K : PySem.W.Frag) (CT : CTab) : Ty → Value
  | .int => .type "int"
  | .bool => .type "bool"
  | .str => .type "str"
  | .tuple => .type "tuple"
  | .list => .type "list"
  | .cls c => match CT[c]? with
    | some (C, _) => .ref (He.ga K C)
    | none => .type "int"
theorem clsV_ok (K : PySem.W.Frag) (CT : CTab) (t : Ty) : ClsV (clsV K CT t) (clsU K CT t) := by
  cases t with
  | cls c =>
    unfold clsV clsU
    dsimp only
    cases e : CT[c]? with
    | none => exact .ty _
    | some q => exact .own _
  | _ => exact .ty _
theorem same_tyx {K : PySem.W.Frag} {H : Hp} {a : Addr} {xs : List V} (h : SqT K H a xs) : TyX K H (.ref a) (.type "tuple") := by
  rcases h with (h | ⟨o, h⟩) | ⟨o, its, n, hk, hc, _⟩
  · exact .base (.tup h)
  · exact .fTuple h
  · exact .kTuple hk hc
theorem TRep.tyx {K : PySem.W.Frag} {mg : Str → Option Value} {p : Addr} {S H : Hp} {π : Pen} {d : D} {v : V} (r : TRep K CT p S H d v) (w : Wd p S π H) (hc : ∀ (c : Nat) (C : Str) (fns : List Str), CT[c]? = some (C, fns) → ClsF K mg CT c C fns) : TyX K H v (tyVal K CT d) := by
  cases d with
  | non => rw [r.non]; exact .base .non
  | bl b => rw [r.bl]; exact .base (.bl _)
  | int b => rw [r.int]; exact .base (.int _)
  | str b => rw [r.str]; exact .base (.str _)
  | tup ds => obtain ⟨a, vs, rfl, h1, _⟩ := r.tup w.sub; exact same_tyx h1
  | lst ds => obtain ⟨a, vs, rfl, h1, _⟩ := r.lst w.sub; exact .base (.lst h1)
  | ins c ds =>
    obtain ⟨C, fns, a, dx, fvs, rfl, e, h1, _⟩ := r.ins w.sub
    have q := hc c C fns e
    unfold tyVal
    dsimp only
    rw [e]
    exact .base (.ins h1 q.cls q.a1 q.a2 q.a3 q.a4)
  | dic ks ds =>
    cases r with
    | st r => cases r with
      | dic h1 _ _ => exact .base (.dK (w.sub _ _ h1))
  | pen =>
    cases r with
    | st r =>
      cases r
      obtain ⟨c, h1, _⟩ := w.pen
      exact .base (.dK h1)
theorem kit_isT {K : PySem.W.Frag} {mg : Str → Option Value} {p : Addr} {S H : Hp} {d : D} {v : V} (hc : ∀ (c : Nat) (C : Str) (fns : List Str), CT[c]? = some (C, fns) → ClsF K mg CT c C fns) (t : Ty) (ht : ∀ c, t = .cls c → ∃ q, CT[c]? = some q)
    (hd : ∀ c ds, d = .ins c ds → ∃ q, CT[c]? = some q) : PySem.W.kitOne K (tyVal K CT d) (clsU K CT t) = some (isT d t) := by
  have cd : ∀ c ds, d = .ins c ds → ∃ C fns, CT[c]? = some (C, fns) ∧ tyVal K CT d = .ref (He.ga K C) := fun c ds e => by
    obtain ⟨⟨C, fns⟩, q⟩ := hd c ds e
    refine ⟨C, fns, q, ?_⟩
    rw [e]
    unfold tyVal
    dsimp only
    rw [q]
  have ct : ∀ c, t = .cls c → ∃ C fns, CT[c]? = some (C, fns) ∧ clsU K CT t = .ref (He.ga K C) := fun c e => by
    obtain ⟨⟨C, fns⟩, q⟩ := ht c e
    refine ⟨C, fns, q, ?_⟩
    rw [e]
    unfold clsU
    dsimp only
    rw [q]
  cases t with
  | cls c' =>
    obtain ⟨C', fns', e', q'⟩ := ct c' rfl
    rw [q']
    cases d with
    | ins c ds =>
      obtain ⟨C, fns, e, q⟩ := cd c ds rfl
      rw [q]
      exact (hc c C fns e).k3 c' C' fns' e'
    | _ => exact (hc c' C' fns' e').k1 _ (by simp [tyNames])
  | _ =>
    cases d with
    | ins c ds =>
      obtain ⟨C, fns, e, q⟩ := cd c ds rfl
      rw [q]
      exact (hc c C fns e).k2 _ (by simp [tyNames])
    | _ => first | exact kit_ty (r := true) (by decide +kernel) | exact kit_ty (r := false) (by decide +kernel)
theorem kit_any {K : PySem.W.Frag} {mg : Str → Option Value} {d : D} {v : V} {p : Addr} {S H : Hp} (hc : ∀ (c : Nat) (C : Str) (fns : List Str), CT[c]? = some (C, fns) → ClsF K mg CT c C fns)
    (hd : ∀ c ds, d = .ins c ds → ∃ q, CT[c]? = some q) : ∀ (ts : List Ty), (∀ t ∈ ts, ∀ c, t = .cls c → ∃ q, CT[c]? = some q) → PySem.W.kitAny K (tyVal K CT d) (ts.map (clsU K CT)) = some (ts.any (isT d))
  | [], _ => rfl
  | t :: ts, ht => by
    have h1 := kit_isT (p := p) (S := S) (H := H) (v := v) hc t (ht t (List.mem_cons_self ..)) hd
    have h2 := kit_any (v := v) (p := p) (S := S) (H := H) hc hd ts fun t h => ht t (List.mem_cons_of_mem _ h)
    rw [List.map_cons, List.any_cons]
    refine kitAny_cons h1 (fun e => ?_) fun e => ?_
    · rw [e, Bool.false_or]; exact h2
    · rw [e]; rfl
/-- a class as an expression -/
structure SndC (X : Cx) (CT : CTab) (t : Ty) (e : Expr) : Prop where
  pe : PE X e (tC (clsV X.K CT t))
  star : notStar e = true
  known : ∀ c, t = .cls c → ∃ q, CT[c]? = some q
theorem snc_ty {x : Str} {t : Ty} {n : String} {pos : Pos} (hg : Gl X x) (hm : X.mg x = none) (hv : bootBuiltins x = some (.type n)) (hn : x ≠ "__name__") (hdb : (x == ("__debug__" : Str)) = false) (e : clsV X.K CT t = .ty n) (hk : ∀ c, t ≠ .cls c) : SndC X CT t (.Name x pos) :=
  ⟨by rw [e]; exact pe_bltn hg hm hv rfl hn hdb, rfl, fun c q => absurd q (hk c)⟩
theorem snc_own {x : Str} {c : Nat} {fns : List Str} {pos : Pos} (hg : Gl X x) (hm : X.mg x = some (.ref (He.ga X.K x))) (hdb : (x == ("__debug__" : Str)) = false) (e : CT[c]? = some (x, fns)) : SndC X CT (.cls c) (.Name x pos) :=
  ⟨by
    have q : clsV X.K CT (.cls c) = .ref (He.ga X.K x) := by unfold clsV; dsimp only; rw [e]
    rw [q]; exact pe_glob hg hm rfl hdb, rfl, fun c' q => by cases q; exact ⟨_, e⟩⟩
theorem trep_ins_known {K : PySem.W.Frag} {p : Addr} {S H : Hp} {d : D} {v : V} (r : TRep K CT p S H d v) (sub : Same S H) : ∀ c ds, d = .ins c ds → ∃ q, CT[c]? = some q := fun c ds e => by
  subst e
  obtain ⟨C, fns, _, _, _, _, e, _⟩ := r.ins sub
  exact ⟨_, e⟩
theorem snd_isi1 {m : Env' → M D} {e ec : Expr} {t : Ty} {p pos : Pos} (h : SndP X CT m e) (hs : notStar e = true) (hc : SndC X CT t ec) (hcl : ∀ (c : Nat) (C : Str) (fns : List Str), CT[c]? = some (C, fns) → ClsF X.K X.mg CT c C fns) (hg : Gl X "isinstance") (hm : X.mg "isinstance" = none) :
    SndE X CT (fun env => bnd (m env) fun x => ret (.bl ([t].any (isT x)))) (.Call (.Name "isinstance" p) [e, ec] [] pos) := fun q S0 H0 S H env π σ d π' Q A h1 k => by
  obtain ⟨y, π1, h1, h2⟩ := bnd_some h1
  cases h2
  refine qE_of (pe_callB call_isi hg hm (by decide +kernel) (pa_cons peq (pa_cons hc.pe pa_nil (starEach_of hc.star _ _)) (starEach_of hs _ _)) (by decide) (by decide) (starEach_of hs _ _) (backTo_any _ _ _ (by simp [hc.star]))) (h q S0 H0 S H env π σ y _ _ A h1 fun S1 H1 u t1 w1 r1 => ?_)
  have ra := r1 S1 H1 _ (Stp.refl _ _ _) (A.next t1 w1)
  refine ⟨u, _, _, _, isT y t, rfl, clsV_ok _ _ _, ra.tyx w1 hcl, kit_isT (p := q) (S := S1) (H := H1) (v := u) hcl t hc.known (trep_ins_known ra w1.sub), ?_⟩
  have e : ([t].any (isT y)) = isT y t := by simp
  rw [e] at k
  exact k S1 H1 _ t1 w1 (.bl _)
/-- the classes of a tuple, one by one -/
inductive SndCs (X : Cx) (CT : CTab) : List Ty → List Expr → Prop
  | nil : SndCs X CT [] []
  | cons {t : Ty} {ts : List Ty} {e : Expr} {es : List Expr} : SndC X CT t e → SndCs X CT ts es → SndCs X CT (t :: ts) (e :: es)
theorem SndCs.pa : ∀ {ts : List Ty} {es : List Expr}, SndCs X CT ts es → ∃ ta, PA X es ta ∧ ∀ (σ : St) (H : Hp) (Q : List V → Hp → Prop), Q (ts.map (clsV X.K CT)) H → ta σ H Q
  | _, _, .nil => ⟨_, pa_nil, fun _ _ _ q => q⟩
  | _, _, .cons h t => by
    obtain ⟨ta, h1, h2⟩ := t.pa
    exact ⟨_, pa_cons h.pe h1 (starEach_of h.star _ _), fun σ H Q q => h2 σ H _ q⟩
theorem SndCs.cls (K : PySem.W.Frag) (CT : CTab) : ∀ (ts : List Ty), Paired ClsV (ts.map (clsV K CT)) (ts.map (clsU K CT))
  | [] => .nil
  | t :: ts => .cons (clsV_ok K CT t) (SndCs.cls K CT ts)
theorem SndCs.known : ∀ {ts : List Ty} {es : List Expr}, SndCs X CT ts es → ∀ t ∈ ts, ∀ c, t = .cls c → ∃ q, CT[c]? = some q
  | _, _, .nil, t, h => by cases h
  | _, _, .cons h r, t, hm => by
    rcases List.mem_cons.mp hm with rfl | hm
    · exact h.known
    · exact r.known t hm
theorem snd_isiN {m : Env' → M D} {e : Expr} {ecs : List Expr} {ts : List Ty} {p pos p2 : Pos} {kk : Nat} (h : SndP X CT m e) (hs : notStar e = true) (hc : SndCs X CT ts ecs) (hz : ts.length ≤ 1000) (hcl : ∀ (c : Nat) (C : Str) (fns : List Str), CT[c]? = some (C, fns) → ClsF X.K X.mg CT c C fns) (hg : Gl X "isinstance") (hm : X.mg "isinstance" = none) :
    SndE X CT (fun env => bnd (m env) fun x => ret (.bl (ts.any (isT x)))) (.Call (.Name "isinstance" p) [e, .Tuple ecs kk p2] [] pos) := fun q S0 H0 S H env π σ d π' Q A h1 k => by
  obtain ⟨y, π1, h1, h2⟩ := bnd_some h1
  cases h2
  obtain ⟨ta, pa, ka⟩ := hc.pa
  refine qE_of (pe_callB call_isiT hg hm (by decide +kernel) (pa_cons peq (pa_cons (pe_tup pa) pa_nil rfl) (starEach_of hs _ _)) (by decide) (by decide) (starEach_of hs _ _) rfl) (h q S0 H0 S H env π σ y _ _ A h1 fun S1 H1 u t1 w1 r1 => ?_)
  refine ka σ H1 _ ⟨by rw [List.length_map]; exact Nat.le_of_lt (small1000 hz), fun a ha => ?_⟩
  obtain ⟨t, w', e⟩ := w1.new (o := .tup (ts.map (clsV X.K CT))) ha
  have A2 := (A.next t1 w1).next t w'
  have ra := r1 _ _ _ t A2
  refine ⟨u, a, _, _, _, ts.any (isT y), rfl, upd_same, SndCs.cls X.K CT ts, ra.tyx w' hcl, kit_any (v := u) (p := q) (S := S1) (H := H1) hcl (trep_ins_known ra w'.sub) ts hc.known, ?_⟩
  exact k _ _ _ (t1.trans t) w' (.bl _)

/-! ### calls of the text's own defs, its classes -/
variable {T : Tabs} {FN : FTab} {φ ψ : Fns} {k : Nat} {N : List Str} {sc : Scope}
theorem snd_call {m : Env' → M (List D)} {x : Str} {e : Expr} {es : List Expr} {i n : Nat} {p pos : Pos} (C : Gok X T FN φ ψ k) (hroom : Room (k + 1) X.A) (hi : FN[i]? = some ((x, none), n)) (hrw : T.rwf.contains i = false) (h : SndA X T.CT m (e :: es)) (hl : ∀ env π r, m env π = some r → r.1.length = n) (hg : Gl X x) (hdb : (x == ("__debug__" : Str)) = false) (hs : notStar e = true) (hs2 : es.all notStar = true) :
    SndE X T.CT (fun env => bnd (m env) fun xs => φ i xs) (.Call (.Name x p) (e :: es) [] pos) := fun q S0 H0 S H env π σ d π' Q A hm kk => by
  obtain ⟨xs, π1, h1, h2⟩ := bnd_some hm
  obtain ⟨fd, ps, hps, F, hb, hk⟩ := C.fns i _ n hi
  rw [hrw] at F
  change FnOk _ _ _ _ _ _ _ _ _ _ (spF X.K T.CT n (φ i)) at F
  refine qE_of (pe_call (E := E0) F (hroom.mono (Nat.le_succ k)) hg (C.glob i x n hi) hk hb .nil pass0 paq hdb (starEach_of hs _ _) (backTo_any _ _ _ hs2)) (h q S0 H0 S H env π σ xs π1 _ A h1 fun S1 H1 vs t1 w1 r1 => ?_)
  rw [List.append_nil]
  refine ⟨q, S1, π1, xs, d, π', by rw [← r1.length]; exact hl _ _ _ h1, w1, r1, h2, fun S' H' v t w r => kk S' H' v (t1.trans t) w r⟩
theorem snd_call0 {x : Str} {i : Nat} {p pos : Pos} (C : Gok X T FN φ ψ k) (hroom : Room (k + 1) X.A) (hi : FN[i]? = some ((x, none), 0)) (hrw : T.rwf.contains i = false) (hg : Gl X x) (hdb : (x == ("__debug__" : Str)) = false) :
    SndE X T.CT (fun _ => φ i []) (.Call (.Name x p) [] [] pos) := fun q S0 H0 S H env π σ d π' Q A hm kk => by
  obtain ⟨fd, ps, hps, F, hb, hk⟩ := C.fns i _ 0 hi
  rw [hrw] at F
  change FnOk _ _ _ _ _ _ _ _ _ _ (spF X.K T.CT 0 (φ i)) at F
  exact qE_of (pe_call0 (E := E0) F (hroom.mono (Nat.le_succ k)) hg (C.glob i x 0 hi) hk hb .nil pass0 hdb) ⟨q, S, π, [], d, π', rfl, A.wd, .nil, hm, kk⟩
theorem snd_mk {m : Env' → M (List D)} {x : Str} {e : Expr} {es : List Expr} {c : Nat} {fns : List Str} {p pos : Pos} (C : Gok X T FN φ ψ k) (hroom : Room (k + 1) X.A) (hi : T.CT[c]? = some (x, fns)) (h : SndA X T.CT m (e :: es))
    {n : Nat} (hn : T.ar[c]? = some n) (hl : ∀ env π r, m env π = some r → r.1.length = n) (hg : Gl X x) (hdb : (x == ("__debug__" : Str)) = false) (hs : notStar e = true) (hs2 : es.all notStar = true) :
    SndE X T.CT (fun env => bnd (m env) fun xs => ψ c xs) (.Call (.Name x p) (e :: es) [] pos) := fun q S0 H0 S H env π σ d π' Q A hm kk => by
  obtain ⟨xs, π1, h1, h2⟩ := bnd_some hm
  have cl := C.cls c x fns hi
  obtain ⟨fd, ps, hps, F, hb⟩ := C.ini c x fns n hi hn
  refine qE_of (pe_make (E := E0) cl.maker F hroom hg cl.glob hb .nil pass0 paq hdb (starEach_of hs _ _) (backTo_any _ _ _ hs2)) (h q S0 H0 S H env π σ xs π1 _ A h1 fun S1 H1 vs t1 w1 r1 => ?_)
  intro a dx ha hdx ne
  rw [List.append_nil]
  refine ⟨q, S1, H1, π1, a, dx, vs, xs, d, π', rfl, by rw [← r1.length]; exact hl _ _ _ h1, rfl, ha, hdx, ne, w1, r1, h2, fun S' H' t w r => ⟨rfl, kk S' H' _ (t1.trans t) w r⟩⟩

/-! ### attributes -/
def attrOk : Expr → Bool
  | .Call _ [] _ _ => false
  | _ => true
theorem attr_ok {e : Expr} (h : attrOk e = true) (f : Str) (env : Env) : attributeBase e f env (eval e env) = eval e env := by
  cases e with
  | Call fn as kws pos =>
    cases as with
    | nil => cases h
    | cons a r => cases fn <;> rfl
  | _ => rfl
theorem lookup_ix {x : Str} : ∀ {fvs : List (Str × V)} {r : List Str} {v : V}, (fvs.map (·.2))[(fvs.map (·.1) ++ r).idxOf x]? = some v → fvs.lookup x = some v
  | [], r, v, h => by simp at h
  | (k, u) :: fvs, r, v, h => by
    rw [List.map_cons, List.map_cons, List.cons_append, List.idxOf_cons] at h
    rw [List.lookup_cons]
    by_cases e : k = x
    · subst e
      have h1 : (k == k) = true := by simp
      rw [h1] at h
      simp at h
      rw [h1]
      exact congrArg some h
    · have h1 : (k == x) = false := beq_eq_false_iff_ne.mpr e
      have h2 : (x == k) = false := beq_eq_false_iff_ne.mpr fun q => e q.symm
      rw [h1] at h
      rw [h2]
      exact lookup_ix (r := r) (by simpa using h)
theorem idxOf_mem_lt {x : Str} {l : List Str} {n : Nat} (h : l.idxOf x < n) (hn : n ≤ l.length) : x ∈ l := by
  have : l.idxOf x < l.length := Nat.lt_of_lt_of_le h hn
  exact List.idxOf_lt_length_iff.mp this
theorem snd_fld {m : Env' → M D} {e : Expr} {f : Str} {pos : Pos} (h : SndP X CT m e) (hcl : ∀ (c : Nat) (C : Str) (fns : List Str), CT[c]? = some (C, fns) → ClsF X.K X.mg CT c C fns) (hb : attrOk e = true) : SndE X CT (fun env => bnd (m env) fun d => fldD CT f d) (.Attribute e f pos) := fun q S0 H0 S H env π σ d π' Q A hm k => by
  obtain ⟨y, π1, h1, h2⟩ := bnd_some hm
  refine qE_of (pe_fld peq (attr_ok hb f _)) (h q S0 H0 S H env π σ y π1 _ A h1 fun S1 H1 u t1 w1 r1 => ?_)
  have ra := r1 S1 H1 π1 (Stp.refl _ _ _) (A.next t1 w1)
  cases y <;> first | (cases h2; done) | skip
  rename_i c ds
  obtain ⟨C, fns, a, dx, fvs, rfl, e1, hH, e2, rr, _⟩ := ra.ins w1.sub
  have h2 : (match CT[c]? with | some (_, fns) => opt (ds[fns.idxOf f]?) | none => stuck) π1 = some (d, π') := h2
  rw [e1] at h2
  obtain ⟨e3, rfl⟩ := opt_some (show opt (ds[fns.idxOf f]?) π1 = some (d, π') from h2)
  obtain ⟨v, e4, rv⟩ := rr.get e3
  have cl := hcl c C fns e1
  have hlt : fns.idxOf f < (fvs.map (·.2)).length := (List.getElem?_eq_some_iff.mp e4).1
  have hmem : f ∈ fns := idxOf_mem_lt hlt (by rw [← e2]; simp)
  have e5 := e4
  rw [← e2] at e5
  exact ⟨a, _, dx, fvs, v, rfl, hH, cl.cls, cl.noat f hmem, lookup_ix (r := []) (by rw [List.append_nil]; exact e5), k S1 H1 v t1 w1 rv⟩

theorem snd_nfl {i : Nat} {x f : Str} {p1 pos : Pos} (hN : X.N[i]? = some x) (hv : Vis X.env.scope x) (hd : (x == ("__debug__" : Str)) = false) (hcd : (x == ("__classdict__" : Str)) = false) (hcl : ∀ (c : Nat) (C : Str) (fns : List Str), CT[c]? = some (C, fns) → ClsF X.K X.mg CT c C fns) :
    SndE X CT (fun env => nflD CT f env i) (.Attribute (.Name x p1) f pos) := fun q S0 H0 S H env π σ d π' Q A hm k => by
  have hm : nflD CT f env i π = some (d, π') := hm
  unfold nflD at hm
  cases e : env[i]? with
  | none => rw [e] at hm; cases hm
  | some s =>
    rw [e] at hm
    cases s with
    | un => cases hm
    | ow ds => cases hm
    | rw rss => cases hm
    | sh d' =>
      have hv2 : SndE X CT (fun env => getSh env i) (.Name x p1) := snd_var hN hv hd hcd
      refine (snd_fld (f := f) (pos := pos) hv2.p hcl rfl) q S0 H0 S H env π σ d π' Q A ?_ k
      show bnd (getSh env i) (fun d => fldD CT f d) π = some (d, π')
      unfold getSh
      rw [e]
      exact hm
    | se c fs =>
      obtain ⟨e3, rfl⟩ := opt_some hm
      obtain ⟨a, dx, C, fns, fvs, e2, h0, h1, h2, ⟨r', h3⟩, r, _⟩ := A.ok i _ e
      have cl := hcl c C fns h0
      have lk : ∀ {fs : List (Str × D)} {fvs : List (Str × V)}, fvs.map (·.1) = fs.map (·.1) → Reps X.K CT q S (fs.map (·.2)) (fvs.map (·.2)) → fs.lookup f = some d → ∃ v, fvs.lookup f = some v ∧ Rep X.K CT q S d v := by
        intro fs
        induction fs with
        | nil => intro fvs _ _ h; cases h
        | cons u fs ih =>
          intro fvs e1 r h
          cases fvs with
          | nil => cases e1
          | cons w fvs =>
            obtain ⟨k1, d1⟩ := u
            obtain ⟨k2, v2⟩ := w
            simp only [List.map_cons, List.cons.injEq] at e1
            obtain ⟨rfl, e1⟩ := e1
            cases r with
            | cons r1 r2 =>
              rw [List.lookup_cons] at h ⊢
              cases z : (f == k2) with
              | true => rw [z] at h; cases h; exact ⟨_, rfl, r1⟩
              | false => rw [z] at h; exact ih e1 r2 h
      have lm : ∀ {fs : List (Str × D)}, fs.lookup f = some d → f ∈ fs.map (·.1) := by
        intro fs
        induction fs with
        | nil => intro h; cases h
        | cons u fs ih =>
          intro h
          obtain ⟨k1, d1⟩ := u
          rw [List.lookup_cons] at h
          cases z : (f == k1) with
          | true => rw [List.map_cons, eq_of_beq z]; exact List.mem_cons_self ..
          | false => rw [z] at h; exact List.mem_cons_of_mem _ (ih h)
      obtain ⟨v, e4, rv⟩ := lk h2 r e3
      have hmem : f ∈ fns := by rw [h3]; exact List.mem_append_left _ (lm e3)
      exact qE_of (pe_fld (pe_var hN hv hd hcd) rfl) ⟨.ref a, e2, a, _, dx, fvs, v, rfl, h1, cl.cls, cl.noat f hmem, e4, k S H v (Stp.refl _ _ _) A.wd rv⟩
end
end UK

set_option Elab.async false
set_option linter.all false
set_option maxRecDepth 100000
set_option maxHeartbeats 4000000
namespace PySem.W
open Builtin
section
variable {prog : Program} {w : World} {A : Around} {E : Value → Shared → Prop} {s : Shared} {K : Frag} {x C L f : Addr} {h₀ : Heap} {m : Str → Option Value} {ox : Obj} {od : Option Obj} {b tb : Value}
theorem ukIfBoundB {M : Model} {name : Str} {id : String} {args : List Value} {Q : Option Value → Shared → Prop} (X : K.In s.heap) (I : InstAt s.heap x ox C od) (hs : findIn K (.ref C) name = some (some (.builtin id)))
    (hb : ∀ self, bindSpecial (.builtin id) self = pure (.builtin id, [self])) (h : wpAny M A (call (.builtin id) (.ref x :: args)) (fun v => Q (some v)) E s) : wpAny M A (callSpecialIfBound? (.ref x) name args) Q E s := by
  simp only [callSpecialIfBound?, bindSpecialIfBound?]
  refine wpAny_holding (wpAny_bind (wpAny_bind (wpAny_bind (I.type.here ((looks_findIn X hs).here ?_)))))
  simp only [hb]
  refine wpAny_bind (wpAny_askSetting (wpAny_ite ?_))
  have fin : wpAny M A (call (.builtin id) ([.ref x] ++ args) >>= fun v => pure (some v)) Q E s := wpAny_bind (wpAny_mono h (fun v s' h' => wpAny_pure h') fun _ _ h' => h')
  split
  · exact wpAny_bind (wpAny_pure (wpAny_pure fin))
  · exact wpAny_tryCatch (wpAny_bind (wpAny_pure (wpAny_pure fin)))
/-- object.__ne__ of an instance with an own __eq__ that tells a truth -/
theorem ukObjNe {y : Addr} {Q : Value → Shared → Prop} (hu : A.in1.units < cLine) (X : K.In s.heap) (I : InstAt s.heap x ox C od) (hm : mroIn K C (.type "object") = some true) (hr : findIn K (.ref C) "__eq__" = some (some (.ref f))) (hf : isFn K (.ref f) = true)
    (h : wpAny (model prog w) A.in1 (call (.ref f) [.ref x, .ref y]) (fun v s' => ∃ r, v = .bool r ∧ Q (.bool (!r)) s') E s) : wpAny (model prog w) A (call (.builtin "object.__ne__") [.ref x, .ref y]) Q E s := by
  refine wpAny_call (codeAny_call_builtin PySem.F.slot_object_ne.plain PySem.F.cmpEntry_ne (check_slot (i := "object.__ne__") (owner := "object") (n := "__ne__") (by decide +kernel) (by decide +kernel) (I.type.andThen (looks_mroIn X hm)) (PySem.F.cmpArgs_ne _ _) ?_))
  unfold Builtin.«object.__ne__»
  refine wpAny_bind (m := slotArgs "__ne__" 1 _) (wpAny_pure ?_)
  refine wpAny_bind (m := cRoomFor _ _) (wpAny_cRoomFor hu ?_)
  refine wpAny_bind (m := callSpecialIfBound? (.ref x) (Str.ofString "__eq__") _) (ifBound_K X I hr hf (wpAny_mono h (fun r s' hq => ?_) fun _ _ y => y))
  obtain ⟨r, rfl, hq⟩ := hq
  exact wpAny_bind (wpAny_truthy_bool (wpAny_pure hq))
theorem ukNe {y : Addr} {oy : Obj} {ody : Option Obj} {Q : Value → Shared → Prop} (hu : A.units < cLine) (hu1 : A.in1.units < cLine) (X : K.In s.heap) (I : InstAt s.heap x ox C od) (J : InstAt s.heap y oy C ody) (hm : mroIn K C (.type "object") = some true)
    (hn : findIn K (.ref C) "__ne__" = some (some (.builtin "object.__ne__"))) (hr : findIn K (.ref C) "__eq__" = some (some (.ref f))) (hf : isFn K (.ref f) = true)
    (h : wpAny (model prog w) A.in1 (call (.ref f) [.ref x, .ref y]) (fun v s' => ∃ r, v = .bool r ∧ Q (.bool (!r)) s') E s) : wpAny (model prog w) A (richCompare .NotEq (.ref x) (.ref y)) Q E s := by
  have one : wpAny (model prog w) A (tryCompare (.ref x) (cmpInfo .NotEq).2.1 (.ref y)) (fun r s' => ∃ v, r = some v ∧ Q v s') E s := by
    unfold tryCompare
    refine wpAny_bind (ukIfBoundB X I hn PySem.F.slot_object_ne.bind (ukObjNe hu1 X I hm hr hf (wpAny_mono h (fun v s' hv => ?_) fun _ _ e => e)))
    obtain ⟨r, rfl, hq⟩ := hv
    exact ⟨r, rfl, wpAny_pure ⟨_, rfl, hq⟩⟩
  unfold richCompare
  simp only [oneThing_ref]
  refine wpAny_holding (wpAny_bind (wpAny_cRoomFor hu ?_))
  refine wpAny_bind (I.type.here (wpAny_bind (J.type.here ?_)))
  rw [if_neg (by simp)]
  refine wpAny_bind (wpAny_pure ?_)
  simp only [Bool.false_eq_true, if_false]
  refine wpAny_bind (wpAny_mono one (fun r s' z => ?_) fun _ _ e => e)
  obtain ⟨v, rfl, hq⟩ := z
  exact wpAny_pure hq
end
end PySem.W
namespace UK
open PySem PySem.Spec PyProof.Rows L2
section
variable {X : Cx} {T : Tabs} {FN : FTab} {φ ψ : Fns} {k : Nat}
/-- the own == of a class, run in a room A -/
theorem run_eq {C : Str} {fns : List Str} {i c : Nat} (G : Gok X T FN φ ψ k) (h1 : T.CT[c]? = some (C, fns)) (h2 : FN[i]? = some ((C, some ("__eq__" : Str)), 2)) (hrw : T.rwf.contains i = false) {A : Around} (hr : Room k A) (hfr : A.frames = X.A.frames) (hx : X.xe = fun _ _ => False)
    {pins : List (Addr × Obj)} {s : Shared} {σ : St} {H : Hp} {a b : Addr} {Q : VK} (I : Inv X pins σ H s) (hsp : spF X.K T.CT 2 (φ i) [.ref a, .ref b] H Q E0) :
    wpAny (model X.prog X.w) A (call (.ref (He.ma X.K (He.ga X.K C) "__eq__")) [.ref a, .ref b]) (EP X pins σ Q) X.xe s := by
  obtain ⟨fd, ps, hps, F, hb, hk⟩ := G.fns i _ 2 h2
  rw [hrw] at F
  change FnOk _ _ _ _ _ _ _ _ _ _ (spF X.K T.CT 2 (φ i)) at F
  have e0 : Env0 X.prog X.w X.K X.mg X.base A X.stack s H := by
    have e := I.env0
    exact ⟨by rw [hfr]; exact e.frames, e.mod, e.bs, e.bsz, e.funs, e.frf, e.hok, e.bare⟩
  have r2 : Vals [V.ref a, V.ref b] [Value.ref a, Value.ref b] := .cons rfl (.cons rfl .nil)
  refine wpAny_call (codeAny_mono (F.run A X.stack s H ⟨[.ref a, .ref b], []⟩ [.ref a, .ref b] [.ref a, .ref b] _ E0 hr e0 (by
    have := hb s [.ref a, .ref b] I.kIn (by simpa using hps.symm)
    simpa using this) r2 hsp) fun r s' hq => ?_)
  cases r with
  | error e => exact hq.elim
  | ok fl =>
    cases fl with
    | ret w => exact I.after hq
    | next => exact False.elim hq
    | brk => exact False.elim hq
    | cont => exact False.elim hq
theorem eqM_some {eqt : EqT} {a b : D} {π π' : Pen} {d : D} (h : eqM φ eqt a b π = some (d, π')) : (∃ c xs ys f, a = .ins c xs ∧ b = .ins c ys ∧ eqt.lookup c = some f ∧ φ f [.ins c xs, .ins c ys] π = some (d, π')) ∨ (∃ r, eqD a b = some r ∧ d = .bl r ∧ π' = π) := by
  have data : ∀ {a b : D}, (match eqD a b with | some r => (ret (.bl r) : M D) | none => stuck) π = some (d, π') → ∃ r, eqD a b = some r ∧ d = .bl r ∧ π' = π := fun {a b} h => by
    cases e : eqD a b with
    | none => rw [e] at h; cases h
    | some r => rw [e] at h; cases h; exact ⟨r, rfl, rfl, rfl⟩
  cases a with
  | ins c xs =>
    cases b with
    | ins c' ys =>
      left
      unfold eqM at h
      dsimp only at h
      by_cases e : c = c'
      · subst e
        cases q : eqt.lookup c with
        | none => rw [q, decide_eq_true rfl] at h; cases h
        | some f => rw [q, decide_eq_true rfl] at h; exact ⟨c, xs, ys, f, rfl, rfl, q, h⟩
      · rw [decide_eq_false e] at h
        cases q : eqt.lookup c <;> (rw [q] at h; cases h)
    | _ => exact .inr (data h)
  | _ => exact .inr (data h)
theorem o_eq (G : Gok X T FN φ ψ k) (hr : Room (k + 1) X.A) (hx : X.xe = fun _ _ => False) : OpSnd X T.CT (compareOp .Eq) (cmpM φ T.eqt .eq) := fun p S H π a b x y d π' Q w ra rb h kk => by
  rcases eqM_some (show eqM φ T.eqt a b π = some (d, π') from h) with ⟨c, xs, ys, i, rfl, rfl, e1, e2⟩ | ⟨r, e1, rfl, rfl⟩
  · obtain ⟨C, fns, h1, h2, hrw, h3, h4, h5⟩ := G.eqs c i e1
    obtain ⟨C', fns', a1, dx1, fvs1, rfl, q1, hH1, _, _, R1⟩ := ra.ins w.sub
    obtain ⟨C2, fns2, a2, dx2, fvs2, rfl, q2, hH2, _, _, R2⟩ := rb.ins w.sub
    rw [h1] at q1 q2
    cases q1
    cases q2
    intro pins s σ v u I rx ry
    cases rx
    cases ry
    obtain ⟨mA, J, _⟩ := ins_get I.hok hH1
    obtain ⟨mB, J', _⟩ := ins_get I.hok hH2
    obtain ⟨od, J, _⟩ := J.look
    obtain ⟨od', J', _⟩ := J'.look
    obtain ⟨m, hF⟩ := I.fr
    show wpAny (model X.prog X.w) X.A (richCompare .Eq (.ref a1) (.ref a2)) (EP X pins σ Q) X.xe s
    refine PySem.W.cmp_K (op := .Eq) (tb := .ref (He.ga X.K C)) hr.units0 hF I.ok.mod.kin J J'.type (by simp [PySem.W.notFirst]) h3 h4 ?_
    refine thn (run_eq G h1 h2 hrw (hr.mono (Nat.le_succ k)) rfl hx I (Q := Q) ?_) fun v s' q => ?_
    · exact ⟨p, S, π, _, d, π', rfl, w, .cons R1 (.cons R2 .nil), e2, kk⟩
    · obtain ⟨z, H', I', rz, qz⟩ := q
      have : EP X pins σ Q v s' := ⟨z, H', I', rz, qz⟩
      cases v <;> first | exact this | (cases z <;> first | (obtain ⟨_, rz⟩ := rz; cases rz; done) | (cases rz; done))
  · obtain ⟨x', y', e2, e3, s1, s2, rfl⟩ := eqD_some e1
    exact qR2_of (op_eqD hr.units) ⟨x', y', ra.dp w.sub e2, rb.dp w.sub e3, s1, s2, kk S H _ (Stp.refl _ _ _) w (.bl _)⟩
theorem o_ne (G : Gok X T FN φ ψ k) (hr : Room (k + 1) X.A) (hx : X.xe = fun _ _ => False) : OpSnd X T.CT (compareOp .NotEq) (cmpM φ T.eqt .ne) := fun p S H π a b x y d π' Q w ra rb h kk => by
  obtain ⟨r0, π1, h0, h9⟩ := bnd_some (show bnd (eqM φ T.eqt a b) notD π = some (d, π') from h)
  rcases eqM_some h0 with ⟨c, xs, ys, i, rfl, rfl, e1, e2⟩ | ⟨r, e1, rfl, rfl⟩
  · obtain ⟨C, fns, h1, h2, hrw, h3, h4, h5⟩ := G.eqs c i e1
    obtain ⟨C', fns', a1, dx1, fvs1, rfl, q1, hH1, _, _, R1⟩ := ra.ins w.sub
    obtain ⟨C2, fns2, a2, dx2, fvs2, rfl, q2, hH2, _, _, R2⟩ := rb.ins w.sub
    rw [h1] at q1 q2
    cases q1
    cases q2
    intro pins s σ v u I rx ry
    cases rx
    cases ry
    obtain ⟨mA, J, _⟩ := ins_get I.hok hH1
    obtain ⟨mB, J', _⟩ := ins_get I.hok hH2
    obtain ⟨od, J, _⟩ := J.look
    obtain ⟨od', J', _⟩ := J'.look
    show wpAny (model X.prog X.w) X.A (richCompare .NotEq (.ref a1) (.ref a2)) (EP X pins σ Q) X.xe s
    have rin : Room k X.A.in1 := hr.in1
    refine PySem.W.ukNe hr.units0 rin.units0 I.kIn J J' (G.cls c C fns h1).a4 h5 h3 h4 ?_
    cases r0 <;> first | (cases h9; done) | skip
    rename_i r
    cases h9
    refine thn (run_eq G h1 h2 hrw rin rfl hx I (Q := fun v H' => ∃ r, v = .bl r ∧ Q (.bl (!r)) H') ?_) fun v s' q => ?_
    · refine ⟨p, S, π, _, _, _, rfl, w, .cons R1 (.cons R2 .nil), e2, fun S' H' v t w' r => ?_⟩
      cases r
      exact ⟨_, rfl, kk S' H' _ t w' (.bl _)⟩
    · obtain ⟨z, H', I', rz, r', ez, qz⟩ := q
      subst ez
      cases rz
      exact ⟨r', rfl, .bl (!r'), H', I', rfl, qz⟩
  · cases h9
    obtain ⟨x', y', e2, e3, s1, s2, rfl⟩ := eqD_some e1
    exact qR2_of (op_neD hr.units) ⟨x', y', ra.dp w.sub e2, rb.dp w.sub e3, s1, s2, kk S H _ (Stp.refl _ _ _) w (.bl _)⟩
end
end UK

set_option Elab.async false
set_option linter.all false
set_option maxRecDepth 100000
set_option maxHeartbeats 4000000
namespace UK
open PySem PySem.Spec PyProof.Rows L2
section
variable {K : PySem.W.Frag} {CT : CTab} {p : Addr} {S0 : Hp} {H0 : Hs} {S H S' H' : Hp} {env : Env'} {π π' : Pen} {σ : St}

/-! ### slots set, forgotten -/
theorem Agr.set (A : Agr K CT p S0 H0 S H env π σ) {i : Nat} {d : D} {v : V} (r : Rep K CT p S d v) : Agr K CT p S0 H0 S H (env.set i (.sh d)) π (σ.set i (some v)) := by
  refine ⟨A.st, A.wd, by simp [A.len], fun j s e => ?_, fun j j' s t a hne e1 e2 q1 q2 => ?_⟩
  · by_cases h : i = j
    · subst h
      have hl : i < env.length := by
        have := (List.getElem?_eq_some_iff.mp e).1
        simpa using this
      rw [List.getElem?_set_self hl] at e
      cases e
      exact ⟨v, by rw [List.getElem?_set_self (by rw [← A.len]; exact hl)], r⟩
    · rw [List.getElem?_set_ne h] at e
      rw [List.getElem?_set_ne h]
      exact A.ok j s e
  · have n1 : i ≠ j := fun h => by
      subst h
      have hl : i < env.length := by
        have := (List.getElem?_eq_some_iff.mp e1).1
        simpa using this
      rw [List.getElem?_set_self hl] at e1
      cases e1
      exact q1
    have n2 : i ≠ j' := fun h => by
      subst h
      have hl : i < env.length := by
        have := (List.getElem?_eq_some_iff.mp e2).1
        simpa using this
      rw [List.getElem?_set_self hl] at e2
      cases e2
      exact q2
    rw [List.getElem?_set_ne n1] at e1 q1
    rw [List.getElem?_set_ne n2] at e2 q2
    exact A.dis j j' s t a hne e1 e2 q1 q2
theorem Agr.unset (A : Agr K CT p S0 H0 S H env π σ) (i : Nat) : Agr K CT p S0 H0 S H (env.set i .un) π (σ.set i none) := by
  refine ⟨A.st, A.wd, by simp [A.len], fun j s e => ?_, fun j j' s t a hne e1 e2 q1 q2 => ?_⟩
  · by_cases h : i = j
    · subst h
      have hl : i < env.length := by
        have := (List.getElem?_eq_some_iff.mp e).1
        simpa using this
      rw [List.getElem?_set_self hl] at e
      cases e
      trivial
    · rw [List.getElem?_set_ne h] at e
      rw [List.getElem?_set_ne h]
      exact A.ok j s e
  · have n1 : i ≠ j := fun h => by
      subst h
      have hl : i < env.length := by
        have := (List.getElem?_eq_some_iff.mp e1).1
        simpa using this
      rw [List.getElem?_set_self hl] at e1
      cases e1
      exact q1
    have n2 : i ≠ j' := fun h => by
      subst h
      have hl : i < env.length := by
        have := (List.getElem?_eq_some_iff.mp e2).1
        simpa using this
      rw [List.getElem?_set_self hl] at e2
      cases e2
      exact q2
    rw [List.getElem?_set_ne n1] at e1 q1
    rw [List.getElem?_set_ne n2] at e2 q2
    exact A.dis j j' s t a hne e1 e2 q1 q2
theorem Agr.wipe (A : Agr K CT p S0 H0 S H env π σ) : ∀ vs : List Nat, Agr K CT p S0 H0 S H (wipeE env vs) π (L2.wipe σ vs)
  | [] => A
  | v :: vs => (A.wipe vs).unset v
theorem wipe_get (σ : St) : ∀ (vs : List Nat) (j : Nat), (L2.wipe σ vs)[j]? = if j ∈ vs then (σ[j]?).map (fun _ => none) else σ[j]?
  | [], j => by simp [L2.wipe]
  | v :: vs, j => by
    unfold L2.wipe
    by_cases h : v = j
    · subst h
      rw [if_pos (List.mem_cons_self ..)]
      by_cases hl : v < σ.length
      · rw [List.getElem?_set_self (by rw [wipe_length]; exact hl), List.getElem?_eq_getElem hl]
        rfl
      · rw [List.getElem?_eq_none (by rw [List.length_set, wipe_length]; omega), List.getElem?_eq_none (by omega)]
        rfl
    · rw [List.getElem?_set_ne h, wipe_get σ vs j]
      by_cases hm : j ∈ vs
      · rw [if_pos hm, if_pos (List.mem_cons_of_mem _ hm)]
      · rw [if_neg hm, if_neg]
        intro z
        rcases List.mem_cons.mp z with z | z
        · exact h z.symm
        · exact hm z
theorem wipe_back {σ σ' : St} {vs is : List Nat} (hl : σ'.length = σ.length) (h : ∀ j, j ∉ is → σ'[j]? = (L2.wipe σ vs)[j]?) (hs : ∀ i ∈ is, i ∈ vs) : L2.wipe σ' vs = L2.wipe σ vs := by
  apply List.ext_getElem?
  intro j
  rw [wipe_get σ' vs j, wipe_get σ vs j]
  by_cases hj : j ∈ vs
  · rw [if_pos hj, if_pos hj]
    by_cases hb : j < σ.length
    · rw [List.getElem?_eq_getElem hb, List.getElem?_eq_getElem (by omega)]
      rfl
    · rw [List.getElem?_eq_none (by omega), List.getElem?_eq_none (by omega)]
  · rw [if_neg hj, if_neg hj, h j (fun z => hj (hs j z)), wipe_get σ vs j, if_neg hj]

/-! ### targets -/
theorem setAll_some : ∀ {is : List Nat} {ds : List D} {env env' : Env'}, setAll is ds env = some env' → is.length = ds.length
  | [], [], _, _, _ => rfl
  | _ :: _, _ :: _, _, _, h => congrArg Nat.succ (setAll_some h)
  | [], _ :: _, _, _, h => by cases h
  | _ :: _, [], _, _, h => by cases h
end
section
variable {X : Cx} {CT : CTab}
structure NmOk (X : Cx) (i : Nat) (x : Str) : Prop where
  at_ : X.N[i]? = some x
  loc : Loc X.env.scope x
  fn : X.fn x = true ∨ X.env.scope.names.lookup x = some .local
def TgSnd (X : Cx) (CT : CTab) (tg : Expr) (is : List Nat) : Prop := ∀ (p : Addr) (S0 : Hp) (H0 : Hs) (S H : Hp) (env : Env') (π : Pen) (σ : St) (x : D) (v : V) (env' : Env') (Q : St → Hp → Prop), Agr X.K CT p S0 H0 S H env π σ → Rep X.K CT p S x v → setTg is x env = some env' →
  (∀ σ', Agr X.K CT p S0 H0 S H env' π σ' → σ'.length = σ.length → (∀ j, j ∉ is → σ'[j]? = σ[j]?) → Q σ' H) → qG X tg v σ H Q
inductive Nms (X : Cx) : List Nat → List Expr → Prop
  | nil : Nms X [] []
  | cons {i : Nat} {is : List Nat} {x : Str} {pos : Pos} {es : List Expr} : NmOk X i x → Nms X is es → Nms X (i :: is) (.Name x pos :: es)
theorem tg_one {i : Nat} {x : Str} {pos : Pos} (hN : X.N.Nodup) (h : NmOk X i x) : TgSnd X CT (.Name x pos) [i] := fun p S0 H0 S H env π σ d v env' Q A r hs k => by
  have e : some (env.set i (.sh d)) = some env' := hs
  cases e
  refine qG_of (pg_name hN h.at_ h.loc h.fn) (k _ (A.set r) (by simp) fun j hj => ?_)
  rw [List.getElem?_set_ne (fun z => hj (by rw [z]; exact List.mem_cons_self ..))]
theorem Nms.run (hN : X.N.Nodup) : ∀ {is : List Nat} {es : List Expr}, Nms X is es → ∃ t, PGs X es t ∧ ∀ (p : Addr) (S0 : Hp) (H0 : Hs) (S H : Hp) (env : Env') (π : Pen) (σ : St) (ds : List D) (vs : List V) (env' : Env') (Q : St → Hp → Prop), Agr X.K CT p S0 H0 S H env π σ → Reps X.K CT p S ds vs → setAll is ds env = some env' →
    (∀ σ', Agr X.K CT p S0 H0 S H env' π σ' → σ'.length = σ.length → (∀ j, j ∉ is → σ'[j]? = σ[j]?) → Q σ' H) → t vs σ H Q
  | _, _, .nil => ⟨_, pgs_nil, fun p S0 H0 S H env π σ ds vs env' Q A r hs k => by
      cases r with
      | nil => cases hs; exact ⟨rfl, k σ A rfl fun _ _ => rfl⟩
      | cons _ _ => cases hs⟩
  | _, _, .cons (i := i) h t => by
    obtain ⟨tt, h1, h2⟩ := t.run hN
    refine ⟨_, pgs_cons (pg_name hN h.at_ h.loc h.fn) h1, fun p S0 H0 S H env π σ ds vs env' Q A r hs k => ?_⟩
    cases r with
    | nil => cases hs
    | cons r rr =>
      refine ⟨_, _, rfl, h2 p S0 H0 S H _ π _ _ _ env' Q (A.set r) rr hs fun σ' A' hl hj => k σ' A' (by simpa using hl) fun j hm => ?_⟩
      rw [hj j (fun z => hm (List.mem_cons_of_mem _ z)), List.getElem?_set_ne (fun z => hm (by rw [z]; exact List.mem_cons_self ..))]
theorem Nms.len : ∀ {is : List Nat} {es : List Expr}, Nms X is es → (assignEach es X.env).length = is.length ∧ (assignEach es X.env).findIdx? (·.1) = none
  | _, _, .nil => ⟨rfl, rfl⟩
  | _, _, .cons h t => by
    obtain ⟨h1, h2⟩ := t.len
    refine ⟨congrArg Nat.succ h1, ?_⟩
    show List.findIdx? (·.1) ((false, _) :: assignEach _ X.env) = none
    rw [List.findIdx?_cons, h2]
    rfl
theorem tg_tup {is : List Nat} {es : List Expr} {k : Nat} {pos : Pos} (hc : X.calm = true) (hN : X.N.Nodup) (h : Nms X is es) (h2 : 2 ≤ is.length) : TgSnd X CT (.Tuple es k pos) is := fun p S0 H0 S H env π σ d v env' Q A r hs kk => by
  obtain ⟨t, h1, hr⟩ := h.run (CT := CT) hN
  obtain ⟨l1, l2⟩ := h.len
  have key : ∀ ds, d = .tup ds → setAll is ds env = some env' → qG X (.Tuple es k pos) v σ H Q := fun ds e hsA => by
    subst e
    cases r with
    | tup q rr =>
      refine qG_of (pg_tup hc h1 l1 l2) ⟨_, _, rfl, same_t A.wd.sub q, by rw [← rr.length]; exact (setAll_some hsA).symm, hr p S0 H0 S H env π σ ds _ env' Q A rr hsA kk⟩
  match is, h2, hs with
  | i :: j :: is, _, hs =>
    cases d <;> first | (cases hs; done) | skip
    exact key _ rfl hs

/-! ### what is walked -/
theorem rng_get {lo : Int} {n i : Nat} {x : D} (h : (rngD lo n)[i]? = some x) : i < n ∧ x = .int (lo + i) := by
  unfold rngD at h
  rw [List.getElem?_map] at h
  cases e : (List.range n)[i]? with
  | none => rw [e] at h; cases h
  | some k =>
    rw [e] at h
    obtain ⟨h1, h2⟩ := List.getElem?_eq_some_iff.mp e
    rw [List.length_range] at h1
    rw [List.getElem_range] at h2
    subst h2
    cases h
    exact ⟨h1, rfl⟩
theorem walk_rng (p : Addr) (S2 H2 : Hp) (lo : Int) (n : Nat) : WlkAt X CT p S2 H2 (Itr lo n) (rngD lo n) := by
  refine ⟨fun i hi => ?_, fun i x hx => ?_⟩
  · have : (rngD lo n).length = n := by simp [rngD]
    show n ≤ i
    omega
  · obtain ⟨h1, rfl⟩ := rng_get hx
    refine ⟨h1, fun v H3 hy => ?_⟩
    obtain ⟨e1, e2⟩ := hy
    subst e1 e2
    exact ⟨S2, Stp.refl _ _ _, fun _ w => w, .int _⟩
theorem walk_lst {p : Addr} {S2 H2 : Hp} {a : Addr} {vs : List V} {ds : List D} (h : SqL X.K H2 a vs) (r : Reps X.K CT p S2 ds vs) : WlkAt X CT p S2 H2 (Itl X.K a) ds := by
  refine ⟨fun i hi => ⟨vs, h, by rw [← r.length]; exact hi⟩, fun i x hx => ?_⟩
  obtain ⟨v, h1, h2⟩ := r.get hx
  refine ⟨⟨vs, v, h, h1⟩, fun u H3 hy => ?_⟩
  obtain ⟨e1, e2⟩ := hy
  subst e1
  have e3 := e2 vs h
  rw [h1] at e3
  cases e3
  exact ⟨S2, Stp.refl _ _ _, fun _ w => w, h2⟩
theorem walk_tup {p : Addr} {S2 H2 : Hp} {a : Addr} {vs : List V} {ds : List D} (h : SqT X.K H2 a vs) (r : Reps X.K CT p S2 ds vs) : WlkAt X CT p S2 H2 (Itt X.K a) ds := by
  refine ⟨fun i hi => ⟨vs, h, by rw [← r.length]; exact hi⟩, fun i x hx => ?_⟩
  obtain ⟨v, h1, h2⟩ := r.get hx
  refine ⟨⟨vs, v, h, h1⟩, fun u H3 hy => ?_⟩
  obtain ⟨e1, e2⟩ := hy
  subst e1
  have e3 := e2 vs h
  rw [h1] at e3
  cases e3
  exact ⟨S2, Stp.refl _ _ _, fun _ w => w, h2⟩
theorem smallR_ok {i : Int} (h : smallR i = true) : -1000000 ≤ i ∧ i ≤ 1000000 := by
  obtain ⟨a, b⟩ := and2 h
  exact ⟨of_decide_eq_true a, of_decide_eq_true b⟩
def r1M (m : Env' → M D) : Env' → M (List D) := fun env => bnd (m env) fun x => match x with
  | .int n => guardM (smallR n) (ret (rngD 0 n.toNat))
  | _ => stuck
def r2M (m r : Env' → M D) : Env' → M (List D) := fun env => bnd (m env) fun x => bnd (r env) fun y => match x, y with
  | .int i, .int j => guardM (smallR i && smallR j) (ret (rngD i (j - i).toNat))
  | _, _ => stuck
theorem sni_r1 {m : Env' → M D} {tg e : Expr} {p pos : Pos} (h : SndE X CT m e) (hg : Gl X "range") (hm : X.mg "range" = none) (hs : notStar e = true) : SndI X CT tg (r1M m) (.Call (.Name "range" p) [e] [] pos) := fun q S0 H0 S H env π σ xs π' R A hm2 k => by
  obtain ⟨x, π1, h1, h2⟩ := bnd_some hm2
  refine qI_of (pi_range1 hg hm (pa_cons peq pa_nil (starEach_of hs _ _)) (starEach_of hs _ _)) (h q S0 H0 S H env π σ x π1 _ A h1 fun S1 H1 v t w r => ?_)
  cases x <;> first | (cases h2; done) | skip
  obtain ⟨c, h3⟩ := guard_some h2
  cases h3
  cases r
  obtain ⟨c1, c2⟩ := smallR_ok c
  exact ⟨_, rfl, by omega, by omega, k S1 H1 _ t w fun S2 H2 _ _ => walk_rng _ _ _ _ _⟩
theorem sni_r2 {m r : Env' → M D} {tg e e2 : Expr} {p pos : Pos} (h : SndE X CT m e) (hr : SndE X CT r e2) (hg : Gl X "range") (hm : X.mg "range" = none) (hs : notStar e = true) (hs2 : notStar e2 = true) : SndI X CT tg (r2M m r) (.Call (.Name "range" p) [e, e2] [] pos) := fun q S0 H0 S H env π σ xs π' R A hm2 k => by
  obtain ⟨x, π1, h1, h2⟩ := bnd_some hm2
  obtain ⟨y, π2, h2, h4⟩ := bnd_some h2
  have s2 : starEach [e2] X.env = [(false, eval e2 X.env)] := starEach_of hs2 _ _
  refine qI_of (pi_range2 hg hm (pa_cons peq (pa_cons peq pa_nil (starEach_of hs2 _ _)) (starEach_of hs _ _)) (by rw [starEach_of hs, s2]) s2) (h q S0 H0 S H env π σ x π1 _ A h1 fun S1 H1 v t w r1 => ?_)
  refine hr q S0 H0 S1 H1 env π1 σ y π2 _ (A.next t w) h2 fun S3 H3 v2 t2 w2 r2 => ?_
  cases x <;> cases y <;> first | (cases h4; done) | skip
  obtain ⟨c, h3⟩ := guard_some h4
  cases h3
  cases r1
  cases r2
  obtain ⟨c1, c2⟩ := and2 c
  obtain ⟨a1, a2⟩ := smallR_ok c1
  obtain ⟨b1, b2⟩ := smallR_ok c2
  exact ⟨_, _, rfl, ⟨by omega, by omega, by omega, by omega⟩, k S3 H3 _ (t.trans t2) w2 fun S2 H2 _ _ => walk_rng _ _ _ _ _⟩
theorem seqD_some {d : D} {xs : List D} (h : seqD d = some xs) : d = .tup xs ∨ d = .lst xs := by
  cases d <;> first | (cases h; done) | skip
  · cases h; exact .inl rfl
  · cases h; exact .inr rfl
theorem sni_sq {m : Env' → M D} {tg e : Expr} (h : SndE X CT m e) : SndI X CT tg (fun env => bnd (m env) fun x => opt (seqD x)) e := fun q S0 H0 S H env π σ xs π' R A hm k => by
  obtain ⟨x, π1, h1, h2⟩ := bnd_some hm
  obtain ⟨e1, rfl⟩ := opt_some h2
  rcases seqD_some e1 with rfl | rfl
  · refine qI_of (pi_tup peq) (h q S0 H0 S H env π σ _ _ _ A h1 fun S1 H1 v t w r => ?_)
    cases r with
    | tup hq rr => exact ⟨_, rfl, ⟨_, same_t w.sub hq⟩, k S1 H1 _ t w fun S2 H2 s2 s3 => walk_tup (same_t s3 (same_t s2 hq)) (rr.mono s2)⟩
  · refine qI_of (pi_list peq) (h q S0 H0 S H env π σ _ _ _ A h1 fun S1 H1 v t w r => ?_)
    cases r with
    | lst hq rr => exact ⟨_, rfl, ⟨_, SqL.of (w.sub _ _ hq)⟩, k S1 H1 _ t w fun S2 H2 s2 s3 => walk_lst (SqL.of (s3 _ _ (s2 _ _ hq))) (rr.mono s2)⟩
theorem sni_sqp {m : Env' → M D} {tg e : Expr} (h : SndP X CT m e) : SndIp X CT tg (fun env => bnd (m env) fun x => opt (seqD x)) e := fun q S0 H0 S H env π σ xs π' R A hm k => by
  obtain ⟨x, π1, h1, h2⟩ := bnd_some hm
  obtain ⟨e1, rfl⟩ := opt_some h2
  rcases seqD_some e1 with rfl | rfl
  · refine qI_of (pi_tup peq) (h q S0 H0 S H env π σ _ _ _ A h1 fun S1 H1 v t w r => ?_)
    obtain ⟨a, vs, rfl, hq, hq2, rr⟩ := (r S1 H1 _ (Stp.refl _ _ _) (A.next t w)).tup w.sub
    exact ⟨_, rfl, ⟨_, hq⟩, k S1 H1 _ t w fun S2 H2 s2 s3 _ => walk_tup (same_t s3 (same_t s2 hq2)) (rr.mono s2)⟩
  · refine qI_of (pi_list peq) (h q S0 H0 S H env π σ _ _ _ A h1 fun S1 H1 v t w r => ?_)
    obtain ⟨a, vs, rfl, hq, rr⟩ := (r S1 H1 _ (Stp.refl _ _ _) (A.next t w)).lst w.sub
    have ne : a ≠ q := fun z => by
      obtain ⟨c, hp, _⟩ := w.pen
      rw [z, hp] at hq
      cases hq
    exact ⟨_, rfl, ⟨_, SqL.of hq⟩, k S1 H1 _ t w fun S2 H2 s2 s3 s4 => walk_lst (SqL.of (s4 _ _ ne hq)) (rr.mono s2)⟩
end
end UK

set_option Elab.async false
set_option linter.all false
set_option maxRecDepth 100000
set_option maxHeartbeats 4000000
namespace UK
open PySem PySem.Spec PyProof.Rows L2

/-! ### an object of one's own that is not shared: a list under construction -/
section
variable {p a : Addr} {S0 H0 S H S' H' : Hp} {π π' : Pen} {o o' : HO}
theorem Stp.put (t : Stp p S0 H0 S H) (h0 : H0 a = none) (h1 : H a ≠ none) : Stp p S0 H0 S (upd H a o) :=
  ⟨t.s, fun b u n e => by rw [upd_ne (ne_of_none e h0)]; exact t.h b u n e, t.f, fun b e => by
    by_cases q : b = a
    · subst q; rw [upd_same] at e; cases e
    · rw [upd_ne q] at e; exact t.n b e⟩
theorem Wd.put (w : Wd p S π H) (hs : S a = none) (hp : a ≠ p) : Wd p S π (upd H a o) :=
  ⟨fun b u e => by rw [upd_ne (ne_of_none e hs)]; exact w.sub b u e, by
    obtain ⟨c, h1, h2⟩ := w.pen
    exact ⟨c, by rw [upd_ne (Ne.symm hp)]; exact h1, h2⟩, w.np⟩
theorem Wd.lay (w : Wd p S π H) (hn : H a = none) : Stp p S H S (upd H a o) ∧ Wd p S π (upd H a o) ∧ S a = none ∧ a ≠ p := by
  have hs : S a = none := w.sub.free hn
  have hp : a ≠ p := fun e => w.hp (e ▸ hn)
  refine ⟨⟨Same.refl S, fun b u _ e => by rw [upd_ne (ne_of_none e hn)]; exact e, fun b u e => .inl e, fun b e => ?_⟩, w.put hs hp, hs, hp⟩
  by_cases q : b = a
  · subst q; exact hn
  · rw [upd_ne q] at e; exact e
/-- it is shared from now on -/
theorem Wd.share (w : Wd p S π H) (hs : S a = none) (h : H a = some o) (hp : a ≠ p) : Same S (upd S a o) ∧ Wd p (upd S a o) π H := by
  have s1 : Same S (upd S a o) := fun b u e => by rw [upd_ne (ne_of_none e hs)]; exact e
  refine ⟨s1, ⟨fun b u e => ?_, ?_, by rw [upd_ne (Ne.symm hp)]; exact w.np⟩⟩
  · by_cases q : b = a
    · subst q; rw [upd_same] at e; cases e; exact h
    · rw [upd_ne q] at e; exact w.sub b u e
  · obtain ⟨c, h1, h2⟩ := w.pen
    exact ⟨c, h1, s1 _ _ h2⟩
theorem Stp.share (t : Stp p S0 H0 S H) (hs : S a = none) (h0 : H0 a = none) : Stp p S0 H0 (upd S a o) H :=
  ⟨t.s.trans fun b u e => by rw [upd_ne (ne_of_none e hs)]; exact e, t.h, fun b u e => by
    by_cases q : b = a
    · subst q; exact .inr h0
    · rw [upd_ne q] at e; exact t.f b u e, t.n⟩
theorem Stp.keepFree (t : Stp p S H S' H') (hs : S a = none) (h : H a ≠ none) : S' a = none := by
  cases q : S' a with
  | none => rfl
  | some u =>
    rcases t.f a u q with e | e
    · rw [hs] at e; cases e
    · exact absurd e h
end
/-- the addresses of the lists that the slots own -/
def OwnAt (H : Hp) (env : Env') (σ : St) (a : Addr) : Prop := ∃ (j : Nat) (s : Slot), env[j]? = some s ∧ Adr H s σ[j]? a
theorem Adr.own {H : Hp} {s : Slot} {o : Option (Option V)} {b : Addr} (h : Adr H s o b) : Own s := by
  cases s <;> first | exact trivial | exact h.elim
section
variable {K : PySem.W.Frag} {CT : CTab} {p a : Addr} {S0 : Hp} {H0 : Hs} {S H : Hp} {env env' : Env'} {π : Pen} {σ σ' : St} {o : HO}
theorem slot_own {s : Slot} {v : Option (Option V)} {b : Addr} (q : SlotOk K CT p S H0 H s v) (h : Adr H s v b) : H b ≠ none ∧ S b = none ∧ b ≠ p ∧ H0 b = none := by
  cases s with
  | un => exact h.elim
  | sh d => exact h.elim
  | ow ds =>
    obtain ⟨c, vs, e, hb, _, q1, q2, q3⟩ := q
    have h : v = some (some (.ref b)) := h
    rw [h] at e
    cases e
    exact ⟨(by rw [hb]; intro z; cases z), q1, q2, q3⟩
  | se c fs =>
    obtain ⟨c, dx, C, fns, fvs, e, _, hb, _, _, _, q1, q2, q3, _⟩ := q
    have h : v = some (some (.ref b)) := h
    rw [h] at e
    cases e
    exact ⟨(by rw [hb]; intro z; cases z), q1, q2, q3⟩
  | rw rss =>
    obtain ⟨c, bs, e, hb, r, _, q1⟩ := q
    have hm : b ∈ c :: bs := by
      rcases h with h | ⟨a', vs, e', h', m⟩
      · rw [h] at e; cases e; exact List.mem_cons_self ..
      · rw [e] at e'
        cases e'
        rw [hb] at h'
        cases h'
        obtain ⟨x, hx, e⟩ := List.mem_map.mp m
        cases e
        exact List.mem_cons_of_mem _ hx
    exact ⟨rw_some hb r b hm, q1 b hm⟩
theorem Agr.own' (A : Agr K CT p S0 H0 S H env π σ) (h : OwnAt H env σ a) : H a ≠ none ∧ S a = none ∧ a ≠ p ∧ H0 a = none := by
  obtain ⟨j, s, h1, h2⟩ := h
  exact slot_own (A.ok j s h1) h2
theorem Agr.own (A : Agr K CT p S0 H0 S H env π σ) (h : OwnAt H env σ a) : H a ≠ none := (A.own' h).1
theorem Agr.ownBack {S' H' : Hp} (A : Agr K CT p S0 H0 S H env π σ) (t : Stp p S H S' H') (h : OwnAt H' env σ a) : OwnAt H env σ a := by
  obtain ⟨j, s, h1, h2⟩ := h
  exact ⟨j, s, h1, adr_back (A.ok j s h1) t.h h2⟩
theorem Rws.put {c : Addr} {o : HO} : ∀ {rss : List (List D)} {bs : List Addr}, Rws K CT p S H rss bs → (∀ b ∈ bs, b ≠ c) → Rws K CT p S (upd H c o) rss bs
  | [], [], _, _ => trivial
  | _ :: _, b :: _, ⟨⟨vs, h1, r⟩, h2⟩, hp => ⟨⟨vs, by rw [upd_ne (hp b (List.mem_cons_self ..))]; exact h1, r⟩, h2.put (fun c hc => hp c (List.mem_cons_of_mem _ hc))⟩
  | [], _ :: _, h, _ => h.elim
  | _ :: _, [], h, _ => h.elim
/-- an object that a slot does not own is changed -/
theorem SlotOk.put {s : Slot} {v : Option (Option V)} (q : SlotOk K CT p S H0 H s v) (ho : ∀ b, Adr H s v b → b ≠ a) : SlotOk K CT p S H0 (upd H a o) s v := by
  cases s with
  | un => trivial
  | sh d => exact q
  | ow ds =>
    obtain ⟨b, vs, e1, hb, r⟩ := q
    exact ⟨b, vs, e1, by rw [upd_ne (ho b e1)]; exact hb, r⟩
  | se c fs =>
    obtain ⟨b, dx, C, fns, fvs, e1, e2, hb, r⟩ := q
    exact ⟨b, dx, C, fns, fvs, e1, e2, by rw [upd_ne (ho b e1)]; exact hb, r⟩
  | rw rss =>
    obtain ⟨b, bs, e1, hb, r, q⟩ := q
    exact ⟨b, bs, e1, by rw [upd_ne (ho b (.inl e1))]; exact hb, r.put fun c hc => ho c (.inr ⟨b, _, e1, hb, List.mem_map.mpr ⟨c, hc, rfl⟩⟩), q⟩
theorem adr_put {s : Slot} {v : Option (Option V)} {b : Addr} (q : SlotOk K CT p S H0 H s v) (ho : ∀ b, Adr H s v b → b ≠ a) (h : Adr (upd H a o) s v b) : Adr H s v b := by
  cases s with
  | un => exact h
  | sh d => exact h
  | ow ds => exact h
  | se c fs => exact h
  | rw rss =>
    rcases h with h | ⟨c, vs, e, h1, m⟩
    · exact .inl h
    · rw [upd_ne (ho c (.inl e))] at h1
      exact .inr ⟨c, vs, e, h1, m⟩
theorem Agr.put (A : Agr K CT p S0 H0 S H env π σ) (ho : ∀ b, OwnAt H env σ b → b ≠ a) (h0 : H0 a = none) (hs : S a = none) (hp : a ≠ p) (h : H a ≠ none) : Agr K CT p S0 H0 S (upd H a o) env π σ :=
  ⟨A.st.put h0 h, A.wd.put hs hp, A.len, fun i s e => (A.ok i s e).put fun b q => ho b ⟨i, s, e, q⟩, fun i j s t b hne e1 e2 q1 q2 => A.dis i j s t b hne e1 e2 (adr_put (A.ok i s e1) (fun b q => ho b ⟨i, s, e1, q⟩) q1) (adr_put (A.ok j t e2) (fun b q => ho b ⟨j, t, e2, q⟩) q2)⟩
theorem setAll_own : ∀ {is : List Nat} {ds : List D} {env env' : Env'}, setAll is ds env = some env' → ∀ (j : Nat) (s : Slot), env'[j]? = some s → Own s → env[j]? = some s ∧ j ∉ is
  | [], [], env, env', h, j, s, e, _ => by cases h; exact ⟨e, by simp⟩
  | i :: is, d :: ds, env, env', h, j, s, e, ho => by
    have h : setAll is ds (env.set i (.sh d)) = some env' := h
    obtain ⟨h1, h2⟩ := setAll_own h j s e ho
    by_cases q : i = j
    · subst q
      have hl : i < env.length := by
        have := (List.getElem?_eq_some_iff.mp h1).1
        simpa using this
      rw [List.getElem?_set_self hl] at h1
      cases h1
      exact ho.elim
    · rw [List.getElem?_set_ne q] at h1
      exact ⟨h1, fun z => by
        rcases List.mem_cons.mp z with z | z
        · exact q z.symm
        · exact h2 z⟩
  | [], _ :: _, _, _, h, _, _, _, _ => by cases h
  | _ :: _, [], _, _, h, _, _, _, _ => by cases h
theorem setTg_own {is : List Nat} {x : D} (h : setTg is x env = some env') (j : Nat) (s : Slot) (e : env'[j]? = some s) (ho : Own s) : env[j]? = some s ∧ j ∉ is := by
  have one : ∀ i, some (env.set i (.sh x)) = some env' → env[j]? = some s ∧ j ∉ [i] := fun i q => setAll_own (is := [i]) (ds := [x]) (env := env) (env' := env') q j s e ho
  match is, h with
  | [i], h => exact one i h
  | [], h => cases x <;> first | (cases h; done) | exact setAll_own h j s e ho
  | _ :: _ :: _, h => cases x <;> first | (cases h; done) | exact setAll_own h j s e ho
theorem wipeE_own : ∀ {vs : List Nat} (j : Nat) (s : Slot), (wipeE env vs)[j]? = some s → Own s → env[j]? = some s ∧ j ∉ vs
  | [], j, s, e, _ => ⟨e, by simp⟩
  | v :: vs, j, s, e, ho => by
    have e : ((wipeE env vs).set v .un)[j]? = some s := e
    by_cases q : v = j
    · subst q
      have hl : v < (wipeE env vs).length := by
        have := (List.getElem?_eq_some_iff.mp e).1
        simpa using this
      rw [List.getElem?_set_self hl] at e
      cases e
      exact ho.elim
    · rw [List.getElem?_set_ne q] at e
      obtain ⟨h1, h2⟩ := wipeE_own j s e ho
      exact ⟨h1, fun z => by
        rcases List.mem_cons.mp z with z | z
        · exact q z.symm
        · exact h2 z⟩
theorem own_back {is vs : List Nat} {x : D} (h : setTg is x (wipeE env vs) = some env') (hj : ∀ j, j ∉ is → σ'[j]? = (L2.wipe σ vs)[j]?) (ha : OwnAt H env' σ' a) : OwnAt H env σ a := by
  obtain ⟨j, s, h1, h2⟩ := ha
  obtain ⟨q1, q2⟩ := setTg_own h j s h1 h2.own
  obtain ⟨q3, q4⟩ := wipeE_own j s q1 h2.own
  rw [hj j q2, wipe_get, if_neg q4] at h2
  exact ⟨j, s, q3, h2⟩
end
section
variable {X : Cx} {CT : CTab}
abbrev Cx.b (X : Cx) (scope : Scope) (s : Shared) (H : Hp) (C : Addr) (cl : List (Str × Addr)) (fp : List Addr) : Cx := X.blk s H scope (compEnvC scope cl C X.env) fp
/-- the readings of a block's parts, for all blocks -/
def gAll (X : Cx) (scope : Scope) (tg : Expr) : TG := fun v σ H Q => ∀ (s : Shared) (H0 : Hp) (C : Addr) (cl : List (Str × Addr)) (fp : List Addr), qG (Cx.b X scope s H0 C cl fp) tg v σ H Q
def eAll (X : Cx) (scope : Scope) (e : Expr) : TE := fun σ H Q => ∀ (s : Shared) (H0 : Hp) (C : Addr) (cl : List (Str × Addr)) (fp : List Addr), qE (Cx.b X scope s H0 C cl fp) e σ H Q
def tAll (X : Cx) (scope : Scope) (e : Expr) : TT := fun σ H Q => ∀ (s : Shared) (H0 : Hp) (C : Addr) (cl : List (Str × Addr)) (fp : List Addr), qT (Cx.b X scope s H0 C cl fp) e σ H Q
def iAll (X : Cx) (scope : Scope) (tg e : Expr) : TI := fun σ H Q => ∀ (s : Shared) (H0 : Hp) (C : Addr) (cl : List (Str × Addr)) (fp : List Addr), qI (Cx.b X scope s H0 C cl fp) tg e σ H Q
theorem pg_all {scope : Scope} {tg : Expr} (s : Shared) (H0 : Hp) (C : Addr) (cl : List (Str × Addr)) (fp : List Addr) : PG (X.blk s H0 scope (compEnvC scope cl C X.env) fp) tg (gAll X scope tg) := ⟨fun pins s' σ H v u Q I r h => h s H0 C cl fp pins s' u I r⟩
theorem pe_all {scope : Scope} {e : Expr} (s : Shared) (H0 : Hp) (C : Addr) (cl : List (Str × Addr)) (fp : List Addr) : PE (X.blk s H0 scope (compEnvC scope cl C X.env) fp) e (eAll X scope e) := ⟨fun pins s' σ H Q I h => h s H0 C cl fp pins s' I⟩
theorem pt_all {scope : Scope} {e : Expr} (s : Shared) (H0 : Hp) (C : Addr) (cl : List (Str × Addr)) (fp : List Addr) : PT (X.blk s H0 scope (compEnvC scope cl C X.env) fp) e (tAll X scope e) := ⟨fun pins s' σ H Q I h => h s H0 C cl fp pins s' I⟩
theorem pi_all {scope : Scope} {tg e : Expr} (s : Shared) (H0 : Hp) (C : Addr) (cl : List (Str × Addr)) (fp : List Addr) : PI (X.blk s H0 scope (compEnvC scope cl C X.env) fp) tg e (iAll X scope tg e) := ⟨fun pins s' σ H Q I h => h s H0 C cl fp pins s' I⟩
/-- what the tests of a clause are worth -/
def SndB (X : Cx) (CT : CTab) (scope : Scope) (mc : Env' → M (Option D)) (ifs : List Expr) (tt : TT) : Prop := (∀ (s : Shared) (H0 : Hp) (C : Addr) (cl : List (Str × Addr)) (fp : List Addr), PTs (X.blk s H0 scope (compEnvC scope cl C X.env) fp) ifs tt) ∧
  ∀ {α : Type} (p : Addr) (S0 : Hp) (H0 : Hs) (S H : Hp) (env : Env') (π : Pen) (σ : St) (y n : M α) (r : α × Pen) (Q : Bool → Hp → Prop), Agr X.K CT p S0 H0 S H env π σ → ifM mc env y n π = some r →
    (∀ S' H' π1 b, Stp p S H S' H' → Wd p S' π1 H' → (if b = true then y else n) π1 = some r → Q b H') → tt σ H Q
theorem snb_nil {scope : Scope} : SndB X CT scope (fun _ => ret none) [] tYes := by
  refine ⟨fun _ _ _ _ _ => pts_nil, fun p S0 H0 S H env π σ y n r Q A h k => ?_⟩
  exact k S H π true (Stp.refl _ _ _) A.wd h
theorem snb_one {scope : Scope} {m : Env' → M D} {e : Expr} (h : ∀ (s : Shared) (H0 : Hp) (C : Addr) (cl : List (Str × Addr)) (fp : List Addr), SndT (Cx.b X scope s H0 C cl fp) CT m e) : SndB X CT scope (fun env => bnd (m env) fun d => ret (some d)) [e] (tAll X scope e) := by
  refine ⟨fun s H0 C cl fp => pts_one (pt_all s H0 C cl fp), fun p S0 H0 S H env π σ y n r Q A hm k => ?_⟩
  intro s H0' C cl fp
  obtain ⟨r1, r2⟩ := r
  obtain ⟨o, π1, h1, h2⟩ := bnd_some hm
  obtain ⟨d, π2, h3, h4⟩ := bnd_some h1
  cases h4
  cases d <;> first | (cases h2; done) | skip
  rename_i b
  refine h s H0' C cl fp p S0 H0 S H env π σ _ _ _ A h3 ⟨b, rfl, fun S' H' t w => k S' H' _ b t w ?_⟩
  cases b with
  | true => exact h2
  | false => exact h2
def lcM (own tg : List Nat) (me : Env' → M D) (mi : Env' → M (List D)) (mc : Env' → M (Option D)) : Env' → M D := fun env => bnd (mi env) fun xs => guardM (decide (xs.length ≤ LIM)) (bnd (mapM' (elM tg me mc (wipeE env own)) xs) fun ys => ret (.lst ys))
theorem wdHp {p a : Addr} {S H : Hp} {π : Pen} {vs : List V} (w : Wd p S π H) (h : H a = some (.lst vs)) : a ≠ p := fun z => by
  obtain ⟨c, hp, _⟩ := w.pen
  rw [z, hp] at h
  cases h
/-- the reading of a comprehension of one clause -/
theorem lc_reads {own : List (Str × Nat)} {tg : List Nat} {me : Env' → M D} {mi : Env' → M (List D)} {mc : Env' → M (Option D)} {elt tgE iter : Expr} {ifs : List Expr} {scope : Scope} {tt : TT}
    (hi : SndIp X CT tgE mi iter) (ht : ∀ (s : Shared) (H0 : Hp) (C : Addr) (cl : List (Str × Addr)) (fp : List Addr), TgSnd (Cx.b X scope s H0 C cl fp) CT tgE tg) (hs : ∀ i ∈ tg, i ∈ own.map (·.2))
    (hb : SndB X CT scope mc ifs tt) (he : ∀ (s : Shared) (H0 : Hp) (C : Addr) (cl : List (Str × Addr)) (fp : List Addr), SndE (Cx.b X scope s H0 C cl fp) CT me elt)
    {p : Addr} {S0 : Hp} {H0 : Hs} {S H : Hp} {env : Env'} {π : Pen} {σ : St} {d : D} {π' : Pen} {Q : VK} (A : Agr X.K CT p S0 H0 S H env π σ) (hm : lcM (own.map (·.2)) tg me mi mc env π = some (d, π'))
    (k : ∀ (S' H' : Hp) (a : Addr) (vs : List V) (ds : List D), d = .lst ds → Stp p S H S' H' → Wd p S' π' H' → S' a = none → H' a = some (.lst vs) → Reps X.K CT p S' ds vs → H a = none → a ≠ p → Q (.ref a) H') :
    tLc (qI X tgE iter) (gAll X scope tgE) tt (eAll X scope elt) (own.map (·.2)) σ H Q := by
  obtain ⟨xs, π1, h1, hm⟩ := bnd_some hm
  obtain ⟨c, hm⟩ := guard_some hm
  have hlim := of_decide_eq_true c
  obtain ⟨ys, π2, h2, hm⟩ := bnd_some hm
  obtain ⟨rfl, rfl⟩ := ret_some hm
  refine hi p S0 H0 S H env π σ xs π1 _ A h1 fun S1 H1 J t1 w1 walk => ?_
  intro D0 hD
  obtain ⟨tl, wl, hsD, hDp⟩ := w1.lay (o := .lst []) hD
  refine ⟨fun i m H2 => m = xs.length - i ∧ i ≤ xs.length ∧ ∃ (S2 : Hp) (π3 : Pen) (vs : List V) (ds rest : List D), Stp p S1 H1 S2 H2 ∧ Wd p S2 π3 H2 ∧ S2 D0 = none ∧ H2 D0 = some (.lst vs) ∧ Reps X.K CT p S2 ds vs ∧ mapM' (elM tg me mc (wipeE env (own.map (·.2)))) (xs.drop i) π3 = some (rest, π') ∧ ys = ds ++ rest ∧ vs.length ≤ i,
    ⟨_, rfl, Nat.zero_le _, S1, π1, [], [], ys, tl, wl, hsD, upd_same, .nil, h2, rfl, Nat.le_refl _⟩, ?_⟩
  rintro i m H2 ⟨rfl, hile, S2, π3, vs, ds, rest, t2, w2, hS2, hH2, rr, hrest, hys, hvl⟩
  have wk := walk S2 H2 t2.s w2.sub t2.h
  by_cases hlt : i < xs.length
  · refine .inr ?_
    have hx : xs[i]? = some xs[i] := List.getElem?_eq_getElem hlt
    obtain ⟨hgo, hy⟩ := wk.2 i _ hx
    refine ⟨hgo, fun H3 => i + 1 ≤ xs.length ∧ ∃ (S2 : Hp) (π3 : Pen) (vs : List V) (ds rest : List D), Stp p S1 H1 S2 H3 ∧ Wd p S2 π3 H3 ∧ S2 D0 = none ∧ H3 D0 = some (.lst vs) ∧ Reps X.K CT p S2 ds vs ∧ mapM' (elM tg me mc (wipeE env (own.map (·.2)))) (xs.drop (i + 1)) π3 = some (rest, π') ∧ ys = ds ++ rest ∧ vs.length ≤ i + 1,
      fun H3 h3 => ⟨xs.length - (i + 1), by omega, rfl, h3⟩, ?_⟩
    intro v H3 hyl
    obtain ⟨S3, t3, w3, rx⟩ := hy v H3 hyl
    have w3 := w3 π3 w2
    rw [List.drop_eq_getElem_cons hlt] at hrest
    obtain ⟨o, π4, h4, hrest⟩ := bnd_some hrest
    obtain ⟨zs, π5, h5, h6⟩ := bnd_some hrest
    cases h6
    unfold elM at h4
    cases e : setTg tg xs[i] (wipeE env (own.map (·.2))) with
    | none => rw [e] at h4; cases h4
    | some env' =>
      rw [e] at h4
      have A3 : Agr X.K CT p S0 H0 S3 H3 env π3 σ := A.next ((t1.trans t2).trans t3) w3
      have A4 := A3.wipe (own.map (·.2))
      intro s H0' C cl fp
      refine ht s H0' C cl fp p S0 H0 S3 H3 _ π3 _ _ v env' _ A4 rx e fun σ' A5 hl hj => ⟨wipe_back (by rw [hl, wipe_length]) hj hs, ?_⟩
      refine hb.2 p S0 H0 S3 H3 env' π3 σ' _ _ _ _ A5 h4 fun S4 H4 π6 b t4 w4 h7 => ?_
      have A6 := A5.next t4 w4
      have t14 := (t2.trans t3).trans t4
      have hD4 : H4 D0 = some (.lst vs) := t4.h _ _ hDp (t3.h _ _ hDp hH2)
      have hS4 : S4 D0 = none := t4.keepFree (t3.keepFree hS2 (by rw [hH2]; intro z; cases z)) (by rw [t3.h _ _ hDp hH2]; intro z; cases z)
      cases b with
      | true =>
        rw [if_pos rfl] at h7 ⊢
        obtain ⟨y, π7, h8, h9⟩ := bnd_some h7
        cases h9
        intro s H0' C cl fp
        refine he s H0' C cl fp p S0 H0 S4 H4 env' π6 σ' y _ _ A6 h8 fun S5 H5 u t5 w5 ru => ?_
        have hD5 : H5 D0 = some (.lst vs) := t5.h _ _ hDp hD4
        have hS5 : S5 D0 = none := t5.keepFree hS4 (by rw [hD4]; intro z; cases z)
        refine ⟨vs, hD5, by have := sizeLIM (n := LIM) (Nat.le_refl _); have h0 : LIM < sizeLine := by decide
                            omega, by omega, S5, _, vs ++ [u], ds ++ [y], zs, (t14.trans t5).put hD (by rw [hD5]; intro z; cases z), w5.put hS5 hDp, hS5, upd_same, ?_, h5, ?_, ?_⟩
        · exact (rr.mono ((t3.trans t4).trans t5).s).append (.cons ru .nil)
        · rw [hys]; simp
        · simp; omega
      | false =>
        rw [if_neg Bool.false_ne_true] at h7 ⊢
        cases h7
        exact ⟨by omega, S4, _, vs, ds, zs, t14, w4, hS4, hD4, rr.mono (t3.trans t4).s, h5, hys, by omega⟩
  · have e : i = xs.length := by omega
    subst e
    refine .inl ⟨wk.1 _ (Nat.le_refl _), ?_⟩
    rw [List.drop_eq_nil_of_le (Nat.le_refl _)] at hrest
    obtain ⟨rfl, rfl⟩ := ret_some hrest
    rw [List.append_nil] at hys
    subst hys
    exact k S2 H2 D0 vs _ rfl (t1.trans t2) w2 hS2 hH2 rr (t1.n _ hD) hDp
theorem snd_lc {own : List (Str × Nat)} {tg : List Nat} {me : Env' → M D} {mi : Env' → M (List D)} {mc : Env' → M (Option D)} {elt tgE iter : Expr} {ifs : List Expr} {scope : Scope} {tt : TT} {pos : Pos} (hc : X.calm = true) (hN : X.N.Nodup) (ok : BlkOk X.N X.env.scope scope own)
    (hi : SndIp X CT tgE mi iter) (ht : ∀ (s : Shared) (H : Hp) (C : Addr) (cl : List (Str × Addr)) (fp : List Addr), TgSnd (Cx.b X scope s H C cl fp) CT tgE tg) (hs : ∀ i ∈ tg, i ∈ own.map (·.2))
    (hb : SndB X CT scope mc ifs tt) (he : ∀ (s : Shared) (H : Hp) (C : Addr) (cl : List (Str × Addr)) (fp : List Addr), SndE (Cx.b X scope s H C cl fp) CT me elt) (hf : ∀ x, foldedSetIterable iter X.env x = pure x) :
    SndE X CT (lcM (own.map (·.2)) tg me mi mc) (.ListComp elt [⟨tgE, iter, ifs, 0⟩] scope pos) := fun p S0 H0 S H env π σ d π' Q A hm k => by
  refine qE_of (pe_lc hc hN piq ok pg_all hb.1 pe_all hf) (lc_reads hi ht hs hb he A hm fun S' H' a vs ds e t w h1 h2 r h3 h4 => ?_)
  subst e
  obtain ⟨s1, w1⟩ := w.share h1 h2 h4
  exact k _ _ _ (t.share h1 h3) w1 (.lst upd_same (r.mono s1))
def lc2M (own tg tg2 : List Nat) (me : Env' → M D) (mi : Env' → M (List D)) (mc : Env' → M (Option D)) (mi2 : Env' → M (List D)) (mc2 : Env' → M (Option D)) : Env' → M D := fun env => bnd (mi env) fun xs => bnd (flatM (el2M tg tg2 me mc mi2 mc2 (wipeE env own)) xs) fun ys => guardM (decide (ys.length ≤ LIM)) (ret (.lst ys))
/-- the reading of a comprehension of two clauses -/
theorem lc2_reads {own : List (Str × Nat)} {tg tg2 : List Nat} {me : Env' → M D} {mi mi2 : Env' → M (List D)} {mc mc2 : Env' → M (Option D)} {elt tgE iter tgE2 iter2 : Expr} {ifs ifs2 : List Expr} {scope : Scope} {tt tt2 : TT}
    (hi : SndIp X CT tgE mi iter) (ht : ∀ (s : Shared) (H : Hp) (C : Addr) (cl : List (Str × Addr)) (fp : List Addr), TgSnd (Cx.b X scope s H C cl fp) CT tgE tg) (hs : ∀ i ∈ tg, i ∈ own.map (·.2))
    (hb : SndB X CT scope mc ifs tt) (hi2 : ∀ (s : Shared) (H : Hp) (C : Addr) (cl : List (Str × Addr)) (fp : List Addr), SndI (Cx.b X scope s H C cl fp) CT tgE2 mi2 iter2) (ht2 : ∀ (s : Shared) (H : Hp) (C : Addr) (cl : List (Str × Addr)) (fp : List Addr), TgSnd (Cx.b X scope s H C cl fp) CT tgE2 tg2)
    (hb2 : SndB X CT scope mc2 ifs2 tt2) (he : ∀ (s : Shared) (H : Hp) (C : Addr) (cl : List (Str × Addr)) (fp : List Addr), SndE (Cx.b X scope s H C cl fp) CT me elt)
    {p : Addr} {S0 : Hp} {H0 : Hs} {S H : Hp} {env : Env'} {π : Pen} {σ : St} {d : D} {π' : Pen} {Q : VK} (A : Agr X.K CT p S0 H0 S H env π σ) (hm : lc2M (own.map (·.2)) tg tg2 me mi mc mi2 mc2 env π = some (d, π'))
    (k : ∀ (S' H' : Hp) (a : Addr) (vs : List V) (ds : List D), d = .lst ds → Stp p S H S' H' → Wd p S' π' H' → S' a = none → H' a = some (.lst vs) → Reps X.K CT p S' ds vs → H a = none → a ≠ p → Q (.ref a) H') :
    tLc2 (qI X tgE iter) (gAll X scope tgE) tt (iAll X scope tgE2 iter2) (gAll X scope tgE2) tt2 (eAll X scope elt) (own.map (·.2)) tg2 σ H Q := by
  obtain ⟨xs, π1, h1, hm⟩ := bnd_some hm
  obtain ⟨ys, π2, h2, hm⟩ := bnd_some hm
  obtain ⟨c, hm⟩ := guard_some hm
  obtain ⟨rfl, rfl⟩ := ret_some hm
  have hlim := of_decide_eq_true c
  have hsz : LIM < sizeLine := by decide
  refine hi p S0 H0 S H env π σ xs π1 _ A h1 fun S1 H1 J t1 w1 walk => ?_
  intro D0 hD
  obtain ⟨tl, wl, hsD, hDp⟩ := w1.lay (o := .lst []) hD
  refine ⟨fun i m H2 => m = xs.length - i ∧ i ≤ xs.length ∧ ∃ (S2 : Hp) (π3 : Pen) (vs : List V) (ds rest : List D), Stp p S1 H1 S2 H2 ∧ Wd p S2 π3 H2 ∧ S2 D0 = none ∧ H2 D0 = some (.lst vs) ∧ Reps X.K CT p S2 ds vs ∧ flatM (el2M tg tg2 me mc mi2 mc2 (wipeE env (own.map (·.2)))) (xs.drop i) π3 = some (rest, π') ∧ ys = ds ++ rest,
    ⟨_, rfl, Nat.zero_le _, S1, π1, [], [], ys, tl, wl, hsD, upd_same, .nil, h2, rfl⟩, ?_⟩
  rintro i m H2 ⟨rfl, hile, S2, π3, vs, ds, rest, t2, w2, hS2, hH2, rr, hrest, hys⟩
  have wk := walk S2 H2 t2.s w2.sub t2.h
  by_cases hlt : i < xs.length
  · refine .inr ?_
    have hx : xs[i]? = some xs[i] := List.getElem?_eq_getElem hlt
    obtain ⟨hgo, hy⟩ := wk.2 i _ hx
    refine ⟨hgo, fun H3 => i + 1 ≤ xs.length ∧ ∃ (S2 : Hp) (π3 : Pen) (vs : List V) (ds rest : List D), Stp p S1 H1 S2 H3 ∧ Wd p S2 π3 H3 ∧ S2 D0 = none ∧ H3 D0 = some (.lst vs) ∧ Reps X.K CT p S2 ds vs ∧ flatM (el2M tg tg2 me mc mi2 mc2 (wipeE env (own.map (·.2)))) (xs.drop (i + 1)) π3 = some (rest, π') ∧ ys = ds ++ rest,
      fun H3 h3 => ⟨xs.length - (i + 1), by omega, rfl, h3⟩, ?_⟩
    intro v H3 hyl
    obtain ⟨S3, t3, w3, rx⟩ := hy v H3 hyl
    have w3 := w3 π3 w2
    rw [List.drop_eq_getElem_cons hlt] at hrest
    obtain ⟨o, π4, h4, hrest⟩ := bnd_some hrest
    obtain ⟨zr, π5, h5, h6⟩ := bnd_some hrest
    cases h6
    unfold el2M at h4
    cases e : setTg tg xs[i] (wipeE env (own.map (·.2))) with
    | none => rw [e] at h4; cases h4
    | some env' =>
      rw [e] at h4
      have A3 : Agr X.K CT p S0 H0 S3 H3 env π3 σ := A.next ((t1.trans t2).trans t3) w3
      have A4 := A3.wipe (own.map (·.2))
      intro s H0' C cl fp
      refine ht s H0' C cl fp p S0 H0 S3 H3 _ π3 _ _ v env' _ A4 rx e fun σ' A5 hl hj => ⟨wipe_back (by rw [hl, wipe_length]) hj hs, ?_⟩
      refine hb.2 p S0 H0 S3 H3 env' π3 σ' _ _ _ _ A5 h4 fun S4 H4 π6 b t4 w4 h7 => ?_
      have A6 := A5.next t4 w4
      have t14 := (t2.trans t3).trans t4
      have hD4 : H4 D0 = some (.lst vs) := t4.h _ _ hDp (t3.h _ _ hDp hH2)
      have hS4 : S4 D0 = none := t4.keepFree (t3.keepFree hS2 (by rw [hH2]; intro z; cases z)) (by rw [t3.h _ _ hDp hH2]; intro z; cases z)
      cases b with
      | true =>
        rw [if_pos rfl] at h7 ⊢
        obtain ⟨zs, π7, h8, h9⟩ := bnd_some h7
        intro s H0' C cl fp
        refine hi2 s H0' C cl fp p S0 H0 S4 H4 env' π6 σ' zs _ _ A6 h8 fun S5 H5 J1 t5 w5 walk1 => ?_
        have hD5 : H5 D0 = some (.lst vs) := t5.h _ _ hDp hD4
        have hS5 : S5 D0 = none := t5.keepFree hS4 (by rw [hD4]; intro z; cases z)
        have t15 := t14.trans t5
        have A7 := A6.next t5 w5
        refine ⟨fun j m H6 => m = zs.length - j ∧ j ≤ zs.length ∧ ∃ (S6 : Hp) (π8 : Pen) (vs' : List V) (ds' rest' : List D), Stp p S1 H1 S6 H6 ∧ Same S5 S6 ∧ Agr X.K CT p S0 H0 S6 H6 env' π8 σ' ∧ S6 D0 = none ∧ H6 D0 = some (.lst vs') ∧ Reps X.K CT p S6 ds' vs' ∧ mapM' (elM tg2 me mc2 (wipeE env' tg2)) (zs.drop j) π8 = some (rest', π4) ∧ ys = ds' ++ (rest' ++ zr),
          ⟨_, rfl, Nat.zero_le _, S5, π7, vs, ds, o, t15, Same.refl _, A7, hS5, hD5, rr.mono ((t3.trans t4).trans t5).s, h9, hys⟩, ?_⟩
        rintro j m2 H6 ⟨rfl, hjle, S6, π8, vs', ds', rest', t6, s56, A8, hS6, hD6, rr6, hrest6, hys6⟩
        have w6 := A8.wd
        have wk1 := walk1 S6 H6 s56 w6.sub
        by_cases hlt2 : j < zs.length
        · refine .inr ?_
          have hz : zs[j]? = some zs[j] := List.getElem?_eq_getElem hlt2
          obtain ⟨hgo1, hy1⟩ := wk1.2 j _ hz
          refine ⟨hgo1, fun H7 => j + 1 ≤ zs.length ∧ ∃ (S6 : Hp) (π8 : Pen) (vs' : List V) (ds' rest' : List D), Stp p S1 H1 S6 H7 ∧ Same S5 S6 ∧ Agr X.K CT p S0 H0 S6 H7 env' π8 σ' ∧ S6 D0 = none ∧ H7 D0 = some (.lst vs') ∧ Reps X.K CT p S6 ds' vs' ∧ mapM' (elM tg2 me mc2 (wipeE env' tg2)) (zs.drop (j + 1)) π8 = some (rest', π4) ∧ ys = ds' ++ (rest' ++ zr),
            fun H7 h7 => ⟨zs.length - (j + 1), by omega, rfl, h7⟩, ?_⟩
          intro v1 H7 hyl1
          obtain ⟨S7, t7, w7, rx1⟩ := hy1 v1 H7 hyl1
          have w7 := w7 π8 w6
          rw [List.drop_eq_getElem_cons hlt2] at hrest6
          obtain ⟨o1, π9, h10, hrest6⟩ := bnd_some hrest6
          obtain ⟨zr1, π10, h11, h12⟩ := bnd_some hrest6
          cases h12
          unfold elM at h10
          cases e1 : setTg tg2 zs[j] (wipeE env' tg2) with
          | none => rw [e1] at h10; cases h10
          | some env2 =>
            rw [e1] at h10
            have A9 := (A8.next t7 w7).wipe tg2
            intro s H0' C cl fp
            refine ht2 s H0' C cl fp p S0 H0 S7 H7 _ π8 _ _ v1 env2 _ A9 rx1 e1 fun σ2 A10 hl2 hj2 => ⟨wipe_back (by rw [hl2, wipe_length]) hj2 (fun _ h => h), ?_⟩
            refine hb2.2 p S0 H0 S7 H7 env2 π8 σ2 _ _ _ _ A10 h10 fun S8 H8 π11 b2 t8 w8 h13 => ?_
            have A11 := A10.next t8 w8
            have tt8 := t7.trans t8
            have hD8 : H8 D0 = some (.lst vs') := tt8.h _ _ hDp hD6
            have hS8 : S8 D0 = none := tt8.keepFree hS6 (by rw [hD6]; intro z; cases z)
            cases b2 with
            | true =>
              rw [if_pos rfl] at h13 ⊢
              obtain ⟨y, π12, h14, h15⟩ := bnd_some h13
              cases h15
              intro s H0' C cl fp
              refine he s H0' C cl fp p S0 H0 S8 H8 env2 π11 σ2 y _ _ A11 h14 fun S9 H9 u t9 w9 ru => ?_
              have tt9 := tt8.trans t9
              have hD9 : H9 D0 = some (.lst vs') := t9.h _ _ hDp hD8
              have hS9 : S9 D0 = none := t9.keepFree hS8 (by rw [hD8]; intro z; cases z)
              have hl9 : vs'.length < sizeLine := by
                have e := congrArg List.length hys6
                rw [← rr6.length]
                simp at e
                omega
              have A12 : Agr X.K CT p S0 H0 S9 (upd H9 D0 (.lst (vs' ++ [u]))) env' π9 σ' := by
                have hHD := t1.n _ hD
                refine (A8.next tt9 w9).put (fun b hb e3 => ?_) (A.st.n _ hHD) hS9 hDp (by rw [hD9]; intro z; cases z)
                exact A.own (A.ownBack (t1.trans (t6.trans tt9)) (own_back e hj hb)) (e3 ▸ hHD)
              refine ⟨vs', hD9, hl9, by omega, S9, _, vs' ++ [u], ds' ++ [y], zr1, (t6.trans tt9).put hD (by rw [hD9]; intro z; cases z), s56.trans tt9.s, A12, hS9, upd_same, (rr6.mono tt9.s).append (.cons ru .nil), h11, ?_⟩
              rw [hys6]; simp
            | false =>
              rw [if_neg Bool.false_ne_true] at h13 ⊢
              cases h13
              exact ⟨by omega, S8, _, vs', ds', zr1, t6.trans tt8, s56.trans tt8.s, A8.next tt8 w8, hS8, hD8, rr6.mono tt8.s, h11, hys6⟩
        · have e2 : j = zs.length := by omega
          subst e2
          refine .inl ⟨wk1.1 _ (Nat.le_refl _), ?_⟩
          rw [List.drop_eq_nil_of_le (Nat.le_refl _)] at hrest6
          obtain ⟨rfl, rfl⟩ := ret_some hrest6
          exact ⟨by omega, S6, _, vs', ds', zr, t6, w6, hS6, hD6, rr6, h5, by rw [hys6]; simp⟩
      | false =>
        rw [if_neg Bool.false_ne_true] at h7 ⊢
        cases h7
        exact ⟨by omega, S4, _, vs, ds, zr, t14, w4, hS4, hD4, rr.mono (t3.trans t4).s, h5, by rw [hys]; simp⟩
  · have e : i = xs.length := by omega
    subst e
    refine .inl ⟨wk.1 _ (Nat.le_refl _), ?_⟩
    rw [List.drop_eq_nil_of_le (Nat.le_refl _)] at hrest
    obtain ⟨rfl, rfl⟩ := ret_some hrest
    rw [List.append_nil] at hys
    subst hys
    exact k S2 H2 D0 vs _ rfl (t1.trans t2) w2 hS2 hH2 rr (t1.n _ hD) hDp
theorem snd_lc2 {own : List (Str × Nat)} {tg tg2 : List Nat} {me : Env' → M D} {mi mi2 : Env' → M (List D)} {mc mc2 : Env' → M (Option D)} {elt tgE iter tgE2 iter2 : Expr} {ifs ifs2 : List Expr} {scope : Scope} {tt tt2 : TT} {pos : Pos} (hc : X.calm = true) (hN : X.N.Nodup) (ok : BlkOk X.N X.env.scope scope own)
    (hi : SndIp X CT tgE mi iter) (ht : ∀ (s : Shared) (H : Hp) (C : Addr) (cl : List (Str × Addr)) (fp : List Addr), TgSnd (Cx.b X scope s H C cl fp) CT tgE tg) (hs : ∀ i ∈ tg, i ∈ own.map (·.2)) (hs2 : ∀ i ∈ tg2, i ∈ own.map (·.2))
    (hb : SndB X CT scope mc ifs tt) (hi2 : ∀ (s : Shared) (H : Hp) (C : Addr) (cl : List (Str × Addr)) (fp : List Addr), SndI (Cx.b X scope s H C cl fp) CT tgE2 mi2 iter2) (ht2 : ∀ (s : Shared) (H : Hp) (C : Addr) (cl : List (Str × Addr)) (fp : List Addr), TgSnd (Cx.b X scope s H C cl fp) CT tgE2 tg2)
    (hb2 : SndB X CT scope mc2 ifs2 tt2) (he : ∀ (s : Shared) (H : Hp) (C : Addr) (cl : List (Str × Addr)) (fp : List Addr), SndE (Cx.b X scope s H C cl fp) CT me elt) (hf : ∀ x, foldedSetIterable iter X.env x = pure x) (hf2 : ∀ env x, foldedSetIterable iter2 env x = pure x) :
    SndE X CT (lc2M (own.map (·.2)) tg tg2 me mi mc mi2 mc2) (.ListComp elt [⟨tgE, iter, ifs, 0⟩, ⟨tgE2, iter2, ifs2, 0⟩] scope pos) := fun p S0 H0 S H env π σ d π' Q A hm k => by
  refine qE_of (pe_lc2 hc hN piq ok hs2 pg_all hb.1 pi_all pg_all hb2.1 pe_all hf hf2) (lc2_reads hi ht hs hb hi2 ht2 hb2 he A hm fun S' H' a vs ds e t w h1 h2 r h3 h4 => ?_)
  subst e
  obtain ⟨s1, w1⟩ := w.share h1 h2 h4
  exact k _ _ _ (t.share h1 h3) w1 (.lst upd_same (r.mono s1))
end
end UK

set_option Elab.async false
set_option linter.all false
set_option maxRecDepth 100000
set_option maxHeartbeats 4000000
namespace UK
open PySem PySem.Spec PyProof.Rows L2
section
variable {K : PySem.W.Frag} {CT : CTab} {p : Addr} {S0 : Hp} {H0 : Hs} {S H : Hp} {env : Env'} {π : Pen} {σ : St}
/-! ### lists shared ahead of a statement -/
theorem getD_set_ne {α : Type} {l : List α} {i j : Nat} {x : α} (h : i ≠ j) : (l.set i x)[j]? = l[j]? := List.getElem?_set_ne h
/-- objects that a slot owns are shared -/
theorem Agr.frzG (A : Agr K CT p S0 H0 S H env π σ) {i : Nat} {s : Slot} {d : D} {v : V} {S' : Hp} (e : env[i]? = some s) (eσ : σ[i]? = some (some v)) (s1 : Same S S') (w1 : Wd p S' π H) (st : Stp p S0 H0 S' H) (hB : ∀ b, S' b ≠ S b → Adr H s σ[i]? b) (r : Rep K CT p S' d v) :
    Agr K CT p S0 H0 S' H (env.set i (.sh d)) π σ := by
  have hl : i < env.length := (List.getElem?_eq_some_iff.mp e).1
  have out : ∀ (j : Nat) (t : Slot), i ≠ j → env[j]? = some t → ∀ b, Adr H t σ[j]? b → S' b = S b := fun j t hne ej b q => Classical.byContradiction fun z => A.dis i j s t b hne e ej (hB b z) q
  refine ⟨st, w1, by simp [A.len], fun j sl ej => ?_, fun j j' s t b hne e1' e2' q1 q2 => ?_⟩
  · by_cases hij : i = j
    · subst hij
      rw [List.getElem?_set_self hl] at ej
      cases ej
      exact ⟨v, eσ, r⟩
    · rw [getD_set_ne hij] at ej
      have q := A.ok j sl ej
      have fr := out j sl hij ej
      cases sl with
      | un => trivial
      | sh d => obtain ⟨v, e2, r2⟩ := q; exact ⟨v, e2, r2.mono s1⟩
      | ow ds2 =>
        obtain ⟨b, us, e2, h2, r2, hs2, q2⟩ := q
        exact ⟨b, us, e2, h2, r2.mono s1, by rw [fr b e2]; exact hs2, q2⟩
      | se c fs =>
        obtain ⟨b, dx, C, fns, fvs, e2, e3, h2, e4, e5, r2, hs2, q2⟩ := q
        exact ⟨b, dx, C, fns, fvs, e2, e3, h2, e4, e5, r2.mono s1, by rw [fr b e2]; exact hs2, q2⟩
      | rw rss =>
        obtain ⟨a, bs, e2, h2, r2, nd, q2⟩ := q
        have mon : ∀ {rss : List (List D)} {bs : List Addr}, Rws K CT p S H rss bs → Rws K CT p S' H rss bs := by
          intro rss
          induction rss with
          | nil => intro bs h; cases bs with
            | nil => trivial
            | cons b bs => exact h.elim
          | cons ds rss ih => intro bs h; cases bs with
            | nil => exact h.elim
            | cons b bs => obtain ⟨⟨vs, h1, r⟩, h2⟩ := h; exact ⟨⟨vs, h1, r.mono s1⟩, ih h2⟩
        refine ⟨a, bs, e2, h2, mon r2, nd, fun b hb => ⟨?_, (q2 b hb).2⟩⟩
        rw [fr b ?_]
        · exact (q2 b hb).1
        · rcases List.mem_cons.mp hb with rfl | hb
          · exact .inl e2
          · exact .inr ⟨a, _, e2, h2, List.mem_map.mpr ⟨b, hb, rfl⟩⟩
  · have n1 : i ≠ j := fun z => by
      subst z
      rw [List.getElem?_set_self hl] at e1'
      cases e1'
      exact q1
    have n2 : i ≠ j' := fun z => by
      subst z
      rw [List.getElem?_set_self hl] at e2'
      cases e2'
      exact q2
    rw [getD_set_ne n1] at e1'
    rw [getD_set_ne n2] at e2'
    exact A.dis j j' s t b hne e1' e2' q1 q2
/-- the inner lists of rows are shared -/
theorem rows_share : ∀ {rss : List (List D)} {bs : List Addr} {S : Hp}, Stp p S0 H0 S H → Wd p S π H → Rws K CT p S H rss bs → bs.Nodup → (∀ b ∈ bs, S b = none ∧ b ≠ p ∧ H0 b = none) →
    ∃ S', Same S S' ∧ Wd p S' π H ∧ Stp p S0 H0 S' H ∧ (∀ b, S' b ≠ S b → b ∈ bs) ∧ Reps K CT p S' (rss.map .lst) (bs.map V.ref)
  | [], [], S, st, w, _, _, _ => ⟨S, Same.refl S, w, st, fun _ h => absurd rfl h, .nil⟩
  | ds :: rss, b :: bs, S, st, w, ⟨⟨vs, h1, r⟩, h2⟩, nd, hb => by
    obtain ⟨hs, hp, h0⟩ := hb b (List.mem_cons_self ..)
    obtain ⟨s1, w1⟩ := w.share hs h1 hp
    have st1 := st.share (o := .lst vs) hs h0
    have nd' := List.nodup_cons.mp nd
    have mon : ∀ {rss : List (List D)} {bs : List Addr}, Rws K CT p S H rss bs → Rws K CT p (upd S b (.lst vs)) H rss bs := by
      intro rss
      induction rss with
      | nil => intro bs h; cases bs with
        | nil => trivial
        | cons b bs => exact h.elim
      | cons ds rss ih => intro bs h; cases bs with
        | nil => exact h.elim
        | cons b bs => obtain ⟨⟨vs, h1, r⟩, h2⟩ := h; exact ⟨⟨vs, h1, r.mono s1⟩, ih h2⟩
    obtain ⟨S', s2, w2, st2, hB, rr⟩ := rows_share st1 w1 (mon h2) nd'.2 fun c hc => by
      have ne : c ≠ b := fun z => nd'.1 (z ▸ hc)
      have q := hb c (List.mem_cons_of_mem _ hc)
      exact ⟨by rw [upd_ne ne]; exact q.1, q.2⟩
    refine ⟨S', s1.trans s2, w2, st2, fun c hc => ?_, .cons (.lst (s2 _ _ upd_same) ((r.mono s1).mono s2)) rr⟩
    by_cases e : c = b
    · subst e; exact List.mem_cons_self ..
    · refine List.mem_cons_of_mem _ (hB c ?_)
      rw [upd_ne e]
      exact hc
  | [], _ :: _, _, _, _, h, _, _ => h.elim
  | _ :: _, [], _, _, _, h, _, _ => h.elim
/-- rows as a whole are shared -/
theorem rows_all {rss : List (List D)} {a : Addr} {bs : List Addr} {S : Hp} (st : Stp p S0 H0 S H) (w : Wd p S π H) (h : H a = some (.lst (bs.map V.ref))) (r : Rws K CT p S H rss bs) (nd : (a :: bs).Nodup) (hb : ∀ b ∈ a :: bs, S b = none ∧ b ≠ p ∧ H0 b = none) :
    ∃ S', Same S S' ∧ Wd p S' π H ∧ Stp p S0 H0 S' H ∧ (∀ b, S' b ≠ S b → b ∈ a :: bs) ∧ Rep K CT p S' (.lst (rss.map .lst)) (.ref a) := by
  have nd' := List.nodup_cons.mp nd
  obtain ⟨S1, s1, w1, st1, hB, rr⟩ := rows_share st w r nd'.2 fun c hc => hb c (List.mem_cons_of_mem _ hc)
  obtain ⟨hs, hp, h0⟩ := hb a (List.mem_cons_self ..)
  have hs1 : S1 a = none := by
    rw [← hs]
    exact Classical.byContradiction fun z => nd'.1 (hB a z)
  obtain ⟨s2, w2⟩ := w1.share hs1 h hp
  refine ⟨_, s1.trans s2, w2, st1.share hs1 h0, fun c hc => ?_, .lst upd_same (rr.mono s2)⟩
  by_cases e : c = a
  · subst e; exact List.mem_cons_self ..
  · rw [upd_ne e] at hc
    exact List.mem_cons_of_mem _ (hB c hc)
theorem Agr.frz1 (A : Agr K CT p S0 H0 S H env π σ) (i : Nat) : ∃ S', Same S S' ∧ Agr K CT p S0 H0 S' H (frz1 env i) π σ := by
  unfold UK.frz1
  cases e : env[i]? with
  | none => exact ⟨S, Same.refl S, A⟩
  | some s =>
    cases s with
    | ow ds =>
      dsimp only
      obtain ⟨a, vs, e1, h1, r, hs, hp, h0⟩ := A.ok i _ e
      obtain ⟨s1, w1⟩ := A.wd.share hs h1 hp
      refine ⟨_, s1, A.frzG e e1 s1 w1 (A.st.share hs h0) (fun b hb => ?_) (.lst upd_same (r.mono s1))⟩
      by_cases z : b = a
      · subst z; exact e1
      · rw [upd_ne z] at hb; exact absurd rfl hb
    | rw rss =>
      dsimp only
      obtain ⟨a, bs, e1, h1, r, nd, hb⟩ := A.ok i _ e
      obtain ⟨S', s1, w1, st1, hB, rr⟩ := rows_all A.st A.wd h1 r nd hb
      refine ⟨S', s1, A.frzG e e1 s1 w1 st1 (fun b hc => ?_) rr⟩
      rcases List.mem_cons.mp (hB b hc) with rfl | hm
      · exact .inl e1
      · exact .inr ⟨a, _, e1, h1, List.mem_map.mpr ⟨b, hm, rfl⟩⟩
    | _ => exact ⟨S, Same.refl S, A⟩
theorem Agr.frz : ∀ (is : List Nat) {S : Hp} {env : Env'}, Agr K CT p S0 H0 S H env π σ → ∃ S', Same S S' ∧ Agr K CT p S0 H0 S' H (frz is env) π σ
  | [], S, env, A => ⟨S, Same.refl S, A⟩
  | i :: is, S, env, A => by
    obtain ⟨S1, s1, A1⟩ := A.frz1 i
    obtain ⟨S2, s2, A2⟩ := Agr.frz is A1
    exact ⟨S2, s1.trans s2, A2⟩
/-- a slot is set to something new -/
theorem Agr.setG (A : Agr K CT p S0 H0 S H env π σ) {i : Nat} {sl : Slot} {v : V} (q : SlotOk K CT p S H0 H sl (some (some v))) (hn : ∀ b, Adr H sl (some (some v)) b → ¬ OwnAt H env σ b) : Agr K CT p S0 H0 S H (env.set i sl) π (σ.set i (some v)) := by
  refine ⟨A.st, A.wd, by simp [A.len], fun j s e => ?_, fun j j' s t b hne e1 e2 q1 q2 => ?_⟩
  · by_cases hij : i = j
    · subst hij
      have hl : i < env.length := by
        have := (List.getElem?_eq_some_iff.mp e).1
        simpa using this
      rw [List.getElem?_set_self hl] at e
      cases e
      rw [List.getElem?_set_self (by rw [← A.len]; exact hl)]
      exact q
    · rw [getD_set_ne hij] at e
      rw [getD_set_ne hij]
      exact A.ok j s e
  · have key : ∀ (j j' : Nat) (s t : Slot), j ≠ j' → (env.set i sl)[j]? = some s → (env.set i sl)[j']? = some t → Adr H s (σ.set i (some v))[j]? b → Adr H t (σ.set i (some v))[j']? b → i = j → False := fun j j' s t hne e1 e2 q1 q2 hij => by
      subst hij
      have hl : i < env.length := by
        have := (List.getElem?_eq_some_iff.mp e1).1
        simpa using this
      rw [List.getElem?_set_self hl] at e1
      rw [List.getElem?_set_self (by rw [← A.len]; exact hl)] at q1
      cases e1
      rw [getD_set_ne hne] at e2 q2
      exact hn b q1 ⟨_, _, e2, q2⟩
    by_cases h1 : i = j
    · exact key j j' s t hne e1 e2 q1 q2 h1
    · by_cases h2 : i = j'
      · exact key j' j t s (Ne.symm hne) e2 e1 q2 q1 h2
      · rw [getD_set_ne h1] at e1 q1
        rw [getD_set_ne h2] at e2 q2
        exact A.dis j j' s t b hne e1 e2 q1 q2
/-- a list of one's own at a slot -/
theorem Agr.setOwn (A : Agr K CT p S0 H0 S H env π σ) {i : Nat} {a : Addr} {vs : List V} {ds : List D} (h : H a = some (.lst vs)) (r : Reps K CT p S ds vs) (hs : S a = none) (hp : a ≠ p) (h0 : H0 a = none) (hn : ∀ b, OwnAt H env σ b → b ≠ a) : Agr K CT p S0 H0 S H (env.set i (.ow ds)) π (σ.set i (some (.ref a))) :=
  A.setG ⟨a, vs, rfl, h, r, hs, hp, h0⟩ fun b e q => by
    cases e
    exact hn _ q rfl
/-- an object that a slot owns is changed -/
theorem Agr.chgG (A : Agr K CT p S0 H0 S H env π σ) {i : Nat} {s s' : Slot} {a : Addr} {o : HO} (e : env[i]? = some s) (ha : Adr H s σ[i]? a) (q : SlotOk K CT p S H0 (upd H a o) s' σ[i]?) (hq : ∀ b, Adr (upd H a o) s' σ[i]? b → Adr H s σ[i]? b) : Agr K CT p S0 H0 S (upd H a o) (env.set i s') π σ := by
  obtain ⟨hn, hs, hp, h0⟩ := A.own' ⟨i, s, e, ha⟩
  have hl : i < env.length := (List.getElem?_eq_some_iff.mp e).1
  have ho : ∀ (j : Nat) (t : Slot), i ≠ j → env[j]? = some t → ∀ b, Adr H t σ[j]? b → b ≠ a := fun j t hne ej b qb z => by
    subst z
    exact A.dis i j s t b hne e ej ha qb
  have back : ∀ (j : Nat) (t : Slot) (b : Addr), (env.set i s')[j]? = some t → Adr (upd H a o) t σ[j]? b → ∃ t', env[j]? = some t' ∧ Adr H t' σ[j]? b := fun j t b ej qb => by
    by_cases hij : i = j
    · subst hij
      rw [List.getElem?_set_self hl] at ej
      cases ej
      exact ⟨s, e, hq b qb⟩
    · rw [getD_set_ne hij] at ej
      exact ⟨t, ej, adr_put (A.ok j t ej) (ho j t hij ej) qb⟩
  refine ⟨A.st.put h0 hn, A.wd.put hs hp, by simp [A.len], fun j t ej => ?_, fun j j' s t b hne e1 e2 q1 q2 => ?_⟩
  · by_cases hij : i = j
    · subst hij
      rw [List.getElem?_set_self hl] at ej
      cases ej
      exact q
    · rw [getD_set_ne hij] at ej
      exact (A.ok j t ej).put (ho j t hij ej)
  · obtain ⟨s1, e3, q3⟩ := back j s b e1 q1
    obtain ⟨t1, e4, q4⟩ := back j' t b e2 q2
    exact A.dis j j' s1 t1 b hne e3 e4 q3 q4
/-- the list of one's own at a slot is changed -/
theorem Agr.chg (A : Agr K CT p S0 H0 S H env π σ) {i : Nat} {a : Addr} {vs : List V} {ds es : List D} (e : env[i]? = some (.ow ds)) (eσ : σ[i]? = some (some (.ref a))) (r : Reps K CT p S es vs) : Agr K CT p S0 H0 S (upd H a (.lst vs)) (env.set i (.ow es)) π σ := by
  obtain ⟨a', vs', e1, h1, _, hs, hp, h0⟩ := A.ok i _ e
  rw [eσ] at e1
  cases e1
  exact A.chgG e eσ ⟨a, vs, eσ, upd_same, r, hs, hp, h0⟩ fun b q => q
end
section
variable {X : Cx} {CT : CTab}
/-- a new list as an expression -/
def SndF (X : Cx) (CT : CTab) (m : Env' → M D) (e : Expr) : Prop := ∀ (p : Addr) (S0 : Hp) (H0 : Hs) (S H : Hp) (env : Env') (π : Pen) (σ : St) (d : D) (π' : Pen) (Q : VK), Agr X.K CT p S0 H0 S H env π σ → m env π = some (d, π') →
  (∀ (S' H' : Hp) (a : Addr) (vs : List V) (ds : List D), d = .lst ds → Stp p S H S' H' → Wd p S' π' H' → S' a = none → H' a = some (.lst vs) → Reps X.K CT p S' ds vs → H a = none → a ≠ p → Q (.ref a) H') → qE X e σ H Q
theorem SndF.e {m : Env' → M D} {e : Expr} (h : SndF X CT m e) : SndE X CT m e := fun p S0 H0 S H env π σ d π' Q A hm k => h p S0 H0 S H env π σ d π' Q A hm fun S' H' a vs ds e t w h1 h2 r h3 h4 => by
  subst e
  obtain ⟨s1, w1⟩ := w.share h1 h2 h4
  exact k _ _ _ (t.share h1 h3) w1 (.lst upd_same (r.mono s1))
theorem snf_lst {m : Env' → M (List D)} {es : List Expr} {pos : Pos} (h : SndA X CT m es) : SndF X CT (fun env => bnd (m env) fun xs => guardM (decide (xs.length ≤ LIM)) (ret (.lst xs))) (.List es pos) := fun p S0 H0 S H env π σ d π' Q A hm k => by
  obtain ⟨xs, π1, h1, hm⟩ := bnd_some hm
  obtain ⟨c, hm⟩ := guard_some hm
  obtain ⟨rfl, rfl⟩ := ret_some hm
  refine qE_of (pe_lst paq) (h p S0 H0 S H env π σ xs _ _ A h1 fun S1 H1 vs t1 w1 r1 => ⟨by rw [← r1.length]; exact sizeLIM (of_decide_eq_true c), fun q hq => ?_⟩)
  obtain ⟨t, w', hs, hp⟩ := w1.lay (o := .lst vs) hq
  exact k _ _ q vs xs rfl (t1.trans t) w' hs upd_same r1 (t1.n _ hq) hp
theorem snf_list {m : Env' → M D} {e : Expr} {p pos : Pos} (h : SndP X CT m e) (hg : Gl X "list") (hm : X.mg "list" = none) (hs : notStar e = true) : SndF X CT (fun env => bnd (m env) (b1D .list)) (.Call (.Name "list" p) [e] [] pos) := fun q S0 H0 S H env π σ d π' Q A h1 k => by
  obtain ⟨y, π1, h1, h2⟩ := bnd_some h1
  refine qE_of (pe_callTy call_list_of hg hm (by decide +kernel) (pa_cons peq pa_nil (starEach_of hs _ _)) (by decide) (by decide) (starEach_of hs _ _) rfl) (h q S0 H0 S H env π σ y π1 _ A h1 fun S1 H1 u t1 w1 r1 => ?_)
  have ra := r1 S1 H1 π1 (Stp.refl _ _ _) (A.next t1 w1)
  cases y <;> first | (cases h2; done) | skip
  · cases h2
    obtain ⟨a1, vs, rfl, q1, q1s, rr⟩ := ra.tup w1.sub
    refine ⟨a1, vs, rfl, .inr q1, fun b hb => ?_⟩
    obtain ⟨t, w', hs, hp⟩ := w1.lay (o := .lst vs) hb
    exact k _ _ b vs _ rfl (t1.trans t) w' hs upd_same rr (t1.n _ hb) hp
  · cases h2
    obtain ⟨a1, vs, rfl, q1, rr⟩ := ra.lst w1.sub
    refine ⟨a1, vs, rfl, .inl (SqL.of q1), fun b hb => ?_⟩
    obtain ⟨t, w', hs, hp⟩ := w1.lay (o := .lst vs) hb
    exact k _ _ b vs _ rfl (t1.trans t) w' hs upd_same rr (t1.n _ hb) hp
theorem snf_mul {m : Env' → M (List D)} {r : Env' → M D} {es : List Expr} {e2 : Expr} {p1 pos : Pos} (h : SndA X CT m es) (hr : SndE X CT r e2) : SndF X CT (fun env => bnd (bnd (m env) fun xs => guardM (decide (xs.length ≤ LIM)) (ret (.lst xs))) fun x => bnd (r env) fun y => binD .mul x y) (.BinOp (.List es p1) .Mult e2 pos) := fun p S0 H0 S H env π σ d π' Q A hm k => by
  obtain ⟨x, π1, h1, hm⟩ := bnd_some hm
  obtain ⟨y, π2, h2, hm⟩ := bnd_some hm
  obtain ⟨xs, π3, h3, h4⟩ := bnd_some h1
  obtain ⟨c, h4⟩ := guard_some h4
  cases h4
  refine qE_of (pe_op op_rep (pe_lst paq) peq) (h p S0 H0 S H env π σ xs _ _ A h3 fun S1 H1 vs t1 w1 r1 => ⟨by rw [← r1.length]; exact sizeLIM (of_decide_eq_true c), fun q hq => ?_⟩)
  obtain ⟨t, w', e⟩ := w1.new (o := .lst vs) hq
  have r1' := r1.mono t.s
  have A1 := A.next (t1.trans t) w'
  refine hr p S0 H0 _ _ env _ σ y π2 _ A1 h2 fun S2 H2 v t2 w2 r2 => ?_
  cases y <;> first | (cases hm; done) | skip
  rename_i i
  obtain ⟨c', hm⟩ := guard_some hm
  cases hm
  cases r2
  obtain ⟨c1, c2⟩ := and2 c'
  obtain ⟨c2, c3⟩ := and2 c2
  have e1 : xs.length ≤ 1000 := of_decide_eq_true c1
  have h0 : 0 ≤ i := of_decide_eq_true c2
  have h1 : i ≤ 1000 := of_decide_eq_true c3
  have l1 : vs.length ≤ 1000 := by rw [← r1.length]; exact e1
  have hz : vs.length * i.toNat ≤ sizeLine := by
    have : vs.length * i.toNat ≤ 1000 * 1000 := Nat.mul_le_mul l1 (by omega)
    rw [sizeLine_eq]; omega
  refine ⟨q, i, vs, rfl, rfl, w2.sub _ _ (t2.s _ _ e), by omega, by omega, hz, fun b hb => ?_⟩
  obtain ⟨t3, w3, hs, hp⟩ := w2.lay (o := .lst (List.replicate i.toNat vs).flatten) hb
  exact k _ _ b _ _ rfl (((t1.trans t).trans t2).trans t3) w3 hs upd_same ((r1'.mono t2.s).rep i.toNat) (((t1.trans t).trans t2).n _ hb) hp
theorem snf_lc {own : List (Str × Nat)} {tg : List Nat} {me : Env' → M D} {mi : Env' → M (List D)} {mc : Env' → M (Option D)} {elt tgE iter : Expr} {ifs : List Expr} {scope : Scope} {tt : TT} {pos : Pos} (hc : X.calm = true) (hN : X.N.Nodup) (ok : BlkOk X.N X.env.scope scope own)
    (hi : SndIp X CT tgE mi iter) (ht : ∀ (s : Shared) (H : Hp) (C : Addr) (cl : List (Str × Addr)) (fp : List Addr), TgSnd (Cx.b X scope s H C cl fp) CT tgE tg) (hs : ∀ i ∈ tg, i ∈ own.map (·.2))
    (hb : SndB X CT scope mc ifs tt) (he : ∀ (s : Shared) (H : Hp) (C : Addr) (cl : List (Str × Addr)) (fp : List Addr), SndE (Cx.b X scope s H C cl fp) CT me elt) (hf : ∀ x, foldedSetIterable iter X.env x = pure x) :
    SndF X CT (lcM (own.map (·.2)) tg me mi mc) (.ListComp elt [⟨tgE, iter, ifs, 0⟩] scope pos) := fun p S0 H0 S H env π σ d π' Q A hm k => qE_of (pe_lc hc hN piq ok pg_all hb.1 pe_all hf) (lc_reads hi ht hs hb he A hm k)

/-! ### what a statement is worth -/
def Fin (X : Cx) (CT : CTab) (p : Addr) (S0 : Hp) (H0 : Hs) (S : Hp) (Dn : Ends) : (Flw × Env') × Pen → Prop
  | ((.nx, env'), π') => ∀ S' H' σ', Same S S' → Agr X.K CT p S0 H0 S' H' env' π' σ' → Dn.nx σ' H'
  | ((.brk, env'), π') => ∀ S' H' σ', Same S S' → Agr X.K CT p S0 H0 S' H' env' π' σ' → Dn.bk σ' H'
  | ((.cnt, env'), π') => ∀ S' H' σ', Same S S' → Agr X.K CT p S0 H0 S' H' env' π' σ' → Dn.ct σ' H'
  | ((.rr rss, _), π') => ∀ S' H' v, Stp p S0 H0 S' H' → Wd p S' π' H' → RowsAt X.K CT p S' H' rss v (fun b => H0 b = none) → Dn.rt v H'
  | ((.ret d, _), π') => ∀ S' H' v, Stp p S0 H0 S' H' → Wd p S' π' H' → Rep X.K CT p S' d v → Dn.rt v H'
theorem Fin.mono {X : Cx} {CT : CTab} {p : Addr} {S0 : Hp} {H0 : Hs} {S S1 : Hp} {Dn : Ends} {r : (Flw × Env') × Pen} (h : Fin X CT p S0 H0 S Dn r) (s : Same S S1) : Fin X CT p S0 H0 S1 Dn r := by
  obtain ⟨⟨f, env⟩, π⟩ := r
  cases f with
  | nx => exact fun S' H' σ' s1 A => h S' H' σ' (s.trans s1) A
  | brk => exact fun S' H' σ' s1 A => h S' H' σ' (s.trans s1) A
  | cnt => exact fun S' H' σ' s1 A => h S' H' σ' (s.trans s1) A
  | ret d => exact h
  | rr d => exact h
def SndS (X : Cx) (CT : CTab) (m : Env' → M (Flw × Env')) (st : Stmt) : Prop := ∀ (p : Addr) (S0 : Hp) (H0 : Hs) (S H : Hp) (env : Env') (π : Pen) (σ : St) (r : (Flw × Env') × Pen) (Dn : Ends), Agr X.K CT p S0 H0 S H env π σ → m env π = some r → Fin X CT p S0 H0 S Dn r → qS X st Dn σ H
def SndSs (X : Cx) (CT : CTab) (m : Env' → M (Flw × Env')) (sts : List Stmt) : Prop := ∀ (p : Addr) (S0 : Hp) (H0 : Hs) (S H : Hp) (env : Env') (π : Pen) (σ : St) (r : (Flw × Env') × Pen) (Dn : Ends), Agr X.K CT p S0 H0 S H env π σ → m env π = some r → Fin X CT p S0 H0 S Dn r → qSs X sts Dn σ H
def seqM (a b : Env' → M (Flw × Env')) : Env' → M (Flw × Env') := fun env => bnd (a env) fun r => match r with
  | (.nx, env') => b env'
  | r => ret r
theorem sns_nil : SndSs X CT (fun env => ret (.nx, env)) [] := fun p S0 H0 S H env π σ r Dn A hm k => by
  cases hm
  exact qSs_of pss_nil (k S H σ (Same.refl S) A)
theorem sns_cons {a b : Env' → M (Flw × Env')} {st : Stmt} {sts : List Stmt} (h1 : SndS X CT a st) (h2 : SndSs X CT b sts) : SndSs X CT (seqM a b) (st :: sts) := fun p S0 H0 S H env π σ r Dn A hm k => by
  obtain ⟨r1, r2⟩ := r
  obtain ⟨⟨f, env1⟩, π1, e1, e2⟩ := bnd_some hm
  refine qSs_of (pss_cons psq pssq) (h1 p S0 H0 S H env π σ _ _ A e1 ?_)
  cases f with
  | nx => exact fun S' H' σ' s' A' => h2 p S0 H0 S' H' env1 π1 σ' _ Dn A' e2 (k.mono s')
  | ret d => cases e2; exact k
  | rr d => cases e2; exact k
  | brk => cases e2; exact k
  | cnt => cases e2; exact k
theorem sns_one {a : Env' → M (Flw × Env')} {st : Stmt} (h1 : SndS X CT a st) : SndSs X CT a [st] := fun p S0 H0 S H env π σ r Dn A hm k => qSs_of (pss_one psq) (h1 p S0 H0 S H env π σ r Dn A hm k)
def exM (is : List Nat) (m : Env' → M D) : Env' → M (D × Env') := fun env => bnd (m (frz is env)) fun d => ret (d, frz is env)
theorem exM_some {is : List Nat} {m : Env' → M D} {α : Type} {g : D × Env' → M α} {env : Env'} {π π' : Pen} {r : α} (h : bnd (exM is m env) g π = some (r, π')) : ∃ d π1, m (frz is env) π = some (d, π1) ∧ g (d, frz is env) π1 = some (r, π') := by
  obtain ⟨x, π1, h1, h2⟩ := bnd_some h
  obtain ⟨d, π2, h3, h4⟩ := bnd_some h1
  cases h4
  exact ⟨d, _, h3, h2⟩
/-- not a comprehension -/
def notComp : Expr → Bool
  | .ListComp .. | .SetComp .. | .DictComp .. => false
  | _ => true
theorem swaps_no {e : Expr} (h : notComp e = true) (t : Option Expr) (l : Nat) (env : Env) : swapsWith e t l env = pure false := by
  cases e <;> first | (cases h; done) | rfl
theorem sn_ret {is : List Nat} {m : Env' → M D} {e : Expr} {pos : Pos} (h : SndE X CT m e) : SndS X CT (fun env => bnd (exM is m env) fun r => ret (.ret r.1, r.2)) (.Return (some e) pos) := fun p S0 H0 S H env π σ r Dn A hm k => by
  obtain ⟨r1, r2⟩ := r
  obtain ⟨d, π1, h1, h2⟩ := exM_some hm
  cases h2
  obtain ⟨S1, s1, A1⟩ := Agr.frz is A
  exact qS_of (ps_ret peq) (h p S0 H0 S1 H _ π σ d _ _ A1 h1 fun S' H' v t w rv => k S' H' v (A1.st.trans t) w rv)
theorem sn_exp {is : List Nat} {m : Env' → M D} {e : Expr} {pos : Pos} (h : SndE X CT m e) (hc : notComp e = true) : SndS X CT (fun env => bnd (exM is m env) fun r => ret (.nx, r.2)) (.Expr e pos) := fun p S0 H0 S H env π σ r Dn A hm k => by
  obtain ⟨r1, r2⟩ := r
  obtain ⟨d, π1, h1, h2⟩ := exM_some hm
  cases h2
  obtain ⟨S1, s1, A1⟩ := Agr.frz is A
  exact qS_of (ps_expr peq (swaps_no hc _ _ _)) (h p S0 H0 S1 H _ π σ d _ _ A1 h1 fun S' H' v t w rv => k S' H' σ (s1.trans t.s) (A1.next t w))
theorem sn_set {is : List Nat} {m : Env' → M D} {e : Expr} {i : Nat} {x : Str} {p1 pos : Pos} (h : SndE X CT m e) (hc : notComp e = true) (hN : X.N.Nodup) (n : NmOk X i x) : SndS X CT (fun env => bnd (exM is m env) fun r => ret (.nx, r.2.set i (.sh r.1))) (.Assign [.Name x p1] e pos) := fun p S0 H0 S H env π σ r Dn A hm k => by
  obtain ⟨r1, r2⟩ := r
  obtain ⟨d, π1, h1, h2⟩ := exM_some hm
  cases h2
  obtain ⟨S1, s1, A1⟩ := Agr.frz is A
  exact qS_of (ps_set hN n.at_ n.loc peq (swaps_no hc _ _ _) n.fn) (h p S0 H0 S1 H _ π σ d _ _ A1 h1 fun S' H' v t w rv => k S' H' _ (s1.trans t.s) ((A1.next t w).set rv))
def ownM (is : List Nat) (m : Env' → M D) (i : Nat) : Env' → M (Flw × Env') := fun env => bnd (exM is m env) fun r => match r.1 with
  | .lst ds => ret (.nx, r.2.set i (.ow ds))
  | _ => stuck
theorem own_ok {is : List Nat} {m : Env' → M D} {i : Nat} {p : Addr} {S0 : Hp} {H0 : Hs} {S H : Hp} {env : Env'} {π : Pen} {σ : St} {r : (Flw × Env') × Pen} {Dn : Ends} (A : Agr X.K CT p S0 H0 S H env π σ) (hm : ownM is m i env π = some r) (k : Fin X CT p S0 H0 S Dn r) :
    ∃ S1 ds π1, Agr X.K CT p S0 H0 S1 H (frz is env) π σ ∧ m (frz is env) π = some (.lst ds, π1) ∧ ∀ (S' H' : Hp) (a : Addr) (vs : List V), Stp p S1 H S' H' → Wd p S' π1 H' → S' a = none → H' a = some (.lst vs) → Reps X.K CT p S' ds vs → H a = none → a ≠ p → Dn.nx (σ.set i (some (.ref a))) H' := by
  obtain ⟨r1, r2⟩ := r
  obtain ⟨d, π1, h1, h2⟩ := exM_some hm
  obtain ⟨S1, s1, A1⟩ := Agr.frz is A
  cases d <;> first | (cases h2; done) | skip
  rename_i ds
  cases h2
  refine ⟨S1, ds, _, A1, h1, fun S' H' a vs t w hs h3 rr h4 h5 => k S' H' _ (s1.trans t.s) ?_⟩
  exact (A1.next t w).setOwn h3 rr hs h5 (A1.st.n _ h4) fun b hb e => A1.own (A1.ownBack t hb) (e ▸ h4)
theorem sn_own {is : List Nat} {m : Env' → M D} {e : Expr} {i : Nat} {x : Str} {p1 pos : Pos} (h : SndF X CT m e) (hN : X.N.Nodup) (n : NmOk X i x) (hsw : swapsWith e (some (.Name x p1)) pos.line X.env = pure false) : SndS X CT (ownM is m i) (.Assign [.Name x p1] e pos) := fun p S0 H0 S H env π σ r Dn A hm k => by
  obtain ⟨S1, ds, π1, A1, h1, kk⟩ := own_ok A hm k
  refine qS_of (ps_set hN n.at_ n.loc peq hsw n.fn) (h p S0 H0 S1 H _ π σ _ _ _ A1 h1 fun S' H' a vs ds' e t w hs h3 rr h4 h5 => ?_)
  cases e
  exact kk S' H' a vs t w hs h3 rr h4 h5
theorem sn_ownLc {is : List Nat} {own : List (Str × Nat)} {tg : List Nat} {me : Env' → M D} {mi : Env' → M (List D)} {mc : Env' → M (Option D)} {elt tgE iter : Expr} {ifs : List Expr} {scope : Scope} {tt : TT} {pos spos py : Pos} {i : Nat} {y : Str} (hc : X.calm = true) (hN : X.N.Nodup) (ok : BlkOk X.N X.env.scope scope own)
    (hi : SndIp X CT tgE mi iter) (ht : ∀ (s : Shared) (H : Hp) (C : Addr) (cl : List (Str × Addr)) (fp : List Addr), TgSnd (Cx.b X scope s H C cl fp) CT tgE tg) (hs : ∀ i ∈ tg, i ∈ own.map (·.2))
    (hb : SndB X CT scope mc ifs tt) (he : ∀ (s : Shared) (H : Hp) (C : Addr) (cl : List (Str × Addr)) (fp : List Addr), SndE (Cx.b X scope s H C cl fp) CT me elt) (hf : ∀ x, foldedSetIterable iter X.env x = pure x)
    (n : NmOk X i y) (hyl : X.env.scope.names.lookup y = some .local) (hsw : swapsWith (.ListComp elt [⟨tgE, iter, ifs, 0⟩] scope pos) (some (.Name y py)) spos.line X.env = pure true) :
    SndS X CT (ownM is (lcM (own.map (·.2)) tg me mi mc) i) (.Assign [.Name y py] (.ListComp elt [⟨tgE, iter, ifs, 0⟩] scope pos) spos) := fun p S0 H0 S H env π σ r Dn A hm k => by
  obtain ⟨S1, ds, π1, A1, h1, kk⟩ := own_ok A hm k
  refine qS_of (ps_setLc hc hN n.at_ hyl hsw piq ok pg_all hb.1 pe_all hf) (lc_reads (Q := fun x H1 => gName i x σ H1 Dn.nx) hi ht hs hb he A1 h1 fun S' H' a vs ds' e t w hs h3 rr h4 h5 => ?_)
  cases e
  exact kk S' H' a vs t w hs h3 rr h4 h5
theorem sn_ownLc2 {is : List Nat} {own : List (Str × Nat)} {tg tg2 : List Nat} {me : Env' → M D} {mi mi2 : Env' → M (List D)} {mc mc2 : Env' → M (Option D)} {elt tgE iter tgE2 iter2 : Expr} {ifs ifs2 : List Expr} {scope : Scope} {tt tt2 : TT} {pos spos py : Pos} {i : Nat} {y : Str} (hc : X.calm = true) (hN : X.N.Nodup) (ok : BlkOk X.N X.env.scope scope own)
    (hi : SndIp X CT tgE mi iter) (ht : ∀ (s : Shared) (H : Hp) (C : Addr) (cl : List (Str × Addr)) (fp : List Addr), TgSnd (Cx.b X scope s H C cl fp) CT tgE tg) (hs : ∀ i ∈ tg, i ∈ own.map (·.2)) (hs2 : ∀ i ∈ tg2, i ∈ own.map (·.2))
    (hb : SndB X CT scope mc ifs tt) (hi2 : ∀ (s : Shared) (H : Hp) (C : Addr) (cl : List (Str × Addr)) (fp : List Addr), SndI (Cx.b X scope s H C cl fp) CT tgE2 mi2 iter2) (ht2 : ∀ (s : Shared) (H : Hp) (C : Addr) (cl : List (Str × Addr)) (fp : List Addr), TgSnd (Cx.b X scope s H C cl fp) CT tgE2 tg2)
    (hb2 : SndB X CT scope mc2 ifs2 tt2) (he : ∀ (s : Shared) (H : Hp) (C : Addr) (cl : List (Str × Addr)) (fp : List Addr), SndE (Cx.b X scope s H C cl fp) CT me elt) (hf : ∀ x, foldedSetIterable iter X.env x = pure x) (hf2 : ∀ env x, foldedSetIterable iter2 env x = pure x)
    (n : NmOk X i y) (hyl : X.env.scope.names.lookup y = some .local) (hsw : swapsWith (.ListComp elt [⟨tgE, iter, ifs, 0⟩, ⟨tgE2, iter2, ifs2, 0⟩] scope pos) (some (.Name y py)) spos.line X.env = pure true) :
    SndS X CT (ownM is (lc2M (own.map (·.2)) tg tg2 me mi mc mi2 mc2) i) (.Assign [.Name y py] (.ListComp elt [⟨tgE, iter, ifs, 0⟩, ⟨tgE2, iter2, ifs2, 0⟩] scope pos) spos) := fun p S0 H0 S H env π σ r Dn A hm k => by
  obtain ⟨S1, ds, π1, A1, h1, kk⟩ := own_ok A hm k
  refine qS_of (ps_setLc2 hc hN n.at_ hyl hsw piq ok hs2 pg_all hb.1 pi_all pg_all hb2.1 pe_all hf hf2) (lc2_reads (Q := fun x H1 => gName i x σ H1 Dn.nx) hi ht hs hb hi2 ht2 hb2 he A1 h1 fun S' H' a vs ds' e t w hs h3 rr h4 h5 => ?_)
  cases e
  exact kk S' H' a vs t w hs h3 rr h4 h5
theorem sn_unp {is js : List Nat} {m : Env' → M D} {e : Expr} {es : List Expr} {k1 : Nat} {p1 pos : Pos} (h : SndE X CT m e) (hcalm : X.calm = true) (hN : X.N.Nodup) (hn : Nms X js es) (h2 : 2 ≤ js.length) (hsw : swapsWithSole [.Tuple es k1 p1] e pos.line X.env = pure false) (hw : swappedStores [.Tuple es k1 p1] e X.env = pure none) :
    SndS X CT (fun env => bnd (exM is m env) fun r => match r.1 with
      | .tup ds => match setAll js ds r.2 with
        | some env' => ret (.nx, env')
        | none => stuck
      | _ => stuck) (.Assign [.Tuple es k1 p1] e pos) := fun p S0 H0 S H env π σ r Dn A hm k => by
  obtain ⟨r1, r2⟩ := r
  obtain ⟨d, π1, h1, h3⟩ := exM_some hm
  obtain ⟨S1, s1, A1⟩ := Agr.frz is A
  cases d <;> first | (cases h3; done) | skip
  rename_i ds
  dsimp only at h3
  cases q : setAll js ds (frz is env) with
  | none => rw [q] at h3; cases h3
  | some env' =>
    rw [q] at h3
    cases h3
    refine qS_of (ps_asg peq pgq hsw hw rfl) (h p S0 H0 S1 H _ π σ _ _ _ A1 h1 fun S' H' v t w rv => ?_)
    refine tg_tup hcalm hN hn h2 p S0 H0 S' H' (frz is env) _ σ (.tup ds) v env' _ (A1.next t w) rv ?_ fun σ' A' _ _ => k S' H' σ' (s1.trans t.s) A'
    match js, h2, q with
    | i :: j :: js, _, q => exact q
def iteS (is : List Nat) (m : Env' → M D) (a b : Env' → M (Flw × Env')) : Env' → M (Flw × Env') := fun env => bnd (exM is m env) fun r => match r.1 with
  | .bl true => a r.2
  | .bl false => b r.2
  | _ => stuck
theorem sn_ite {is : List Nat} {m : Env' → M D} {a b : Env' → M (Flw × Env')} {e : Expr} {s1 s2 : List Stmt} {pos : Pos} (h : SndT X CT m e) (ha : SndSs X CT a s1) (hb : SndSs X CT b s2) : SndS X CT (iteS is m a b) (.If e s1 s2 pos) := fun p S0 H0 S H env π σ r Dn A hm k => by
  obtain ⟨r1, r2⟩ := r
  obtain ⟨d, π1, h1, h3⟩ := exM_some hm
  obtain ⟨S1, s1, A1⟩ := Agr.frz is A
  cases d <;> first | (cases h3; done) | skip
  rename_i c
  refine qS_of (ps_if ptq pssq pssq) (h p S0 H0 S1 H _ π σ _ _ _ A1 h1 ⟨c, rfl, fun S' H' t w => ?_⟩)
  cases c with
  | true => exact ha p S0 H0 S' H' _ _ σ _ Dn (A1.next t w) h3 (k.mono (s1.trans t.s))
  | false => exact hb p S0 H0 S' H' _ _ σ _ Dn (A1.next t w) h3 (k.mono (s1.trans t.s))
theorem sn_brk {pos : Pos} : SndS X CT (fun env => ret (.brk, env)) (.Break pos) := fun p S0 H0 S H env π σ r Dn A hm k => by
  cases hm
  exact qS_of ps_break (k S H σ (Same.refl S) A)
theorem sn_cnt {pos : Pos} : SndS X CT (fun env => ret (.cnt, env)) (.Continue pos) := fun p S0 H0 S H env π σ r Dn A hm k => by
  cases hm
  exact qS_of ps_continue (k S H σ (Same.refl S) A)
theorem sn_pass {pos : Pos} : SndS X CT (fun env => ret (.nx, env)) (.Pass pos) := fun p S0 H0 S H env π σ r Dn A hm k => by
  cases hm
  exact qS_of ps_pass (k S H σ (Same.refl S) A)
theorem sn_nev {st : Stmt} : SndS X CT (fun _ => stuck) st := fun p S0 H0 S H env π σ r Dn A hm k => by cases hm
theorem sn_app {is : List Nat} {m : Env' → M D} {e : Expr} {i : Nat} {x : Str} {p1 p2 p3 pos : Pos} (h : SndE X CT m e) (hst : notStar e = true) (hN : X.N[i]? = some x) (hv : Vis X.env.scope x) (hd : (x == ("__debug__" : Str)) = false) (hcd : (x == ("__classdict__" : Str)) = false) (hl : (p2.endLine == p3.line) = true) :
    SndS X CT (fun env => bnd (exM is m env) fun r => match r.2[i]? with
      | some (.ow ds) => guardM (decide (ds.length ≤ LIM)) (ret (.nx, r.2.set i (.ow (ds ++ [r.1]))))
      | _ => stuck) (.Expr (.Call (.Attribute (.Name x p1) "append" p2) [e] [] p3) pos) := fun p S0 H0 S H env π σ r Dn A hm k => by
  obtain ⟨r1, r2⟩ := r
  obtain ⟨d, π1, h1, h3⟩ := exM_some hm
  obtain ⟨S1, s1, A1⟩ := Agr.frz is A
  dsimp only at h3
  cases q : (frz is env)[i]? with
  | none => rw [q] at h3; cases h3
  | some sl =>
    rw [q] at h3
    cases sl <;> first | (cases h3; done) | skip
    rename_i ds
    obtain ⟨c, h3⟩ := guard_some h3
    cases h3
    have hlim := of_decide_eq_true c
    obtain ⟨a, vs, e1, hH, r, hs, hp, h0⟩ := A1.ok i _ q
    have sz : LIM < sizeLine := by decide
    refine qS_of (ps_expr (pe_bm PySem.F.plainAttrs_list PySem.F.slot_list_append PySem.F.type_list_append mt_append (pe_var hN hv hd hcd) (pa_cons peq pa_nil (starEach_of hst _ _)) rfl (by rw [starEach_of hst]; rfl) hl (starEach_of hst _ _) rfl) rfl) ?_
    refine ⟨.ref a, e1, .inl ⟨rfl, _, SqL.of hH⟩, h p S0 H0 S1 H _ π σ d _ _ A1 h1 fun S' H' v t w rv => ?_⟩
    have A2 := A1.next t w
    obtain ⟨a', vs', e1', hH', r', _⟩ := A2.ok i _ q
    rw [e1] at e1'
    cases e1'
    refine ⟨a, vs', v, rfl, rfl, hH', by rw [← r'.length]; omega, k S' _ σ (s1.trans t.s) ?_⟩
    exact A2.chg q e1 (r'.append (.cons rv .nil))
theorem swst_sub {o i : Expr} {p2 : Pos} (e : Expr) {env : Env} : swappedStores [.Subscript o i p2] e env = pure none := by
  cases e <;> rfl
theorem sn_put {is js : List Nat} {m mk : Env' → M D} {e ek : Expr} {i : Nat} {x : Str} {p1 p2 pos : Pos} (h : SndE X CT m e) (hk : SndE X CT mk ek) (hc : notComp e = true) (hN : X.N[i]? = some x) (hv : Vis X.env.scope x) (hd : (x == ("__debug__" : Str)) = false) (hcd : (x == ("__classdict__" : Str)) = false) (hns : notSlice ek = true) :
    SndS X CT (fun env => bnd (exM is m env) fun r => bnd (exM js mk r.2) fun q => match q.2[i]?, q.1 with
      | some (.ow ds), .int j => match ixN ds.length j with
        | some n => ret (.nx, q.2.set i (.ow (ds.set n r.1)))
        | none => stuck
      | _, _ => stuck) (.Assign [.Subscript (.Name x p1) ek p2] e pos) := fun p S0 H0 S H env π σ r Dn A hm k => by
  obtain ⟨r1, r2⟩ := r
  obtain ⟨d, π1, h1, h3⟩ := exM_some hm
  obtain ⟨S1, s1, A1⟩ := Agr.frz is A
  obtain ⟨dk, π2, h4, h5⟩ := exM_some h3
  dsimp only at h5
  refine qS_of (ps_asg peq (pg_sub (pe_var hN hv hd hcd) peq set_list (by cases ek <;> first | (cases hns; done) | (intro _; rfl))) (swaps_no (e := e) hc (some (.Subscript (.Name x p1) ek p2)) pos.line X.env) (swst_sub e) rfl) (h p S0 H0 S1 H _ π σ d _ _ A1 h1 fun S' H' v t w rv => ?_)
  obtain ⟨S2, s2, A2⟩ := Agr.frz js (A1.next t w)
  cases q : (frz js (frz is env))[i]? with
  | none => rw [q] at h5; cases h5
  | some sl =>
    rw [q] at h5
    cases sl <;> first | (cases h5; done) | skip
    rename_i ds
    cases dk <;> first | (cases h5; done) | skip
    rename_i j
    dsimp only at h5
    cases qi : ixN ds.length j with
    | none => rw [qi] at h5; cases h5
    | some n =>
      rw [qi] at h5
      cases h5
      obtain ⟨a, vs, e1, hH, r, hs, hp, h0⟩ := A2.ok i _ q
      refine ⟨.ref a, e1, hk p S0 H0 S2 H' _ _ σ _ _ _ A2 h4 fun S3 H3 u t3 w3 ru => ?_⟩
      have A3 := A2.next t3 w3
      obtain ⟨a', vs', e1', hH', r', _⟩ := A3.ok i _ q
      rw [e1] at e1'
      cases e1'
      cases ru
      exact ⟨a, vs', j, n, rfl, rfl, hH', by rw [← r'.length]; exact qi, k S3 _ σ (((s1.trans t.s).trans s2).trans t3.s) (A3.chg q e1 (r'.set n ((rv.mono s2).mono t3.s)))⟩
end
end UK

set_option Elab.async false
set_option linter.all false
set_option maxRecDepth 100000
set_option maxHeartbeats 4000000
namespace UK
open PySem PySem.Spec PyProof.Rows L2
section
variable {X : Cx} {CT : CTab}
/-! ### for -/
theorem sn_for {is tg : List Nat} {mi : Env' → M (List D)} {b : Env' → M (Flw × Env')} {tgE iter : Expr} {body : List Stmt} {pos : Pos} (hxe : X.xe = fun _ _ => False) (hc : X.calm = true) (hi : SndI X CT tgE mi iter) (ht : TgSnd X CT tgE tg) (hb : SndSs X CT b body) (hf : ∀ x, foldedSetIterable iter X.env x = pure x) :
    SndS X CT (fun env => bnd (mi (frz is env)) fun xs => forD b tg xs (frz is env)) (.For tgE iter body [] pos) := fun p S0 H0 S H env π σ r Dn A hm k => by
  obtain ⟨r1, r2⟩ := r
  obtain ⟨xs, π1, h1, h2⟩ := bnd_some hm
  obtain ⟨S1, s1, A1⟩ := Agr.frz is A
  have hp : PassesOwn (model X.prog X.w) X.A X.env X.xe := by rw [hxe]; exact PassesOwn.never
  refine qS_of (ps_for hp hc piq pgq pssq hf) (hi p S0 H0 S1 H _ π σ xs π1 _ A1 h1 fun S2 H2 J t w wk => ?_)
  refine ⟨fun i m σ H => m = xs.length - i ∧ i ≤ xs.length ∧ ∃ S3 env3 π3, Same S2 S3 ∧ Agr X.K CT p S0 H0 S3 H env3 π3 σ ∧ forD b tg (xs.drop i) env3 π3 = some (r1, r2), ⟨xs.length, by simp, Nat.zero_le _, S2, _, π1, Same.refl _, A1.next t w, by rw [List.drop_zero]; exact h2⟩, ?_⟩
  rintro i m σ3 H3 ⟨rfl, hi, S3, env3, π3, s3, A3, hf3⟩
  have wk3 := wk S3 H3 s3 A3.wd.sub
  by_cases hlt : i < xs.length
  · refine .inr ?_
    have hx : xs[i]? = some xs[i] := List.getElem?_eq_getElem hlt
    obtain ⟨hgo, hyl⟩ := wk3.2 i _ hx
    refine ⟨hgo, fun σ' H' => i + 1 ≤ xs.length ∧ ∃ S4 env4 π4, Same S2 S4 ∧ Agr X.K CT p S0 H0 S4 H' env4 π4 σ' ∧ forD b tg (xs.drop (i + 1)) env4 π4 = some (r1, r2), fun σ' H' h => ⟨xs.length - (i + 1), by omega, rfl, h.1, h.2⟩, fun v H4 hy => ?_⟩
    obtain ⟨S4, t4, w4, rv⟩ := hyl v H4 hy
    have A4 := A3.next t4 (w4 _ A3.wd)
    rw [List.drop_eq_getElem_cons hlt] at hf3
    unfold forD at hf3
    cases q : setTg tg xs[i] env3 with
    | none => rw [q] at hf3; cases hf3
    | some env5 =>
      rw [q] at hf3
      obtain ⟨⟨f, env6⟩, π6, h6, h7⟩ := bnd_some hf3
      refine ht p S0 H0 S4 H4 env3 π3 σ3 _ v env5 _ A4 rv q fun σ5 A5 _ _ => ?_
      refine hb p S0 H0 S4 H4 env5 π3 σ5 _ _ A5 h6 ?_
      cases f with
      | nx => exact fun S' H' σ' s' A' => ⟨hlt, S', env6, π6, (s3.trans t4.s).trans s', A', h7⟩
      | cnt => exact fun S' H' σ' s' A' => ⟨hlt, S', env6, π6, (s3.trans t4.s).trans s', A', h7⟩
      | brk =>
        cases h7
        exact fun S' H' σ' s' A' => k S' H' σ' ((((s1.trans t.s).trans s3).trans t4.s).trans s') A'
      | ret d => cases h7; exact k
      | rr d => cases h7; exact k
  · have e : i = xs.length := by omega
    subst e
    refine .inl ⟨wk3.1 _ (Nat.le_refl _), ?_⟩
    rw [List.drop_length] at hf3
    cases hf3
    exact k S3 H3 σ3 ((s1.trans t.s).trans s3) A3
/-! ### while -/
theorem sn_whl {is : List Nat} {n : Nat} {m : Env' → M D} {b : Env' → M (Flw × Env')} {c : Expr} {body : List Stmt} {pos : Pos} (hxe : X.xe = fun _ _ => False) (h : SndT X CT m c) (hb : SndSs X CT b body) :
    SndS X CT (fun env => whlD (exM is m) b n env) (.While c body [] pos) := fun p S0 H0 S H env π σ r Dn A hm k => by
  obtain ⟨r1, r2⟩ := r
  have hp : PassesOwn (model X.prog X.w) X.A X.env X.xe := by rw [hxe]; exact PassesOwn.never
  refine qS_of (ps_while hp ptq pssq) ⟨fun m1 σ H => ∃ S3 env3 π3, Same S S3 ∧ Agr X.K CT p S0 H0 S3 H env3 π3 σ ∧ whlD (exM is m) b m1 env3 π3 = some (r1, r2), ⟨n, S, env, π, Same.refl _, A, hm⟩, ?_⟩
  rintro m1 σ3 H3 ⟨S3, env3, π3, s3, A3, h3⟩
  cases m1 with
  | zero => cases h3
  | succ m1 =>
    unfold whlD at h3
    obtain ⟨d, π4, h4, h5⟩ := exM_some h3
    obtain ⟨S5, s5, A5⟩ := Agr.frz is A3
    cases d <;> first | (cases h5; done) | skip
    rename_i bb
    refine h p S0 H0 S5 H3 _ π3 σ3 _ _ _ A5 h4 ⟨bb, rfl, fun S6 H6 t w => ?_⟩
    have A6 := A5.next t w
    have s6 := (s3.trans s5).trans t.s
    cases bb with
    | false =>
      cases h5
      rw [if_neg Bool.false_ne_true]
      exact k S6 H6 σ3 s6 A6
    | true =>
      rw [if_pos rfl]
      obtain ⟨⟨f, env7⟩, π7, h7, h8⟩ := bnd_some h5
      refine ⟨fun σ' H' => ∃ S3 env3 π3, Same S S3 ∧ Agr X.K CT p S0 H0 S3 H' env3 π3 σ' ∧ whlD (exM is m) b m1 env3 π3 = some (r1, r2), fun σ' H' hh => ⟨m1, Nat.lt_succ_self _, hh⟩, ?_⟩
      refine hb p S0 H0 S6 H6 _ π4 σ3 _ _ A6 h7 ?_
      cases f with
      | nx => exact fun S' H' σ' s' A' => ⟨S', env7, π7, s6.trans s', A', h8⟩
      | cnt => exact fun S' H' σ' s' A' => ⟨S', env7, π7, s6.trans s', A', h8⟩
      | brk =>
        cases h8
        exact fun S' H' σ' s' A' => k S' H' σ' (s6.trans s') A'
      | ret d => cases h8; exact k
      | rr d => cases h8; exact k
/-! ### two stores at once -/
/-- what goes into a slot -/
def SndG (X : Cx) (CT : CTab) (m : Env' → M Slot) (e : Expr) : Prop := ∀ (p : Addr) (S0 : Hp) (H0 : Hs) (S H : Hp) (env : Env') (π : Pen) (σ : St) (sl : Slot) (π' : Pen) (Q : VK), Agr X.K CT p S0 H0 S H env π σ → m env π = some (sl, π') →
  (∀ (S' H' : Hp) (v : V), Stp p S H S' H' → Wd p S' π' H' →
    ((∃ d, sl = .sh d ∧ Rep X.K CT p S' d v) ∨ (∃ a vs ds, sl = .ow ds ∧ v = .ref a ∧ S' a = none ∧ H' a = some (.lst vs) ∧ Reps X.K CT p S' ds vs ∧ H a = none ∧ a ≠ p)) → Q v H') → qE X e σ H Q
theorem SndE.g {m : Env' → M D} {e : Expr} (h : SndE X CT m e) : SndG X CT (fun env => bnd (m env) fun d => ret (.sh d)) e := fun p S0 H0 S H env π σ sl π' Q A hm k => by
  obtain ⟨d, π1, h1, h2⟩ := bnd_some hm
  cases h2
  exact h p S0 H0 S H env π σ d _ Q A h1 fun S' H' v t w r => k S' H' v t w (.inl ⟨d, rfl, r⟩)
def owSl : D → M Slot
  | .lst ds => ret (.ow ds)
  | _ => stuck
theorem SndF.g {m : Env' → M D} {e : Expr} (h : SndF X CT m e) : SndG X CT (fun env => bnd (m env) owSl) e := fun p S0 H0 S H env π σ sl π' Q A hm k => by
  obtain ⟨d, π1, h1, h2⟩ := bnd_some hm
  refine h p S0 H0 S H env π σ d _ Q A h1 fun S' H' a vs ds e t w hs h3 r h4 h5 => ?_
  subst e
  cases h2
  exact k S' H' _ t w (.inr ⟨a, vs, ds, rfl, rfl, hs, h3, r, h4, h5⟩)
theorem Agr.setSl {K : PySem.W.Frag} {p : Addr} {S0 : Hp} {H0 : Hs} {S H : Hp} {env : Env'} {π : Pen} {σ : St} (A : Agr K CT p S0 H0 S H env π σ) {i : Nat} {sl : Slot} {v : V}
    (h : (∃ d, sl = .sh d ∧ Rep K CT p S d v) ∨ (∃ a vs ds, sl = .ow ds ∧ v = .ref a ∧ S a = none ∧ H a = some (.lst vs) ∧ Reps K CT p S ds vs ∧ H0 a = none ∧ (∀ b, OwnAt H env σ b → b ≠ a) ∧ a ≠ p)) : Agr K CT p S0 H0 S H (env.set i sl) π (σ.set i (some v)) := by
  rcases h with ⟨d, rfl, r⟩ | ⟨a, vs, ds, rfl, rfl, hs, h3, r, h0, hn, hp⟩
  · exact A.set r
  · exact A.setOwn h3 r hs hp h0 hn
def parM (is : List Nat) (m1 m2 : Env' → M Slot) (i j : Nat) : Env' → M (Flw × Env') := fun env => bnd (m1 (frz is env)) fun x => bnd (m2 (frz is env)) fun y => ret (.nx, ((frz is env).set i x).set j y)
theorem sn_par {is : List Nat} {m1 m2 : Env' → M Slot} {a b : Expr} {i j : Nat} {x y : Str} {px py pt pos : Pos} {kt k2 pt2} (hc : X.calm = true) (hN : X.N.Nodup) (hi : X.N[i]? = some x) (hj : X.N[j]? = some y) (hij : i ≠ j)
    (hx : X.env.scope.names.lookup x = some .local) (hy : X.env.scope.names.lookup y = some .local) (ha : SndG X CT m1 a) (hb : SndG X CT m2 b) (sa : notStar a = true) (sb : notStar b = true)
    (hw : swappedStores [.Tuple [.Name x px, .Name y py] kt pt] (.Tuple [a, b] k2 pt2) X.env = pure (some [x, y])) :
    SndS X CT (parM is m1 m2 i j) (.Assign [.Tuple [.Name x px, .Name y py] kt pt] (.Tuple [a, b] k2 pt2) pos) := fun p S0 H0 S H env π σ r Dn A hm k => by
  obtain ⟨r1, r2⟩ := r
  obtain ⟨s1, π1, h1, h2⟩ := bnd_some hm
  obtain ⟨s2, π2, h3, h4⟩ := bnd_some h2
  cases h4
  obtain ⟨S1, e1, A1⟩ := Agr.frz is A
  refine qS_of (ps_par hc hN hi hj hij hx hy (pa_cons peq (pa_cons peq pa_nil (starEach_of sb _ _)) (starEach_of sa _ _)) hw) ?_
  refine ha p S0 H0 S1 H _ π σ s1 π1 _ A1 h1 fun S2 H2 v t2 w2 g2 => ?_
  have A2 := A1.next t2 w2
  refine hb p S0 H0 S2 H2 _ π1 σ s2 _ _ A2 h3 fun S3 H3 u t3 w3 g3 => ?_
  have A3 := A2.next t3 w3
  refine ⟨v, u, rfl, k S3 H3 _ ((e1.trans t2.s).trans t3.s) ?_⟩
  have B : Agr X.K CT p S0 H0 S3 H3 ((frz is env).set i s1) r2 (σ.set i (some v)) := A3.setSl (by
    rcases g2 with ⟨d, rfl, r⟩ | ⟨a, vs, ds, rfl, rfl, hs, q1, r, q2, q3⟩
    · exact .inl ⟨d, rfl, r.mono t3.s⟩
    · refine .inr ⟨a, vs, ds, rfl, rfl, t3.keepFree hs (by rw [q1]; intro z; cases z), t3.h _ _ q3 q1, r.mono t3.s, A1.st.n _ q2, fun b hb e => A1.own (A1.ownBack (t2.trans t3) hb) (e ▸ q2), q3⟩)
  refine B.setSl ?_
  rcases g3 with ⟨d, rfl, r⟩ | ⟨a, vs, ds, rfl, rfl, hs, q1, r, q2, q3⟩
  · exact .inl ⟨d, rfl, r⟩
  · refine .inr ⟨a, vs, ds, rfl, rfl, hs, q1, r, A2.st.n _ q2, fun b hb e => ?_, q3⟩
    subst e
    obtain ⟨jj, s, q4, q6⟩ := hb
    by_cases hij : i = jj
    · subst hij
      have hl : i < (frz is env).length := by
        have := (List.getElem?_eq_some_iff.mp q4).1
        simpa using this
      rw [List.getElem?_set_self (by rw [← A1.len]; exact hl)] at q6
      rw [List.getElem?_set_self hl] at q4
      cases q4
      rcases g2 with ⟨d, rfl, r⟩ | ⟨a, vs, ds, rfl, e2, hs, q1, r, q2', q3⟩
      · exact q6
      · subst e2
        cases q6
        rw [q1] at q2
        cases q2
    · rw [getD_set_ne hij] at q4 q6
      exact A2.own (A2.ownBack t3 ⟨jj, s, q4, q6⟩) q2
/-! ### the instance's attributes, while it is made -/
theorem putF_new {f : Str} {v : V} : ∀ {fs : List (Str × V)}, fs.lookup f = none → putF f v fs = fs ++ [(f, v)]
  | [], _ => rfl
  | (k, u) :: fs, h => by
    rw [List.lookup_cons] at h
    cases z : (f == k) with
    | true => rw [z] at h; cases h
    | false =>
      rw [z] at h
      have e : ¬ k = f := fun e => by subst e; simp at z
      unfold putF
      simp only [e, if_false, List.cons_append, putF_new h]
end
end UK

set_option Elab.async false
set_option linter.all false
set_option maxRecDepth 100000
set_option maxHeartbeats 4000000
namespace UK
open PySem PySem.Spec PyProof.Rows L2
section
variable {K : PySem.W.Frag} {CT : CTab} {p : Addr} {S0 : Hp} {H0 : Hs} {S H : Hp} {env : Env'} {π : Pen} {σ : St}
/-- the instance under construction gets an attribute -/
theorem Agr.chgI (A : Agr K CT p S0 H0 S H env π σ) {i : Nat} {a dx : Addr} {c : Nat} {C : Str} {fns : List Str} {fs fs' : List (Str × D)} {fvs fvs' : List (Str × V)} (e : env[i]? = some (.se c fs)) (eσ : σ[i]? = some (some (.ref a))) (eC : CT[c]? = some (C, fns)) (eH : H a = some (.ins (He.ga K C) dx fvs))
    (h1 : fvs'.map (·.1) = fs'.map (·.1)) (h2 : ∃ r, fns = fs'.map (·.1) ++ r) (r : Reps K CT p S (fs'.map (·.2)) (fvs'.map (·.2))) : Agr K CT p S0 H0 S (upd H a (.ins (He.ga K C) dx fvs')) (env.set i (.se c fs')) π σ := by
  obtain ⟨a', dx', C', fns', fvs0, e1, e2, h3, e4, e5, r0, hs, hp, h0⟩ := A.ok i _ e
  rw [eσ] at e1
  cases e1
  exact A.chgG e eσ ⟨a, dx, C, fns, fvs', eσ, eC, upd_same, h1, h2, r, hs, hp, h0⟩ fun b q => q
end
section
variable {X : Cx} {T : Tabs}
theorem lookup_none_iff {f : Str} : ∀ {fs : List (Str × D)} {fvs : List (Str × V)}, fvs.map (·.1) = fs.map (·.1) → fs.lookup f = none → fvs.lookup f = none
  | [], [], _, _ => rfl
  | [], _ :: _, h, _ => by cases h
  | _ :: _, [], h, _ => by cases h
  | (k1, d1) :: fs, (k2, v2) :: fvs, h, e => by
    simp only [List.map_cons, List.cons.injEq] at h
    obtain ⟨rfl, h⟩ := h
    rw [List.lookup_cons] at e ⊢
    cases z : (f == k2) with
    | true => rw [z] at e; cases e
    | false => rw [z] at e; exact lookup_none_iff h e
def fldM (CT : CTab) (is : List Nat) (m : Env' → M D) (x : Str) : Env' → M (Flw × Env') := fun env => bnd (exM is m env) fun r => match (r.2[(0 : Nat)]? : Option Slot) with
    | some (.se c fs) => guardM (decide ((CT[c]?.bind fun q => q.2[fs.length]?) = some x) && (decide (fs.lookup x = none) && decide (fs.length < 100))) (ret (.nx, r.2.set 0 (.se c (fs ++ [(x, r.1)]))))
    | _ => stuck
theorem fns_split {α : Type} {l l1 : List α} {x : α} {r : List α} (h : l = l1 ++ r) (hx : l[l1.length]? = some x) : ∃ r', l = l1 ++ [x] ++ r' := by
  subst h
  rw [List.getElem?_append_right (Nat.le_refl _), Nat.sub_self] at hx
  cases r with
  | nil => cases hx
  | cons y r => cases hx; exact ⟨r, by simp⟩
theorem sn_fld {is : List Nat} {m : Env' → M D} {e : Expr} {f s : Str} {p1 p2 pos : Pos} (h : SndE X T.CT m e) (hc : notComp e = true) (hN : X.N[0]? = some s) (hv : Vis X.env.scope s) (hd : (s == ("__debug__" : Str)) = false) (hcd : (s == ("__classdict__" : Str)) = false) (hcl : ∀ (c : Nat) (C : Str) (fns : List Str), T.CT[c]? = some (C, fns) → ClsF X.K X.mg T.CT c C fns) :
    SndS X T.CT (fldM T.CT is m f) (.Assign [.Attribute (.Name s p1) f p2] e pos) := fun p S0 H0 S H env π σ r Dn A hm k => by
  obtain ⟨r1, r2⟩ := r
  obtain ⟨d, π1, h1, h3⟩ := exM_some hm
  obtain ⟨S1, s1, A1⟩ := Agr.frz is A
  dsimp only at h3
  cases q : (frz is env)[0]? with
  | none => rw [q] at h3; cases h3
  | some sl =>
    rw [q] at h3
    cases sl <;> first | (cases h3; done) | skip
    rename_i c fs
    dsimp only at h3
    obtain ⟨cc, h3⟩ := guard_some h3
    cases h3
    obtain ⟨c1, c2⟩ := and2 cc
    obtain ⟨c2, c3⟩ := and2 c2
    have c1 := of_decide_eq_true c1
    have c2 := of_decide_eq_true c2
    have c3 := of_decide_eq_true c3
    refine qS_of (ps_fld (pe_var hN hv hd hcd) peq (swaps_no hc _ _ _)) (h p S0 H0 S1 H _ π σ d _ _ A1 h1 fun S' H' v t w rv => ?_)
    have A2 := A1.next t w
    obtain ⟨a, dx, C, fns, fvs, e1, e2, h4, e4, ⟨r', e5⟩, r0, hs, hp, h0⟩ := A2.ok 0 _ q
    have cl := hcl c C fns e2
    rw [e2] at c1
    have c1 : fns[fs.length]? = some f := c1
    have hmem : f ∈ fns := List.mem_of_getElem? c1
    have hlen : fvs.length = fs.length := by simpa using congrArg List.length e4
    refine ⟨.ref a, e1, a, _, dx, fvs, rfl, h4, cl.cls, cl.noat f hmem, by omega, k S' _ σ (s1.trans t.s) ?_⟩
    rw [putF_new (lookup_none_iff e4 c2)]
    refine A2.chgI q e1 e2 h4 (by simp [e4]) ?_ ?_
    · have := fns_split e5 (by simpa using c1)
      simpa using this
    · simpa using r0.append (.cons rv .nil)
end
end UK

set_option Elab.async false
set_option linter.all false
set_option maxRecDepth 100000
set_option maxHeartbeats 4000000
namespace UK
open PySem PySem.Spec PyProof.Rows L2
section
variable {K : PySem.W.Frag} {CT : CTab} {p : Addr} {S S' H H' : Hp}
theorem Reps.erase : ∀ {ds : List D} {vs : List V}, Reps K CT p S ds vs → ∀ n, Reps K CT p S (ds.eraseIdx n) (vs.eraseIdx n)
  | _, _, .nil, _ => by simpa using .nil
  | _, _, .cons r rr, 0 => by simpa using rr
  | _, _, .cons r rr, n + 1 => by simpa using .cons r (rr.erase n)
theorem Rws.len : ∀ {rss : List (List D)} {bs : List Addr}, Rws K CT p S H rss bs → rss.length = bs.length
  | [], [], _ => rfl
  | _ :: _, _ :: _, ⟨_, h⟩ => congrArg Nat.succ h.len
  | [], _ :: _, h => h.elim
  | _ :: _, [], h => h.elim
theorem Rws.get : ∀ {rss : List (List D)} {bs : List Addr} {n : Nat} {ds : List D}, Rws K CT p S H rss bs → rss[n]? = some ds → ∃ b vs, bs[n]? = some b ∧ H b = some (.lst vs) ∧ Reps K CT p S ds vs
  | [], [], n, _, _, h => by simp at h
  | _ :: _, b :: _, 0, _, ⟨⟨vs, h1, r⟩, _⟩, e => by cases e; exact ⟨b, vs, rfl, h1, r⟩
  | _ :: _, _ :: _, n + 1, _, ⟨_, h⟩, e => h.get (n := n) e
  | [], _ :: _, _, _, h, _ => h.elim
  | _ :: _, [], _, _, h, _ => h.elim
theorem Rws.setAt : ∀ {rss : List (List D)} {bs : List Addr} {n : Nat} {b : Addr} {ds : List D} {vs : List V}, Rws K CT p S H rss bs → bs.Nodup → bs[n]? = some b → Reps K CT p S ds vs → Rws K CT p S (upd H b (.lst vs)) (rss.set n ds) bs
  | [], [], n, _, _, _, _, _, h, _ => by simp at h
  | _ :: _, b :: bs, 0, _, _, vs, ⟨_, h⟩, nd, e, r => by
    cases e
    exact ⟨⟨vs, upd_same, r⟩, h.put fun c hc z => (List.nodup_cons.mp nd).1 (z ▸ hc)⟩
  | _ :: _, c :: bs, n + 1, b, _, vs, ⟨⟨us, h1, r1⟩, h⟩, nd, e, r => by
    have e : bs[n]? = some b := e
    have hm : b ∈ bs := List.mem_of_getElem? e
    have ne : c ≠ b := fun z => (List.nodup_cons.mp nd).1 (z ▸ hm)
    exact ⟨⟨us, by rw [upd_ne ne]; exact h1, r1⟩, h.setAt (List.nodup_cons.mp nd).2 e r⟩
  | [], _ :: _, _, _, _, _, h, _, _, _ => h.elim
  | _ :: _, [], _, _, _, _, h, _, _, _ => h.elim
theorem Rws.app : ∀ {rss : List (List D)} {bs : List Addr} {b : Addr} {ds : List D} {vs : List V}, Rws K CT p S H rss bs → H b = some (.lst vs) → Reps K CT p S ds vs → Rws K CT p S H (rss ++ [ds]) (bs ++ [b])
  | [], [], b, ds, vs, _, h, r => ⟨⟨vs, h, r⟩, trivial⟩
  | _ :: _, _ :: _, b, ds, vs, ⟨h1, h2⟩, h, r => ⟨h1, h2.app h r⟩
  | [], _ :: _, _, _, _, h, _, _ => h.elim
  | _ :: _, [], _, _, _, h, _, _ => h.elim
end
section
variable {X : Cx} {CT : CTab}
/-- rows of one's own as an expression -/
def SndR (X : Cx) (CT : CTab) (m : Env' → M (List (List D))) (e : Expr) : Prop := ∀ (p : Addr) (S0 : Hp) (H0 : Hs) (S H : Hp) (env : Env') (π : Pen) (σ : St) (rss : List (List D)) (π' : Pen) (Q : VK), Agr X.K CT p S0 H0 S H env π σ → m env π = some (rss, π') →
  (∀ (S' H' : Hp) (v : V), Stp p S H S' H' → Wd p S' π' H' → RowsAt X.K CT p S' H' rss v (fun b => H b = none) → Q v H') → qE X e σ H Q
theorem RowsAt.imp {K : PySem.W.Frag} {p : Addr} {S H : Hp} {rss : List (List D)} {v : V} {B B' : Addr → Prop} (h : RowsAt K CT p S H rss v B) (k : ∀ b, B b → B' b) : RowsAt K CT p S H rss v B' := by
  obtain ⟨a, bs, e, h1, r, nd, q⟩ := h
  exact ⟨a, bs, e, h1, r, nd, fun b hb => ⟨(q b hb).1, (q b hb).2.1, k b (q b hb).2.2⟩⟩
theorem snr_ite {c : Env' → M D} {m r : Env' → M (List (List D))} {ec ea eb : Expr} {pos : Pos} (hc : SndT X CT c ec) (ha : SndR X CT m ea) (hb : SndR X CT r eb) : SndR X CT (fun env => bnd (c env) fun x => match x with
    | .bl true => m env
    | .bl false => r env
    | _ => stuck) (.IfExp ec ea eb pos) := fun p S0 H0 S H env π σ rss π' Q A hm k => by
  obtain ⟨d, π1, h1, h2⟩ := bnd_some hm
  cases d <;> first | (cases h2; done) | skip
  rename_i b
  refine qE_of (pe_ifExp ptq peq peq) (hc p S0 H0 S H env π σ _ π1 _ A h1 ⟨b, rfl, fun S' H' t w => ?_⟩)
  cases b with
  | true => exact ha p S0 H0 S' H' env π1 σ rss π' Q (A.next t w) h2 fun S2 H2 v t2 w2 r2 => k S2 H2 v (t.trans t2) w2 (r2.imp t.n)
  | false => exact hb p S0 H0 S' H' env π1 σ rss π' Q (A.next t w) h2 fun S2 H2 v t2 w2 r2 => k S2 H2 v (t.trans t2) w2 (r2.imp t.n)
theorem snr_lcr {own : List (Str × Nat)} {tg : List Nat} {me : Env' → M D} {mi : Env' → M (List D)} {elt tgE iter : Expr} {scope : Scope}
    (hi : SndIp X CT tgE mi iter) (ht : ∀ (s : Shared) (H0 : Hp) (C : Addr) (cl : List (Str × Addr)) (fp : List Addr), TgSnd (Cx.b X scope s H0 C cl fp) CT tgE tg) (hs : ∀ i ∈ tg, i ∈ own.map (·.2))
    (he : ∀ (s : Shared) (H0 : Hp) (C : Addr) (cl : List (Str × Addr)) (fp : List Addr), SndF (Cx.b X scope s H0 C cl fp) CT me elt)
    {p : Addr} {S0 : Hp} {H0 : Hs} {S H : Hp} {env : Env'} {π : Pen} {σ : St} {rss : List (List D)} {π' : Pen} {Q : VK} (A : Agr X.K CT p S0 H0 S H env π σ) (hm : bnd (mi env) (fun xs => guardM (decide (xs.length ≤ LIM)) (mapR (elR tg me (wipeE env (own.map (·.2)))) xs)) π = some (rss, π'))
    (k : ∀ (S' H' : Hp) (v : V), Stp p S H S' H' → Wd p S' π' H' → RowsAt X.K CT p S' H' rss v (fun b => H b = none) → Q v H') :
    tLc (qI X tgE iter) (gAll X scope tgE) tYes (eAll X scope elt) (own.map (·.2)) σ H Q := by
  obtain ⟨xs, π1, h1, hm⟩ := bnd_some hm
  obtain ⟨c, h2⟩ := guard_some hm
  have hlim := of_decide_eq_true c
  refine hi p S0 H0 S H env π σ xs π1 _ A h1 fun S1 H1 J t1 w1 walk => ?_
  intro D0 hD
  obtain ⟨tl, wl, hsD, hDp⟩ := w1.lay (o := .lst []) hD
  refine ⟨fun i m H2 => m = xs.length - i ∧ i ≤ xs.length ∧ ∃ (S2 : Hp) (π3 : Pen) (bs : List Addr) (ds rest : List (List D)), Stp p S1 H1 S2 H2 ∧ Wd p S2 π3 H2 ∧ H2 D0 = some (.lst (bs.map V.ref)) ∧ Rws X.K CT p S2 H2 ds bs ∧ (D0 :: bs).Nodup ∧ (∀ b ∈ D0 :: bs, S2 b = none ∧ b ≠ p ∧ H b = none) ∧ mapR (elR tg me (wipeE env (own.map (·.2)))) (xs.drop i) π3 = some (rest, π') ∧ rss = ds ++ rest ∧ bs.length ≤ i,
    ⟨_, rfl, Nat.zero_le _, S1, π1, [], [], rss, tl, wl, upd_same, trivial, by simp, fun b hb => by cases List.mem_singleton.mp hb; exact ⟨hsD, hDp, t1.n _ hD⟩, h2, rfl, Nat.le_refl _⟩, ?_⟩
  rintro i m H2 ⟨rfl, hile, S2, π3, bs, ds, rest, t2, w2, hH2, rr, nd, hfr, hrest, hys, hvl⟩
  have wk := walk S2 H2 t2.s w2.sub t2.h
  by_cases hlt : i < xs.length
  · refine .inr ?_
    have hx : xs[i]? = some xs[i] := List.getElem?_eq_getElem hlt
    obtain ⟨hgo, hy⟩ := wk.2 i _ hx
    refine ⟨hgo, fun H3 => i + 1 ≤ xs.length ∧ ∃ (S2 : Hp) (π3 : Pen) (bs : List Addr) (ds rest : List (List D)), Stp p S1 H1 S2 H3 ∧ Wd p S2 π3 H3 ∧ H3 D0 = some (.lst (bs.map V.ref)) ∧ Rws X.K CT p S2 H3 ds bs ∧ (D0 :: bs).Nodup ∧ (∀ b ∈ D0 :: bs, S2 b = none ∧ b ≠ p ∧ H b = none) ∧ mapR (elR tg me (wipeE env (own.map (·.2)))) (xs.drop (i + 1)) π3 = some (rest, π') ∧ rss = ds ++ rest ∧ bs.length ≤ i + 1,
      fun H3 h3 => ⟨xs.length - (i + 1), by omega, rfl, h3⟩, ?_⟩
    intro v H3 hyl
    obtain ⟨S3, t3, w3, rx⟩ := hy v H3 hyl
    have w3 := w3 π3 w2
    rw [List.drop_eq_getElem_cons hlt] at hrest
    obtain ⟨o, π4, h4, hrest⟩ := bnd_some hrest
    obtain ⟨zs, π5, h5, h6⟩ := bnd_some hrest
    cases h6
    unfold elR at h4
    cases e : setTg tg xs[i] (wipeE env (own.map (·.2))) with
    | none => rw [e] at h4; cases h4
    | some env' =>
      rw [e] at h4
      obtain ⟨y, π7, h8, h9⟩ := bnd_some h4
      have A3 : Agr X.K CT p S0 H0 S3 H3 env π3 σ := A.next ((t1.trans t2).trans t3) w3
      have A4 := A3.wipe (own.map (·.2))
      intro s H0' C cl fp
      refine ht s H0' C cl fp p S0 H0 S3 H3 _ π3 _ _ v env' _ A4 rx e fun σ' A5 hl hj => ⟨wipe_back (by rw [hl, wipe_length]) hj hs, ?_⟩
      dsimp only [tYes]
      rw [if_pos rfl]
      intro s H0' C cl fp
      refine he s H0' C cl fp p S0 H0 S3 H3 env' π3 σ' y _ _ A5 h8 fun S5 H5 a us dd ey t5 w5 hsa hHa ru hfa hap => ?_
      subst ey
      cases h9
      have t35 := t3.trans t5
      have hD5 : H5 D0 = some (.lst (bs.map V.ref)) := t35.h _ _ hDp hH2
      have hmem : ∀ b ∈ D0 :: bs, H2 b ≠ none := rw_some hH2 rr
      have hnew : ∀ b ∈ D0 :: bs, b ≠ a := fun b hb z => by
        subst z
        exact hmem b hb (t3.n _ hfa)
      have rr5 : Rws X.K CT p S5 H5 ds bs := rr.next (fun b hb => (hfr b (List.mem_cons_of_mem _ hb)).2.1) t35
      have hS5 : ∀ b ∈ D0 :: bs, S5 b = none := fun b hb => t35.keepFree (hfr b hb).1 (hmem b hb)
      have nd' := List.nodup_cons.mp nd
      have hl2 : (bs.map V.ref).length < sizeLine := by
        have := sizeLIM (n := LIM) (Nat.le_refl _)
        have h0 : LIM < sizeLine := by decide
        rw [List.length_map]
        omega
      have aD : a ≠ D0 := fun z => hnew D0 (List.mem_cons_self ..) z.symm
      refine ⟨bs.map V.ref, hD5, hl2, by omega, S5, _, bs ++ [a], ds ++ [o], zs, ((t2.trans t35).put hD (by rw [hD5]; intro z; cases z)), w5.put (hS5 D0 (List.mem_cons_self ..)) hDp, ?_, ?_, ?_, ?_, h5, by rw [hys]; simp, by simp; omega⟩
      · rw [upd_same]; simp
      · refine Rws.app (rr5.put fun b hb z => nd'.1 (z ▸ hb)) ?_ ru
        rw [upd_ne aD]
        exact hHa
      · refine List.nodup_cons.mpr ⟨fun z => ?_, ?_⟩
        · rcases List.mem_append.mp z with z | z
          · exact nd'.1 z
          · exact aD (List.mem_singleton.mp z).symm
        · refine List.nodup_append.mpr ⟨nd'.2, by simp, fun b hb c hc => ?_⟩
          rw [List.mem_singleton.mp hc]
          exact hnew b (List.mem_cons_of_mem _ hb)
      · intro b hb
        rcases List.mem_cons.mp hb with rfl | hb
        · exact ⟨hS5 _ (List.mem_cons_self ..), (hfr _ (List.mem_cons_self ..)).2⟩
        · rcases List.mem_append.mp hb with hb | hb
          · exact ⟨hS5 b (List.mem_cons_of_mem _ hb), (hfr b (List.mem_cons_of_mem _ hb)).2⟩
          · rw [List.mem_singleton.mp hb]
            exact ⟨hsa, hap, (t1.trans (t2.trans t3)).n _ hfa⟩
  · have e : i = xs.length := by omega
    subst e
    refine .inl ⟨wk.1 _ (Nat.le_refl _), ?_⟩
    rw [List.drop_eq_nil_of_le (Nat.le_refl _)] at hrest
    cases hrest
    rw [List.append_nil] at hys
    subst hys
    exact k S2 H2 _ (t1.trans t2) w2 ⟨D0, bs, rfl, hH2, rr, nd, hfr⟩
theorem snr_lc {own : List (Str × Nat)} {tg : List Nat} {me : Env' → M D} {mi : Env' → M (List D)} {elt tgE iter : Expr} {scope : Scope} {pos : Pos} (hc : X.calm = true) (hN : X.N.Nodup) (ok : BlkOk X.N X.env.scope scope own)
    (hi : SndIp X CT tgE mi iter) (ht : ∀ (s : Shared) (H : Hp) (C : Addr) (cl : List (Str × Addr)) (fp : List Addr), TgSnd (Cx.b X scope s H C cl fp) CT tgE tg) (hs : ∀ i ∈ tg, i ∈ own.map (·.2))
    (he : ∀ (s : Shared) (H : Hp) (C : Addr) (cl : List (Str × Addr)) (fp : List Addr), SndF (Cx.b X scope s H C cl fp) CT me elt) (hf : ∀ x, foldedSetIterable iter X.env x = pure x) :
    SndR X CT (fun env => bnd (mi env) (fun xs => guardM (decide (xs.length ≤ LIM)) (mapR (elR tg me (wipeE env (own.map (·.2)))) xs))) (.ListComp elt [⟨tgE, iter, [], 0⟩] scope pos) := fun p S0 H0 S H env π σ rss π' Q A hm k =>
  qE_of (pe_lc hc hN piq ok pg_all (fun _ _ _ _ _ => pts_nil) pe_all hf) (snr_lcr hi ht hs he A hm k)
/-! ### statements -/
def rwsM (is : List Nat) (m : Env' → M (List (List D))) (i : Nat) : Env' → M (Flw × Env') := fun env => bnd (m (frz is env)) fun rss => ret (.nx, (frz is env).set i (.rw rss))
theorem Agr.setRows {K : PySem.W.Frag} {p : Addr} {S0 : Hp} {H0 : Hs} {S H S1 H1 : Hp} {env : Env'} {π π1 : Pen} {σ : St} (A : Agr K CT p S0 H0 S1 H1 env π1 σ) (t : Stp p S1 H1 S H) (w : Wd p S π H) {i : Nat} {rss : List (List D)} {v : V} (q : RowsAt K CT p S H rss v (fun b => H1 b = none)) : Agr K CT p S0 H0 S H (env.set i (.rw rss)) π (σ.set i (some v)) := by
  obtain ⟨a, bs, rfl, h1, r, nd, q⟩ := q
  refine (A.next t w).setG ⟨a, bs, rfl, h1, r, nd, fun b hb => ⟨(q b hb).1, (q b hb).2.1, A.st.n _ (q b hb).2.2⟩⟩ fun b hb ho => ?_
  have hm : b ∈ a :: bs := by
    rcases hb with h | ⟨a', vs, e', h', m⟩
    · cases h; exact List.mem_cons_self ..
    · cases e'
      rw [h1] at h'
      cases h'
      obtain ⟨x, hx, e⟩ := List.mem_map.mp m
      cases e
      exact List.mem_cons_of_mem _ hx
  exact A.own (A.ownBack t ho) (q b hm).2.2
theorem rws_ok {is : List Nat} {m : Env' → M (List (List D))} {i : Nat} {p : Addr} {S0 : Hp} {H0 : Hs} {S H : Hp} {env : Env'} {π : Pen} {σ : St} {r : (Flw × Env') × Pen} {Dn : Ends} (A : Agr X.K CT p S0 H0 S H env π σ) (hm : rwsM is m i env π = some r) (k : Fin X CT p S0 H0 S Dn r) :
    ∃ S1 rss π1, Agr X.K CT p S0 H0 S1 H (frz is env) π σ ∧ m (frz is env) π = some (rss, π1) ∧ ∀ (S' H' : Hp) (v : V), Stp p S1 H S' H' → Wd p S' π1 H' → RowsAt X.K CT p S' H' rss v (fun b => H b = none) → Dn.nx (σ.set i (some v)) H' := by
  obtain ⟨r1, r2⟩ := r
  obtain ⟨rss, π1, h1, h2⟩ := bnd_some hm
  obtain ⟨S1, s1, A1⟩ := Agr.frz is A
  cases h2
  exact ⟨S1, rss, _, A1, h1, fun S' H' v t w q => k S' H' _ (s1.trans t.s) (A1.setRows t w q)⟩
theorem sn_rws {is : List Nat} {m : Env' → M (List (List D))} {e : Expr} {i : Nat} {x : Str} {p1 pos : Pos} (h : SndR X CT m e) (hc : notComp e = true) (hN : X.N.Nodup) (n : NmOk X i x) : SndS X CT (rwsM is m i) (.Assign [.Name x p1] e pos) := fun p S0 H0 S H env π σ r Dn A hm k => by
  obtain ⟨S1, rss, π1, A1, h1, kk⟩ := rws_ok A hm k
  exact qS_of (ps_set hN n.at_ n.loc peq (swaps_no hc _ _ _) n.fn) (h p S0 H0 S1 H _ π σ _ _ _ A1 h1 kk)
theorem sn_rwsLc {is : List Nat} {own : List (Str × Nat)} {tg : List Nat} {me : Env' → M D} {mi : Env' → M (List D)} {elt tgE iter : Expr} {scope : Scope} {pos spos py : Pos} {i : Nat} {y : Str} (hc : X.calm = true) (hN : X.N.Nodup) (ok : BlkOk X.N X.env.scope scope own)
    (hi : SndIp X CT tgE mi iter) (ht : ∀ (s : Shared) (H : Hp) (C : Addr) (cl : List (Str × Addr)) (fp : List Addr), TgSnd (Cx.b X scope s H C cl fp) CT tgE tg) (hs : ∀ i ∈ tg, i ∈ own.map (·.2))
    (he : ∀ (s : Shared) (H : Hp) (C : Addr) (cl : List (Str × Addr)) (fp : List Addr), SndF (Cx.b X scope s H C cl fp) CT me elt) (hf : ∀ x, foldedSetIterable iter X.env x = pure x)
    (n : NmOk X i y) (hyl : X.env.scope.names.lookup y = some .local) (hsw : swapsWith (.ListComp elt [⟨tgE, iter, [], 0⟩] scope pos) (some (.Name y py)) spos.line X.env = pure true) :
    SndS X CT (rwsM is (fun env => bnd (mi env) (fun xs => guardM (decide (xs.length ≤ LIM)) (mapR (elR tg me (wipeE env (own.map (·.2)))) xs))) i) (.Assign [.Name y py] (.ListComp elt [⟨tgE, iter, [], 0⟩] scope pos) spos) := fun p S0 H0 S H env π σ r Dn A hm k => by
  obtain ⟨S1, rss, π1, A1, h1, kk⟩ := rws_ok A hm k
  exact qS_of (ps_setLc hc hN n.at_ hyl hsw piq ok pg_all (fun _ _ _ _ _ => pts_nil) pe_all hf) (snr_lcr (Q := fun x H1 => gName i x σ H1 Dn.nx) hi ht hs he A1 h1 kk)
theorem sn_rrt {is : List Nat} {m : Env' → M (List (List D))} {e : Expr} {pos : Pos} (h : SndR X CT m e) : SndS X CT (fun env => bnd (m (frz is env)) fun rss => ret (.rr rss, env)) (.Return (some e) pos) := fun p S0 H0 S H env π σ r Dn A hm k => by
  obtain ⟨r1, r2⟩ := r
  obtain ⟨rss, π1, h1, h2⟩ := bnd_some hm
  cases h2
  obtain ⟨S1, s1, A1⟩ := Agr.frz is A
  exact qS_of (ps_ret peq) (h p S0 H0 S1 H _ π σ _ _ _ A1 h1 fun S' H' v t w rv => k S' H' v (A1.st.trans t) w (rv.imp A1.st.n))
theorem sn_rrtV {is : List Nat} {i : Nat} {x : Str} {p1 pos : Pos} (hN : X.N[i]? = some x) (hv : Vis X.env.scope x) (hd : (x == ("__debug__" : Str)) = false) (hcd : (x == ("__classdict__" : Str)) = false) : SndS X CT (fun env => bnd (getRw (frz is env) i) fun rss => ret (.rr rss, env)) (.Return (some (.Name x p1)) pos) := fun p S0 H0 S H env π σ r Dn A hm k => by
  obtain ⟨r1, r2⟩ := r
  obtain ⟨rss, π1, h1, h2⟩ := bnd_some hm
  cases h2
  obtain ⟨S1, s1, A1⟩ := Agr.frz is A
  unfold getRw at h1
  cases q : (frz is env)[i]? with
  | none => rw [q] at h1; cases h1
  | some sl =>
    rw [q] at h1
    cases sl <;> first | (cases h1; done) | skip
    cases h1
    obtain ⟨a, bs, e, h1, r, nd, hb⟩ := A1.ok i _ q
    exact qS_of (ps_ret (pe_var hN hv hd hcd)) ⟨.ref a, e, k S1 H (.ref a) A1.st A1.wd ⟨a, bs, rfl, h1, r, nd, hb⟩⟩
def put2M (is1 is2 is3 : List Nat) (me m1 m2 : Env' → M D) (i : Nat) : Env' → M (Flw × Env') := fun env => bnd (exM is1 me env) fun r => bnd (exM is2 m1 r.2) fun q => bnd (exM is3 m2 q.2) fun z => match z.2[i]?, q.1, z.1 with
    | some (.rw rss), .int j1, .int j2 => match putRw rss j1 j2 r.1 with
      | some rss' => ret (.nx, z.2.set i (.rw rss'))
      | none => stuck
    | _, _, _ => stuck
theorem frz_rw {rss : List (List D)} {i : Nat} : ∀ (is : List Nat) (env : Env'), (frz is env)[i]? = some (.rw rss) → env[i]? = some (.rw rss)
  | [], env, h => h
  | j :: is, env, h => by
    have h1 := frz_rw is (frz1 env j) h
    unfold frz1 at h1
    cases e : env[j]? with
    | none => rw [e] at h1; exact h1
    | some s =>
      rw [e] at h1
      have hl : j < env.length := (List.getElem?_eq_some_iff.mp e).1
      cases s <;> first | exact h1 | skip
      all_goals
        dsimp only at h1
        by_cases z : j = i
        · subst z
          rw [List.getElem?_set_self hl] at h1
          cases h1
        · rw [List.getElem?_set_ne z] at h1
          exact h1
theorem putRw_some {rss rss' : List (List D)} {i j : Int} {d : D} (h : putRw rss i j d = some rss') : ∃ n ds k, ixN rss.length i = some n ∧ rss[n]? = some ds ∧ ixN ds.length j = some k ∧ rss' = rss.set n (ds.set k d) := by
  unfold putRw at h
  cases e1 : ixN rss.length i with
  | none => rw [e1] at h; cases h
  | some n =>
    rw [e1] at h
    dsimp only at h
    cases e2 : rss[n]? with
    | none => rw [e2] at h; cases h
    | some ds =>
      rw [e2] at h
      dsimp only at h
      cases e3 : ixN ds.length j with
      | none => rw [e3] at h; cases h
      | some k => rw [e3] at h; cases h; exact ⟨n, ds, k, rfl, e2, e3, rfl⟩
theorem sn_put2 {is1 is2 is3 : List Nat} {me m1 m2 : Env' → M D} {e k1 k2 : Expr} {i : Nat} {x : Str} {p1 p2 p3 pos : Pos} (h : SndE X CT me e) (h1 : SndE X CT m1 k1) (h2 : SndE X CT m2 k2) (hc : notComp e = true) (hN : X.N[i]? = some x) (hv : Vis X.env.scope x) (hd : (x == ("__debug__" : Str)) = false) (hcd : (x == ("__classdict__" : Str)) = false) (hn1 : notSlice k1 = true) (hn2 : notSlice k2 = true) :
    SndS X CT (put2M is1 is2 is3 me m1 m2 i) (.Assign [.Subscript (.Subscript (.Name x p1) k1 p2) k2 p3] e pos) := fun p S0 H0 S H env π σ r Dn A hm k => by
  obtain ⟨r1, r2⟩ := r
  obtain ⟨d, π1, g1, hm2⟩ := exM_some hm
  obtain ⟨S1, s1, A1⟩ := Agr.frz is1 A
  obtain ⟨d1, π2, g2, hm3⟩ := exM_some hm2
  obtain ⟨d2, π3, g3, hm4⟩ := exM_some hm3
  clear hm hm2 hm3
  dsimp only at hm4 g2 g3
  cases q : (frz is3 (frz is2 (frz is1 env)))[i]? with
  | none => rw [q] at hm4; cases hm4
  | some sl =>
    rw [q] at hm4
    cases sl <;> first | (cases hm4; done) | skip
    rename_i rss
    cases d1 <;> first | (cases hm4; done) | skip
    rename_i j1
    cases d2 <;> first | (cases hm4; done) | skip
    rename_i j2
    dsimp only at hm4
    cases e9 : putRw rss j1 j2 d with
    | none => rw [e9] at hm4; cases hm4
    | some rss' =>
      rw [e9] at hm4
      cases hm4
      obtain ⟨n, ds, kk, e1, e2, e3, rfl⟩ := putRw_some e9
      refine qS_of (ps_asg peq (pg_sub (pe_ix ix_list (pe_var hN hv hd hcd) peq (plainIx_of hn1)) peq set_list (by cases k2 <;> first | (cases hn2; done) | (intro _; rfl))) (swaps_no (e := e) hc (some (.Subscript (.Subscript (.Name x p1) k1 p2) k2 p3)) pos.line X.env) (swst_sub e) rfl) ?_
      refine h p S0 H0 S1 H _ π σ d _ _ A1 g1 fun S2 H2 v t2 w2 rv => ?_
      obtain ⟨S3, s3, A3⟩ := Agr.frz is2 (A1.next t2 w2)
      have q2 : (frz is2 (frz is1 env))[i]? = some (.rw rss) := frz_rw is3 _ q
      obtain ⟨a, bs, ea, hH, rr, nd, hb⟩ := A3.ok i _ q2
      refine ⟨.ref a, ea, h1 p S0 H0 S3 H2 _ _ σ _ _ _ A3 g2 fun S4 H4 u4 t4 w4 ru4 => ?_⟩
      cases ru4
      have ap : a ≠ p := (hb a (List.mem_cons_self ..)).2.1
      have rr4 := rr.next (fun b hm => (hb b (List.mem_cons_of_mem _ hm)).2.1) t4
      obtain ⟨b, vs0, eb, _, _⟩ := rr4.get e2
      have ebr : (bs.map V.ref)[n]? = some (.ref b) := by rw [List.getElem?_map, eb]; rfl
      refine ⟨a, bs.map V.ref, j1, .ref b, rfl, rfl, SqL.of (t4.h _ _ ap hH), by unfold atI; rw [List.length_map, ← rr.len, e1]; exact ebr, ?_⟩
      obtain ⟨S5, s5, A5⟩ := Agr.frz is3 (A3.next t4 w4)
      refine h2 p S0 H0 S5 H4 _ _ σ _ _ _ A5 g3 fun S6 H6 u6 t6 w6 ru6 => ?_
      cases ru6
      have A6 := A5.next t6 w6
      obtain ⟨a6, bs6, ea6, hH6, rr6, nd6, hb6⟩ := A6.ok i _ q
      rw [ea] at ea6
      cases ea6
      have hHa : H6 a = some (.lst (bs.map V.ref)) := t6.h _ _ ap (t4.h _ _ ap hH)
      rw [hHa] at hH6
      have ebs : bs.map V.ref = bs6.map V.ref := by
        have z := Option.some.inj hH6
        injection z
      rw [ebs] at ebr hHa
      have eb6 : bs6[n]? = some b := by
        rw [List.getElem?_map] at ebr
        cases z : bs6[n]? with
        | none => rw [z] at ebr; cases ebr
        | some c => rw [z] at ebr; cases ebr; rfl
      obtain ⟨b', vs, eb', hHb, rds⟩ := rr6.get e2
      rw [eb6] at eb'
      cases eb'
      have hmb : b ∈ bs6 := List.mem_of_getElem? eb6
      have nd' := List.nodup_cons.mp nd6
      have ne : a ≠ b := fun z => nd'.1 (z ▸ hmb)
      have adr : Adr H6 (.rw rss) σ[i]? b := .inr ⟨a, _, ea, hHa, List.mem_map.mpr ⟨b, hmb, rfl⟩⟩
      refine ⟨b, vs, j2, kk, rfl, rfl, hHb, by rw [← rds.length]; exact e3, k S6 _ σ (((((s1.trans t2.s).trans s3).trans t4.s).trans s5).trans t6.s) ?_⟩
      refine A6.chgG q adr ⟨a, bs6, ea, by rw [upd_ne ne]; exact hHa, rr6.setAt nd'.2 eb6 (rds.set kk (((((rv.mono s3).mono t4.s).mono s5).mono t6.s))), nd6, hb6⟩ fun c hc => ?_
      rcases hc with hc | ⟨a', us, e', h', m⟩
      · exact .inl hc
      · rw [ea] at e'
        cases e'
        rw [upd_ne ne] at h'
        exact .inr ⟨a, us, ea, h', m⟩
def apopM (is : List Nat) (m : Env' → M D) (f r : Nat) : Env' → M (Flw × Env') := fun env => bnd (exM is m env) fun x => match x.2[f]?, x.2[r]?, x.1 with
    | some (.ow fs), some (.ow rs), .int j => match ixN rs.length j with
      | some n => match rs[n]? with
        | some d => guardM (decide (f ≠ r) && (decide (fs.length ≤ LIM) && decide (rs.length ≤ LIM))) (ret (.nx, (x.2.set r (.ow (rs.eraseIdx n))).set f (.ow (fs ++ [d]))))
        | none => stuck
      | none => stuck
    | _, _, _ => stuck
theorem sn_apop {is : List Nat} {m : Env' → M D} {e : Expr} {f r : Nat} {x y : Str} {p1 p2 p3 p4 p5 p6 pos : Pos} (h : SndE X CT m e) (hst : notStar e = true)
    (hN : X.N[f]? = some x) (hv : Vis X.env.scope x) (hd : (x == ("__debug__" : Str)) = false) (hcd : (x == ("__classdict__" : Str)) = false)
    (hN2 : X.N[r]? = some y) (hv2 : Vis X.env.scope y) (hd2 : (y == ("__debug__" : Str)) = false) (hcd2 : (y == ("__classdict__" : Str)) = false)
    (hl : (p2.endLine == p3.line) = true) (hl2 : (p5.endLine == p6.line) = true) :
    SndS X CT (apopM is m f r) (.Expr (.Call (.Attribute (.Name x p1) "append" p2) [.Call (.Attribute (.Name y p4) "pop" p5) [e] [] p6] [] p3) pos) := fun p S0 H0 S H env π σ rz Dn A hm k => by
  obtain ⟨r1, r2⟩ := rz
  obtain ⟨d, π1, h1, h3⟩ := exM_some hm
  obtain ⟨S1, s1, A1⟩ := Agr.frz is A
  dsimp only at h3
  cases q : (frz is env)[f]? with
  | none => rw [q] at h3; cases h3
  | some sl =>
    rw [q] at h3
    cases sl <;> first | (cases h3; done) | skip
    rename_i fs
    cases q2 : (frz is env)[r]? with
    | none => rw [q2] at h3; cases h3
    | some sl2 =>
      rw [q2] at h3
      cases sl2 <;> first | (cases h3; done) | skip
      rename_i rs
      cases d <;> first | (cases h3; done) | skip
      rename_i j
      dsimp only at h3
      cases e1 : ixN rs.length j with
      | none => rw [e1] at h3; cases h3
      | some n =>
        rw [e1] at h3
        dsimp only at h3
        cases e2 : rs[n]? with
        | none => rw [e2] at h3; cases h3
        | some dd =>
          rw [e2] at h3
          obtain ⟨c, h3⟩ := guard_some h3
          cases h3
          obtain ⟨c1, c2⟩ := and2 c
          obtain ⟨c2, c3⟩ := and2 c2
          have hne : f ≠ r := of_decide_eq_true c1
          have hl1 := of_decide_eq_true c2
          have hl2' := of_decide_eq_true c3
          have hL : LIM = 100000 := rfl
          have sz : LIM < sizeLine := by decide
          obtain ⟨af, vf, ef, hHf, rf, hsf, hpf, h0f⟩ := A1.ok f _ q
          obtain ⟨ar, vr, er, hHr, rr, hsr, hpr, h0r⟩ := A1.ok r _ q2
          refine qS_of (ps_expr (pe_bm PySem.F.plainAttrs_list PySem.F.slot_list_append PySem.F.type_list_append mt_append (pe_var hN hv hd hcd)
            (pa_cons (pe_bm PySem.F.plainAttrs_list PySem.F.slot_list_pop PySem.F.type_list_pop mt_popAt (pe_var hN2 hv2 hd2 hcd2) (pa_cons peq pa_nil (starEach_of hst _ _)) rfl (by rw [starEach_of hst]; rfl) hl2 (starEach_of hst _ _) rfl) pa_nil rfl) rfl rfl hl rfl rfl) rfl) ?_
          refine ⟨.ref af, ef, .inl ⟨rfl, _, SqL.of hHf⟩, .ref ar, er, .inl ⟨rfl, _, SqL.of hHr⟩, h p S0 H0 S1 H _ π σ _ _ _ A1 h1 fun S' H' v t w rv => ?_⟩
          cases rv
          have A2 := A1.next t w
          obtain ⟨i1, i2, i3, i4⟩ := ixN_seq e1
          obtain ⟨af', vf2, ef', hHf2, rf2, _⟩ := A2.ok f _ q
          rw [ef] at ef'
          cases ef'
          obtain ⟨ar', vr2, er', hHr2, rr2, _⟩ := A2.ok r _ q2
          rw [er] at er'
          cases er'
          obtain ⟨u, eu, ru⟩ := rr2.get e2
          have nfr : af ≠ ar := fun z => by
            subst z
            exact A2.dis f r _ _ af hne q q2 ef er
          refine ⟨ar, vr2, j, n, u, rfl, rfl, hHr2, by omega, by omega, by rw [← rr2.length]; exact i1, eu, ?_⟩
          refine ⟨af, vf2, u, rfl, rfl, by rw [upd_ne nfr]; exact hHf2, by rw [← rf2.length]; omega, k S' _ σ (s1.trans t.s) ?_⟩
          have A3 := A2.chg q2 er (rr2.erase n)
          have q3 : ((frz is env).set r (.ow (rs.eraseIdx n)))[f]? = some (.ow fs) := by rw [getD_set_ne (Ne.symm hne)]; exact q
          exact A3.chg q3 ef (rf2.append (.cons ru .nil))
end
section
variable {X : Cx} {T : Tabs} {FN : FTab} {φ ψ : Fns} {k : Nat}
theorem snr_call {m : Env' → M (List D)} {x : Str} {e : Expr} {es : List Expr} {i n : Nat} {p pos : Pos} (C : Gok X T FN φ ψ k) (hroom : Room (k + 1) X.A) (hi : FN[i]? = some ((x, none), n)) (hrw : T.rwf.contains i = true) (h : SndA X T.CT m (e :: es)) (hl : ∀ env π r, m env π = some r → r.1.length = n) (hg : Gl X x) (hdb : (x == ("__debug__" : Str)) = false) (hs : notStar e = true) (hs2 : es.all notStar = true) :
    SndR X T.CT (fun env => bnd (bnd (m env) fun xs => φ i xs) rowsD) (.Call (.Name x p) (e :: es) [] pos) := fun q S0 H0 S H env π σ rss π' Q A hm kk => by
  obtain ⟨dd, π2, hm1, hm2⟩ := bnd_some hm
  obtain ⟨xs, π1, h1, h2⟩ := bnd_some hm1
  obtain ⟨fd, ps, hps, F, hb, hk⟩ := C.fns i _ n hi
  rw [hrw] at F
  change FnOk _ _ _ _ _ _ _ _ _ _ (spR X.K T.CT n (φ i)) at F
  refine qE_of (pe_call (E := E0) F (hroom.mono (Nat.le_succ k)) hg (C.glob i x n hi) hk hb .nil pass0 paq hdb (starEach_of hs _ _) (backTo_any _ _ _ hs2)) (h q S0 H0 S H env π σ xs π1 _ A h1 fun S1 H1 vs t1 w1 r1 => ?_)
  rw [List.append_nil]
  refine ⟨q, S1, π1, xs, rss, π', by rw [← r1.length]; exact hl _ _ _ h1, w1, r1, ?_, fun S' H' v t w r => kk S' H' v (t1.trans t) w (r.imp t1.n)⟩
  show bnd (φ i xs) rowsD π1 = some (rss, π')
  unfold bnd
  rw [h2]
  exact hm2
end

/-! ### the pen -/
theorem ne_cells_at : (("cells" : Str) = "at") = False := eq_false (by decide +kernel)
theorem ne_cells_digits : (("cells" : Str) = "digits") = False := eq_false (by decide +kernel)
theorem ne_cells_count : (("cells" : Str) = "count") = False := eq_false (by decide +kernel)
theorem ne_cells_fold : (("cells" : Str) = "fold") = False := eq_false (by decide +kernel)
theorem ne_at_cells : (("at" : Str) = "cells") = False := eq_false (by decide +kernel)
theorem ne_at_digits : (("at" : Str) = "digits") = False := eq_false (by decide +kernel)
theorem ne_at_count : (("at" : Str) = "count") = False := eq_false (by decide +kernel)
theorem ne_at_fold : (("at" : Str) = "fold") = False := eq_false (by decide +kernel)
theorem ne_digits_cells : (("digits" : Str) = "cells") = False := eq_false (by decide +kernel)
theorem ne_digits_at : (("digits" : Str) = "at") = False := eq_false (by decide +kernel)
theorem ne_digits_count : (("digits" : Str) = "count") = False := eq_false (by decide +kernel)
theorem ne_digits_fold : (("digits" : Str) = "fold") = False := eq_false (by decide +kernel)
theorem ne_count_cells : (("count" : Str) = "cells") = False := eq_false (by decide +kernel)
theorem ne_count_at : (("count" : Str) = "at") = False := eq_false (by decide +kernel)
theorem ne_count_digits : (("count" : Str) = "digits") = False := eq_false (by decide +kernel)
theorem ne_count_fold : (("count" : Str) = "fold") = False := eq_false (by decide +kernel)
theorem ne_fold_cells : (("fold" : Str) = "cells") = False := eq_false (by decide +kernel)
theorem ne_fold_at : (("fold" : Str) = "at") = False := eq_false (by decide +kernel)
theorem ne_fold_digits : (("fold" : Str) = "digits") = False := eq_false (by decide +kernel)
theorem ne_fold_count : (("fold" : Str) = "count") = False := eq_false (by decide +kernel)
def kvsP (c : Addr) (π : Pen) : List (Key × V) := [(.inr "cells", .ref c), (.inr "at", .int π.pos), (.inr "digits", .int π.digits), (.inr "count", .int π.count), (.inr "fold", .int π.fold)]
def vP (c : Addr) (π : Pen) : PK → V
  | .cells => .ref c
  | .pos => .int π.pos
  | .digits => .int π.digits
  | .count => .int π.count
  | .fold => .int π.fold
theorem valP (c : Addr) (π : Pen) (k : PK) : valV (kvsP c π) (.inr k.name) = some (vP c π k) := by
  cases k <;> simp [valV, kvsP, PK.name, vP, List.find?, ne_cells_at, ne_cells_digits, ne_cells_count, ne_cells_fold, ne_at_cells, ne_at_digits, ne_at_count, ne_at_fold, ne_digits_cells, ne_digits_at, ne_digits_count, ne_digits_fold, ne_count_cells, ne_count_at, ne_count_digits, ne_count_fold, ne_fold_cells, ne_fold_at, ne_fold_digits, ne_fold_count]
theorem putsP (c : Addr) (π π' : Pen) (k : PK) (v : Int) (h : pputs k v π = some π') : putK (kvsP c π) (.inr k.name) (.int v) = kvsP c π' ∧ π'.cells = π.cells := by
  cases k <;> first | (cases h; done) | (cases h; simp [putK, kvsP, PK.name, ne_cells_at, ne_cells_digits, ne_cells_count, ne_cells_fold, ne_at_cells, ne_at_digits, ne_at_count, ne_at_fold, ne_digits_cells, ne_digits_at, ne_digits_count, ne_digits_fold, ne_count_cells, ne_count_at, ne_count_digits, ne_count_fold, ne_fold_cells, ne_fold_at, ne_fold_digits, ne_fold_count])
section
variable {K : PySem.W.Frag} {CT : CTab} {p : Addr} {S0 : Hp} {H0 : Hs} {S H : Hp} {env : Env'} {π π' : Pen} {σ : St}
theorem Agr.pen (A : Agr K CT p S0 H0 S H env π σ) {c : Addr} (hc : S c = some (.lst (π'.cells.map V.int))) : Agr K CT p S0 H0 S (upd H p (.dK (kvsP c π'))) env π' σ := by
  have hp := A.wd.hp
  have ho : ∀ (i : Nat) (s : Slot), env[i]? = some s → ∀ b, Adr H s σ[i]? b → b ≠ p := fun i s e b q => (slot_own (A.ok i s e) q).2.2.1
  refine ⟨⟨A.st.s, fun b u n e => by rw [upd_ne n]; exact A.st.h b u n e, A.st.f, fun b e => ?_⟩, ⟨fun b u e => ?_, ⟨c, upd_same, hc⟩, A.wd.np⟩, A.len, fun i s e => (A.ok i s e).put (ho i s e), fun i j s t b hne e1 e2 q1 q2 => A.dis i j s t b hne e1 e2 (adr_put (A.ok i s e1) (ho i s e1) q1) (adr_put (A.ok j t e2) (ho j t e2) q2)⟩
  · by_cases z : b = p
    · subst z; rw [upd_same] at e; cases e
    · rw [upd_ne z] at e; exact A.st.n b e
  · have n : b ≠ p := fun z => by subst z; rw [A.wd.np] at e; cases e
    rw [upd_ne n]
    exact A.wd.sub b u e
end
section
variable {X : Cx} {CT : CTab}
theorem snd_pget {i : Nat} {k : PK} {x : Str} {p1 p2 pos : Pos} {j : Nat} (hu : X.A.units + 1 < cLine) (hN : X.N[i]? = some x) (hv : Vis X.env.scope x) (hd : (x == ("__debug__" : Str)) = false) (hcd : (x == ("__classdict__" : Str)) = false) :
    SndE X CT (fun env => bnd (getSh env i) fun d => match d with
      | .pen => getP k
      | _ => stuck) (.Subscript (.Name x p1) (.Constant (.str k.name) j p2) pos) := fun p S0 H0 S H env π σ d π' Q A hm kk => by
  obtain ⟨y, π1, h1, h2⟩ := bnd_some hm
  obtain ⟨e, rfl⟩ := getSh_some h1
  cases y <;> first | (cases h2; done) | skip
  obtain ⟨v, e2, r⟩ := A.ok i _ e
  cases r
  have h2 : some (pval k π1, π1) = some (d, π') := h2
  cases h2
  obtain ⟨c, hp, hc⟩ := A.wd.pen
  refine qE_of (pe_dget hu (pe_var hN hv hd hcd) pe_str (fun _ _ => rfl)) ⟨.ref p, e2, p, vP c π' k, rfl, ?_, ?_⟩
  · rw [← valP c π' k]; exact DGet.k (k := .inr k.name) hp
  · refine kk S H _ (Stp.refl _ _ _) A.wd ?_
    cases k with
    | cells =>
      refine .lst hc ?_
      have intsR : ∀ is : List Int, Reps X.K CT p S (is.map D.int) (is.map V.int) := fun is => by
        induction is with
        | nil => exact .nil
        | cons i is ih => exact .cons (.int i) ih
      exact intsR _
    | pos => exact .int _
    | digits => exact .int _
    | count => exact .int _
    | fold => exact .int _
def psetM (is : List Nat) (m : Env' → M D) (i : Nat) (k : PK) : Env' → M (Flw × Env') := fun env => bnd (exM is m env) fun r => match r.2[i]?, r.1 with
    | some (.sh .pen), .int v => putP k v (.nx, r.2)
    | _, _ => stuck
theorem sn_pset {is : List Nat} {m : Env' → M D} {e : Expr} {i : Nat} {k : PK} {x : Str} {p1 p2 p3 pos : Pos} {j : Nat} (hu : X.A.units + 1 < cLine) (h : SndE X CT m e) (hc : notComp e = true) (hN : X.N[i]? = some x) (hv : Vis X.env.scope x) (hd : (x == ("__debug__" : Str)) = false) (hcd : (x == ("__classdict__" : Str)) = false) :
    SndS X CT (psetM is m i k) (.Assign [.Subscript (.Name x p1) (.Constant (.str k.name) j p2) p3] e pos) := fun p S0 H0 S H env π σ r Dn A hm kk => by
  obtain ⟨r1, r2⟩ := r
  obtain ⟨d, π1, h1, h3⟩ := exM_some hm
  obtain ⟨S1, s1, A1⟩ := Agr.frz is A
  dsimp only at h3
  cases q : (frz is env)[i]? with
  | none => rw [q] at h3; cases h3
  | some sl =>
    rw [q] at h3
    cases sl <;> first | (cases h3; done) | skip
    rename_i dd
    cases dd <;> first | (cases h3; done) | skip
    cases d <;> first | (cases h3; done) | skip
    rename_i v
    have h3 : (match pputs k v π1 with | some π' => some ((Flw.nx, frz is env), π') | none => none) = some (r1, r2) := h3
    cases q2 : pputs k v π1 with
    | none => rw [q2] at h3; cases h3
    | some π2 =>
      rw [q2] at h3
      cases h3
      refine qS_of (ps_asg peq (pg_sub (pe_var hN hv hd hcd) pe_str (set_dict hu) (fun _ => rfl)) (swaps_no (e := e) hc (some (.Subscript (.Name x p1) (.Constant (.str k.name) j p2) p3)) pos.line X.env) (swst_sub e) rfl) (h p S0 H0 S1 H _ π σ _ _ _ A1 h1 fun S' H' u t w rv => ?_)
      cases rv
      have A2 := A1.next t w
      obtain ⟨vv, e2, r⟩ := A2.ok i _ q
      cases r
      obtain ⟨c, hp, hcc⟩ := A2.wd.pen
      obtain ⟨e5, e6⟩ := putsP c π1 _ k v q2
      refine ⟨.ref p, e2, p, _, rfl, DPut.k (k := .inr k.name) hp (show (5 : Nat) < sizeLine by decide), kk S' _ σ (s1.trans t.s) ?_⟩
      rw [show ([(.inr "cells", .ref c), (.inr "at", .int π1.pos), (.inr "digits", .int π1.digits), (.inr "count", .int π1.count), (.inr "fold", .int π1.fold)] : List (Key × V)) = kvsP c π1 from rfl, e5]
      exact A2.pen (by rw [e6]; exact hcc)
end
section
variable {X : Cx} {CT : CTab}
theorem snd_dic {m : Env' → M D} {i : Int} {e : Expr} {j : Nat} {p1 pos : Pos} (h : SndE X CT m e) : SndE X CT (fun env => bnd (m env) fun d => ret (.dic [.inl i] [d])) (.Dict [some (.Constant (.int i) j p1)] [e] pos) := fun p S0 H0 S H env π σ d π' Q A hm kk => by
  obtain ⟨y, π1, h1, h2⟩ := bnd_some hm
  cases h2
  refine qE_of (pe_disp (pps_cons pe_int peq pps_nil) rfl rfl (by simp) (show (1 : Nat) ≤ 15 by decide)) ?_
  intro q hq
  obtain ⟨tl, wl, hs, hp⟩ := A.wd.lay (o := .dK []) hq
  refine h p S0 H0 S _ env π σ y _ _ (A.next tl wl) h1 fun S' H' v t w r => ?_
  have hq' : H' q = some (.dK []) := t.h _ _ hp upd_same
  refine ⟨hq', [(.inl i, v)], rfl, (show (1 : Nat) ≤ 15 by decide), ?_⟩
  have hs' : S' q = none := t.keepFree hs (by rw [upd_same]; intro z; cases z)
  have t2 : Stp p S H S' (upd H' q (.dK (mergeK [] [(.inl i, v)]))) := (tl.trans t).put hq (by rw [hq']; intro z; cases z)
  have w2 : Wd p S' _ (upd H' q (.dK (mergeK [] [(.inl i, v)]))) := w.put hs' hp
  obtain ⟨s3, w3⟩ := w2.share hs' upd_same hp
  exact kk _ _ _ (t2.share hs' hq) w3 (.dic (kvs := [(.inl i, v)]) upd_same rfl (.cons (r.mono s3) .nil))
end
section
variable {X : Cx} {CT : CTab}
def lrgM (m : Env' → M D) : Env' → M D := fun env => bnd (m env) fun d => match d with
    | .int n => guardM (smallR n) (ret (.lst (rngD 0 n.toNat)))
    | _ => stuck
theorem reps_rng {K : PySem.W.Frag} {p : Addr} {S : Hp} (n : Nat) : ∀ l : List Nat, Reps K CT p S (l.map fun (k : Nat) => D.int (0 + (k : Int))) (l.map fun (i : Nat) => V.int (0 + (i : Int)))
  | [] => .nil
  | k :: l => .cons (.int _) (reps_rng n l)
theorem snf_lrg {m : Env' → M D} {a : Expr} {p1 p2 q1 q2 : Pos} (h : SndE X CT m a) (hc : X.calm = true) (hl : Gl X "list") (ml : X.mg "list" = none) (hr : Gl X "range") (mr : X.mg "range" = none) (hs : notStar a = true) : SndF X CT (lrgM m) (.Call (.Name "list" p1) [.Call (.Name "range" q1) [a] [] q2] [] p2) := fun p S0 H0 S H env π σ d π' Q A hm k => by
  obtain ⟨y, π1, h1, h2⟩ := bnd_some hm
  cases y <;> first | (cases h2; done) | skip
  rename_i n
  obtain ⟨c, h2⟩ := guard_some h2
  cases h2
  obtain ⟨b1, b2⟩ := smallR_ok c
  refine qE_of (pe_listRg hc hl ml (prg_1 hr mr peq (starEach_of hs _ _))) (h p S0 H0 S H env π σ _ _ _ A h1 fun S1 H1 v t w r => ?_)
  cases r
  refine ⟨n, rfl, ⟨by omega, by omega, by omega, by omega, by omega⟩, fun q hq => ?_⟩
  obtain ⟨t2, w2, hs2, hp⟩ := w.lay (o := .lst (rgV 0 n)) hq
  refine k _ _ q _ _ rfl (t.trans t2) w2 hs2 upd_same ?_ (t.n _ hq) hp
  unfold rngD rgV
  have e : (n - 0).toNat = n.toNat := by rw [Int.sub_zero]
  rw [e]
  exact reps_rng 0 _
theorem sn_par2 {is : List Nat} {m1 m2 : Env' → M Slot} {a b : Expr} {i j : Nat} {x y : Str} {px py pt pos : Pos} {kt k2 pt2} (hc : X.calm = true) (hN : X.N.Nodup) (n1 : NmOk X i x) (n2 : NmOk X j y) (hij : i ≠ j) (ha : SndG X CT m1 a) (hb : SndG X CT m2 b) (sa : notStar a = true) (sb : notStar b = true)
    (hw : swappedStores [.Tuple [.Name x px, .Name y py] kt pt] (.Tuple [a, b] k2 pt2) X.env = pure none) :
    SndS X CT (parM is m1 m2 i j) (.Assign [.Tuple [.Name x px, .Name y py] kt pt] (.Tuple [a, b] k2 pt2) pos) := fun p S0 H0 S H env π σ r Dn A hm k => by
  obtain ⟨r1, r2⟩ := r
  obtain ⟨s1, π1, h1, h2⟩ := bnd_some hm
  obtain ⟨s2, π2, h3, h4⟩ := bnd_some h2
  cases h4
  obtain ⟨S1, e1, A1⟩ := Agr.frz is A
  refine qS_of (ps_asg (pe_tup (pa_cons peq (pa_cons peq pa_nil (starEach_of sb _ _)) (starEach_of sa _ _))) (pg_tup hc (pgs_cons (pg_name hN n1.at_ n1.loc n1.fn) (pgs_cons (pg_name hN n2.at_ n2.loc n2.fn) pgs_nil))) rfl hw rfl) ?_
  refine ha p S0 H0 S1 H _ π σ s1 π1 _ A1 h1 fun S2 H2 v t2 w2 g2 => ?_
  have A2 := A1.next t2 w2
  refine hb p S0 H0 S2 H2 _ π1 σ s2 _ _ A2 h3 fun S3 H3 u t3 w3 g3 => ⟨(show (2 : Nat) ≤ sizeLine by decide), fun q hq => ?_⟩
  obtain ⟨t4, w4, hs4, hp4⟩ := w3.lay (o := .tup [v, u]) hq
  have A3 := (A2.next t3 w3).next t4 w4
  refine ⟨q, [v, u], rfl, .inl (.inl upd_same), rfl, v, [u], rfl, u, [], rfl, rfl, k S3 _ _ ((e1.trans t2.s).trans (t3.trans t4).s) ?_⟩
  have B : Agr X.K CT p S0 H0 S3 _ ((frz is env).set i s1) r2 (σ.set i (some v)) := A3.setSl (by
    rcases g2 with ⟨d, rfl, r⟩ | ⟨a, vs, ds, rfl, rfl, hs, q1, r, q2, q3⟩
    · exact .inl ⟨d, rfl, r.mono (t3.trans t4).s⟩
    · refine .inr ⟨a, vs, ds, rfl, rfl, (t3.trans t4).keepFree hs (by rw [q1]; intro z; cases z), (t3.trans t4).h _ _ q3 q1, r.mono (t3.trans t4).s, A1.st.n _ q2, fun b hb e => A1.own (A1.ownBack ((t2.trans t3).trans t4) hb) (e ▸ q2), q3⟩)
  refine B.setSl ?_
  rcases g3 with ⟨d, rfl, r⟩ | ⟨a, vs, ds, rfl, rfl, hs, q1, r, q2, q3⟩
  · exact .inl ⟨d, rfl, r⟩
  · refine .inr ⟨a, vs, ds, rfl, rfl, hs, t4.h _ _ q3 q1, r, A2.st.n _ q2, fun b hb e => ?_, q3⟩
    subst e
    obtain ⟨jj, s, q4, q6⟩ := hb
    by_cases hij : i = jj
    · subst hij
      have hl : i < (frz is env).length := by
        have := (List.getElem?_eq_some_iff.mp q4).1
        simpa using this
      rw [List.getElem?_set_self (by rw [← A1.len]; exact hl)] at q6
      rw [List.getElem?_set_self hl] at q4
      cases q4
      rcases g2 with ⟨d, rfl, r⟩ | ⟨a, vs, ds, rfl, e2, hs, q1, r, q2', q3⟩
      · exact q6
      · subst e2
        cases q6
        rw [q1] at q2
        cases q2
    · rw [getD_set_ne hij] at q4 q6
      exact A2.own (A2.ownBack (t3.trans t4) ⟨jj, s, q4, q6⟩) q2
end
end UK

set_option Elab.async false
set_option linter.all false
set_option maxRecDepth 100000
set_option maxHeartbeats 4000000
namespace UK
open PySem PySem.Spec PyProof.Rows L2

/-! ### from the text to the language -/
structure Cy where
  N : List Str
  sc : Scope
  fn : Str → Bool
  rw : List Str
def Cy.blk (c : Cy) (scope : Scope) : Cy := ⟨c.N, relS scope c.sc, fun x => scope.names.lookup x == some .cell, c.rw⟩
def ixOf (N : List Str) (x : Str) : Option Nat := if N[N.idxOf x]? = some x then some (N.idxOf x) else none
def vis (sc : Scope) (x : Str) : Bool := match sc.names.lookup x with
  | some .local => true
  | some .cell => true
  | some .free => true
  | _ => false
def rd (c : Cy) (x : Str) : Option Nat := if (vis c.sc x && (!(x == ("__debug__" : Str)) && !(x == ("__classdict__" : Str)))) = true then ixOf c.N x else none
def stB (c : Cy) (x : Str) : Bool := match c.sc.names.lookup x with
  | some .local => true
  | some .cell => c.fn x
  | _ => false
def st (c : Cy) (x : Str) : Option Nat := if stB c x = true then ixOf c.N x else none
def glo (c : Cy) (x : Str) : Bool := decide (c.sc.names.lookup x = some .globalImplicit) && !(x == ("__debug__" : Str))
def findIx (n : Nat) (p : Nat → Bool) : Option Nat := (List.range n).find? p
theorem findIx_some {n : Nat} {p : Nat → Bool} {i : Nat} (h : findIx n p = some i) : p i = true := List.find?_some h
def clIx (T : Tabs) (x : Str) : Option Nat := findIx T.CT.length fun i => decide ((T.CT[i]?.map (·.1)) = some x)
def fnIx (FN : FTab) (x : Str) (n : Nat) : Option Nat := findIx FN.length fun i => decide (FN[i]? = some ((x, none), n))
def cNm (c : Cy) (x : Str) : E := match rd c x with
  | some i => .var i
  | none => .bad
def cPr (c : Cy) (f : Expr → E) : Expr → E
  | .Name x _ => (match rd c x with
    | some i => if c.rw.contains x = true then .var i else .slot i
    | none => .bad)
  | e => f e
def cA (f : Expr → E) : List Expr → A
  | [] => .nil
  | e :: es => .cons (f e) (cA f es)
def cO (f : Expr → E) : Option Expr → O
  | none => .no
  | some e => .yes (f e)
def cB (f : Expr → E) (op : BoolOp) : List Expr → E
  | [] => .bad
  | [x] => f x
  | x :: y :: r => match op with
    | .And => .and (f x) (cB f op (y :: r))
    | .Or => .or (f x) (cB f op (y :: r))
def bopOf : Operator → Option Bop
  | .Add => some .add
  | .Sub => some .sub
  | .Mult => some .mul
  | .FloorDiv => some .fdiv
  | .Mod => some .mod
  | .Pow => some .pow
  | .LShift => some .shl
  | .RShift => some .shr
  | .BitAnd => some .band
  | .BitOr => some .bor
  | .BitXor => some .bxor
  | _ => none
def copOf : CmpOp → Cop
  | .Eq => .eq
  | .NotEq => .ne
  | .Lt => .lt
  | .LtE => .le
  | .Gt => .gt
  | .GtE => .ge
  | .In => .isin
  | .NotIn => .notin
  | .Is => .isN
  | .IsNot => .notN
def b1Of (x : Str) : Option B1 := if x = "len" then some .len else if x = "tuple" then some .tuple else if x = "list" then some .list else if x = "int" then some .int else if x = "sum" then some .sum
  else if x = "all" then some .all else if x = "any" then some .any else if x = "max" then some .max else if x = "min" then some .min else if x = "abs" then some .abs else none
def tyOf (T : Tabs) (c : Cy) : Expr → Option Ty
  | .Name x _ => if glo c x = true then (if x = "int" then some .int else if x = "bool" then some .bool else if x = "str" then some .str else if x = "tuple" then some .tuple else if x = "list" then some .list else (clIx T x).map .cls) else none
  | _ => none
def tysOf (T : Tabs) (c : Cy) : List Expr → Option (List Ty)
  | [] => some []
  | e :: es => match tyOf T c e, tysOf T c es with
    | some t, some ts => some (t :: ts)
    | _, _ => none
def cIsi (T : Tabs) (c : Cy) (a : E) : Expr → E
  | .Tuple es _ _ => (match tysOf T c es with
    | some ts => if ts.length ≤ 1000 then .isi a ts else .bad
    | none => .bad)
  | e => match tyOf T c e with
    | some t => .isi a [t]
    | none => .bad
def rgIf (c : Cy) (x : Str) : Expr → Option Expr
  | .Call (.Name y _) [b] [] _ => if (decide (x = "list") && (decide (y = "range") && (glo c y && notStar b))) = true then some b else none
  | _ => none
def cBlt (T : Tabs) (c : Cy) (f : Expr → E) (x : Str) : List Expr → E
  | [a] => (match rgIf c x a with
    | some b => .lrg (f b)
    | none => match b1Of x with
      | some b => .b1 b (cPr c f a)
      | none => .bad)
  | [a, b] => if x = "isinstance" then cIsi T c (cPr c f a) b else if x = "max" then .b2 .max (f a) (f b) else if x = "min" then .b2 .min (f a) (f b) else .bad
  | _ => .bad
def cCall (T : Tabs) (FN : FTab) (c : Cy) (f : Expr → E) (x : Str) (args : List Expr) : E :=
  if (glo c x && args.all notStar) = true then
    match fnIx FN x args.length with
    | some i => if T.rwf.contains i = true then .bad else .call i (cA f args)
    | none => match clIx T x with
      | some i => if (T.ar[i]? = some args.length ∧ args ≠ []) then .mk i (cA f args) else .bad
      | none => cBlt T c f x args
  else .bad
def pkOf (x : Str) : Option PK := if x = PK.name .cells then some .cells else if x = PK.name .pos then some .pos else if x = PK.name .digits then some .digits else if x = PK.name .count then some .count else if x = PK.name .fold then some .fold else none
theorem pkOf_some {x : Str} {k : PK} (h : pkOf x = some k) : x = k.name := by
  unfold pkOf at h
  by_cases e : x = PK.name .cells
  · rw [if_pos e] at h; cases h; exact e
  rw [if_neg e] at h
  by_cases e : x = PK.name .pos
  · rw [if_pos e] at h; cases h; exact e
  rw [if_neg e] at h
  by_cases e : x = PK.name .digits
  · rw [if_pos e] at h; cases h; exact e
  rw [if_neg e] at h
  by_cases e : x = PK.name .count
  · rw [if_pos e] at h; cases h; exact e
  rw [if_neg e] at h
  by_cases e : x = PK.name .fold
  · rw [if_pos e] at h; cases h; exact e
  rw [if_neg e] at h
  cases h
def cPg (c : Cy) (x : Str) : Expr → E
  | .Name y _ => (match rd c y, pkOf x with
    | some i, some k => .pget i k
    | _, _ => .bad)
  | _ => .bad
def cSub (c : Cy) (f : Expr → E) (a : Expr) : Expr → E
  | .Slice none none (some (.UnaryOp .USub (.Constant (.int 1) _ _) _)) _ => .rev (cPr c f a)
  | .Slice lo hi none _ => .slc (cPr c f a) (cO f lo) (cO f hi)
  | .Slice _ _ _ _ => .bad
  | .Constant (.str x) _ _ => cPg c x a
  | e => .idx (cPr c f a) (f e)
def ownOf (c : Cy) (scope : Scope) : List (Str × Nat) := scope.names.filterMap fun y => match y.2 with
  | .local => (ixOf c.N y.1).map fun i => (y.1, i)
  | .cell => (ixOf c.N y.1).map fun i => (y.1, i)
  | _ => none
def tgNs (c : Cy) : List Expr → Option (List Nat)
  | [] => some []
  | .Name x _ :: es => (match st c x, tgNs c es with
    | some i, some is => some (i :: is)
    | _, _ => none)
  | _ :: _ => none
def tgOf (c : Cy) : Expr → Option (List Nat)
  | .Name x _ => (st c x).map ([·])
  | .Tuple es _ _ => if 2 ≤ es.length then tgNs c es else none
  | _ => none
def notSet : Expr → Bool
  | .Set _ _ _ => false
  | _ => true
def cI (c : Cy) (p : Bool) (f : Expr → E) (e : Expr) : Itn := match e with
  | .Call (.Name x _) [a] [] _ => if x = "range" then (if (glo c x && notStar a) = true then .r1 (f a) else .sq .bad) else .sq (f e)
  | .Call (.Name x _) [a, b] [] _ => if x = "range" then (if (glo c x && (notStar a && notStar b)) = true then .r2 (f a) (f b) else .sq .bad) else .sq (f e)
  | _ => .sq (if p = true then cPr c f e else f e)
def tOk : Nat → Expr → Bool
  | 0, _ => false
  | n + 1, .BoolOp _ vs _ => !vs.isEmpty && vs.all (tOk n)
  | n + 1, .UnaryOp .Not e _ => tOk n e
  | _ + 1, .UnaryOp _ _ _ => false
  | _ + 1, .IfExp _ _ _ _ => false
  | _ + 1, .Constant _ _ _ => false
  | _ + 1, .NamedExpr _ _ _ => false
  | _ + 1, _ => true
def genB (c : Cy) (scope : Scope) (own : List (Str × Nat)) (tg : List Nat) (g : Comprehension) : Bool := tg.all (fun i => (own.map (·.2)).contains i) && (notSet g.iter && decide (g.is_async = 0))
def cIf (t : Expr → Bool) (f : Expr → E) : List Expr → Option O
  | [] => some .no
  | [e] => if t e = true then some (.yes (f e)) else none
  | _ => none
def cLc (c : Cy) (t : Expr → Bool) (F : Cy → Expr → E) (elt : Expr) (scope : Scope) : List Comprehension → E
  | [g] => (match tgOf (c.blk scope) g.target, cIf t (F (c.blk scope)) g.ifs with
    | some tg, some o => if (blkC c.N c.sc scope (ownOf c scope) && genB c scope (ownOf c scope) tg g) = true then .lc ((ownOf c scope).map (·.2)) (F (c.blk scope) elt) tg (cI c true (F c) g.iter) o else .bad
    | _, _ => .bad)
  | [g, g2] => (match tgOf (c.blk scope) g.target, cIf t (F (c.blk scope)) g.ifs, tgOf (c.blk scope) g2.target, cIf t (F (c.blk scope)) g2.ifs with
    | some tg, some o, some tg2, some o2 => if (blkC c.N c.sc scope (ownOf c scope) && (genB c scope (ownOf c scope) tg g && genB c scope (ownOf c scope) tg2 g2)) = true then
        .lc2 ((ownOf c scope).map (·.2)) (F (c.blk scope) elt) tg (cI c true (F c) g.iter) o tg2 (cI (c.blk scope) false (F (c.blk scope)) g2.iter) o2 else .bad
    | _, _, _, _ => .bad)
  | _ => .bad
def cConst : Const → E
  | .none => .non
  | .bool b => .bl b
  | .int i => .int i
  | .str s => .str s
  | _ => .bad
def cCmp (c : Cy) (f : Expr → E) (a : Expr) : List CmpOp → List Expr → E
  | [op], [b] => if behindInMarks op b = true then .bad else .cmp (copOf op) (cPr c f a) (cPr c f b)
  | [o1, o2], [b, d] => if lastMarks [o1, o2] [b, d] = true then .bad else .chn (copOf o1) (copOf o2) (cPr c f a) (cPr c f b) (cPr c f d)
  | _, _ => .bad
def cAtt (c : Cy) (f : Expr → E) (fl : Str) : Expr → E
  | .Name x _ => (match rd c x with
    | some i => .nfl i fl
    | none => .bad)
  | a => if attrOk a = true then .fld (f a) fl else .bad
def cE (T : Tabs) (FN : FTab) : Nat → Cy → Expr → E
  | 0, _, _ => .bad
  | n + 1, c, e => match e with
    | .Name x _ => cNm c x
    | .Constant k _ _ => cConst k
    | .BinOp a op b _ => (match bopOf op with
      | some o => .bin o (cPr c (cE T FN n c) a) (cPr c (cE T FN n c) b)
      | none => .bad)
    | .UnaryOp .Not e _ => .not (cE T FN n c e)
    | .UnaryOp .USub e _ => .neg (cE T FN n c e)
    | .BoolOp op vs _ => cB (cE T FN n c) op vs
    | .Compare a ops bs _ => cCmp c (cE T FN n c) a ops bs
    | .IfExp t a b _ => if tOk n t = true then .ite (cE T FN n c t) (cE T FN n c a) (cE T FN n c b) else .bad
    | .Call (.Name x _) args [] _ => cCall T FN c (cE T FN n c) x args
    | .Attribute a fl _ => cAtt c (cE T FN n c) fl a
    | .Subscript a i _ => cSub c (cE T FN n c) a i
    | .Tuple es _ _ => if es.all notStar = true then .tup (cA (cE T FN n c) es) else .bad
    | .List es _ => if es.all notStar = true then .lst (cA (cE T FN n c) es) else .bad
    | .ListComp elt gens scope _ => cLc c (tOk n) (cE T FN n) elt scope gens
    | .Dict [some (.Constant (.int i) _ _)] [v] _ => .dic (.inl i) (cE T FN n c v)
    | _ => .bad

/-! ### what the text does is what the language says -/
structure Cok (X : Cx) (T : Tabs) (FN : FTab) (φ ψ : Fns) (k : Nat) (c : Cy) : Prop where
  g : Gok X T FN φ ψ k
  hN : X.N = c.N
  nd : c.N.Nodup
  sc : X.env.scope = c.sc
  fn : X.fn = c.fn
  calm : X.calm = true
  room : Room (k + 1) X.A
  xe : X.xe = fun _ _ => False
section
variable {X : Cx} {T : Tabs} {FN : FTab} {φ ψ : Fns} {k : Nat} {c : Cy}
theorem relabel_eq (scope : Scope) (env : Env) : relabel scope env = relS scope env.scope := rfl
theorem Cok.blk (C : Cok X T FN φ ψ k c) (scope : Scope) (s : Shared) (H : Hp) (A : Addr) (cl : List (Str × Addr)) (fp : List Addr) : Cok (Cx.b X scope s H A cl fp) T FN φ ψ k (c.blk scope) :=
  ⟨⟨C.g.fns, C.g.glob, C.g.bl, C.g.cls, C.g.ini, C.g.eqs⟩, C.hN, C.nd, by
    show relabel scope X.env = relS scope c.sc
    rw [relabel_eq, C.sc], rfl, C.calm, C.room, rfl⟩
theorem ixOf_some {N : List Str} {x : Str} {i : Nat} (h : ixOf N x = some i) : N[i]? = some x := by
  unfold ixOf at h
  by_cases e : N[N.idxOf x]? = some x
  · rw [if_pos e] at h; cases h; exact e
  · rw [if_neg e] at h; cases h
theorem vis_ok {sc : Scope} {x : Str} (h : vis sc x = true) : Vis sc x := by
  unfold vis at h
  unfold Vis
  cases e : sc.names.lookup x with
  | none => rw [e] at h; cases h
  | some k =>
    rw [e] at h
    cases k with
    | «local» => exact .inl rfl
    | cell => exact .inr (.inl rfl)
    | free => exact .inr (.inr rfl)
    | globalExplicit => cases h
    | globalImplicit => cases h
theorem rd_ok (C : Cok X T FN φ ψ k c) {x : Str} {i : Nat} (h : rd c x = some i) : X.N[i]? = some x ∧ Vis X.env.scope x ∧ (x == ("__debug__" : Str)) = false ∧ (x == ("__classdict__" : Str)) = false := by
  unfold rd at h
  by_cases e : (vis c.sc x && (!(x == ("__debug__" : Str)) && !(x == ("__classdict__" : Str)))) = true
  · rw [if_pos e] at h
    obtain ⟨e1, e2⟩ := and2 e
    obtain ⟨e2, e3⟩ := and2 e2
    exact ⟨by rw [C.hN]; exact ixOf_some h, by rw [C.sc]; exact vis_ok e1, by simpa using e2, by simpa using e3⟩
  · rw [if_neg e] at h; cases h
theorem st_ok (C : Cok X T FN φ ψ k c) {x : Str} {i : Nat} (h : st c x = some i) : NmOk X i x := by
  unfold st at h
  by_cases e : stB c x = true
  · rw [if_pos e] at h
    unfold stB at e
    cases q : c.sc.names.lookup x with
    | none => rw [q] at e; cases e
    | some kd =>
      rw [q] at e
      cases kd with
      | «local» => exact ⟨by rw [C.hN]; exact ixOf_some h, .inl (by rw [C.sc]; exact q), .inr (by rw [C.sc]; exact q)⟩
      | cell => exact ⟨by rw [C.hN]; exact ixOf_some h, .inr (by rw [C.sc]; exact q), .inl (by rw [C.fn]; exact e)⟩
      | free => cases e
      | globalExplicit => cases e
      | globalImplicit => cases e
  · rw [if_neg e] at h; cases h
theorem glo_ok (C : Cok X T FN φ ψ k c) {x : Str} (h : glo c x = true) : Gl X x ∧ (x == ("__debug__" : Str)) = false := by
  obtain ⟨h1, h2⟩ := and2 h
  refine ⟨?_, by simpa using h2⟩
  show X.env.scope.names.lookup x = some .globalImplicit
  rw [C.sc]
  exact of_decide_eq_true h1
theorem clIx_ok {x : Str} {i : Nat} (h : clIx T x = some i) : ∃ fns, T.CT[i]? = some (x, fns) := by
  have q := of_decide_eq_true (findIx_some h)
  cases e : T.CT[i]? with
  | none => rw [e] at q; cases q
  | some p =>
    rw [e] at q
    cases q
    exact ⟨p.2, rfl⟩
theorem fnIx_ok {x : Str} {n i : Nat} (h : fnIx FN x n = some i) : FN[i]? = some ((x, none), n) := of_decide_eq_true (findIx_some h)
theorem snd_bad {e : Expr} : SndE X T.CT (evE T φ ψ .bad) e := fun p S0 H0 S H env π σ d π' Q A hm k => by cases hm
theorem snp_bad {e : Expr} : SndP X T.CT (evE T φ ψ .bad) e := snd_bad.p
theorem snt_bad {e : Expr} : SndT X T.CT (evE T φ ψ .bad) e := fun p S0 H0 S H env π σ d π' Q A hm k => by cases hm
theorem nm_ok (C : Cok X T FN φ ψ k c) (x : Str) (pos : Pos) : SndE X T.CT (evE T φ ψ (cNm c x)) (.Name x pos) := by
  unfold cNm
  cases e : rd c x with
  | none => exact snd_bad
  | some i => obtain ⟨h1, h2, h3, h4⟩ := rd_ok C e; exact snd_var h1 h2 h3 h4
variable {f : Expr → E}
theorem pr_ok (C : Cok X T FN φ ψ k c) (hf : ∀ e, SndE X T.CT (evE T φ ψ (f e)) e) (e : Expr) : SndP X T.CT (evE T φ ψ (cPr c f e)) e := by
  cases e <;> first | exact (hf _).p | skip
  rename_i x pos
  show SndP X T.CT (evE T φ ψ (match rd c x with | some i => if c.rw.contains x = true then .var i else .slot i | none => .bad)) _
  cases e : rd c x with
  | none => exact snp_bad
  | some i =>
    obtain ⟨h1, h2, h3, h4⟩ := rd_ok C e
    dsimp only
    by_cases z : c.rw.contains x = true
    · rw [if_pos z]; exact (snd_var h1 h2 h3 h4).p
    · rw [if_neg z]; exact snd_slot h1 h2 h3 h4
theorem a_ok (hf : ∀ e, SndE X T.CT (evE T φ ψ (f e)) e) : ∀ es : List Expr, es.all notStar = true → SndA X T.CT (evA T φ ψ (cA f es)) es
  | [], _ => snd_anil
  | e :: es, h => by
    rw [List.all_cons] at h
    obtain ⟨h1, h2⟩ := and2 h
    exact snd_acons (hf e) (a_ok hf es h2) h1
theorem a_len : ∀ (es : List Expr) (env : Env') (π : Pen) (r : List D × Pen), evA T φ ψ (cA f es) env π = some r → r.1.length = es.length
  | [], env, π, r, h => by cases h; rfl
  | e :: es, env, π, (r, π'), h => by
    obtain ⟨x, π1, h1, h2⟩ := bnd_some (show bnd (evE T φ ψ (f e) env) (fun x => bnd (evA T φ ψ (cA f es) env) fun xs => ret (x :: xs)) π = some (r, π') from h)
    obtain ⟨xs, π2, h3, h4⟩ := bnd_some h2
    cases h4
    exact congrArg Nat.succ (a_len es env π1 (xs, _) h3)
theorem o_ok (hf : ∀ e, SndE X T.CT (evE T φ ψ (f e)) e) (o : Option Expr) : SndO X T.CT (evO T φ ψ (cO f o)) o := by
  cases o with
  | none => exact rfl
  | some e => exact ⟨_, hf e, rfl⟩
theorem b_ok (hf : ∀ e, SndE X T.CT (evE T φ ψ (f e)) e) (op : BoolOp) (pos : Pos) : ∀ es : List Expr, SndE X T.CT (evE T φ ψ (cB f op es)) (.BoolOp op es pos)
  | [] => snd_bad
  | [x] => snd_one (hf x)
  | x :: y :: r => by
    cases op with
    | And => exact snd_and (hf x) (b_ok hf .And pos (y :: r))
    | Or => exact snd_or (hf x) (b_ok hf .Or pos (y :: r))
theorem bt_ok (t : Expr → Bool) (hf : ∀ e, t e = true → SndT X T.CT (evE T φ ψ (f e)) e) (op : BoolOp) (pos : Pos) : ∀ es : List Expr, es ≠ [] → es.all t = true → SndW X T.CT (evE T φ ψ (cB f op es)) (.BoolOp op es pos)
  | [], h, _ => absurd rfl h
  | [x], _, h => by
    rw [List.all_cons] at h
    cases op with
    | And => exact snw_and1 (hf x (and2 h).1)
    | Or => exact snw_or1 (hf x (and2 h).1)
  | x :: y :: r, _, h => by
    rw [List.all_cons] at h
    obtain ⟨h1, h2⟩ := and2 h
    cases op with
    | And => exact snw_and (hf x h1) (bt_ok t hf .And pos (y :: r) (by simp) h2)
    | Or => exact snw_or (hf x h1) (bt_ok t hf .Or pos (y :: r) (by simp) h2)
theorem cop_ok (C : Cok X T FN φ ψ k c) (op : CmpOp) : OpSnd X T.CT (compareOp op) (cmpM φ T.eqt (copOf op)) := by
  have hu : X.A.units + 65 < cLine := by have := C.room.un; omega
  cases op with
  | Eq => exact o_eq C.g C.room C.xe
  | NotEq => exact o_ne C.g C.room C.xe
  | Lt => exact o_lt
  | LtE => exact o_le
  | Gt => exact o_gt
  | GtE => exact o_ge
  | Is => exact o_isN
  | IsNot => exact o_notN
  | In => exact o_in hu
  | NotIn => exact o_notin hu
theorem bop_ok (op : Operator) (o : Bop) (h : bopOf op = some o) : OpSnd X T.CT (binaryOp op) (binD o) := by
  cases op <;> first | (cases h; done) | skip
  all_goals (cases h; first | exact o_add | exact o_sub | exact o_mul | exact o_fdiv | exact o_mod | exact o_pow | exact o_shl | exact o_shr | exact o_band | exact o_bor | exact o_bxor)
theorem cmp_ok (C : Cok X T FN φ ψ k c) (hf : ∀ e, SndE X T.CT (evE T φ ψ (f e)) e) (a : Expr) (ops : List CmpOp) (bs : List Expr) (pos : Pos) : SndE X T.CT (evE T φ ψ (cCmp c f a ops bs)) (.Compare a ops bs pos) ∧ SndT X T.CT (evE T φ ψ (cCmp c f a ops bs)) (.Compare a ops bs pos) := by
  unfold cCmp
  split
  · rename_i op b
    by_cases e : behindInMarks op b = true
    · rw [if_pos e]; exact ⟨snd_bad, snt_bad⟩
    · rw [if_neg e]
      have e := Bool.eq_false_iff.mpr e
      exact ⟨snd_cmp (pr_ok C hf a) (pr_ok C hf b) (cop_ok C op) e, snd_cmpT (pr_ok C hf a) (pr_ok C hf b) (cop_ok C op) e⟩
  · rename_i o1 o2 b d
    by_cases e : lastMarks [o1, o2] [b, d] = true
    · rw [if_pos e]; exact ⟨snd_bad, snt_bad⟩
    · rw [if_neg e]
      have e := Bool.eq_false_iff.mpr e
      exact ⟨snd_chn (pr_ok C hf a) (pr_ok C hf b) (pr_ok C hf d) (cop_ok C o1) (cop_ok C o2) e, snt_chn (pr_ok C hf a) (pr_ok C hf b) (pr_ok C hf d) (cop_ok C o1) (cop_ok C o2) e⟩
  · exact ⟨snd_bad, snt_bad⟩
end
end UK

set_option Elab.async false
set_option linter.all false
set_option maxRecDepth 100000
set_option maxHeartbeats 4000000
namespace UK
open PySem PySem.Spec PyProof.Rows L2
section
variable {X : Cx} {T : Tabs} {FN : FTab} {φ ψ : Fns} {k : Nat} {c : Cy} {f : Expr → E}
theorem ty_ok (C : Cok X T FN φ ψ k c) {e : Expr} {t : Ty} (h : tyOf T c e = some t) : SndC X T.CT t e := by
  cases e <;> first | (cases h; done) | skip
  rename_i x pos
  have h : (if glo c x = true then (if x = "int" then some Ty.int else if x = "bool" then some .bool else if x = "str" then some .str else if x = "tuple" then some .tuple else if x = "list" then some .list else (clIx T x).map .cls) else none) = some t := h
  by_cases g : glo c x = true
  · rw [if_pos g] at h
    obtain ⟨g1, g2⟩ := glo_ok C g
    by_cases e1 : x = "int"
    · rw [if_pos e1] at h; cases h; subst e1
      exact snc_ty g1 (C.g.bl _ (by decide +kernel)) (by decide +kernel) (by decide) g2 rfl (fun c z => by cases z)
    rw [if_neg e1] at h
    by_cases e1 : x = "bool"
    · rw [if_pos e1] at h; cases h; subst e1
      exact snc_ty g1 (C.g.bl _ (by decide +kernel)) (by decide +kernel) (by decide) g2 rfl (fun c z => by cases z)
    rw [if_neg e1] at h
    by_cases e1 : x = "str"
    · rw [if_pos e1] at h; cases h; subst e1
      exact snc_ty g1 (C.g.bl _ (by decide +kernel)) (by decide +kernel) (by decide) g2 rfl (fun c z => by cases z)
    rw [if_neg e1] at h
    by_cases e1 : x = "tuple"
    · rw [if_pos e1] at h; cases h; subst e1
      exact snc_ty g1 (C.g.bl _ (by decide +kernel)) (by decide +kernel) (by decide) g2 rfl (fun c z => by cases z)
    rw [if_neg e1] at h
    by_cases e1 : x = "list"
    · rw [if_pos e1] at h; cases h; subst e1
      exact snc_ty g1 (C.g.bl _ (by decide +kernel)) (by decide +kernel) (by decide) g2 rfl (fun c z => by cases z)
    rw [if_neg e1] at h
    cases q : clIx T x with
    | none => rw [q] at h; cases h
    | some i =>
      rw [q] at h
      cases h
      obtain ⟨fns, q⟩ := clIx_ok q
      exact snc_own g1 (C.g.cls i x fns q).glob g2 q
  · rw [if_neg g] at h; cases h
theorem tys_ok (C : Cok X T FN φ ψ k c) : ∀ {es : List Expr} {ts : List Ty}, tysOf T c es = some ts → SndCs X T.CT ts es
  | [], _, h => by cases h; exact .nil
  | e :: es, ts, h => by
    unfold tysOf at h
    cases q : tyOf T c e with
    | none => rw [q] at h; cases h
    | some t =>
      rw [q] at h
      cases q2 : tysOf T c es with
      | none => rw [q2] at h; cases h
      | some ts' =>
        rw [q2] at h
        cases h
        exact .cons (ty_ok C q) (tys_ok C q2)
theorem isi_ok (C : Cok X T FN φ ψ k c) (hf : ∀ e, SndE X T.CT (evE T φ ψ (f e)) e) (a b : Expr) {p pos : Pos} (hs : notStar a = true) (hg : Gl X "isinstance") : SndE X T.CT (evE T φ ψ (cIsi T c (cPr c f a) b)) (.Call (.Name "isinstance" p) [a, b] [] pos) := by
  have hm : X.mg "isinstance" = none := C.g.bl _ (by decide +kernel)
  unfold cIsi
  split
  · rename_i es kk p2
    cases q : tysOf T c es with
    | none => exact snd_bad
    | some ts =>
      dsimp only
      by_cases z : ts.length ≤ 1000
      · rw [if_pos z]; exact snd_isiN (pr_ok C hf a) hs (tys_ok C q) z C.g.cls hg hm
      · rw [if_neg z]; exact snd_bad
  · cases q : tyOf T c b with
    | none => exact snd_bad
    | some t => exact snd_isi1 (pr_ok C hf a) hs (ty_ok C q) C.g.cls hg hm
theorem b1_ok (C : Cok X T FN φ ψ k c) (hf : ∀ e, SndE X T.CT (evE T φ ψ (f e)) e) {x : Str} {b : B1} (h : b1Of x = some b) (a : Expr) {p pos : Pos} (hs : notStar a = true) (hg : Gl X x) (hd : (x == ("__debug__" : Str)) = false) : SndE X T.CT (evE T φ ψ (.b1 b (cPr c f a))) (.Call (.Name x p) [a] [] pos) := by
  have hc := C.calm
  unfold b1Of at h
  by_cases e : x = "len"
  · rw [if_pos e] at h; cases h; subst e
    exact snd_b1 (pr_ok C hf a) as_len call_len_seq hg (C.g.bl _ (by decide +kernel)) (by decide +kernel) (by decide) hd hs
  rw [if_neg e] at h
  by_cases e : x = "tuple"
  · rw [if_pos e] at h; cases h; subst e
    exact snd_t1 (pr_ok C hf a) as_tuple call_tuple_of hg (C.g.bl _ (by decide +kernel)) (by decide +kernel) (by decide) hd hs
  rw [if_neg e] at h
  by_cases e : x = "list"
  · rw [if_pos e] at h; cases h; subst e
    exact snd_t1 (pr_ok C hf a) as_list call_list_of hg (C.g.bl _ (by decide +kernel)) (by decide +kernel) (by decide) hd hs
  rw [if_neg e] at h
  by_cases e : x = "int"
  · rw [if_pos e] at h; cases h; subst e
    exact snd_t1 (pr_ok C hf a) as_int call_int1 hg (C.g.bl _ (by decide +kernel)) (by decide +kernel) (by decide) hd hs
  rw [if_neg e] at h
  by_cases e : x = "sum"
  · rw [if_pos e] at h; cases h; subst e
    exact snd_b1 (pr_ok C hf a) as_sum (cr_sum hc) hg (C.g.bl _ (by decide +kernel)) (by decide +kernel) (by decide) hd hs
  rw [if_neg e] at h
  by_cases e : x = "all"
  · rw [if_pos e] at h; cases h; subst e
    exact snd_b1 (pr_ok C hf a) as_all (cr_all hc) hg (C.g.bl _ (by decide +kernel)) (by decide +kernel) (by decide) hd hs
  rw [if_neg e] at h
  by_cases e : x = "any"
  · rw [if_pos e] at h; cases h; subst e
    exact snd_b1 (pr_ok C hf a) as_any (cr_any hc) hg (C.g.bl _ (by decide +kernel)) (by decide +kernel) (by decide) hd hs
  rw [if_neg e] at h
  by_cases e : x = "max"
  · rw [if_pos e] at h; cases h; subst e
    exact snd_b1 (pr_ok C hf a) as_max (cr_max hc) hg (C.g.bl _ (by decide +kernel)) (by decide +kernel) (by decide) hd hs
  rw [if_neg e] at h
  by_cases e : x = "min"
  · rw [if_pos e] at h; cases h; subst e
    exact snd_b1 (pr_ok C hf a) as_min (cr_min hc) hg (C.g.bl _ (by decide +kernel)) (by decide +kernel) (by decide) hd hs
  rw [if_neg e] at h
  by_cases e : x = "abs"
  · rw [if_pos e] at h; cases h; subst e
    exact snd_b1 (pr_ok C hf a) as_abs call_abs hg (C.g.bl _ (by decide +kernel)) (by decide +kernel) (by decide) hd hs
  rw [if_neg e] at h
  cases h
theorem rgIf_some {x : Str} {a b : Expr} (h : rgIf c x a = some b) : x = "list" ∧ ∃ p pos, a = .Call (.Name "range" p) [b] [] pos ∧ glo c "range" = true ∧ notStar b = true := by
  unfold rgIf at h
  split at h
  · rename_i y p b' pos
    by_cases z : (decide (x = "list") && (decide (y = "range") && (glo c y && notStar b'))) = true
    · rw [if_pos z] at h
      cases h
      obtain ⟨z1, z2⟩ := and2 z
      obtain ⟨z2, z3⟩ := and2 z2
      obtain ⟨z3, z4⟩ := and2 z3
      have e := of_decide_eq_true z2
      subst e
      exact ⟨of_decide_eq_true z1, p, pos, rfl, z3, z4⟩
    · rw [if_neg z] at h; cases h
  · cases h
theorem lrg_ok (C : Cok X T FN φ ψ k c) (hf : ∀ e, SndE X T.CT (evE T φ ψ (f e)) e) {x : Str} {a b : Expr} {p pos : Pos} (h : rgIf c x a = some b) (hg : Gl X x) : SndF X T.CT (evE T φ ψ (.lrg (f b))) (.Call (.Name x p) [a] [] pos) := by
  obtain ⟨rfl, q1, q2, rfl, g, hs⟩ := rgIf_some h
  exact snf_lrg (hf b) C.calm hg (C.g.bl _ (by decide +kernel)) (glo_ok C g).1 (C.g.bl _ (by decide +kernel)) hs
theorem blt_ok (C : Cok X T FN φ ψ k c) (hf : ∀ e, SndE X T.CT (evE T φ ψ (f e)) e) (x : Str) (args : List Expr) {p pos : Pos} (hs : args.all notStar = true) (hg : Gl X x) (hd : (x == ("__debug__" : Str)) = false) : SndE X T.CT (evE T φ ψ (cBlt T c f x args)) (.Call (.Name x p) args [] pos) := by
  have hc := C.calm
  unfold cBlt
  split
  · rename_i a
    rw [List.all_cons] at hs
    cases q0 : rgIf c x a with
    | some b => exact (lrg_ok C hf q0 hg).e
    | none =>
      dsimp only
      cases q : b1Of x with
      | none => exact snd_bad
      | some b => exact b1_ok C hf q a (and2 hs).1 hg hd
  · rename_i a b
    rw [List.all_cons, List.all_cons] at hs
    obtain ⟨h1, h2⟩ := and2 hs
    obtain ⟨h2, _⟩ := and2 h2
    by_cases e : x = "isinstance"
    · rw [if_pos e]; subst e; exact isi_ok C hf a b h1 hg
    rw [if_neg e]
    by_cases e : x = "max"
    · rw [if_pos e]; subst e
      exact snd_b2 (hf a) (hf b) as_max2 (call_max2 hc) hg (C.g.bl _ (by decide +kernel)) (by decide +kernel) (by decide) hd h1 h2
    rw [if_neg e]
    by_cases e : x = "min"
    · rw [if_pos e]; subst e
      exact snd_b2 (hf a) (hf b) as_min2 (call_min2 hc) hg (C.g.bl _ (by decide +kernel)) (by decide +kernel) (by decide) hd h1 h2
    rw [if_neg e]
    exact snd_bad
  · exact snd_bad
theorem call_ok (C : Cok X T FN φ ψ k c) (hf : ∀ e, SndE X T.CT (evE T φ ψ (f e)) e) (x : Str) (args : List Expr) (p pos : Pos) : SndE X T.CT (evE T φ ψ (cCall T FN c f x args)) (.Call (.Name x p) args [] pos) := by
  unfold cCall
  by_cases h : (glo c x && args.all notStar) = true
  · rw [if_pos h]
    obtain ⟨h1, h2⟩ := and2 h
    obtain ⟨g1, g2⟩ := glo_ok C h1
    cases q : fnIx FN x args.length with
    | some i =>
      dsimp only
      by_cases r : T.rwf.contains i = true
      · rw [if_pos r]; exact snd_bad
      · rw [if_neg r]
        have r := Bool.eq_false_iff.mpr r
        cases args with
        | nil => exact snd_call0 C.g C.room (fnIx_ok q) r g1 g2
        | cons e es =>
          have h2' := h2
          rw [List.all_cons] at h2'
          exact snd_call C.g C.room (fnIx_ok q) r (a_ok hf (e :: es) h2) (a_len (e :: es)) g1 g2 (and2 h2').1 (and2 h2').2
    | none =>
      dsimp only
      cases q2 : clIx T x with
      | some i =>
        dsimp only
        by_cases r : T.ar[i]? = some args.length ∧ args ≠ []
        · rw [if_pos r]
          cases args with
          | nil => exact absurd rfl r.2
          | cons e es =>
            have h2' := h2
            rw [List.all_cons] at h2'
            obtain ⟨fns, q2⟩ := clIx_ok q2
            exact snd_mk C.g C.room q2 (a_ok hf (e :: es) h2) r.1 (a_len (e :: es)) g1 g2 (and2 h2').1 (and2 h2').2
        · rw [if_neg r]; exact snd_bad
      | none => exact blt_ok C hf x args h2 g1 g2
  · rw [if_neg h]; exact snd_bad
theorem sub_ok (C : Cok X T FN φ ψ k c) (hf : ∀ e, SndE X T.CT (evE T φ ψ (f e)) e) (a i : Expr) (pos : Pos) : SndE X T.CT (evE T φ ψ (cSub c f a i)) (.Subscript a i pos) := by
  unfold cSub
  split
  · exact snd_rev (pr_ok C hf a)
  · exact snd_slc (pr_ok C hf a) (o_ok hf _) (o_ok hf _)
  · exact snd_bad
  · rename_i x j p2
    unfold cPg
    split
    · rename_i y p1
      cases q : rd c y with
      | none => exact snd_bad
      | some i =>
        cases q2 : pkOf x with
        | none => exact snd_bad
        | some kk =>
          obtain ⟨h1, h2, h3, h4⟩ := rd_ok C q
          rw [pkOf_some q2]
          exact snd_pget (by have := C.room.un; omega) h1 h2 h3 h4
    · exact snd_bad
  · rename_i h1 h2 h3 h4
    refine snd_idx (pr_ok C hf a) (hf i) ?_
    cases i <;> first | rfl | (exfalso; exact h3 _ _ _ _ rfl)
theorem att_ok (C : Cok X T FN φ ψ k c) (hf : ∀ e, SndE X T.CT (evE T φ ψ (f e)) e) (fl : Str) (a : Expr) (pos : Pos) : SndE X T.CT (evE T φ ψ (cAtt c f fl a)) (.Attribute a fl pos) := by
  unfold cAtt
  split
  · rename_i x p
    cases q : rd c x with
    | none => exact snd_bad
    | some i => obtain ⟨h1, h2, h3, h4⟩ := rd_ok C q; exact snd_nfl h1 h2 h3 h4 C.g.cls
  · by_cases z : attrOk a = true
    · rw [if_pos z]; exact snd_fld (hf a).p C.g.cls z
    · rw [if_neg z]; exact snd_bad
theorem const_ok (kc : Const) (j : Nat) (pos : Pos) : SndE X T.CT (evE T φ ψ (cConst kc)) (.Constant kc j pos) := by
  cases kc <;> first | exact snd_non | exact snd_bl | exact snd_int | exact snd_str | exact snd_bad
theorem tgNs_ok (C : Cok X T FN φ ψ k c) : ∀ {es : List Expr} {is : List Nat}, tgNs c es = some is → Nms X is es ∧ is.length = es.length
  | [], _, h => by cases h; exact ⟨.nil, rfl⟩
  | e :: es, is, h => by
    cases e <;> first | (cases h; done) | skip
    rename_i x pos
    have h : (match st c x, tgNs c es with | some i, some is => some (i :: is) | _, _ => none) = some is := h
    cases q : st c x with
    | none => rw [q] at h; cases h
    | some i =>
      rw [q] at h
      cases q2 : tgNs c es with
      | none => rw [q2] at h; cases h
      | some js =>
        rw [q2] at h
        cases h
        obtain ⟨h1, h2⟩ := tgNs_ok C q2
        exact ⟨.cons (st_ok C q) h1, congrArg Nat.succ h2⟩
theorem tg_ok (C : Cok X T FN φ ψ k c) {e : Expr} {is : List Nat} (h : tgOf c e = some is) : TgSnd X T.CT e is := by
  have hN : X.N.Nodup := by rw [C.hN]; exact C.nd
  cases e <;> first | (cases h; done) | skip
  · rename_i x pos
    have h : (st c x).map ([·]) = some is := h
    cases q : st c x with
    | none => rw [q] at h; cases h
    | some i => rw [q] at h; cases h; exact tg_one hN (st_ok C q)
  · rename_i es kk pos
    have h : (if 2 ≤ es.length then tgNs c es else none) = some is := h
    by_cases z : 2 ≤ es.length
    · rw [if_pos z] at h
      obtain ⟨h1, h2⟩ := tgNs_ok C h
      exact tg_tup C.calm hN h1 (by omega)
    · rw [if_neg z] at h; cases h
theorem notSet_ok {e : Expr} (h : notSet e = true) (env : Env) (x : Value) : foldedSetIterable e env x = pure x := by
  cases e <;> first | (cases h; done) | rfl
theorem i_ok (C : Cok X T FN φ ψ k c) (hf : ∀ e, SndE X T.CT (evE T φ ψ (f e)) e) (tg e : Expr) : SndI X T.CT tg (evI T φ ψ (cI c false f e)) e := by
  unfold cI
  split
  · rename_i x p a pos
    by_cases z : x = "range"
    · rw [if_pos z]
      by_cases w : (glo c x && notStar a) = true
      · rw [if_pos w]
        obtain ⟨w1, w2⟩ := and2 w
        obtain ⟨g1, g2⟩ := glo_ok C w1
        subst z
        exact sni_r1 (hf a) g1 (C.g.bl _ (by decide +kernel)) w2
      · rw [if_neg w]; exact sni_sq (snd_bad (φ := φ) (ψ := ψ))
    · rw [if_neg z]; exact sni_sq (hf _)
  · rename_i x p a b pos
    by_cases z : x = "range"
    · rw [if_pos z]
      by_cases w : (glo c x && (notStar a && notStar b)) = true
      · rw [if_pos w]
        obtain ⟨w1, w2⟩ := and2 w
        obtain ⟨w2, w3⟩ := and2 w2
        obtain ⟨g1, g2⟩ := glo_ok C w1
        subst z
        exact sni_r2 (hf a) (hf b) g1 (C.g.bl _ (by decide +kernel)) w2 w3
      · rw [if_neg w]; exact sni_sq (snd_bad (φ := φ) (ψ := ψ))
    · rw [if_neg z]; exact sni_sq (hf _)
  · rw [if_neg Bool.false_ne_true]; exact sni_sq (hf _)
theorem ip_ok (C : Cok X T FN φ ψ k c) (hf : ∀ e, SndE X T.CT (evE T φ ψ (f e)) e) (tg e : Expr) : SndIp X T.CT tg (evI T φ ψ (cI c true f e)) e := by
  unfold cI
  split
  · rename_i x p a pos
    by_cases z : x = "range"
    · rw [if_pos z]
      by_cases w : (glo c x && notStar a) = true
      · rw [if_pos w]
        obtain ⟨w1, w2⟩ := and2 w
        obtain ⟨g1, g2⟩ := glo_ok C w1
        subst z
        exact (sni_r1 (hf a) g1 (C.g.bl _ (by decide +kernel)) w2).p
      · rw [if_neg w]; exact (sni_sq (snd_bad (φ := φ) (ψ := ψ))).p
    · rw [if_neg z]; exact (sni_sq (hf _)).p
  · rename_i x p a b pos
    by_cases z : x = "range"
    · rw [if_pos z]
      by_cases w : (glo c x && (notStar a && notStar b)) = true
      · rw [if_pos w]
        obtain ⟨w1, w2⟩ := and2 w
        obtain ⟨w2, w3⟩ := and2 w2
        obtain ⟨g1, g2⟩ := glo_ok C w1
        subst z
        exact (sni_r2 (hf a) (hf b) g1 (C.g.bl _ (by decide +kernel)) w2 w3).p
      · rw [if_neg w]; exact (sni_sq (snd_bad (φ := φ) (ψ := ψ))).p
    · rw [if_neg z]; exact (sni_sq (hf _)).p
  · rw [if_pos rfl]; exact sni_sqp (pr_ok C hf _)
theorem if_ok (t : Expr → Bool) {scope : Scope} {F : Cy → Expr → E} (hT : ∀ (s : Shared) (H : Hp) (A : Addr) (cl : List (Str × Addr)) (fp : List Addr) (e : Expr), t e = true → SndT (Cx.b X scope s H A cl fp) T.CT (evE T φ ψ (F (c.blk scope) e)) e) {ifs : List Expr} {o : O} (h : cIf t (F (c.blk scope)) ifs = some o) : ∃ tt, SndB X T.CT scope (evO T φ ψ o) ifs tt := by
  unfold cIf at h
  split at h
  · cases h; exact ⟨_, snb_nil⟩
  · rename_i e
    by_cases z : t e = true
    · rw [if_pos z] at h
      cases h
      exact ⟨_, snb_one fun s H A cl fp => hT s H A cl fp e z⟩
    · rw [if_neg z] at h; cases h
  · cases h
end
section
variable {T : Tabs} {FN : FTab} {φ ψ : Fns} {k : Nat}
def Good (T : Tabs) (FN : FTab) (φ ψ : Fns) (k : Nat) (F : Cy → Expr → E) : Prop := ∀ (X : Cx) (c : Cy), Cok X T FN φ ψ k c → ∀ e, SndE X T.CT (evE T φ ψ (F c e)) e
def GoodT (T : Tabs) (FN : FTab) (φ ψ : Fns) (k : Nat) (t : Expr → Bool) (F : Cy → Expr → E) : Prop := ∀ (X : Cx) (c : Cy), Cok X T FN φ ψ k c → ∀ e, t e = true → SndT X T.CT (evE T φ ψ (F c e)) e
theorem genB_ok {c : Cy} {scope : Scope} {own : List (Str × Nat)} {tg : List Nat} {g : Comprehension} (h : genB c scope own tg g = true) : (∀ i ∈ tg, i ∈ own.map (·.2)) ∧ notSet g.iter = true ∧ g.is_async = 0 := by
  obtain ⟨h1, h2⟩ := and2 h
  obtain ⟨h2, h3⟩ := and2 h2
  exact ⟨fun i hi => by simpa using List.all_eq_true.mp h1 i hi, h2, of_decide_eq_true h3⟩
/-- the parts of a comprehension that is in order -/
structure LcOk (X : Cx) (T : Tabs) (φ ψ : Fns) (c : Cy) (F : Cy → Expr → E) (scope : Scope) (g : Comprehension) (tg : List Nat) (o : O) : Prop where
  tgs : ∀ (s : Shared) (H : Hp) (A : Addr) (cl : List (Str × Addr)) (fp : List Addr), TgSnd (Cx.b X scope s H A cl fp) T.CT g.target tg
  mem : ∀ i ∈ tg, i ∈ (ownOf c scope).map (·.2)
  ifs : ∃ tt, SndB X T.CT scope (evO T φ ψ o) g.ifs tt
  set : ∀ env x, foldedSetIterable g.iter env x = pure x
  asy : g.is_async = 0
theorem lcOk {X : Cx} {c : Cy} {t : Expr → Bool} {F : Cy → Expr → E} {scope : Scope} {g : Comprehension} {tg : List Nat} {o : O} (C : Cok X T FN φ ψ k c) (hT : GoodT T FN φ ψ k t F) (h1 : tgOf (c.blk scope) g.target = some tg) (h2 : cIf t (F (c.blk scope)) g.ifs = some o) (h3 : genB c scope (ownOf c scope) tg g = true) : LcOk X T φ ψ c F scope g tg o := by
  obtain ⟨q1, q2, q3⟩ := genB_ok h3
  exact ⟨fun s H A cl fp => tg_ok (C.blk scope s H A cl fp) h1, q1, if_ok t (fun s H A cl fp e z => hT _ _ (C.blk scope s H A cl fp) e z) h2, fun env x => notSet_ok q2 env x, q3⟩
theorem lc_ok {X : Cx} {c : Cy} {t : Expr → Bool} {F : Cy → Expr → E} (C : Cok X T FN φ ψ k c) (hF : Good T FN φ ψ k F) (hT : GoodT T FN φ ψ k t F) (elt : Expr) (scope : Scope) (gens : List Comprehension) (pos : Pos) : SndE X T.CT (evE T φ ψ (cLc c t F elt scope gens)) (.ListComp elt gens scope pos) := by
  have hN : X.N.Nodup := by rw [C.hN]; exact C.nd
  unfold cLc
  split
  · rename_i g
    cases q1 : tgOf (c.blk scope) g.target with
    | none => exact snd_bad
    | some tg =>
      cases q2 : cIf t (F (c.blk scope)) g.ifs with
      | none => exact snd_bad
      | some o =>
        dsimp only
        by_cases z : (blkC c.N c.sc scope (ownOf c scope) && genB c scope (ownOf c scope) tg g) = true
        · rw [if_pos z]
          obtain ⟨z1, z2⟩ := and2 z
          have L := lcOk (X := X) C hT q1 q2 z2
          obtain ⟨tt, hB⟩ := L.ifs
          have e0 := L.asy
          have es := L.set
          have et := L.tgs
          have em := L.mem
          obtain ⟨tgE, iter, ifs, asy⟩ := g
          dsimp only at e0
          subst e0
          exact snd_lc C.calm hN (by rw [C.hN, C.sc]; exact blkOk_by z1) (ip_ok C (hF X c C) tgE iter) et em hB (fun s H A cl fp => hF _ _ (C.blk scope s H A cl fp) elt) (es X.env)
        · rw [if_neg z]; exact snd_bad
  · rename_i g g2
    cases q1 : tgOf (c.blk scope) g.target with
    | none => exact snd_bad
    | some tg =>
      cases q2 : cIf t (F (c.blk scope)) g.ifs with
      | none => exact snd_bad
      | some o =>
        cases q3 : tgOf (c.blk scope) g2.target with
        | none => exact snd_bad
        | some tg2 =>
          cases q4 : cIf t (F (c.blk scope)) g2.ifs with
          | none => exact snd_bad
          | some o2 =>
            dsimp only
            by_cases z : (blkC c.N c.sc scope (ownOf c scope) && (genB c scope (ownOf c scope) tg g && genB c scope (ownOf c scope) tg2 g2)) = true
            · rw [if_pos z]
              obtain ⟨z1, z2⟩ := and2 z
              obtain ⟨z2, z3⟩ := and2 z2
              have L := lcOk (X := X) C hT q1 q2 z2
              have L2 := lcOk (X := X) C hT q3 q4 z3
              obtain ⟨tt, hB⟩ := L.ifs
              obtain ⟨tt2, hB2⟩ := L2.ifs
              have e0 := L.asy
              have es := L.set
              have et := L.tgs
              have em := L.mem
              have e02 := L2.asy
              have es2 := L2.set
              have et2 := L2.tgs
              have em2 := L2.mem
              obtain ⟨tgE, iter, ifs, asy⟩ := g
              obtain ⟨tgE2, iter2, ifs2, asy2⟩ := g2
              dsimp only at e0 e02
              subst e0
              subst e02
              exact snd_lc2 C.calm hN (by rw [C.hN, C.sc]; exact blkOk_by z1) (ip_ok C (hF X c C) tgE iter) et em em2 hB (fun s H A cl fp => i_ok (C.blk scope s H A cl fp) (hF _ _ (C.blk scope s H A cl fp)) tgE2 iter2) et2 hB2 (fun s H A cl fp => hF _ _ (C.blk scope s H A cl fp) elt) (es X.env) es2
            · rw [if_neg z]; exact snd_bad
  · exact snd_bad
theorem cE_ok : ∀ n, Good T FN φ ψ k (cE T FN n) ∧ GoodT T FN φ ψ k (tOk n) (cE T FN n)
  | 0 => ⟨fun X c C e => snd_bad, fun X c C e h => by cases h⟩
  | n + 1 => by
    obtain ⟨ih, iht⟩ := cE_ok n
    have hE : Good T FN φ ψ k (cE T FN (n + 1)) := fun X c C e => by
      have hf := ih X c C
      cases e with
      | Name x pos => exact nm_ok C x pos
      | Constant kc j pos => exact const_ok kc j pos
      | BinOp a op b pos =>
        show SndE X T.CT (evE T φ ψ (match bopOf op with | some o => .bin o (cPr c (cE T FN n c) a) (cPr c (cE T FN n c) b) | none => .bad)) _
        cases q : bopOf op with
        | none => exact snd_bad
        | some o => exact snd_bin (pr_ok C hf a) (pr_ok C hf b) (bop_ok op o q)
      | UnaryOp op e pos =>
        cases op with
        | Not => exact snd_not (hf e)
        | USub => exact snd_neg (hf e)
        | Invert => exact snd_bad
        | UAdd => exact snd_bad
      | BoolOp op vs pos => exact b_ok hf op pos vs
      | Compare a ops bs pos => exact (cmp_ok C hf a ops bs pos).1
      | IfExp t a b pos =>
        show SndE X T.CT (evE T φ ψ (if tOk n t = true then .ite (cE T FN n c t) (cE T FN n c a) (cE T FN n c b) else .bad)) _
        by_cases z : tOk n t = true
        · rw [if_pos z]; exact snd_ite (iht X c C t z) (hf a) (hf b)
        · rw [if_neg z]; exact snd_bad
      | Call fn args kws pos =>
        cases fn <;> first | exact snd_bad | skip
        cases kws with
        | nil => exact call_ok C hf _ args _ pos
        | cons _ _ => exact snd_bad
      | Attribute a fl pos => exact att_ok C hf fl a pos
      | Subscript a i pos => exact sub_ok C hf a i pos
      | Tuple es kk pos =>
        show SndE X T.CT (evE T φ ψ (if es.all notStar = true then .tup (cA (cE T FN n c) es) else .bad)) _
        by_cases z : es.all notStar = true
        · rw [if_pos z]; exact snd_tup (a_ok hf es z)
        · rw [if_neg z]; exact snd_bad
      | List es pos =>
        show SndE X T.CT (evE T φ ψ (if es.all notStar = true then .lst (cA (cE T FN n c) es) else .bad)) _
        by_cases z : es.all notStar = true
        · rw [if_pos z]; exact snd_lst (a_ok hf es z)
        · rw [if_neg z]; exact snd_bad
      | ListComp elt gens scope pos => exact lc_ok C ih iht elt scope gens pos
      | Dict ks vs pos =>
        unfold cE
        split <;> first | exact snd_bad | skip
        all_goals first
          | (rename_i h; cases h; exact snd_dic (hf _))
          | (rename_i h; cases h)
      | _ => exact snd_bad
    refine ⟨hE, fun X c C e h => ?_⟩
    have hf := ih X c C
    cases e with
    | BoolOp op vs pos =>
      obtain ⟨h1, h2⟩ := and2 (show (!vs.isEmpty && vs.all (tOk n)) = true from h)
      exact (bt_ok (tOk n) (iht X c C) op pos vs (by intro z; subst z; cases h1) h2).t
    | UnaryOp op e pos =>
      cases op with
      | Not => exact snd_notT (iht X c C e h)
      | USub => cases h
      | Invert => cases h
      | UAdd => cases h
    | Compare a ops bs pos => exact (cmp_ok C hf a ops bs pos).2
    | IfExp _ _ _ _ => cases h
    | Constant _ _ _ => cases h
    | NamedExpr _ _ _ => cases h
    | _ => exact snt_val (hE X c C _) rfl
end
end UK

set_option Elab.async false
set_option linter.all false
set_option maxRecDepth 100000
set_option maxHeartbeats 4000000
namespace UK
open PySem PySem.Spec PyProof.Rows L2
structure Fy where
  ow : List Str
  rws : List Str
  rt : Bool
def rbad : Rw := .ite .bad (.var 0) (.var 0)
/-- a list that is new -/
def cF (c : Cy) (t : Expr → Bool) (F : Cy → Expr → E) : Expr → E
  | .List es _ => if es.all notStar = true then .lst (cA (F c) es) else .bad
  | .Call (.Name x _) [a] [] _ => if (decide (x = "list") && (glo c x && notStar a)) = true then (match rgIf c x a with
    | some b => .lrg (F c b)
    | none => .b1 .list (cPr c (F c) a)) else .bad
  | .BinOp (.List es _) .Mult e2 _ => if es.all notStar = true then .bin .mul (.lst (cA (F c) es)) (F c e2) else .bad
  | .ListComp elt [g] scope _ => cLc c t F elt scope [g]
  | _ => .bad
def cR (T : Tabs) (FN : FTab) (t : Expr → Bool) (F : Cy → Expr → E) : Nat → Cy → Expr → Rw
  | 0, _, _ => rbad
  | n + 1, c, e => match e with
    | .ListComp elt [g] scope _ => (match tgOf (c.blk scope) g.target with
      | some tg => if (blkC c.N c.sc scope (ownOf c scope) && (genB c scope (ownOf c scope) tg g && g.ifs.isEmpty)) = true then .lc ((ownOf c scope).map (·.2)) (cF (c.blk scope) t F elt) tg (cI c true (F c) g.iter) else rbad
      | none => rbad)
    | .Call (.Name x _) args [] _ => if (glo c x && args.all notStar) = true then
        (match fnIx FN x args.length with
        | some i => if (T.rwf.contains i = true ∧ args ≠ []) then .call i (cA (F c) args) else rbad
        | none => rbad) else rbad
    | .IfExp q a b _ => if t q = true then .ite (F c q) (cR T FN t F n c a) (cR T FN t F n c b) else rbad
    | _ => rbad
def swB (c : Cy) (y : Str) (py : Pos) (scope : Scope) (pos : Pos) : Bool := (if c.sc.kind.isAnnotationScope then ScopeKind.function else c.sc.kind) == .function && c.sc.names.lookup y == some .local && py.line == pos.line
      && !(scope.names.any fun (n, k) => n == y && (k == .local || k == .cell))
def locB (c : Cy) (x : Str) : Bool := decide (c.sc.names.lookup x = some .local)
def notTup : Expr → Bool
  | .Tuple _ _ _ => false
  | _ => true
def funB (c : Cy) : Bool := decide (c.sc.kind = .function)
def cG (y : Fy) (c : Cy) (t : Expr → Bool) (F : Cy → Expr → E) (x : Str) (e : Expr) : Bool × E := if y.ow.contains x = true then (true, cF c t F e) else (false, F c e)
def cName (T : Tabs) (FN : FTab) (y : Fy) (c : Cy) (t : Expr → Bool) (F : Cy → Expr → E) (x : Str) (p1 : Pos) (i : Nat) (e : Expr) : Sm :=
  if y.rws.contains x = true then
    match e with
    | .ListComp elt [g] scope pos => if swB c x p1 scope pos = true then (if g.ifs.isEmpty = true ∧ locB c x = true then .rws i (cR T FN t F 5 c (.ListComp elt [g] scope pos)) else .nev) else .rws i (cR T FN t F 5 c (.ListComp elt [g] scope pos))
    | e => if notComp e = true then .rws i (cR T FN t F 5 c e) else .nev
  else
    match e with
    | .ListComp elt gens scope pos => if swB c x p1 scope pos = true then (if locB c x = true then .own i (cLc c t F elt scope gens) else .nev) else (match gens with | [g] => .own i (cLc c t F elt scope [g]) | _ => .nev)
    | e => if notComp e = true then (if y.ow.contains x = true then .own i (cF c t F e) else .set i (F c e)) else .nev
def parB (c : Cy) (x y : Str) (px py : Pos) (a b : Expr) : Bool := (funB c && (locB c x && (locB c y && !(x == y)))) && ((py.line == px.line) && ((notStar a && notStar b) && (!(foldedForSure 8 a && foldedForSure 8 b) && !(constantsAlone 8 a && constantsAlone 8 b))))
def cAsg (T : Tabs) (FN : FTab) (y : Fy) (c : Cy) (t : Expr → Bool) (F : Cy → Expr → E) (e : Expr) : Expr → Sm
  | .Name x p1 => (match st c x with
    | some i => cName T FN y c t F x p1 i e
    | none => .nev)
  | .Tuple [.Name x px, .Name z pz] kt pt => (match e with
    | .Tuple [a, b] _ _ => (match st c x, st c z with
      | some i, some j => if parB c x z px pz a b = true ∧ i ≠ j then .par i j (cG y c t F x a).1 (cG y c t F x a).2 (cG y c t F z b).1 (cG y c t F z b).2 else if ((!locB c x || !locB c z) && (notStar a && notStar b)) = true ∧ i ≠ j then .par i j (cG y c t F x a).1 (cG y c t F x a).2 (cG y c t F z b).1 (cG y c t F z b).2 else .nev
      | _, _ => .nev)
    | e => (match tgNs c [.Name x px, .Name z pz] with
      | some js => if (notTup e && notComp e) = true then .unp js (F c e) else .nev
      | none => .nev))
  | .Tuple es _ _ => (match tgNs c es with
    | some js => if (decide (2 ≤ es.length) && (notTup e && notComp e)) = true then .unp js (F c e) else .nev
    | none => .nev)
  | .Subscript (.Subscript (.Name x _) k1 _) k2 _ => (match rd c x with
    | some i => if (notComp e && (notSlice k1 && notSlice k2)) = true then .put2 i (F c k1) (F c k2) (F c e) else .nev
    | none => .nev)
  | .Subscript (.Name x _) (.Constant (.str z) _ _) _ => (match rd c x, pkOf z with
    | some i, some k => if notComp e = true then .pset i k (F c e) else .nev
    | _, _ => .nev)
  | .Subscript (.Name x _) k _ => (match rd c x with
    | some i => if (notComp e && notSlice k) = true then .put i (F c k) (F c e) else .nev
    | none => .nev)
  | .Attribute (.Name s _) fl _ => if rd c s = some 0 ∧ notComp e = true then .fld fl (F c e) else .nev
  | _ => .nev
def cExp (c : Cy) (F : Cy → Expr → E) (e : Expr) : Sm := match e with
  | .Call (.Attribute (.Name x _) m p2) [.Call (.Attribute (.Name z _) m2 p5) [a] [] p6] [] p3 => if m = "append" ∧ m2 = "pop" then (match rd c x, rd c z with
    | some i, some j => if (notStar a && ((p2.endLine == p3.line) && (p5.endLine == p6.line))) = true then .apop i j (F c a) else .nev
    | _, _ => .nev) else .nev
  | .Call (.Attribute (.Name x _) m p2) [a] [] p3 => if m = "append" then (match rd c x with
    | some i => if (notStar a && (p2.endLine == p3.line)) = true then .app i (F c a) else .nev
    | none => .nev) else .nev
  | e => if notComp e = true then .exp (F c e) else .nev
def cSs (f : Stmt → Sm) : List Stmt → Sm
  | [] => .nop
  | [s] => f s
  | s :: r => .seq (f s) (cSs f r)
def cS (T : Tabs) (FN : FTab) (y : Fy) (c : Cy) (t : Expr → Bool) (F : Cy → Expr → E) : Nat → Stmt → Sm
  | 0, _ => .nev
  | n + 1, s => match s with
    | .Return (some e) _ => if y.rt = true then (match e with
      | .Name x _ => (match rd c x with
        | some i => .rrt (.var i)
        | none => .nev)
      | e => .rrt (cR T FN t F 5 c e)) else .ret (F c e)
    | .Expr e _ => cExp c F e
    | .Assign [tg] e _ => cAsg T FN y c t F e tg
    | .If q a b _ => if t q = true then .ite (F c q) (cSs (cS T FN y c t F n) a) (cSs (cS T FN y c t F n) b) else .nev
    | .For tg it body [] _ => (match tgOf c tg with
      | some is => if notSet it = true then .for_ is (cI c false (F c) it) (cSs (cS T FN y c t F n) body) else .nev
      | none => .nev)
    | .While q body [] _ => if t q = true then .whl 1000000 (F c q) (cSs (cS T FN y c t F n) body) else .nev
    | .Pass _ => .nop
    | .Break _ => .brk
    | .Continue _ => .cnt
    | _ => .nev
section
variable {X : Cx} {T : Tabs} {FN : FTab} {φ ψ : Fns} {k : Nat} {c : Cy} {t : Expr → Bool} {F : Cy → Expr → E} {y : Fy}
theorem snf_bad {e : Expr} : SndF X T.CT (evE T φ ψ .bad) e := fun p S0 H0 S H env π σ d π' Q A hm k => by cases hm
theorem snr_bad {e : Expr} : SndR X T.CT (evR T φ ψ rbad) e := fun p S0 H0 S H env π σ d π' Q A hm k => by cases hm
theorem sns_nev {s : Stmt} : SndS X T.CT (evS T φ ψ .nev) s := sn_nev
theorem lcF_ok (C : Cok X T FN φ ψ k c) (hF : Good T FN φ ψ k F) (hT : GoodT T FN φ ψ k t F) (elt : Expr) (scope : Scope) (g : Comprehension) (pos : Pos) : SndF X T.CT (evE T φ ψ (cLc c t F elt scope [g])) (.ListComp elt [g] scope pos) := by
  have hN : X.N.Nodup := by rw [C.hN]; exact C.nd
  unfold cLc
  dsimp only
  cases q1 : tgOf (c.blk scope) g.target with
  | none => exact snf_bad
  | some tg =>
    cases q2 : cIf t (F (c.blk scope)) g.ifs with
    | none => exact snf_bad
    | some o =>
      dsimp only
      by_cases z : (blkC c.N c.sc scope (ownOf c scope) && genB c scope (ownOf c scope) tg g) = true
      · rw [if_pos z]
        obtain ⟨z1, z2⟩ := and2 z
        have L := lcOk (X := X) C hT q1 q2 z2
        obtain ⟨tt, hB⟩ := L.ifs
        have e0 := L.asy
        have es := L.set
        have et := L.tgs
        have em := L.mem
        obtain ⟨tgE, iter, ifs, asy⟩ := g
        dsimp only at e0
        subst e0
        exact snf_lc C.calm hN (by rw [C.hN, C.sc]; exact blkOk_by z1) (ip_ok C (hF X c C) tgE iter) et em hB (fun s H A cl fp => hF _ _ (C.blk scope s H A cl fp) elt) (es X.env)
      · rw [if_neg z]; exact snf_bad
theorem f_ok (C : Cok X T FN φ ψ k c) (hF : Good T FN φ ψ k F) (hT : GoodT T FN φ ψ k t F) (e : Expr) : SndF X T.CT (evE T φ ψ (cF c t F e)) e := by
  have hf := hF X c C
  unfold cF
  split
  · rename_i es pos
    by_cases z : es.all notStar = true
    · rw [if_pos z]; exact snf_lst (a_ok hf es z)
    · rw [if_neg z]; exact snf_bad
  · rename_i x p a pos
    by_cases z : (decide (x = "list") && (glo c x && notStar a)) = true
    · rw [if_pos z]
      obtain ⟨z1, z2⟩ := and2 z
      obtain ⟨z2, z3⟩ := and2 z2
      obtain ⟨g1, g2⟩ := glo_ok C z2
      have e1 : x = "list" := of_decide_eq_true z1
      subst e1
      cases q0 : rgIf c "list" a with
      | some b => exact lrg_ok C hf q0 g1
      | none => exact snf_list (pr_ok C hf a) g1 (C.g.bl _ (by decide +kernel)) z3
    · rw [if_neg z]; exact snf_bad
  · rename_i es p1 e2 pos
    by_cases z : es.all notStar = true
    · rw [if_pos z]; exact snf_mul (a_ok hf es z) (hf e2)
    · rw [if_neg z]; exact snf_bad
  · exact lcF_ok C hF hT _ _ _ _
  · exact snf_bad
theorem lcR_ok (C : Cok X T FN φ ψ k c) (hF : Good T FN φ ψ k F) (hT : GoodT T FN φ ψ k t F) {elt : Expr} {scope : Scope} {g : Comprehension} {tg : List Nat} (q1 : tgOf (c.blk scope) g.target = some tg) (z : (blkC c.N c.sc scope (ownOf c scope) && (genB c scope (ownOf c scope) tg g && g.ifs.isEmpty)) = true) :
    BlkOk X.N X.env.scope scope (ownOf c scope) ∧ LcOk X T φ ψ c F scope g tg .no ∧ g.ifs = [] := by
  obtain ⟨z1, z2⟩ := and2 z
  obtain ⟨z2, z3⟩ := and2 z2
  have e : g.ifs = [] := by simpa using z3
  have q2 : cIf t (F (c.blk scope)) g.ifs = some .no := by rw [e]; rfl
  exact ⟨by rw [C.hN, C.sc]; exact blkOk_by z1, lcOk (X := X) C hT q1 q2 z2, e⟩
theorem r_ok (hF : Good T FN φ ψ k F) (hT : GoodT T FN φ ψ k t F) : ∀ (n : Nat) {X : Cx} {c : Cy} (C : Cok X T FN φ ψ k c) (e : Expr), SndR X T.CT (evR T φ ψ (cR T FN t F n c e)) e
  | 0, X, c, C, e => snr_bad
  | n + 1, X, c, C, e => by
    have hN : X.N.Nodup := by rw [C.hN]; exact C.nd
    unfold cR
    split
    · rename_i elt g scope pos
      cases q1 : tgOf (c.blk scope) g.target with
      | none => exact snr_bad
      | some tg =>
        dsimp only
        by_cases z : (blkC c.N c.sc scope (ownOf c scope) && (genB c scope (ownOf c scope) tg g && g.ifs.isEmpty)) = true
        · rw [if_pos z]
          obtain ⟨hB, L, e2⟩ := lcR_ok (elt := elt) C hF hT q1 z
          have e0 := L.asy
          have es := L.set
          have et := L.tgs
          have em := L.mem
          obtain ⟨tgE, iter, ifs, asy⟩ := g
          dsimp only at e0 e2
          subst e0
          subst e2
          exact snr_lc C.calm hN hB (ip_ok C (hF X c C) tgE iter) et em (fun s H A cl fp => f_ok (C.blk scope s H A cl fp) hF hT elt) (es X.env)
        · rw [if_neg z]; exact snr_bad
    · rename_i x p args pos
      by_cases h : (glo c x && args.all notStar) = true
      · rw [if_pos h]
        obtain ⟨h1, h2⟩ := and2 h
        obtain ⟨g1, g2⟩ := glo_ok C h1
        cases q : fnIx FN x args.length with
        | none => exact snr_bad
        | some i =>
          dsimp only
          by_cases r : T.rwf.contains i = true ∧ args ≠ []
          · rw [if_pos r]
            cases args with
            | nil => exact absurd rfl r.2
            | cons e es =>
              have h2' := h2
              rw [List.all_cons] at h2'
              exact snr_call C.g C.room (fnIx_ok q) r.1 (a_ok (hF X c C) (e :: es) h2) (a_len (e :: es)) g1 g2 (and2 h2').1 (and2 h2').2
          · rw [if_neg r]; exact snr_bad
      · rw [if_neg h]; exact snr_bad
    · rename_i q a b pos
      by_cases z : t q = true
      · rw [if_pos z]; exact snr_ite (hT X c C q z) (r_ok hF hT n C a) (r_ok hF hT n C b)
      · rw [if_neg z]; exact snr_bad
    · exact snr_bad
theorem sw_ok (C : Cok X T FN φ ψ k c) (elt : Expr) (gens : List Comprehension) (scope : Scope) (pos : Pos) (x : Str) (py : Pos) (l : Nat) : swapsWith (.ListComp elt gens scope pos) (some (.Name x py)) l X.env = pure (swB c x py scope pos) := by
  show pure (X.env.blockKind == .function && X.env.kindOf x == some .local && py.line == pos.line && !(scope.names.any fun (n, k) => n == x && (k == .local || k == .cell))) = pure _
  have e1 : X.env.blockKind = if c.sc.kind.isAnnotationScope then ScopeKind.function else c.sc.kind := by unfold Env.blockKind; rw [C.sc]
  have e2 : X.env.kindOf x = c.sc.names.lookup x := by unfold Env.kindOf; rw [C.sc]
  rw [e1, e2]
  rfl
theorem name_ok (C : Cok X T FN φ ψ k c) (hF : Good T FN φ ψ k F) (hT : GoodT T FN φ ψ k t F) (x : Str) (p1 : Pos) (i : Nat) (n : NmOk X i x) (e : Expr) (pos : Pos) : SndS X T.CT (evS T φ ψ (cName T FN y c t F x p1 i e)) (.Assign [.Name x p1] e pos) := by
  have hN : X.N.Nodup := by rw [C.hN]; exact C.nd
  have hf := hF X c C
  unfold cName
  by_cases r : y.rws.contains x = true
  · rw [if_pos r]
    split
    · rename_i elt g scope pos2
      by_cases w : swB c x p1 scope pos2 = true
      · rw [if_pos w]
        by_cases v : g.ifs.isEmpty = true ∧ locB c x = true
        · rw [if_pos v]
          have hyl : X.env.scope.names.lookup x = some .local := by rw [C.sc]; exact of_decide_eq_true v.2
          have hsw := sw_ok C elt [g] scope pos2 x p1 pos.line
          rw [w] at hsw
          show SndS X T.CT (rwsM (frR (cR T FN t F 5 c (.ListComp elt [g] scope pos2))) (evR T φ ψ (cR T FN t F 5 c (.ListComp elt [g] scope pos2))) i) _
          unfold cR
          dsimp only
          cases q1 : tgOf (c.blk scope) g.target with
          | none => exact fun p S0 H0 S H env π σ r Dn A hm k => by cases hm
          | some tg =>
            dsimp only
            by_cases z : (blkC c.N c.sc scope (ownOf c scope) && (genB c scope (ownOf c scope) tg g && g.ifs.isEmpty)) = true
            · rw [if_pos z]
              obtain ⟨hB, L, e2⟩ := lcR_ok (elt := elt) C hF hT q1 z
              have e0 := L.asy
              have es := L.set
              have et := L.tgs
              have em := L.mem
              obtain ⟨tgE, iter, ifs, asy⟩ := g
              dsimp only at e0 e2
              subst e0
              subst e2
              exact sn_rwsLc C.calm hN hB (ip_ok C (hF X c C) tgE iter) et em (fun s H A cl fp => f_ok (C.blk scope s H A cl fp) hF hT elt) (es X.env) n hyl hsw
            · rw [if_neg z]; exact fun p S0 H0 S H env π σ r Dn A hm k => by cases hm
        · rw [if_neg v]; exact sns_nev
      · rw [if_neg w]
        have hsw := sw_ok C elt [g] scope pos2 x p1 pos.line
        rw [Bool.eq_false_iff.mpr w] at hsw
        intro p S0 H0 S H env π σ r Dn A hm k
        obtain ⟨S1, rss, π1, A1, h1, kk⟩ := rws_ok (is := frR (cR T FN t F 5 c (.ListComp elt [g] scope pos2))) (m := evR T φ ψ (cR T FN t F 5 c (.ListComp elt [g] scope pos2))) A hm k
        exact qS_of (ps_set hN n.at_ n.loc peq hsw n.fn) (r_ok hF hT 5 C _ p S0 H0 S1 H _ π σ _ _ _ A1 h1 kk)
    · rename_i e' _
      by_cases w : notComp e = true
      · rw [if_pos w]; exact sn_rws (is := frR (cR T FN t F 5 c e)) (m := evR T φ ψ (cR T FN t F 5 c e)) (r_ok hF hT 5 C e) w hN n
      · rw [if_neg w]; exact sns_nev
  · rw [if_neg r]
    split
    · rename_i elt gens scope pos2
      have hsw := sw_ok C elt gens scope pos2 x p1 pos.line
      by_cases w : swB c x p1 scope pos2 = true
      · rw [if_pos w]
        rw [w] at hsw
        by_cases v : locB c x = true
        · rw [if_pos v]
          have hyl : X.env.scope.names.lookup x = some .local := by rw [C.sc]; exact of_decide_eq_true v
          show SndS X T.CT (ownM (frE (cLc c t F elt scope gens)) (evE T φ ψ (cLc c t F elt scope gens)) i) _
          unfold cLc
          split
          · rename_i g
            cases q1 : tgOf (c.blk scope) g.target with
            | none => exact fun p S0 H0 S H env π σ r Dn A hm k => by cases hm
            | some tg =>
              cases q2 : cIf t (F (c.blk scope)) g.ifs with
              | none => exact fun p S0 H0 S H env π σ r Dn A hm k => by cases hm
              | some o =>
                dsimp only
                by_cases z : (blkC c.N c.sc scope (ownOf c scope) && genB c scope (ownOf c scope) tg g) = true
                · rw [if_pos z]
                  obtain ⟨z1, z2⟩ := and2 z
                  have L := lcOk (X := X) C hT q1 q2 z2
                  obtain ⟨tt, hB⟩ := L.ifs
                  have e0 := L.asy
                  have es := L.set
                  have et := L.tgs
                  have em := L.mem
                  obtain ⟨tgE, iter, ifs, asy⟩ := g
                  dsimp only at e0
                  subst e0
                  exact sn_ownLc C.calm hN (by rw [C.hN, C.sc]; exact blkOk_by z1) (ip_ok C (hF X c C) tgE iter) et em hB (fun s H A cl fp => hF _ _ (C.blk scope s H A cl fp) elt) (es X.env) n hyl hsw
                · rw [if_neg z]; exact fun p S0 H0 S H env π σ r Dn A hm k => by cases hm
          · rename_i g g2
            cases q1 : tgOf (c.blk scope) g.target with
            | none => exact fun p S0 H0 S H env π σ r Dn A hm k => by cases hm
            | some tg =>
              cases q2 : cIf t (F (c.blk scope)) g.ifs with
              | none => exact fun p S0 H0 S H env π σ r Dn A hm k => by cases hm
              | some o =>
                cases q3 : tgOf (c.blk scope) g2.target with
                | none => exact fun p S0 H0 S H env π σ r Dn A hm k => by cases hm
                | some tg2 =>
                  cases q4 : cIf t (F (c.blk scope)) g2.ifs with
                  | none => exact fun p S0 H0 S H env π σ r Dn A hm k => by cases hm
                  | some o2 =>
                    dsimp only
                    by_cases z : (blkC c.N c.sc scope (ownOf c scope) && (genB c scope (ownOf c scope) tg g && genB c scope (ownOf c scope) tg2 g2)) = true
                    · rw [if_pos z]
                      obtain ⟨z1, z2⟩ := and2 z
                      obtain ⟨z2, z3⟩ := and2 z2
                      have L := lcOk (X := X) C hT q1 q2 z2
                      have L2 := lcOk (X := X) C hT q3 q4 z3
                      obtain ⟨tt, hB⟩ := L.ifs
                      obtain ⟨tt2, hB2⟩ := L2.ifs
                      have e0 := L.asy
                      have es := L.set
                      have et := L.tgs
                      have em := L.mem
                      have e02 := L2.asy
                      have es2 := L2.set
                      have et2 := L2.tgs
                      have em2 := L2.mem
                      obtain ⟨tgE, iter, ifs, asy⟩ := g
                      obtain ⟨tgE2, iter2, ifs2, asy2⟩ := g2
                      dsimp only at e0 e02
                      subst e0
                      subst e02
                      exact sn_ownLc2 C.calm hN (by rw [C.hN, C.sc]; exact blkOk_by z1) (ip_ok C (hF X c C) tgE iter) et em em2 hB (fun s H A cl fp => i_ok (C.blk scope s H A cl fp) (hF _ _ (C.blk scope s H A cl fp)) tgE2 iter2) et2 hB2 (fun s H A cl fp => hF _ _ (C.blk scope s H A cl fp) elt) (es X.env) es2 n hyl hsw
                    · rw [if_neg z]; exact fun p S0 H0 S H env π σ r Dn A hm k => by cases hm
          · exact fun p S0 H0 S H env π σ r Dn A hm k => by cases hm
        · rw [if_neg v]; exact sns_nev
      · rw [if_neg w]
        rw [Bool.eq_false_iff.mpr w] at hsw
        split
        · rename_i g
          exact sn_own (is := frE (cLc c t F elt scope [g])) (m := evE T φ ψ (cLc c t F elt scope [g])) (lcF_ok C hF hT elt scope g pos2) hN n hsw
        · exact sns_nev
    · by_cases w : notComp e = true
      · rw [if_pos w]
        by_cases v : y.ow.contains x = true
        · rw [if_pos v]; exact sn_own (is := frE (cF c t F e)) (m := evE T φ ψ (cF c t F e)) (f_ok C hF hT e) hN n (swaps_no w _ _ _)
        · rw [if_neg v]; exact sn_set (is := frE (F c e)) (m := evE T φ ψ (F c e)) (hf e) w hN n
      · rw [if_neg w]; exact sns_nev
end
end UK

set_option Elab.async false
set_option linter.all false
set_option maxRecDepth 100000
set_option maxHeartbeats 4000000
namespace UK
open PySem PySem.Spec PyProof.Rows L2
section
variable {X : Cx} {T : Tabs} {FN : FTab} {φ ψ : Fns} {k : Nat} {c : Cy} {t : Expr → Bool} {F : Cy → Expr → E} {y : Fy}
theorem slD_t : slD true = owSl := by funext d; cases d <;> rfl
theorem slD_f : slD false = fun d => ret (.sh d) := by funext d; rfl
theorem g_ok (C : Cok X T FN φ ψ k c) (hF : Good T FN φ ψ k F) (hT : GoodT T FN φ ψ k t F) (x : Str) (e : Expr) : SndG X T.CT (fun env => bnd (evE T φ ψ (cG y c t F x e).2 env) (slD (cG y c t F x e).1)) e := by
  unfold cG
  by_cases z : y.ow.contains x = true
  · rw [if_pos z]
    dsimp only
    rw [slD_t]
    exact (f_ok C hF hT e).g
  · rw [if_neg z]
    dsimp only
    rw [slD_f]
    exact (hF X c C e).g
theorem swp_ok (C : Cok X T FN φ ψ k c) {x z : Str} {px pz : Pos} {a b : Expr} (h : parB c x z px pz a b = true) (kt : Nat) (pt : Pos) (k2 : Nat) (pt2 : Pos) : swappedStores [.Tuple [.Name x px, .Name z pz] kt pt] (.Tuple [a, b] k2 pt2) X.env = pure (some [x, z]) ∧ X.env.scope.names.lookup x = some .local ∧ X.env.scope.names.lookup z = some .local ∧ notStar a = true ∧ notStar b = true := by
  obtain ⟨h1, h2⟩ := and2 h
  obtain ⟨f1, h1⟩ := and2 h1
  obtain ⟨f2, h1⟩ := and2 h1
  obtain ⟨f3, f4⟩ := and2 h1
  obtain ⟨f5, h2⟩ := and2 h2
  obtain ⟨f6, h2⟩ := and2 h2
  obtain ⟨f6, f7⟩ := and2 f6
  obtain ⟨f8, f9⟩ := and2 h2
  have k1 : X.env.scope.names.lookup x = some .local := by rw [C.sc]; exact of_decide_eq_true f2
  have k3 : X.env.scope.names.lookup z = some .local := by rw [C.sc]; exact of_decide_eq_true f3
  refine ⟨?_, k1, k3, f6, f7⟩
  have bk : X.env.blockKind = .function := by
    unfold Env.blockKind
    have q : c.sc.kind = .function := of_decide_eq_true f1
    rw [C.sc, q]
    rfl
  have kx : X.env.kindOf x = some .local := k1
  have kz : X.env.kindOf z = some .local := k3
  have ne : (x == z) = false := by simpa using f4
  have ne2 : (z == x) = false := by
    rw [beq_eq_false_iff_ne] at ne ⊢
    exact Ne.symm ne
  have la : pz.line = px.line := by simpa using f5
  have sx : ∀ e : Expr, notStar e = true → (fun (e : Expr) => match e with | .Starred .. => true | _ => false) e = false := fun e h => by cases e <;> first | (cases h; done) | rfl
  have s1 := sx a f6
  have s2 := sx b f7
  dsimp only at s1 s2
  have f8 := (Bool.not_eq_true' _).mp f8
  have f9 := (Bool.not_eq_true' _).mp f9
  unfold swappedStores
  simp only [List.length_cons, List.length_nil, bk, List.any_cons, List.any_nil, s1, s2, List.head?_cons, Option.map_some, Option.getD_some, List.filterMap_cons, List.filterMap_nil, kx, kz, List.all_cons, List.all_nil, Bool.and_true, f8, f9, List.eraseDups]
  simp [la, ne, ne2, Expr.pos, List.eraseDupsBy, List.eraseDupsBy.loop]
  exact fun h => h.elim (fun h => absurd h (Bool.eq_false_iff.mp s1)) (fun h => absurd h (Bool.eq_false_iff.mp s2))
theorem swp_no (C : Cok X T FN φ ψ k c) {x z : Str} {px pz : Pos} {a b : Expr} (h : (!locB c x || !locB c z) = true) (kt : Nat) (pt : Pos) (k2 : Nat) (pt2 : Pos) : swappedStores [.Tuple [.Name x px, .Name z pz] kt pt] (.Tuple [a, b] k2 pt2) X.env = pure none := by
  have kk : ¬ X.env.kindOf x = some .local ∨ ¬ X.env.kindOf z = some .local := by
    unfold Env.kindOf
    rw [C.sc]
    rcases Bool.or_eq_true_iff.mp h with h | h
    · exact .inl (of_decide_eq_false ((Bool.not_eq_true' _).mp h))
    · exact .inr (of_decide_eq_false ((Bool.not_eq_true' _).mp h))
  unfold swappedStores
  dsimp only [List.length_cons, List.length_nil, List.head?_cons, Option.map_some, Option.getD_some, List.filterMap_cons, List.filterMap_nil]
  split
  · rfl
  · split
    · rfl
    · rcases kk with k1 | k1
      · have e1 : (X.env.kindOf x == some NameKind.local) = false := beq_eq_false_iff_ne.mpr k1
        simp only [e1, Bool.false_and, Bool.false_eq_true, if_false]
        rcases Bool.eq_false_or_eq_true (X.env.kindOf z == some NameKind.local && pz.line == (Expr.Name x px).pos.line) with hz | hz
        · simp [hz]
        · simp [hz]
      · have e1 : (X.env.kindOf z == some NameKind.local) = false := beq_eq_false_iff_ne.mpr k1
        simp only [e1, Bool.false_and, Bool.false_eq_true, if_false]
        rcases Bool.eq_false_or_eq_true (X.env.kindOf x == some NameKind.local && px.line == (Expr.Name x px).pos.line) with hz | hz
        · simp [hz]
        · simp [hz]
theorem asg_ok (C : Cok X T FN φ ψ k c) (hF : Good T FN φ ψ k F) (hT : GoodT T FN φ ψ k t F) (e tg : Expr) (pos : Pos) : SndS X T.CT (evS T φ ψ (cAsg T FN y c t F e tg)) (.Assign [tg] e pos) := by
  have hN : X.N.Nodup := by rw [C.hN]; exact C.nd
  have hf := hF X c C
  have unp : ∀ (js : List Nat) (es : List Expr) (k1 : Nat) (p1 : Pos), tgNs c es = some js → 2 ≤ es.length → (notTup e && notComp e) = true → SndS X T.CT (evS T φ ψ (.unp js (F c e))) (.Assign [.Tuple es k1 p1] e pos) := fun js es k1 p1 q h2 w => by
    obtain ⟨w1, w2⟩ := and2 w
    obtain ⟨q1, q2⟩ := tgNs_ok C q
    exact sn_unp (is := frE (F c e)) (m := evE T φ ψ (F c e)) (hf e) C.calm hN q1 (by omega) (swaps_no (e := e) w2 (some (.Tuple es k1 p1)) pos.line X.env) (by cases e <;> first | (cases w1; done) | rfl)
  unfold cAsg
  split
  · rename_i x p1
    cases q : st c x with
    | none => exact sns_nev
    | some i => exact name_ok C hF hT x p1 i (st_ok C q) e pos
  · rename_i x px z pz kt pt
    split
    · rename_i a b k2 pt2
      cases q1 : st c x with
      | none => exact sns_nev
      | some i =>
        cases q2 : st c z with
        | none => exact sns_nev
        | some j =>
          dsimp only
          by_cases w : parB c x z px pz a b = true ∧ i ≠ j
          · rw [if_pos w]
            obtain ⟨h1, h2, h3, h4, h5⟩ := swp_ok C w.1 kt pt k2 pt2
            exact sn_par (is := frE (cG y c t F x a).2 ++ frE (cG y c t F z b).2) C.calm hN (st_ok C q1).at_ (st_ok C q2).at_ w.2 h2 h3 (g_ok C hF hT x a) (g_ok C hF hT z b) h4 h5 h1
          · rw [if_neg w]
            by_cases v : ((!locB c x || !locB c z) && (notStar a && notStar b)) = true ∧ i ≠ j
            · rw [if_pos v]
              obtain ⟨v1, v2⟩ := and2 v.1
              obtain ⟨v2, v3⟩ := and2 v2
              exact sn_par2 (is := frE (cG y c t F x a).2 ++ frE (cG y c t F z b).2) C.calm hN (st_ok C q1) (st_ok C q2) v.2 (g_ok C hF hT x a) (g_ok C hF hT z b) v2 v3 (swp_no C v1 kt pt k2 pt2)
            · rw [if_neg v]; exact sns_nev
    · cases q : tgNs c [.Name x px, .Name z pz] with
      | none => exact sns_nev
      | some js =>
        dsimp only
        by_cases w : (notTup e && notComp e) = true
        · rw [if_pos w]; exact unp js _ kt pt q (Nat.le_refl _) w
        · rw [if_neg w]; exact sns_nev
  · rename_i es kt pt _
    cases q : tgNs c es with
    | none => exact sns_nev
    | some js =>
      dsimp only
      by_cases w : (decide (2 ≤ es.length) && (notTup e && notComp e)) = true
      · rw [if_pos w]
        obtain ⟨w1, w2⟩ := and2 w
        exact unp js es kt pt q (of_decide_eq_true w1) w2
      · rw [if_neg w]; exact sns_nev
  · rename_i x p1 k1 p2 k2 p3
    cases q : rd c x with
    | none => exact sns_nev
    | some i =>
      obtain ⟨h1, h2, h3, h4⟩ := rd_ok C q
      dsimp only
      by_cases w : (notComp e && (notSlice k1 && notSlice k2)) = true
      · rw [if_pos w]
        obtain ⟨w1, w2⟩ := and2 w
        obtain ⟨w2, w3⟩ := and2 w2
        exact sn_put2 (is1 := frE (F c e)) (is2 := frE (F c k1)) (is3 := frE (F c k2)) (me := evE T φ ψ (F c e)) (m1 := evE T φ ψ (F c k1)) (m2 := evE T φ ψ (F c k2)) (hf e) (hf k1) (hf k2) w1 h1 h2 h3 h4 w2 w3
      · rw [if_neg w]; exact sns_nev
  · rename_i x p1 z j p2 p3
    cases q : rd c x with
    | none => exact sns_nev
    | some i =>
      cases q2 : pkOf z with
      | none => exact sns_nev
      | some kk =>
        obtain ⟨h1, h2, h3, h4⟩ := rd_ok C q
        dsimp only
        by_cases w : notComp e = true
        · rw [if_pos w, pkOf_some q2]; exact sn_pset (is := frE (F c e)) (m := evE T φ ψ (F c e)) (by have := C.room.un; omega) (hf e) w h1 h2 h3 h4
        · rw [if_neg w]; exact sns_nev
  · rename_i x p1 k1 p2 _
    cases q : rd c x with
    | none => exact sns_nev
    | some i =>
      obtain ⟨h1, h2, h3, h4⟩ := rd_ok C q
      dsimp only
      by_cases w : (notComp e && notSlice k1) = true
      · rw [if_pos w]
        obtain ⟨w1, w2⟩ := and2 w
        exact sn_put (is := frE (F c e)) (js := frE (F c k1)) (m := evE T φ ψ (F c e)) (mk := evE T φ ψ (F c k1)) (hf e) (hf k1) w1 h1 h2 h3 h4 w2
      · rw [if_neg w]; exact sns_nev
  · rename_i s p1 fl p2
    by_cases w : rd c s = some 0 ∧ notComp e = true
    · rw [if_pos w]
      obtain ⟨h1, h2, h3, h4⟩ := rd_ok C w.1
      exact sn_fld (is := frE (F c e)) (m := evE T φ ψ (F c e)) (hf e) w.2 h1 h2 h3 h4 C.g.cls
    · rw [if_neg w]; exact sns_nev
  · exact sns_nev
theorem exp_ok (C : Cok X T FN φ ψ k c) (hF : Good T FN φ ψ k F) (e : Expr) (pos : Pos) : SndS X T.CT (evS T φ ψ (cExp c F e)) (.Expr e pos) := by
  have hf := hF X c C
  unfold cExp
  split
  · rename_i x p1 m p2 z p4 m2 p5 a p6 p3
    by_cases w : m = "append" ∧ m2 = "pop"
    · rw [if_pos w]
      obtain ⟨rfl, rfl⟩ := w
      cases q1 : rd c x with
      | none => exact sns_nev
      | some i =>
        cases q2 : rd c z with
        | none => exact sns_nev
        | some j =>
          obtain ⟨h1, h2, h3, h4⟩ := rd_ok C q1
          obtain ⟨g1, g2, g3, g4⟩ := rd_ok C q2
          dsimp only
          by_cases v : (notStar a && ((p2.endLine == p3.line) && (p5.endLine == p6.line))) = true
          · rw [if_pos v]
            obtain ⟨v1, v2⟩ := and2 v
            obtain ⟨v2, v3⟩ := and2 v2
            exact sn_apop (is := frE (F c a)) (m := evE T φ ψ (F c a)) (hf a) v1 h1 h2 h3 h4 g1 g2 g3 g4 v2 v3
          · rw [if_neg v]; exact sns_nev
    · rw [if_neg w]; exact sns_nev
  · rename_i x p1 m p2 a p3 _
    by_cases w : m = "append"
    · rw [if_pos w]
      subst w
      cases q1 : rd c x with
      | none => exact sns_nev
      | some i =>
        obtain ⟨h1, h2, h3, h4⟩ := rd_ok C q1
        dsimp only
        by_cases v : (notStar a && (p2.endLine == p3.line)) = true
        · rw [if_pos v]
          obtain ⟨v1, v2⟩ := and2 v
          exact sn_app (is := frE (F c a)) (m := evE T φ ψ (F c a)) (hf a) v1 h1 h2 h3 h4 v2
        · rw [if_neg v]; exact sns_nev
    · rw [if_neg w]; exact sns_nev
  · by_cases w : notComp e = true
    · rw [if_pos w]; exact sn_exp (is := frE (F c e)) (m := evE T φ ψ (F c e)) (hf e) w
    · rw [if_neg w]; exact sns_nev
theorem ss_ok {f : Stmt → Sm} (h : ∀ s, SndS X T.CT (evS T φ ψ (f s)) s) : ∀ ss : List Stmt, SndSs X T.CT (evS T φ ψ (cSs f ss)) ss
  | [] => sns_nil
  | [s] => sns_one (h s)
  | s :: z :: r => sns_cons (h s) (ss_ok h (z :: r))
theorem cS_ok (C : Cok X T FN φ ψ k c) (hF : Good T FN φ ψ k F) (hT : GoodT T FN φ ψ k t F) : ∀ (n : Nat) (s : Stmt), SndS X T.CT (evS T φ ψ (cS T FN y c t F n s)) s
  | 0, s => sns_nev
  | n + 1, s => by
    have ih := cS_ok C hF hT n
    have hf := hF X c C
    unfold cS
    split
    · rename_i e pos
      by_cases w : y.rt = true
      · rw [if_pos w]
        split
        · rename_i x p1
          cases q : rd c x with
          | none => exact sns_nev
          | some i =>
            obtain ⟨h1, h2, h3, h4⟩ := rd_ok C q
            exact sn_rrtV (is := []) h1 h2 h3 h4
        · exact sn_rrt (is := frR (cR T FN t F 5 c e)) (m := evR T φ ψ (cR T FN t F 5 c e)) (r_ok hF hT 5 C e)
      · rw [if_neg w]; exact sn_ret (is := frE (F c e)) (m := evE T φ ψ (F c e)) (hf e)
    · exact exp_ok C hF _ _
    · exact asg_ok C hF hT _ _ _
    · rename_i q a b pos
      by_cases w : t q = true
      · rw [if_pos w]; exact sn_ite (is := frE (F c q)) (m := evE T φ ψ (F c q)) (hT X c C q w) (ss_ok ih a) (ss_ok ih b)
      · rw [if_neg w]; exact sns_nev
    · rename_i tg it body pos
      cases q : tgOf c tg with
      | none => exact sns_nev
      | some is =>
        dsimp only
        by_cases w : notSet it = true
        · rw [if_pos w]; exact sn_for (is := frI (cI c false (F c) it)) (mi := evI T φ ψ (cI c false (F c) it)) C.xe C.calm (i_ok C hf tg it) (tg_ok C q) (ss_ok ih body) (notSet_ok w X.env)
        · rw [if_neg w]; exact sns_nev
    · rename_i q body pos
      by_cases w : t q = true
      · rw [if_pos w]; exact sn_whl (is := frE (F c q)) (m := evE T φ ψ (F c q)) C.xe (hT X c C q w) (ss_ok ih body)
      · rw [if_neg w]; exact sns_nev
    · exact sn_pass
    · exact sn_brk
    · exact sn_cnt
    · exact sns_nev
end
end UK

set_option Elab.async false
set_option linter.all false
set_option maxRecDepth 100000
set_option maxHeartbeats 4000000
namespace UK
open PySem PySem.Spec PyProof.Rows L2
/-! ### a def, run -/
structure Df where
  d : He.DefD
  ps : List Str
  N : List Str
  y : Fy
def Df.c (f : Df) : Cy := ⟨f.N, f.d.scope, fun _ => true, f.y.rws⟩
def Df.sm (T : Tabs) (FN : FTab) (m : Nat) (f : Df) : Sm := cSs (cS T FN f.y f.c (tOk m) (cE T FN m) m) f.d.body
def startE (n : Nat) (ds : List D) : Env' := ds.map .sh ++ List.replicate (n - ds.length) .un
def endF (rt : Bool) : Flw → M D
  | .ret d => if rt = true then stuck else ret d
  | .nx => if rt = true then stuck else ret .non
  | .rr rss => if rt = true then ret (.lst (rss.map .lst)) else stuck
  | _ => stuck
def runF (T : Tabs) (φ ψ : Fns) (rt : Bool) (s : Sm) (n : Nat) (ds : List D) : M D := bnd (evS T φ ψ s (startE n ds)) fun r => endF rt r.1
def endI (T : Tabs) (c : Nat) : Option Slot → M D
  | some (.se c' fs) => if (c' = c ∧ (T.CT[c]?.map (·.2)) = some (fs.map (·.1))) then ret (.ins c (fs.map (·.2))) else stuck
  | _ => stuck
def runI (T : Tabs) (φ ψ : Fns) (s : Sm) (n : Nat) (c : Nat) (ds : List D) : M D := bnd (evS T φ ψ s (.se c [] :: startE (n - 1) ds)) fun r => match r.1 with
  | .nx => endI T c (r.2[(0 : Nat)]? : Option Slot)
  | _ => stuck
def GokB (P : Program) (w : World) (K : PySem.W.Frag) (mg : Str → Option Value) (base : Heap) (T : Tabs) (FN : FTab) (φ ψ : Fns) (k : Nat) : Prop :=
  ∀ X : Cx, X.prog = P → X.w = w → X.K = K → X.mg = mg → X.base = base → Gok X T FN φ ψ k
section
variable {P : Program} {w : World} {K : PySem.W.Frag} {mg : Str → Option Value} {base : Heap} {T : Tabs} {FN : FTab} {φ ψ : Fns} {k : Nat}
theorem lstsD_map : ∀ rss : List (List D), lstsD (rss.map .lst) = some rss
  | [] => rfl
  | ds :: rss => by
    show (lstsD (rss.map .lst)).map (ds :: ·) = _
    rw [lstsD_map rss]
    rfl
theorem rowsD_map (rss : List (List D)) : rowsD (.lst (rss.map .lst)) = ret rss := by
  unfold rowsD
  dsimp only
  rw [lstsD_map]
  rfl
theorem start_ok {CT : CTab} {p : Addr} {S H : Hp} {π : Pen} {ds : List D} {vs : List V} (n : Nat) (w : Wd p S π H) (r : Reps K CT p S ds vs) (N : List Str) (hn : N.length = n) : Agr K CT p S ⟨H, 0⟩ S H (startE n ds) π (L2.start N vs) := by
  have hl := r.length
  have noA : ∀ (i : Nat) (s : Slot) (o : Option (Option V)) (b : Addr), (startE n ds)[i]? = some s → Adr H s o b → False := fun i s o b e q => by
    unfold startE at e
    by_cases h : i < ds.length
    · rw [List.getElem?_append_left (by simpa using h), List.getElem?_map, List.getElem?_eq_getElem h] at e
      cases e
      exact q
    · rw [List.getElem?_append_right (by simpa using h)] at e
      have := List.mem_of_getElem? e
      rw [(List.mem_replicate.mp this).2] at q
      exact q
  refine ⟨Stp.refl p S H, w, by simp [startE, L2.start, hl, hn], fun i s e => ?_, fun i j s t b _ e1 _ q1 _ => noA i s _ b e1 q1⟩
  unfold startE at e
  by_cases h : i < ds.length
  · rw [List.getElem?_append_left (by simpa using h), List.getElem?_map, List.getElem?_eq_getElem h] at e
    cases e
    obtain ⟨v, e1, rv⟩ := r.get (List.getElem?_eq_getElem h)
    refine ⟨v, ?_, rv⟩
    unfold L2.start
    rw [List.getElem?_append_left (by rw [List.length_map]; omega), List.getElem?_map, e1]
    rfl
  · rw [List.getElem?_append_right (by simpa using h)] at e
    have := List.mem_of_getElem? e
    rw [(List.mem_replicate.mp this).2]
    trivial
theorem cok {f : Df} {f0 : Addr} {cdv : Value} {A : Around} {outer : List Env} {s : Shared} {H : Hp} {E : XK} {qual : Str} (hG : GokB P w K mg base T FN φ ψ k) (sc : C8.scC f.N f.ps f.d.scope = true) (hr : Room (k + 1) (A.deeper (envOfC qual f.d.scope s.heap.objs.size f0 cdv))) :
    Cok (cxOf CX0 P w K mg base f.N qual f.d.scope f0 cdv A outer s H E).nox T FN φ ψ k f.c :=
  ⟨hG _ rfl rfl rfl rfl rfl, rfl, (C8.fnScope_by sc).nd, rfl, rfl, rfl, hr, rfl⟩
theorem fun_ok {f : Df} {a : Addr} {fd : FuncData} {dvs : List V} {kws : List (Str × V)} (m : Nat) (F : FunD K f.d.name f.d.qual f.d.params f.d.body f.d.scope dvs kws a fd) (sc : C8.scC f.N f.ps f.d.scope = true) (hG : GokB P w K mg base T FN φ ψ k) :
    FnOk P w K mg base CX0 (k + 2) a fd f.ps (spM f.y.rt K T.CT f.ps.length (runF T φ ψ f.y.rt (f.sm T FN m) f.N.length)) := by
  cases hrt : f.y.rt with
  | false =>
    refine F.ok (C8.fnScope_by sc) (fun vs H Q E h => ?_) (fun cdv A outer s H vs Q E hr h => ⟨_, PSs.nox pssq, ?_⟩)
    · obtain ⟨_, _, _, _, _, _, h, _⟩ := (show spF K T.CT f.ps.length _ vs H Q E from h)
      exact h
    · obtain ⟨p, S, π, ds, d, π', hl, wd, r, hm, kk⟩ := (show spF K T.CT f.ps.length _ vs H Q E from h)
      have C := cok (E := E) (H := H) (outer := outer) hG sc hr
      obtain ⟨⟨fl, env'⟩, π1, h1, h2⟩ := bnd_some hm
      refine ss_ok (cS_ok (y := f.y) C (cE_ok m).1 (cE_ok m).2 m) f.d.body p S ⟨H, 0⟩ S H (startE f.N.length ds) π (L2.start f.N vs) _ _ (start_ok _ wd r f.N rfl) h1 ?_
      cases fl with
      | nx =>
        cases h2
        exact fun S' H' σ' _ A' => kk S' H' .non A'.st A'.wd .non
      | ret d' =>
        cases h2
        exact fun S' H' v t w r => kk S' H' v t w r
      | brk => cases h2
      | cnt => cases h2
      | rr rss => cases h2
  | true =>
    refine F.ok (C8.fnScope_by sc) (fun vs H Q E h => ?_) (fun cdv A outer s H vs Q E hr h => ⟨_, PSs.nox pssq, ?_⟩)
    · obtain ⟨_, _, _, _, _, _, h, _⟩ := (show spR K T.CT f.ps.length _ vs H Q E from h)
      exact h
    · obtain ⟨p, S, π, ds, rss, π', hl, wd, r, hm, kk⟩ := (show spR K T.CT f.ps.length _ vs H Q E from h)
      have C := cok (E := E) (H := H) (outer := outer) hG sc hr
      obtain ⟨d0, π0, hm0, hm1⟩ := bnd_some hm
      obtain ⟨⟨fl, env'⟩, π1, h1, h2⟩ := bnd_some hm0
      refine ss_ok (cS_ok (y := f.y) C (cE_ok m).1 (cE_ok m).2 m) f.d.body p S ⟨H, 0⟩ S H (startE f.N.length ds) π (L2.start f.N vs) _ _ (start_ok _ wd r f.N rfl) h1 ?_
      cases fl with
      | nx => cases h2
      | ret d' => cases h2
      | brk => cases h2
      | cnt => cases h2
      | rr rss' =>
        cases h2
        rw [rowsD_map] at hm1
        cases hm1
        exact fun S' H' v t w r => kk S' H' v t w r
theorem ini_ok {f : Df} {a : Addr} {fd : FuncData} {dvs : List V} {kws : List (Str × V)} {c : Nat} {C : Str} {fns : List Str} {n : Nat} (m : Nat) (F : FunD K f.d.name f.d.qual f.d.params f.d.body f.d.scope dvs kws a fd) (sc : C8.scC f.N f.ps f.d.scope = true) (hG : GokB P w K mg base T FN φ ψ k) (hC : T.CT[c]? = some (C, fns)) (hn : f.ps.length = n + 1) :
    FnOk P w K mg base CX0 (k + 2) a fd f.ps (spI K T.CT C n (runI T φ ψ (f.sm T FN m) f.N.length c)) := by
  refine F.ok (C8.fnScope_by sc) (fun vs H Q E h => ?_) (fun cdv A outer s H vs Q E hr h => ⟨_, PSs.nox pssq, ?_⟩)
  · obtain ⟨_, _, _, _, _, _, vs', _, _, _, rfl, h, _⟩ := h
    rw [List.length_cons, h, hn]
  · obtain ⟨p, S, H1, π, x, dx, vs', ds, d, π', rfl, hl, rfl, hx, hdx, ne, wd, r, hm, kk⟩ := h
    have Ck := cok (E := E) (H := upd (upd H1 dx (.own x)) x (.ins (He.ga K C) dx [])) (outer := outer) hG sc hr
    obtain ⟨⟨fl, env'⟩, π1, h1, h2⟩ := bnd_some hm
    obtain ⟨t1, w1, hs1, hp1⟩ := wd.lay (o := .own x) hdx
    have hx1 : upd H1 dx (.own x) x = none := by rw [upd_ne (Ne.symm ne)]; exact hx
    obtain ⟨t2, w2, hs2, hp2⟩ := w1.lay (o := .ins (He.ga K C) dx []) hx1
    have hps : f.N.take f.ps.length = f.ps := (C8.fnScope_by sc).pre
    have hN : f.ps.length ≤ f.N.length := by have := congrArg List.length hps; rw [List.length_take] at this; omega
    have A0 := start_ok (f.N.length - 1) w2 r (f.N.drop 1) (by rw [List.length_drop])
    have eσ : L2.start f.N (.ref x :: vs') = some (.ref x) :: L2.start (f.N.drop 1) vs' := by
      unfold L2.start
      rw [List.map_cons, List.length_cons, List.length_drop, List.cons_append]
      congr 3
      omega
    have A1 : Agr K T.CT p S ⟨H1, x⟩ S (upd (upd H1 dx (.own x)) x (.ins (He.ga K C) dx [])) (.se c [] :: startE (f.N.length - 1) ds) π (L2.start f.N (.ref x :: vs')) := by
      rw [eσ]
      have noA : ∀ (i : Nat) (s : Slot) (o : Option (Option V)) (b : Addr) (H : Hp), (startE (f.N.length - 1) ds)[i]? = some s → Adr H s o b → False := fun i s o b H e q => by
        unfold startE at e
        by_cases h : i < ds.length
        · rw [List.getElem?_append_left (by simpa using h), List.getElem?_map, List.getElem?_eq_getElem h] at e
          cases e
          exact q
        · rw [List.getElem?_append_right (by simpa using h)] at e
          have := List.mem_of_getElem? e
          rw [(List.mem_replicate.mp this).2] at q
          exact q
      refine ⟨t1.trans t2, w2, by rw [List.length_cons, List.length_cons, A0.len], fun i s e => ?_, fun i j s t b hne e1 e2 q1 q2 => ?_⟩
      · cases i with
        | zero =>
          cases e
          exact ⟨x, dx, C, fns, [], rfl, hC, upd_same, rfl, ⟨fns, rfl⟩, .nil, hs2, hp2, hx, rfl⟩
        | succ i =>
          have e : (startE (f.N.length - 1) ds)[i]? = some s := e
          have q := A0.ok i s e
          cases s with
          | un => trivial
          | sh d => exact q
          | ow ds2 => exact (noA i _ (some (some (.ref 0))) 0 (fun _ => none) e rfl).elim
          | se c fs => exact (noA i _ (some (some (.ref 0))) 0 (fun _ => none) e rfl).elim
          | rw rss => exact (noA i _ (some (some (.ref 0))) 0 (fun _ => none) e (.inl rfl)).elim
      · cases i with
        | zero =>
          cases j with
          | zero => exact hne rfl
          | succ j => exact noA j t _ b _ e2 q2
        | succ i => exact noA i s _ b _ e1 q1
    refine ss_ok (cS_ok (y := f.y) Ck (cE_ok m).1 (cE_ok m).2 m) f.d.body p S ⟨H1, x⟩ S _ (.se c [] :: startE (f.N.length - 1) ds) π _ _ _ A1 h1 ?_
    cases fl with
    | nx =>
      intro S' H' σ' s' A'
      have h2 : endI T c (env'[(0 : Nat)]? : Option Slot) π1 = some (d, π') := h2
      cases q : env'[(0 : Nat)]? with
      | none => rw [q] at h2; cases h2
      | some sl =>
        rw [q] at h2
        cases sl <;> first | (cases h2; done) | skip
        rename_i c' fs
        have h2 : (if (c' = c ∧ (T.CT[c]?.map (·.2)) = some (fs.map (·.1))) then (ret (.ins c (fs.map (·.2))) : M D) else stuck) π1 = some (d, π') := h2
        by_cases z : c' = c ∧ (T.CT[c]?.map (·.2)) = some (fs.map (·.1))
        · rw [if_pos z] at h2
          cases h2
          obtain ⟨rfl, z⟩ := z
          rw [hC] at z
          cases z
          obtain ⟨a', dx', C', fns', fvs, e1, e2, h4, e4, e5, r5, hs5, hp5, h05, ea⟩ := A'.ok 0 _ q
          rw [hC] at e2
          cases e2
          have ea : a' = x := ea
          subst ea
          obtain ⟨s6, w6⟩ := A'.wd.share hs5 h4 hp5
          exact kk _ _ (A'.st.share hs5 h05) w6 (.ins hC upd_same e4 (r5.mono s6))
        · rw [if_neg z] at h2; cases h2
    | ret d' => cases h2
    | brk => cases h2
    | cnt => cases h2
    | rr rss => cases h2
end
end UK

set_option Elab.async false
set_option linter.all false
set_option maxRecDepth 100000
set_option maxHeartbeats 4000000
namespace UK
open PySem PySem.Spec PyProof.Rows L2
/-! ### all the text's defs, level by level -/
structure Tb where
  T : Tabs
  FN : FTab
  fs : List Df
  ini : List Df
  m : Nat
def Tb.lev (B : Tb) : Nat → Fns × Fns
  | 0 => (fun _ _ => stuck, fun _ _ => stuck)
  | n + 1 => (fun i ds => match B.fs[i]? with
      | some f => runF B.T (Tb.lev B n).1 (Tb.lev B n).2 f.y.rt (f.sm B.T B.FN B.m) f.N.length ds
      | none => stuck,
    fun c ds => match B.ini[c]? with
      | some f => runI B.T (Tb.lev B n).1 (Tb.lev B n).2 (f.sm B.T B.FN B.m) f.N.length c ds
      | none => stuck)
def DefOk (K : PySem.W.Frag) (f : Df) : Prop := ∃ fd dvs kws, FunD K f.d.name f.d.qual f.d.params f.d.body f.d.scope dvs kws (He.fAd K f.d.at_) fd ∧ Binds K fd f.ps []
structure Fax (B : Tb) (K : PySem.W.Frag) (mg : Str → Option Value) : Prop where
  fn : ∀ (i : Nat) (at_ : Str × Option Str) (n : Nat), B.FN[i]? = some (at_, n) → ∃ f, B.fs[i]? = some f ∧ f.d.at_ = at_ ∧ f.ps.length = n ∧ C8.scC f.N f.ps f.d.scope = true ∧ B.T.rwf.contains i = f.y.rt ∧ DefOk K f
  glob : ∀ (i : Nat) (x : Str) (n : Nat), B.FN[i]? = some ((x, none), n) → mg x = some (.ref (He.ga K x))
  bl : ∀ b ∈ blts, mg b = none
  cls : ∀ (c : Nat) (C : Str) (fns : List Str), B.T.CT[c]? = some (C, fns) → ClsF K mg B.T.CT c C fns
  ini : ∀ (c : Nat) (C : Str) (fns : List Str) (n : Nat), B.T.CT[c]? = some (C, fns) → B.T.ar[c]? = some n → ∃ f, B.ini[c]? = some f ∧ f.d.at_ = (C, some ("__init__" : Str)) ∧ f.ps.length = n + 1 ∧ C8.scC f.N f.ps f.d.scope = true ∧ DefOk K f
  eqs : ∀ (c i : Nat), B.T.eqt.lookup c = some i → ∃ C fns, B.T.CT[c]? = some (C, fns) ∧ B.FN[i]? = some ((C, some ("__eq__" : Str)), 2) ∧ B.T.rwf.contains i = false ∧ PySem.W.findIn K (.ref (He.ga K C)) "__eq__" = some (some (.ref (He.ma K (He.ga K C) "__eq__"))) ∧
    PySem.W.isFn K (.ref (He.ma K (He.ga K C) "__eq__")) = true ∧ PySem.W.findIn K (.ref (He.ga K C)) "__ne__" = some (some (.builtin "object.__ne__"))
section
variable {P : Program} {w : World} {K : PySem.W.Frag} {mg : Str → Option Value} {base : Heap} {B : Tb}
theorem stuck_ok {a : Addr} {fd : FuncData} {ps : List Str} {CT : CTab} {b : Bool} (k : Nat) : FnOk P w K mg base CX0 k a fd ps (spM b K CT ps.length fun _ => stuck) := by
  cases b with
  | false =>
    refine ⟨fun vs H Q E h => ?_, fun A outer s H args us vs Q E _ _ _ _ h => ?_⟩
    · obtain ⟨_, _, _, _, _, _, h, _⟩ := (show spF K CT ps.length _ vs H Q E from h)
      exact h
    · obtain ⟨_, _, _, _, _, _, _, _, _, h, _⟩ := (show spF K CT ps.length _ vs H Q E from h)
      cases h
  | true =>
    refine ⟨fun vs H Q E h => ?_, fun A outer s H args us vs Q E _ _ _ _ h => ?_⟩
    · obtain ⟨_, _, _, _, _, _, h, _⟩ := (show spR K CT ps.length _ vs H Q E from h)
      exact h
    · obtain ⟨_, _, _, _, _, _, _, _, _, h, _⟩ := (show spR K CT ps.length _ vs H Q E from h)
      cases h
theorem stuckI_ok {a : Addr} {fd : FuncData} {ps : List Str} {CT : CTab} {C : Str} {n : Nat} (k : Nat) (hn : ps.length = n + 1) : FnOk P w K mg base CX0 k a fd ps (spI K CT C n fun _ => stuck) := by
  refine ⟨fun vs H Q E h => ?_, fun A outer s H args us vs Q E _ _ _ _ h => ?_⟩
  · obtain ⟨_, _, _, _, _, _, vs', _, _, _, rfl, h, _⟩ := h
    rw [List.length_cons, h, hn]
  · obtain ⟨_, _, _, _, _, _, _, _, _, _, _, _, _, _, _, _, _, _, h, _⟩ := h
    cases h
theorem lev_ok (Z : Fax B K mg) : ∀ n, GokB P w K mg base B.T B.FN (B.lev n).1 (B.lev n).2 (2 * n)
  | 0 => fun X e1 e2 e3 e4 e5 => by
    subst e1; subst e2; subst e3; subst e4; subst e5
    refine ⟨fun i at_ n h => ?_, Z.glob, Z.bl, Z.cls, fun c C fns n h1 h2 => ?_, Z.eqs⟩
    · obtain ⟨f, hf, ea, en, sc, hr, fd, dvs, kws, F, hb⟩ := Z.fn i at_ n h
      subst ea
      subst en
      exact ⟨fd, f.ps, rfl, stuck_ok _, hb, F.kp⟩
    · obtain ⟨f, hf, ea, en, sc, fd, dvs, kws, F, hb⟩ := Z.ini c C fns n h1 h2
      exact ⟨fd, f.ps, en, stuckI_ok _ en, hb⟩
  | n + 1 => fun X e1 e2 e3 e4 e5 => by
    have ih := lev_ok Z n
    subst e1; subst e2; subst e3; subst e4; subst e5
    refine ⟨fun i at_ n' h => ?_, Z.glob, Z.bl, Z.cls, fun c C fns n' h1 h2 => ?_, Z.eqs⟩
    · obtain ⟨f, hf, ea, en, sc, hr, fd, dvs, kws, F, hb⟩ := Z.fn i at_ n' h
      subst ea
      subst en
      refine ⟨fd, f.ps, rfl, ?_, hb, F.kp⟩
      have e : (B.lev (n + 1)).1 i = runF B.T (B.lev n).1 (B.lev n).2 f.y.rt (f.sm B.T B.FN B.m) f.N.length := by
        funext ds
        show (match B.fs[i]? with | some f => runF B.T (Tb.lev B n).1 (Tb.lev B n).2 f.y.rt (f.sm B.T B.FN B.m) f.N.length ds | none => stuck) = _
        rw [hf]
      rw [e, hr]
      exact fun_ok B.m F sc ih
    · obtain ⟨f, hf, ea, en, sc, fd, dvs, kws, F, hb⟩ := Z.ini c C fns n' h1 h2
      refine ⟨fd, f.ps, en, ?_, hb⟩
      have e : (B.lev (n + 1)).2 c = runI B.T (B.lev n).1 (B.lev n).2 (f.sm B.T B.FN B.m) f.N.length c := by
        funext ds
        show (match B.ini[c]? with | some f => runI B.T (Tb.lev B n).1 (Tb.lev B n).2 (f.sm B.T B.FN B.m) f.N.length c ds | none => stuck) = _
        rw [hf]
      rw [e]
      rw [ea] at F
      exact ini_ok B.m F sc ih h1 en
end
end UK

set_option Elab.async false
set_option linter.all false
set_option maxRecDepth 100000
set_option maxHeartbeats 4000000
namespace UK
open PySem PySem.Spec PyProof.Rows L2
/-! ### the pen is made -/
def foldC (f : Int) (c : Int) : Int := (f * 59 + c) % 1000000009
def pen0 (ns : List Int) : Pen := ⟨ns, 0, 0, 0, ns.foldl foldC 0⟩
def spPen (K : PySem.W.Frag) : Sp := fun vs H Q _ => ∃ (a : Addr) (ns : List Int), vs = [.ref a] ∧ SqL K H a (ns.map V.int) ∧ ∀ (H' : Hp) (p c : Addr), p ≠ c → H' p = some (.dK (kvsP c (pen0 ns))) → H' c = some (.lst (ns.map V.int)) → Q (.ref p) H'
section
variable {P : Program} {w : World} {K : PySem.W.Frag} {mg : Str → Option Value} {base : Heap}
theorem mergeP (c : Addr) (f : Int) : mergeK [] [(.inr "cells", .ref c), (.inr "at", .int 0), (.inr "digits", .int 0), (.inr "count", .int 0), (.inr "fold", .int f)] = ([(.inr "cells", .ref c), (.inr "at", .int 0), (.inr "digits", .int 0), (.inr "count", .int 0), (.inr "fold", .int f)] : List (Key × V)) := by
  simp [mergeK, putK, ne_cells_at, ne_cells_digits, ne_cells_count, ne_cells_fold, ne_at_digits, ne_at_count, ne_at_fold, ne_digits_count, ne_digits_fold, ne_count_fold]
theorem pen_ok {x qual : Str} {params : Arguments} {scope : Scope} {dvs : List V} {kws : List (Str × V)} {a : Addr} {fd : FuncData} {j0 j1 j2 j3 j4 j5 j6 j7 j8 j9 j10 : Nat} {a1 a2 a3 a4 a5 a6 a7 a8 a9 a10 a11 a12 a13 a14 a15 a16 a17 a18 a19 a20 a21 a22 a23 a24 a25 a26 a27 a28 a29 a30 a31 : Pos} (k : Nat)
    (F : FunD K x qual params [.Assign [.Name "fold" a1] (.Constant (.int 0) j0 a2) a3,
      .For (.Name "cell" a4) (.Name "script" a5) [.Assign [.Name "fold" a6] (.BinOp (.Call (.Name "int" a7) [.BinOp (.BinOp (.Name "fold" a8) .Mult (.Constant (.int 59) j1 a9) a10) .Add (.Name "cell" a11) a12] [] a13) .Mod (.Constant (.int 1000000009) j2 a14) a15) a16] [] a17,
      .Return (some (.Dict [some (.Constant (.str "cells") j3 a18), some (.Constant (.str "at") j4 a19), some (.Constant (.str "digits") j5 a20), some (.Constant (.str "count") j6 a21), some (.Constant (.str "fold") j7 a22)]
        [.Call (.Name "list" a23) [.Name "script" a24] [] a25, .Constant (.int 0) j8 a26, .Constant (.int 0) j9 a27, .Constant (.int 0) j10 a28, .Name "fold" a29] a30)) a31] scope dvs kws a fd)
    (sc : C8.scC ["script", "fold", "cell"] ["script"] scope = true) (h0 : scope.names.lookup ("script" : Str) = some NameKind.local) (h1 : scope.names.lookup ("fold" : Str) = some NameKind.local) (h2 : scope.names.lookup ("cell" : Str) = some NameKind.local)
    (h3 : scope.names.lookup ("int" : Str) = some NameKind.globalImplicit) (h4 : scope.names.lookup ("list" : Str) = some NameKind.globalImplicit) (gi : mg "int" = none) (gl : mg "list" = none) : FnOk P w K mg base CX0 (k + 1) a fd ["script"] (spPen K) := by
  have S := C8.fnScope_by sc
  refine F.ok S (fun vs H Q E h => ?_) (fun cdv A outer s H vs Q E hr h => ⟨_, PSs.nox (pss_cons (ps_set (i := 1) S.nd rfl (.inl h1) pe_int)
    (pss_cons (ps_for PassesOwn.never rfl (pi_list (pe_var (i := 0) rfl (.inl h0) (by decide +kernel) (by decide +kernel))) (pg_name (i := 2) S.nd rfl (.inl h2))
      (pss_one (ps_set (i := 1) S.nd rfl (.inl h1) (pe_op op_mod (pe_callTy call_int1 h3 gi (by decide +kernel) (pa_cons (pe_op op_add (pe_op op_mul (pe_var (i := 1) rfl (.inl h1) (by decide +kernel) (by decide +kernel)) pe_int) (pe_var (i := 2) rfl (.inl h2) (by decide +kernel) (by decide +kernel))) pa_nil)) pe_int))))
      (pss_one (ps_ret (pe_disp (pps_cons pe_str (pe_callTy call_list_of h4 gl (by decide +kernel) (pa_cons (pe_var (i := 0) rfl (.inl h0) (by decide +kernel) (by decide +kernel)) pa_nil)) (pps_cons pe_str pe_int (pps_cons pe_str pe_int (pps_cons pe_str pe_int (pps_cons pe_str (pe_var (i := 1) rfl (.inl h1) (by decide +kernel) (by decide +kernel)) pps_nil))))) rfl rfl (by simp) (show (5 : Nat) ≤ 15 by decide)))))), ?_⟩)
  · obtain ⟨_, _, rfl, _⟩ := h
    rfl
  · obtain ⟨b, ns, rfl, hS, kk⟩ := h
    refine ⟨.ref b, rfl, b, rfl, ⟨_, hS⟩, ?_⟩
    refine for_list (xs := ns.map V.int) (fun i σ H' => H' = H ∧ i ≤ ns.length ∧ ∃ o, σ = [some (.ref b), some (.int ((ns.take i).foldl foldC 0)), o]) ⟨rfl, Nat.zero_le _, _, rfl⟩ (fun i σ H' _ h => by rw [h.1]; exact hS) (fun i x σ H' e h => ?_) fun σ H' h => ?_
    · obtain ⟨rfl, hi, o, rfl⟩ := h
      rw [List.getElem?_map] at e
      cases q : ns[i]? with
      | none => rw [q] at e; cases e
      | some n =>
        rw [q] at e
        cases e
        have hlt := (List.getElem?_eq_some_iff.mp q).1
        refine ⟨_, rfl, _, _, rfl, rfl, .inr (by decide), ?_⟩
        refine ⟨_, rfl, _, _, rfl, rfl, ?_⟩
        refine .inl ⟨_, rfl, ?_⟩
        refine ⟨_, _, rfl, rfl, (show (0 : Int) < 1000000009 by decide), rfl, hlt, some (.int n), ?_⟩
        rw [List.take_succ_eq_append_getElem hlt, List.foldl_append]
        have e2 : ns[i] = n := Option.some.inj ((List.getElem?_eq_getElem hlt).symm.trans q)
        rw [e2]
        rfl
    · obtain ⟨rfl, _, o, rfl⟩ := h
      rw [List.length_map, List.take_length]
      intro p hp
      refine ⟨.ref b, rfl, b, _, rfl, .inl (?_ : SqL K _ b (ns.map V.int)), fun c hc => ?_⟩
      · have g : ∀ u o, H' u = some o → upd H' p (.dK []) u = some o := fun u o e => by rw [upd_ne (ne_of_none e hp)]; exact e
        rcases hS with (h | ⟨o, h⟩) | h
        · exact .inl (.inl (g _ _ h))
        · exact .inl (.inr ⟨o, g _ _ h⟩)
        · exact .inr h
      · have ne : p ≠ c := fun z => by
          subst z
          rw [upd_same] at hc
          cases hc
        refine ⟨_, rfl, by rw [upd_ne ne, upd_same], [(.inr "cells", .ref c), (.inr "at", .int 0), (.inr "digits", .int 0), (.inr "count", .int 0), (.inr "fold", .int (ns.foldl foldC 0))], rfl, (show (5 : Nat) ≤ 15 by decide), ?_⟩
        rw [mergeP]
        exact kk _ p c ne upd_same (by rw [upd_ne (Ne.symm ne), upd_same])
/-! ### the law -/
def spLaw (K : PySem.W.Frag) : Sp := fun vs H Q _ => ∃ (a : Addr) (ns : List Int), vs = [.ref a] ∧ SqL K H a (ns.map V.int) ∧ ns.length ≤ 63 ∧ ∀ H', Q (.bl true) H'
def envL (n : Nat) : Env' := .un :: .sh .pen :: List.replicate (n - 2) .un
def lawM (B : Tb) (n : Nat) (s : Sm) (l : Nat) : M D := bnd (evS B.T (B.lev n).1 (B.lev n).2 s (envL l)) fun r => endF false r.1
theorem law_ok {B : Tb} {f : Df} {a ap : Addr} {fd fdp : FuncData} {dvs : List V} {kws : List (Str × V)} {rest : List Stmt} {b1 b2 b3 b4 b5 : Pos} (Z : Fax B K mg) (n : Nat) (F : FunD K f.d.name f.d.qual f.d.params (.Assign [.Name "pen" b1] (.Call (.Name "_law_pen" b2) [.Name "script" b3] [] b4) b5 :: rest) f.d.scope dvs kws a fd)
    (hps : f.ps = [("script" : Str)]) (sc : C8.scC f.N f.ps f.d.scope = true) (hr0 : rd f.c "script" = some 0) (hs1 : st f.c "pen" = some 1) (hg : glo f.c "_law_pen" = true) (hmp : mg "_law_pen" = some (.ref ap)) (hkp : PySem.W.keepIn K (.ref ap) = true)
    (Fp : FnOk P w K mg base CX0 (2 * n) ap fdp ["script"] (spPen K)) (hbp : Binds K fdp ["script"] [])
    (hlaw : ∀ ns : List Int, ns.length ≤ 63 → ∃ π', lawM B n (cSs (cS B.T B.FN f.y f.c (tOk B.m) (cE B.T B.FN B.m) B.m) rest) f.N.length (pen0 ns) = some (.bl true, π')) :
    FnOk P w K mg base CX0 (2 * n + 2) a fd f.ps (spLaw K) := by
  refine F.ok (C8.fnScope_by sc) (fun vs H Q E h => ?_) (fun cdv A outer s H vs Q E hr h => ⟨_, PSs.nox pssq, ?_⟩)
  · obtain ⟨_, _, rfl, _⟩ := h
    rw [hps]; rfl
  · obtain ⟨b, ns, rfl, hS, hl, kk⟩ := h
    have C := cok (f := f) (E := E) (H := H) (outer := outer) (lev_ok (P := P) (w := w) (base := base) Z n) sc hr
    obtain ⟨v1, v2, v3, v4⟩ := rd_ok C hr0
    have sO := st_ok C hs1
    obtain ⟨g1, g2⟩ := glo_ok C hg
    have hN : (cxOf CX0 P w K mg base f.N f.d.qual f.d.scope a cdv A outer s H E).nox.N.Nodup := (C8.fnScope_by sc).nd
    refine qSs_of (pss_cons (ps_set hN sO.at_ sO.loc (pe_call (E := E0) Fp (hr.mono (Nat.le_succ _)) g1 hmp hkp hbp .nil pass0 (pa_cons (pe_var v1 v2 v3 v4) pa_nil) (by decide +kernel)) rfl sO.fn) pssq) ?_
    have hN2 : 2 ≤ f.N.length := by
      have := (List.getElem?_eq_some_iff.mp sO.at_).1
      exact this
    have e0 : L2.start f.N [V.ref b] = some (.ref b) :: none :: List.replicate (f.N.length - 2) none := by
      unfold L2.start
      obtain ⟨m, hm⟩ : ∃ m, f.N.length = m + 2 := ⟨f.N.length - 2, by omega⟩
      rw [hm]
      rfl
    refine ⟨.ref b, by rw [e0]; rfl, ?_⟩
    refine ⟨b, ns, rfl, hS, fun H' p c ne hp hc => ?_⟩
    obtain ⟨π', hm⟩ := hlaw ns hl
    obtain ⟨⟨fl, env'⟩, π1, h1, h2⟩ := bnd_some hm
    let S : Hp := fun u => if u = c then some (.lst (ns.map V.int)) else none
    have hSc : S c = some (.lst (ns.map V.int)) := by show (if c = c then _ else _) = _; rw [if_pos rfl]
    have sub : Same S H' := fun u o e => by
      have e : (if u = c then some (HO.lst (ns.map V.int)) else none) = some o := e
      by_cases z : u = c
      · rw [if_pos z] at e
        cases e
        rw [z]
        exact hc
      · rw [if_neg z] at e
        cases e
    have np : S p = none := by
      show (if p = c then _ else _) = _
      rw [if_neg ne]
    have wd : Wd p S (pen0 ns) H' := ⟨sub, ⟨c, hp, hSc⟩, np⟩
    have eσ : (L2.start f.N [V.ref b]).set 1 (some (.ref p)) = some (.ref b) :: some (.ref p) :: List.replicate (f.N.length - 2) none := by rw [e0]; rfl
    have noA : ∀ (i : Nat) (s : Slot) (o : Option (Option V)) (b : Addr), (envL f.N.length)[i]? = some s → Adr H' s o b → False := fun i s o b e q => by
      match i, e with
      | 0, e => cases e; exact q
      | 1, e => cases e; exact q
      | i + 2, e =>
        have e : (List.replicate (f.N.length - 2) Slot.un)[i]? = some s := e
        have := List.mem_of_getElem? e
        rw [(List.mem_replicate.mp this).2] at q
        exact q
    have A0 : Agr K B.T.CT p S ⟨H', 0⟩ S H' (envL f.N.length) (pen0 ns) ((L2.start f.N [V.ref b]).set 1 (some (.ref p))) := by
      rw [eσ]
      refine ⟨Stp.refl p S H', wd, by simp [envL], fun i s e => ?_, fun i j s t b _ e1 _ q1 _ => noA i s _ b e1 q1⟩
      match i, e with
      | 0, e => cases e; trivial
      | 1, e => cases e; exact ⟨.ref p, rfl, .pen⟩
      | i + 2, e =>
        have e : (List.replicate (f.N.length - 2) Slot.un)[i]? = some s := e
        have := List.mem_of_getElem? e
        rw [(List.mem_replicate.mp this).2]
        trivial
    refine ss_ok (cS_ok (y := f.y) C (cE_ok B.m).1 (cE_ok B.m).2 B.m) rest p S ⟨H', 0⟩ S H' (envL f.N.length) (pen0 ns) _ _ _ A0 h1 ?_
    cases fl with
    | nx => cases h2
    | ret d' =>
      cases h2
      intro S2 H2 v t w r
      cases r
      exact kk H2
    | brk => cases h2
    | cnt => cases h2
    | rr rss => cases h2
end
end UK

set_option Elab.async false
set_option linter.all false
set_option maxRecDepth 100000
set_option maxHeartbeats 4000000
namespace UK
open PySem PySem.Spec PyProof.Rows L2
/-! ### the facts of a head, beyond those by names -/
def exCls (T : Tabs) (K : PySem.W.Frag) : Bool := (List.range T.CT.length).all fun c => match T.CT[c]? with
  | some (C, _) => He.eqO (PySem.W.findIn K (.ref (He.ga K C)) "__class__") (some (some (.builtin "object.__class__"))) && (decide (PySem.W.mroIn K (He.ga K C) (.type "object") = some true) &&
    ((tyNames.all fun n => decide (PySem.W.kitOne K (.type n) (.ref (He.ga K C)) = some false) && decide (PySem.W.kitOne K (.ref (He.ga K C)) (.type n) = some false)) &&
    (List.range T.CT.length).all fun c' => match T.CT[c']? with
      | some (C', _) => decide (PySem.W.kitOne K (.ref (He.ga K C)) (.ref (He.ga K C')) = some (decide (c = c')))
      | none => true))
  | none => true
def exEq (T : Tabs) (K : PySem.W.Frag) : Bool := T.eqt.all fun e => match T.CT[e.1]? with
  | some (C, _) => He.eqO (PySem.W.findIn K (.ref (He.ga K C)) "__eq__") (some (some (.ref (He.ma K (He.ga K C) "__eq__")))) && (PySem.W.isFn K (.ref (He.ma K (He.ga K C) "__eq__")) && He.eqO (PySem.W.findIn K (.ref (He.ga K C)) "__ne__") (some (some (.builtin "object.__ne__"))))
  | none => false
def exOf (T : Tabs) (K : PySem.W.Frag) : Bool := (He.eqO (PySem.W.specialIn K (.builtin "object.__class__") "__get__") (some (some (.builtin "getset_descriptor.__get__"))) && decide (PySem.W.takesIn K (.builtin "object.__class__") = some true)) && (exCls T K && exEq T K)
/-! ### the hook -/
def hookX (n : Nat) (fa : List He.Fa) (fn : List He.DefD) (ex : PySem.W.Frag → Bool) : PySem.W.Hook where
  α := He.AlD × Bool
  obs := fun s => (He.obsD fa fn (He.frG s.heap.get? (He.asD s.heap.get? n)), ex (He.frG s.heap.get? (He.asD s.heap.get? n)))
  val := fun _ => (He.valD fn, true)
  says := fun _ h => ∃ K : PySem.W.Frag, K.In h ∧ He.SaysD fa fn K ∧ ex K = true
  of := fun _ _ e => ⟨_, He.frG_in, congrArg (fun z : He.AlD × Bool => z.1) e, congrArg (fun z : He.AlD × Bool => z.2) e⟩
  keeps := fun _ _ _ ⟨K, hK, c⟩ k => ⟨K, PySem.W.Frag.In.keeps hK k, c⟩
def obsX (n : Nat) (fa : List He.Fa) (fn : List He.DefD) (ex : PySem.W.Frag → Bool) (g : Addr → Option Obj) : He.AlD × Bool := (He.obsD fa fn (He.frG g (He.asD g n)), ex (He.frG g (He.asD g n)))
theorem obsX_eq {n : Nat} {fa : List He.Fa} {fn : List He.DefD} {ex : PySem.W.Frag → Bool} {g : Addr → Option Obj} {s : Shared} (h : ∀ a, g a = s.heap.get? a) : obsX n fa fn ex g = (hookX n fa fn ex).obs s := by
  have e : g = s.heap.get? := funext h
  rw [e] <;> rfl
/-! ### the facts of the text -/
def faOf (B : Tb) (more : List He.Fa) : List He.Fa := (B.FN.filterMap fun p => match p.1.2 with
  | none => some (He.Fa.glo p.1.1)
  | some _ => none) ++ (blts.map .free ++ ((B.T.CT.flatMap fun p => [He.Fa.glo p.1, .cls p.1, .mkr p.1] ++ p.2.map fun x => He.Fa.noat p.1 x) ++ more))
def fnOf (B : Tb) (more : List He.DefD) : List He.DefD := B.fs.map (·.d) ++ (B.ini.map (·.d) ++ more)
def chkF (f : Df) : Bool := C8.scC f.N f.ps f.d.scope && (f.d.dfl.isEmpty && f.d.kwd.isEmpty)
def chkB (B : Tb) : Bool := (decide (B.FN = B.fs.map fun f => (f.d.at_, f.ps.length)) && (B.fs.all chkF && ((List.range B.fs.length).all fun i => match B.fs[i]? with
    | some f => decide (B.T.rwf.contains i = f.y.rt)
    | none => true))) &&
  ((decide (B.T.CT.length = B.ini.length) && ((List.range B.ini.length).all fun c => match B.ini[c]?, B.T.CT[c]? with
    | some f, some (C, fns) => chkF f && (decide (f.d.at_ = (C, some ("__init__" : Str))) && (decide (f.ps.length = (B.T.ar.getD c 0) + 1) && decide fns.Nodup))
    | _, _ => true)) &&
  (B.T.eqt.all fun e => match B.T.CT[e.1]? with
    | some (C, _) => decide (B.FN[e.2]? = some ((C, some ("__eq__" : Str)), 2)) && !(B.T.rwf.contains e.2)
    | none => false))
def BindF (f : Df) : Prop := ∀ (kV doc pm : Value) (an : Option Addr) (cdv ct : Value) (us : List Value), us.length = f.ps.length → bindArgs (PySem.W.fnOf f.d.name f.d.qual f.d.params f.d.body f.d.scope .none kV doc pm an cdv ct) ⟨us, []⟩ = pure (f.ps.zip us)
section
variable {K : PySem.W.Frag} {h : Heap} {mg : Str → Option Value} {B : Tb} {xs : List He.Fa} {ds : List He.DefD}
theorem def_of (c : He.SaysD (faOf B xs) (fnOf B ds) K) {f : Df} (hm : f.d ∈ fnOf B ds) (hc : chkF f = true) (hb : BindF f) : DefOk K f := by
  obtain ⟨fd, F⟩ := c.defs hm
  obtain ⟨_, h2⟩ := and2 hc
  obtain ⟨h2, h3⟩ := and2 h2
  have e1 : f.d.dfl = [] := by simpa using h2
  have e2 : f.d.dvs K = [] := by unfold He.DefD.dvs; rw [e1]; rfl
  rw [e2] at F
  exact ⟨fd, [], _, F, F.bindsN hb⟩
theorem lookup_mem {α β : Type} [BEq α] [LawfulBEq α] {k : α} {v : β} : ∀ {l : List (α × β)}, l.lookup k = some v → (k, v) ∈ l
  | [], h => by cases h
  | (a, b) :: l, h => by
    rw [List.lookup_cons] at h
    cases z : (k == a) with
    | true => rw [z] at h; cases h; rw [eq_of_beq z]; exact List.mem_cons_self ..
    | false => rw [z] at h; exact List.mem_cons_of_mem _ (lookup_mem h)
theorem fax_of (X : K.In h) (G : h.Ns mainGlobals mg) (c : He.SaysD (faOf B xs) (fnOf B ds) K) (e : exOf B.T K = true) (chk : chkB B = true) (hb : ∀ f ∈ B.fs, BindF f) (hbi : ∀ f ∈ B.ini, BindF f) : Fax B K mg := by
  obtain ⟨k1, k2⟩ := and2 chk
  obtain ⟨k1, k3⟩ := and2 k1
  obtain ⟨k3, k4⟩ := and2 k3
  obtain ⟨k2, k5⟩ := and2 k2
  obtain ⟨k2, k6⟩ := and2 k2
  obtain ⟨e1, e2⟩ := and2 e
  obtain ⟨e1, e3⟩ := and2 e1
  obtain ⟨e2, e4⟩ := and2 e2
  have hFN : B.FN = B.fs.map fun f => (f.d.at_, f.ps.length) := of_decide_eq_true k1
  have hCl : B.T.CT.length = B.ini.length := of_decide_eq_true k2
  have facC : ∀ (i : Nat) (C : Str) (fns : List Str), B.T.CT[i]? = some (C, fns) → ∀ f ∈ [He.Fa.glo C, .cls C, .mkr C] ++ fns.map (fun x => He.Fa.noat C x), f.ok K = true := fun i C fns hC f hf =>
    c.facts (List.mem_append_right _ (List.mem_append_right _ (List.mem_append_left _ (List.mem_flatMap.mpr ⟨(C, fns), List.mem_of_getElem? hC, hf⟩))))
  have inC : ∀ (i : Nat) (C : Str) (fns : List Str), B.T.CT[i]? = some (C, fns) → ∃ f, B.ini[i]? = some f ∧ (chkF f && (decide (f.d.at_ = (C, some ("__init__" : Str))) && (decide (f.ps.length = (B.T.ar.getD i 0) + 1) && decide fns.Nodup))) = true := fun i C fns hC => by
    have hi : i < B.ini.length := by
      have := (List.getElem?_eq_some_iff.mp hC).1
      omega
    have q := List.all_eq_true.mp k6 i (List.mem_range.mpr hi)
    rw [List.getElem?_eq_getElem hi, hC] at q
    exact ⟨_, List.getElem?_eq_getElem hi, q⟩
  refine ⟨fun i at_ n hi => ?_, fun i x n hi => ?_, fun b hbm => ?_, fun i C fns hC => ?_, fun i C fns n hC hn => ?_, fun i j hij => ?_⟩
  · rw [hFN, List.getElem?_map] at hi
    cases q : B.fs[i]? with
    | none => rw [q] at hi; cases hi
    | some f =>
      rw [q] at hi
      cases hi
      have hm := List.mem_of_getElem? q
      have hc := List.all_eq_true.mp k3 f hm
      have hr := List.all_eq_true.mp k4 i (List.mem_range.mpr (List.getElem?_eq_some_iff.mp q).1)
      rw [q] at hr
      exact ⟨f, rfl, rfl, rfl, (and2 hc).1, of_decide_eq_true hr, def_of c (List.mem_append_left _ (List.mem_map.mpr ⟨f, hm, rfl⟩)) hc (hb f hm)⟩
  · refine He.glo_ok X G (c.facts (List.mem_append_left _ ?_))
    exact List.mem_filterMap.mpr ⟨((x, none), n), List.mem_of_getElem? hi, rfl⟩
  · exact He.free_ok X G (c.facts (List.mem_append_right _ (List.mem_append_left _ (List.mem_map.mpr ⟨b, hbm, rfl⟩))))
  · have fc := facC i C fns hC
    obtain ⟨f, _, hf⟩ := inC i C fns hC
    obtain ⟨_, hf⟩ := and2 hf
    obtain ⟨_, hf⟩ := and2 hf
    obtain ⟨_, hf⟩ := and2 hf
    have hlt := (List.getElem?_eq_some_iff.mp hC).1
    have ex := List.all_eq_true.mp e2 i (List.mem_range.mpr hlt)
    rw [hC] at ex
    obtain ⟨x1, x2⟩ := and2 ex
    obtain ⟨x2, x3⟩ := and2 x2
    obtain ⟨x3, x4⟩ := and2 x3
    refine ⟨He.cls_ok (fc _ (by simp)), fun g hg => He.noat_ok (fc _ (List.mem_append_right _ (List.mem_map.mpr ⟨g, hg, rfl⟩))), of_decide_eq_true hf, He.glo_ok X G (fc _ (by simp)), He.mkr_ok (fc _ (by simp)), He.eqO_ok x1, He.eqO_ok e1, of_decide_eq_true e3, of_decide_eq_true x2, fun n hn => ?_, fun n hn => ?_, fun c' C' fns' hC' => ?_⟩
    · exact of_decide_eq_true (and2 (List.all_eq_true.mp x3 n hn)).1
    · exact of_decide_eq_true (and2 (List.all_eq_true.mp x3 n hn)).2
    · have q := List.all_eq_true.mp x4 c' (List.mem_range.mpr (List.getElem?_eq_some_iff.mp hC').1)
      rw [hC'] at q
      exact of_decide_eq_true q
  · obtain ⟨f, h1, hf⟩ := inC i C fns hC
    obtain ⟨q1, hf⟩ := and2 hf
    obtain ⟨q2, hf⟩ := and2 hf
    obtain ⟨q3, hf⟩ := and2 hf
    have en : B.T.ar.getD i 0 = n := by rw [List.getD_eq_getElem?_getD, hn]; rfl
    have hm := List.mem_of_getElem? h1
    refine ⟨f, h1, of_decide_eq_true q2, ?_, (and2 q1).1, def_of c (List.mem_append_right _ (List.mem_append_left _ (List.mem_map.mpr ⟨f, hm, rfl⟩))) q1 (hbi f hm)⟩
    have q3 := of_decide_eq_true q3
    rw [en] at q3
    exact q3
  · have hm := lookup_mem hij
    have q1 := List.all_eq_true.mp k5 _ hm
    have q2 := List.all_eq_true.mp e4 _ hm
    dsimp only at q1 q2
    cases hC : B.T.CT[i]? with
    | none => rw [hC] at q1; cases q1
    | some p =>
      obtain ⟨C, fns⟩ := p
      rw [hC] at q1 q2
      obtain ⟨y1, y2⟩ := and2 q1
      obtain ⟨y3, y4⟩ := and2 q2
      obtain ⟨y4, y5⟩ := and2 y4
      exact ⟨C, fns, rfl, of_decide_eq_true y1, (Bool.not_eq_true' _).mp y2, He.eqO_ok y3, y4, He.eqO_ok y5⟩
end
end UK

set_option Elab.async false
set_option linter.all false
set_option maxRecDepth 100000
set_option maxHeartbeats 0
namespace UK
open PySem PySem.Spec PyProof.Rows L2
def top (i : Nat) : Stmt := PySem.Challenge.pw_untoldrules_k76_level_papers_judged.main.body.getD i (.Pass ⟨0, 0, 0, 0⟩)
abbrev s_frozen : Stmt := top 7
def d_frozen : He.DefD := ⟨(("frozen" : PySem.Str), none), "frozen", "frozen", defArgs s_frozen, defBody s_frozen, defScope s_frozen, [], []⟩
def f_frozen : Df := ⟨d_frozen, ["value"], ["value", "item"], ⟨[], [], false⟩⟩
abbrev s_is_whole : Stmt := top 10
def d_is_whole : He.DefD := ⟨(("is_whole" : PySem.Str), none), "is_whole", "is_whole", defArgs s_is_whole, defBody s_is_whole, defScope s_is_whole, [], []⟩
def f_is_whole : Df := ⟨d_is_whole, ["value"], ["value"], ⟨[], [], false⟩⟩
abbrev s_is_list : Stmt := top 11
def d_is_list : He.DefD := ⟨(("is_list" : PySem.Str), none), "is_list", "is_list", defArgs s_is_list, defBody s_is_list, defScope s_is_list, [], []⟩
def f_is_list : Df := ⟨d_is_list, ["value"], ["value"], ⟨[], [], false⟩⟩
abbrev s_is_signs : Stmt := top 12
def d_is_signs : He.DefD := ⟨(("is_signs" : PySem.Str), none), "is_signs", "is_signs", defArgs s_is_signs, defBody s_is_signs, defScope s_is_signs, [], []⟩
def f_is_signs : Df := ⟨d_is_signs, ["value"], ["value", "row", "sign"], ⟨[], [], false⟩⟩
abbrev s_Web___init__ : Stmt := inClass (top 13) 0
def d_Web___init__ : He.DefD := ⟨(("Web" : PySem.Str), some ("__init__" : PySem.Str)), "__init__", "Web.__init__", defArgs s_Web___init__, defBody s_Web___init__, defScope s_Web___init__, [], []⟩
def f_Web___init__ : Df := ⟨d_Web___init__, ["self", "rows"], ["self", "rows", "row"], ⟨[], [], false⟩⟩
abbrev s_Web___eq__ : Stmt := inClass (top 13) 1
def d_Web___eq__ : He.DefD := ⟨(("Web" : PySem.Str), some ("__eq__" : PySem.Str)), "__eq__", "Web.__eq__", defArgs s_Web___eq__, defBody s_Web___eq__, defScope s_Web___eq__, [], []⟩
def f_Web___eq__ : Df := ⟨d_Web___eq__, ["self", "other"], ["self", "other"], ⟨[], [], false⟩⟩
abbrev s_sources_in : Stmt := top 15
def d_sources_in : He.DefD := ⟨(("sources_in" : PySem.Str), none), "sources_in", "sources_in", defArgs s_sources_in, defBody s_sources_in, defScope s_sources_in, [], []⟩
def f_sources_in : Df := ⟨d_sources_in, ["web", "place"], ["web", "place", "other"], ⟨[], [], false⟩⟩
abbrev s_LevelRules___init__ : Stmt := inClass (top 17) 0
def d_LevelRules___init__ : He.DefD := ⟨(("LevelRules" : PySem.Str), some ("__init__" : PySem.Str)), "__init__", "LevelRules.__init__", defArgs s_LevelRules___init__, defBody s_LevelRules___init__, defScope s_LevelRules___init__, [], []⟩
def f_LevelRules___init__ : Df := ⟨d_LevelRules___init__, ["self", "web", "most", "tables"], ["self", "web", "most", "tables", "place", "table"], ⟨[], [], false⟩⟩
abbrev s_LevelRules___eq__ : Stmt := inClass (top 17) 1
def d_LevelRules___eq__ : He.DefD := ⟨(("LevelRules" : PySem.Str), some ("__eq__" : PySem.Str)), "__eq__", "LevelRules.__eq__", defArgs s_LevelRules___eq__, defBody s_LevelRules___eq__, defScope s_LevelRules___eq__, [], []⟩
def f_LevelRules___eq__ : Df := ⟨d_LevelRules___eq__, ["self", "other"], ["self", "other"], ⟨[], [], false⟩⟩
abbrev s_TwoLevels___init__ : Stmt := inClass (top 18) 0
def d_TwoLevels___init__ : He.DefD := ⟨(("TwoLevels" : PySem.Str), some ("__init__" : PySem.Str)), "__init__", "TwoLevels.__init__", defArgs s_TwoLevels___init__, defBody s_TwoLevels___init__, defScope s_TwoLevels___init__, [], []⟩
def f_TwoLevels___init__ : Df := ⟨d_TwoLevels___init__, ["self", "rules", "one", "other"], ["self", "rules", "one", "other"], ⟨[], [], false⟩⟩
abbrev s_TwoLevels___eq__ : Stmt := inClass (top 18) 1
def d_TwoLevels___eq__ : He.DefD := ⟨(("TwoLevels" : PySem.Str), some ("__eq__" : PySem.Str)), "__eq__", "TwoLevels.__eq__", defArgs s_TwoLevels___eq__, defBody s_TwoLevels___eq__, defScope s_TwoLevels___eq__, [], []⟩
def f_TwoLevels___eq__ : Df := ⟨d_TwoLevels___eq__, ["self", "other"], ["self", "other"], ⟨[], [], false⟩⟩
abbrev s_NoLevels___init__ : Stmt := inClass (top 19) 0
def d_NoLevels___init__ : He.DefD := ⟨(("NoLevels" : PySem.Str), some ("__init__" : PySem.Str)), "__init__", "NoLevels.__init__", defArgs s_NoLevels___init__, defBody s_NoLevels___init__, defScope s_NoLevels___init__, [], []⟩
def f_NoLevels___init__ : Df := ⟨d_NoLevels___init__, ["self", "rules"], ["self", "rules"], ⟨[], [], false⟩⟩
abbrev s_NoLevels___eq__ : Stmt := inClass (top 19) 1
def d_NoLevels___eq__ : He.DefD := ⟨(("NoLevels" : PySem.Str), some ("__eq__" : PySem.Str)), "__eq__", "NoLevels.__eq__", defArgs s_NoLevels___eq__, defBody s_NoLevels___eq__, defScope s_NoLevels___eq__, [], []⟩
def f_NoLevels___eq__ : Df := ⟨d_NoLevels___eq__, ["self", "other"], ["self", "other"], ⟨[], [], false⟩⟩
abbrev s_power_of_whole : Stmt := top 20
def d_power_of_whole : He.DefD := ⟨(("power_of_whole" : PySem.Str), none), "power_of_whole", "power_of_whole", defArgs s_power_of_whole, defBody s_power_of_whole, defScope s_power_of_whole, [], []⟩
def f_power_of_whole : Df := ⟨d_power_of_whole, ["base", "many"], ["base", "many", "found", "_"], ⟨[], [], false⟩⟩
abbrev s_is_level_row : Stmt := top 21
def d_is_level_row : He.DefD := ⟨(("is_level_row" : PySem.Str), none), "is_level_row", "is_level_row", defArgs s_is_level_row, defBody s_is_level_row, defScope s_is_level_row, [], []⟩
def f_is_level_row : Df := ⟨d_is_level_row, ["most", "many", "value"], ["most", "many", "value", "item"], ⟨[], [], false⟩⟩
abbrev s_fits_levels : Stmt := top 22
def d_fits_levels : He.DefD := ⟨(("fits_levels" : PySem.Str), none), "fits_levels", "fits_levels", defArgs s_fits_levels, defBody s_fits_levels, defScope s_fits_levels, [], []⟩
def f_fits_levels : Df := ⟨d_fits_levels, ["web", "most", "place", "table"], ["web", "most", "place", "table", "lot", "size", "at", "sign", "unit", "number"], ⟨[], [], false⟩⟩
abbrev s_goal_in : Stmt := top 23
def d_goal_in : He.DefD := ⟨(("goal_in" : PySem.Str), none), "goal_in", "goal_in", defArgs s_goal_in, defBody s_goal_in, defScope s_goal_in, [], []⟩
def f_goal_in : Df := ⟨d_goal_in, ["rules", "state", "place"], ["rules", "state", "place", "size", "number", "source"], ⟨[], [], false⟩⟩
abbrev s_level_states : Stmt := top 24
def d_level_states : He.DefD := ⟨(("level_states" : PySem.Str), none), "level_states", "level_states", defArgs s_level_states, defBody s_level_states, defScope s_level_states, [], []⟩
def f_level_states : Df := ⟨d_level_states, ["rules"], ["rules", "layer", "_", "state", "level"], ⟨[], [], false⟩⟩
abbrev s_rests_at : Stmt := top 25
def d_rests_at : He.DefD := ⟨(("rests_at" : PySem.Str), none), "rests_at", "rests_at", defArgs s_rests_at, defBody s_rests_at, defScope s_rests_at, [], []⟩
def f_rests_at : Df := ⟨d_rests_at, ["rules", "state"], ["rules", "state", "place"], ⟨[], [], false⟩⟩
abbrev s_level_rests : Stmt := top 26
def d_level_rests : He.DefD := ⟨(("level_rests" : PySem.Str), none), "level_rests", "level_rests", defArgs s_level_rests, defBody s_level_rests, defScope s_level_rests, [], []⟩
def f_level_rests : Df := ⟨d_level_rests, ["rules"], ["rules", "state"], ⟨[], [], false⟩⟩
abbrev s_most_told : Stmt := top 27
def d_most_told : He.DefD := ⟨(("most_told" : PySem.Str), none), "most_told", "most_told", defArgs s_most_told, defBody s_most_told, defScope s_most_told, [], []⟩
def f_most_told : Df := ⟨d_most_told, ["most"], ["most"], ⟨[], [], false⟩⟩
abbrev s_is_told_levels : Stmt := top 28
def d_is_told_levels : He.DefD := ⟨(("is_told_levels" : PySem.Str), none), "is_told_levels", "is_told_levels", defArgs s_is_told_levels, defBody s_is_told_levels, defScope s_is_told_levels, [], []⟩
def f_is_told_levels : Df := ⟨d_is_told_levels, ["rules", "value"], ["rules", "value"], ⟨[], [], false⟩⟩
abbrev s_levels_of : Stmt := top 29
def d_levels_of : He.DefD := ⟨(("levels_of" : PySem.Str), none), "levels_of", "levels_of", defArgs s_levels_of, defBody s_levels_of, defScope s_levels_of, [], []⟩
def f_levels_of : Df := ⟨d_levels_of, ["web", "most", "value"], ["web", "most", "value"], ⟨[], [], false⟩⟩
abbrev s_two_levels_hold : Stmt := top 30
def d_two_levels_hold : He.DefD := ⟨(("two_levels_hold" : PySem.Str), none), "two_levels_hold", "two_levels_hold", defArgs s_two_levels_hold, defBody s_two_levels_hold, defScope s_two_levels_hold, [], []⟩
def f_two_levels_hold : Df := ⟨d_two_levels_hold, ["web", "most", "value"], ["web", "most", "value"], ⟨[], [], false⟩⟩
abbrev s_no_levels_hold : Stmt := top 31
def d_no_levels_hold : He.DefD := ⟨(("no_levels_hold" : PySem.Str), none), "no_levels_hold", "no_levels_hold", defArgs s_no_levels_hold, defBody s_no_levels_hold, defScope s_no_levels_hold, [], []⟩
def f_no_levels_hold : Df := ⟨d_no_levels_hold, ["web", "most", "value"], ["web", "most", "value"], ⟨[], [], false⟩⟩
abbrev s__law_free_rows : Stmt := top 33
def d__law_free_rows : He.DefD := ⟨(("_law_free_rows" : PySem.Str), none), "_law_free_rows", "_law_free_rows", defArgs s__law_free_rows, defBody s__law_free_rows, defScope s__law_free_rows, [], []⟩
def f__law_free_rows : Df := ⟨d__law_free_rows, ["pen", "size"], ["pen", "size", "much", "i", "j"], ⟨[], [], true⟩⟩
abbrev s__law_ordered_rows : Stmt := top 34
def d__law_ordered_rows : He.DefD := ⟨(("_law_ordered_rows" : PySem.Str), none), "_law_ordered_rows", "_law_ordered_rows", defArgs s__law_ordered_rows, defBody s__law_ordered_rows, defScope s__law_ordered_rows, [], []⟩
def f__law_ordered_rows : Df := ⟨d__law_ordered_rows, ["pen", "size"], ["pen", "size", "order", "rows", "at", "ahead", "i"], ⟨[], ["rows"], true⟩⟩
abbrev s__law_ring_rows : Stmt := top 35
def d__law_ring_rows : He.DefD := ⟨(("_law_ring_rows" : PySem.Str), none), "_law_ring_rows", "_law_ring_rows", defArgs s__law_ring_rows, defBody s__law_ring_rows, defScope s__law_ring_rows, [], []⟩
def f__law_ring_rows : Df := ⟨d__law_ring_rows, ["pen", "size"], ["pen", "size", "order", "rows", "at", "i"], ⟨[], ["rows"], true⟩⟩
abbrev s__law_camp_rows : Stmt := top 36
def d__law_camp_rows : He.DefD := ⟨(("_law_camp_rows" : PySem.Str), none), "_law_camp_rows", "_law_camp_rows", defArgs s__law_camp_rows, defBody s__law_camp_rows, defScope s__law_camp_rows, [], []⟩
def f__law_camp_rows : Df := ⟨d__law_camp_rows, ["pen", "size"], ["pen", "size", "signs", "i", "j"], ⟨[], [], true⟩⟩
abbrev s__law_web_rows : Stmt := top 37
def d__law_web_rows : He.DefD := ⟨(("_law_web_rows" : PySem.Str), none), "_law_web_rows", "_law_web_rows", defArgs s__law_web_rows, defBody s__law_web_rows, defScope s__law_web_rows, [], []⟩
def f__law_web_rows : Df := ⟨d__law_web_rows, ["pen", "size"], ["pen", "size", "way", "rows", "row"], ⟨[], ["rows"], false⟩⟩
abbrev s__law_sources : Stmt := top 38
def d__law_sources : He.DefD := ⟨(("_law_sources" : PySem.Str), none), "_law_sources", "_law_sources", defArgs s__law_sources, defBody s__law_sources, defScope s__law_sources, [], []⟩
def f__law_sources : Df := ⟨d__law_sources, ["rows", "i"], ["rows", "i", "j"], ⟨[], [], false⟩⟩
abbrev s__law_pen : Stmt := top 39
def d__law_pen : He.DefD := ⟨(("_law_pen" : PySem.Str), none), "_law_pen", "_law_pen", defArgs s__law_pen, defBody s__law_pen, defScope s__law_pen, [], []⟩
def f__law_pen : Df := ⟨d__law_pen, ["script"], ["script", "fold", "cell"], ⟨[], [], false⟩⟩
abbrev s__law_draw : Stmt := top 40
def d__law_draw : He.DefD := ⟨(("_law_draw" : PySem.Str), none), "_law_draw", "_law_draw", defArgs s__law_draw, defBody s__law_draw, defScope s__law_draw, [], []⟩
def f__law_draw : Df := ⟨d__law_draw, ["pen", "many"], ["pen", "many", "blend", "cell", "digit"], ⟨[], [], false⟩⟩
abbrev s__law_pick : Stmt := top 41
def d__law_pick : He.DefD := ⟨(("_law_pick" : PySem.Str), none), "_law_pick", "_law_pick", defArgs s__law_pick, defBody s__law_pick, defScope s__law_pick, [], []⟩
def f__law_pick : Df := ⟨d__law_pick, ["pen", "some"], ["pen", "some"], ⟨[], [], false⟩⟩
abbrev s__law_shuffled : Stmt := top 42
def d__law_shuffled : He.DefD := ⟨(("_law_shuffled" : PySem.Str), none), "_law_shuffled", "_law_shuffled", defArgs s__law_shuffled, defBody s__law_shuffled, defScope s__law_shuffled, [], []⟩
def f__law_shuffled : Df := ⟨d__law_shuffled, ["pen", "some"], ["pen", "some", "lap", "remain", "found"], ⟨["found", "remain"], [], false⟩⟩
abbrev s__law_is_int : Stmt := top 43
def d__law_is_int : He.DefD := ⟨(("_law_is_int" : PySem.Str), none), "_law_is_int", "_law_is_int", defArgs s__law_is_int, defBody s__law_is_int, defScope s__law_is_int, [], []⟩
def f__law_is_int : Df := ⟨d__law_is_int, ["thing"], ["thing"], ⟨[], [], false⟩⟩
abbrev s__law_units : Stmt := top 44
def d__law_units : He.DefD := ⟨(("_law_units" : PySem.Str), none), "_law_units", "_law_units", defArgs s__law_units, defBody s__law_units, defScope s__law_units, [], []⟩
def f__law_units : Df := ⟨d__law_units, ["most", "many"], ["most", "many", "units", "lap"], ⟨["units"], [], false⟩⟩
abbrev s__law_level_table : Stmt := top 45
def d__law_level_table : He.DefD := ⟨(("_law_level_table" : PySem.Str), none), "_law_level_table", "_law_level_table", defArgs s__law_level_table, defBody s__law_level_table, defScope s__law_level_table, [], []⟩
def f__law_level_table : Df := ⟨d__law_level_table, ["pen", "signs", "most"], ["pen", "signs", "most", "lap", "table", "number", "terms", "units", "term", "at", "height", "aim", "levels", "side", "bound", "level"], ⟨["table", "term", "terms"], [], false⟩⟩
abbrev s__law_level_tables : Stmt := top 46
def d__law_level_tables : He.DefD := ⟨(("_law_level_tables" : PySem.Str), none), "_law_level_tables", "_law_level_tables", defArgs s__law_level_tables, defBody s__law_level_tables, defScope s__law_level_tables, [], []⟩
def f__law_level_tables : Df := ⟨d__law_level_tables, ["pen", "rows", "most"], ["pen", "rows", "most", "row", "sign"], ⟨[], [], false⟩⟩
abbrev s__law_goal : Stmt := top 47
def d__law_goal : He.DefD := ⟨(("_law_goal" : PySem.Str), none), "_law_goal", "_law_goal", defArgs s__law_goal, defBody s__law_goal, defScope s__law_goal, [], []⟩
def f__law_goal : Df := ⟨d__law_goal, ["rows", "most", "tables", "state", "i"], ["rows", "most", "tables", "state", "i", "lot", "units", "at"], ⟨[], [], false⟩⟩
abbrev s__law_level_states : Stmt := top 48
def d__law_level_states : He.DefD := ⟨(("_law_level_states" : PySem.Str), none), "_law_level_states", "_law_level_states", defArgs s__law_level_states, defBody s__law_level_states, defScope s__law_level_states, [], []⟩
def f__law_level_states : Df := ⟨d__law_level_states, ["size", "most"], ["size", "most", "layer", "lap", "longer", "state", "level"], ⟨[], [], false⟩⟩
abbrev s__law_level_rests : Stmt := top 49
def d__law_level_rests : He.DefD := ⟨(("_law_level_rests" : PySem.Str), none), "_law_level_rests", "_law_level_rests", defArgs s__law_level_rests, defBody s__law_level_rests, defScope s__law_level_rests, [], []⟩
def f__law_level_rests : Df := ⟨d__law_level_rests, ["rows", "most", "tables"], ["rows", "most", "tables", "state", "i"], ⟨[], [], false⟩⟩
abbrev s__law_is_levels : Stmt := top 50
def d__law_is_levels : He.DefD := ⟨(("_law_is_levels" : PySem.Str), none), "_law_is_levels", "_law_is_levels", defArgs s__law_is_levels, defBody s__law_is_levels, defScope s__law_is_levels, [], []⟩
def f__law_is_levels : Df := ⟨d__law_is_levels, ["size", "most", "value"], ["size", "most", "value", "level"], ⟨[], [], false⟩⟩
abbrev s__law_says_not : Stmt := top 51
def d__law_says_not : He.DefD := ⟨(("_law_says_not" : PySem.Str), none), "_law_says_not", "_law_says_not", defArgs s__law_says_not, defBody s__law_says_not, defScope s__law_says_not, [], []⟩
def f__law_says_not : Df := ⟨d__law_says_not, ["told", "right"], ["told", "right"], ⟨[], [], false⟩⟩
abbrev s__law_two_right : Stmt := top 52
def d__law_two_right : He.DefD := ⟨(("_law_two_right" : PySem.Str), none), "_law_two_right", "_law_two_right", defArgs s__law_two_right, defBody s__law_two_right, defScope s__law_two_right, [], []⟩
def f__law_two_right : Df := ⟨d__law_two_right, ["rows", "most", "value"], ["rows", "most", "value", "rules", "found"], ⟨[], [], false⟩⟩
abbrev s__law_none_right : Stmt := top 53
def d__law_none_right : He.DefD := ⟨(("_law_none_right" : PySem.Str), none), "_law_none_right", "_law_none_right", defArgs s__law_none_right, defBody s__law_none_right, defScope s__law_none_right, [], []⟩
def f__law_none_right : Df := ⟨d__law_none_right, ["rows", "most", "value"], ["rows", "most", "value", "rules"], ⟨[], [], false⟩⟩
abbrev s__law_some_rules : Stmt := top 54
def d__law_some_rules : He.DefD := ⟨(("_law_some_rules" : PySem.Str), none), "_law_some_rules", "_law_some_rules", defArgs s__law_some_rules, defBody s__law_some_rules, defScope s__law_some_rules, [], []⟩
def f__law_some_rules : Df := ⟨d__law_some_rules, ["pen", "rows", "most"], ["pen", "rows", "most", "way", "size", "i", "j"], ⟨[], [], false⟩⟩
abbrev s_law : Stmt := top 55
def d_law : He.DefD := ⟨(("law" : PySem.Str), none), "law", "law", defArgs s_law, defBody s_law, defScope s_law, [], []⟩
def f_law : Df := ⟨d_law, ["script"], ["script", "pen", "rows", "web", "lap", "odd", "size", "most", "rules", "found", "one", "other", "value", "a", "b", "c", "i"], ⟨[], [], false⟩⟩
def FN : FTab := [((("frozen" : PySem.Str), none), 1), ((("is_whole" : PySem.Str), none), 1), ((("is_list" : PySem.Str), none), 1), ((("is_signs" : PySem.Str), none), 1), ((("Web" : PySem.Str), some ("__eq__" : PySem.Str)), 2), ((("sources_in" : PySem.Str), none), 2), ((("LevelRules" : PySem.Str), some ("__eq__" : PySem.Str)), 2), ((("TwoLevels" : PySem.Str), some ("__eq__" : PySem.Str)), 2), ((("NoLevels" : PySem.Str), some ("__eq__" : PySem.Str)), 2), ((("power_of_whole" : PySem.Str), none), 2), ((("is_level_row" : PySem.Str), none), 3), ((("fits_levels" : PySem.Str), none), 4), ((("goal_in" : PySem.Str), none), 3), ((("level_states" : PySem.Str), none), 1), ((("rests_at" : PySem.Str), none), 2), ((("level_rests" : PySem.Str), none), 1), ((("most_told" : PySem.Str), none), 1), ((("is_told_levels" : PySem.Str), none), 2), ((("levels_of" : PySem.Str), none), 3), ((("two_levels_hold" : PySem.Str), none), 3), ((("no_levels_hold" : PySem.Str), none), 3), ((("_law_free_rows" : PySem.Str), none), 2), ((("_law_ordered_rows" : PySem.Str), none), 2), ((("_law_ring_rows" : PySem.Str), none), 2), ((("_law_camp_rows" : PySem.Str), none), 2), ((("_law_web_rows" : PySem.Str), none), 2), ((("_law_sources" : PySem.Str), none), 2), ((("_law_draw" : PySem.Str), none), 2), ((("_law_pick" : PySem.Str), none), 2), ((("_law_shuffled" : PySem.Str), none), 2), ((("_law_is_int" : PySem.Str), none), 1), ((("_law_units" : PySem.Str), none), 2), ((("_law_level_table" : PySem.Str), none), 3), ((("_law_level_tables" : PySem.Str), none), 3), ((("_law_goal" : PySem.Str), none), 5), ((("_law_level_states" : PySem.Str), none), 2), ((("_law_level_rests" : PySem.Str), none), 3), ((("_law_is_levels" : PySem.Str), none), 3), ((("_law_says_not" : PySem.Str), none), 2), ((("_law_two_right" : PySem.Str), none), 3), ((("_law_none_right" : PySem.Str), none), 3), ((("_law_some_rules" : PySem.Str), none), 3)]
def fs : List Df := [f_frozen, f_is_whole, f_is_list, f_is_signs, f_Web___eq__, f_sources_in, f_LevelRules___eq__, f_TwoLevels___eq__, f_NoLevels___eq__, f_power_of_whole, f_is_level_row, f_fits_levels, f_goal_in, f_level_states, f_rests_at, f_level_rests, f_most_told, f_is_told_levels, f_levels_of, f_two_levels_hold, f_no_levels_hold, f__law_free_rows, f__law_ordered_rows, f__law_ring_rows, f__law_camp_rows, f__law_web_rows, f__law_sources, f__law_draw, f__law_pick, f__law_shuffled, f__law_is_int, f__law_units, f__law_level_table, f__law_level_tables, f__law_goal, f__law_level_states, f__law_level_rests, f__law_is_levels, f__law_says_not, f__law_two_right, f__law_none_right, f__law_some_rules]
def ini : List Df := [f_Web___init__, f_LevelRules___init__, f_TwoLevels___init__, f_NoLevels___init__]
def CT : CTab := [("Web", ["rows", "size"]), ("LevelRules", ["web", "most", "tables"]), ("TwoLevels", ["rules", "one", "other"]), ("NoLevels", ["rules"])]
def TT : Tabs := ⟨CT, [(0, 4), (1, 6), (2, 7), (3, 8)], [21, 22, 23, 24], [1, 3, 3, 1]⟩
def B0 : Tb := ⟨TT, FN, fs, ini, 40⟩
end UK

set_option Elab.async false
set_option linter.all false
set_option maxRecDepth 100000
set_option maxHeartbeats 0
namespace UK
open PySem PySem.Spec PyProof.Rows L2
def ir_frozen : Sm :=
  (.seq (.ite (.isi (.slot 0) [.tuple, .list])
  (.ret (.b1 .tuple (.lc [1] (.call 0 (.cons (.var 1) .nil)) [1] (.sq (.slot 0)) .no)))
  .nop)
  (.ret (.var 0)))
theorem sm_frozen : f_frozen.sm TT FN 40 = ir_frozen := by kernel_rfl
def ir_is_whole : Sm :=
  (.ret (.and (.isi (.slot 0) [.int]) (.not (.isi (.slot 0) [.bool]))))
theorem sm_is_whole : f_is_whole.sm TT FN 40 = ir_is_whole := by kernel_rfl
def ir_is_list : Sm :=
  (.ret (.isi (.slot 0) [.tuple, .list]))
theorem sm_is_list : f_is_list.sm TT FN 40 = ir_is_list := by kernel_rfl
def ir_is_signs : Sm :=
  (.seq (.ite (.or (.not (.call 2 (.cons (.var 0) .nil))) (.cmp .eq (.b1 .len (.slot 0)) (.int 0)))
  (.ret (.bl false))
  .nop)
  (.seq (.for_ [1] (.sq (.var 0))
  (.ite (.or (.not (.call 2 (.cons (.var 1) .nil))) (.or (.cmp .ne (.b1 .len (.slot 1)) (.b1 .len (.slot 0))) (.not (.b1 .all (.lc [2] (.and (.call 1 (.cons (.var 2) .nil)) (.chn .le .le (.neg (.int 1)) (.slot 2) (.int 2))) [2] (.sq (.slot 1)) .no)))))
  (.ret (.bl false))
  .nop))
  (.ret (.bl true))))
theorem sm_is_signs : f_is_signs.sm TT FN 40 = ir_is_signs := by kernel_rfl
def ir_Web___init__ : Sm :=
  (.seq (.ite (.not (.call 3 (.cons (.var 1) .nil)))
  .nev
  .nop)
  (.seq (.fld "rows" (.b1 .tuple (.lc [2] (.b1 .tuple (.slot 2)) [2] (.sq (.slot 1)) .no)))
  (.fld "size" (.b1 .len (.nfl 0 "rows")))))
theorem sm_Web___init__ : f_Web___init__.sm TT FN 40 = ir_Web___init__ := by kernel_rfl
def ir_Web___eq__ : Sm :=
  (.ret (.and (.isi (.slot 1) [.cls 0]) (.cmp .eq (.nfl 0 "rows") (.nfl 1 "rows"))))
theorem sm_Web___eq__ : f_Web___eq__.sm TT FN 40 = ir_Web___eq__ := by kernel_rfl
def ir_sources_in : Sm :=
  (.ret (.b1 .tuple (.lc [2] (.var 2) [2] (.r1 (.nfl 0 "size")) (.yes (.cmp .ne (.idx (.idx (.nfl 0 "rows") (.var 1)) (.var 2)) (.int 0))))))
theorem sm_sources_in : f_sources_in.sm TT FN 40 = ir_sources_in := by kernel_rfl
def ir_LevelRules___init__ : Sm :=
  (.seq (.ite (.or (.not (.call 1 (.cons (.var 2) .nil))) (.cmp .lt (.slot 2) (.int 1)))
  .nev
  .nop)
  (.seq (.ite (.or (.not (.call 2 (.cons (.var 3) .nil))) (.cmp .ne (.b1 .len (.slot 3)) (.nfl 1 "size")))
  .nev
  .nop)
  (.seq (.for_ [4] (.r1 (.nfl 1 "size"))
  (.ite (.not (.call 11 (.cons (.var 1) (.cons (.var 2) (.cons (.var 4) (.cons (.idx (.slot 3) (.var 4)) .nil))))))
  .nev
  .nop))
  (.seq (.fld "web" (.var 1))
  (.seq (.fld "most" (.var 2))
  (.fld "tables" (.b1 .tuple (.lc [5] (.b1 .tuple (.slot 5)) [5] (.sq (.slot 3)) .no))))))))
theorem sm_LevelRules___init__ : f_LevelRules___init__.sm TT FN 40 = ir_LevelRules___init__ := by kernel_rfl
def ir_LevelRules___eq__ : Sm :=
  (.ret (.and (.isi (.slot 1) [.cls 1]) (.and (.cmp .eq (.nfl 0 "web") (.nfl 1 "web")) (.and (.cmp .eq (.nfl 0 "most") (.nfl 1 "most")) (.cmp .eq (.nfl 0 "tables") (.nfl 1 "tables"))))))
theorem sm_LevelRules___eq__ : f_LevelRules___eq__.sm TT FN 40 = ir_LevelRules___eq__ := by kernel_rfl
def ir_TwoLevels___init__ : Sm :=
  (.seq (.fld "rules" (.call 0 (.cons (.var 1) .nil)))
  (.seq (.fld "one" (.call 0 (.cons (.var 2) .nil)))
  (.fld "other" (.call 0 (.cons (.var 3) .nil)))))
theorem sm_TwoLevels___init__ : f_TwoLevels___init__.sm TT FN 40 = ir_TwoLevels___init__ := by kernel_rfl
def ir_TwoLevels___eq__ : Sm :=
  (.ret (.and (.isi (.slot 1) [.cls 2]) (.and (.cmp .eq (.nfl 0 "rules") (.nfl 1 "rules")) (.and (.cmp .eq (.nfl 0 "one") (.nfl 1 "one")) (.cmp .eq (.nfl 0 "other") (.nfl 1 "other"))))))
theorem sm_TwoLevels___eq__ : f_TwoLevels___eq__.sm TT FN 40 = ir_TwoLevels___eq__ := by kernel_rfl
def ir_NoLevels___init__ : Sm :=
  (.fld "rules" (.call 0 (.cons (.var 1) .nil)))
theorem sm_NoLevels___init__ : f_NoLevels___init__.sm TT FN 40 = ir_NoLevels___init__ := by kernel_rfl
def ir_NoLevels___eq__ : Sm :=
  (.ret (.and (.isi (.slot 1) [.cls 3]) (.cmp .eq (.nfl 0 "rules") (.nfl 1 "rules"))))
theorem sm_NoLevels___eq__ : f_NoLevels___eq__.sm TT FN 40 = ir_NoLevels___eq__ := by kernel_rfl
def ir_power_of_whole : Sm :=
  (.seq (.set 2 (.int 1))
  (.seq (.for_ [3] (.r1 (.var 1))
  (.set 2 (.bin .mul (.slot 2) (.slot 0))))
  (.ret (.var 2))))
theorem sm_power_of_whole : f_power_of_whole.sm TT FN 40 = ir_power_of_whole := by kernel_rfl
def ir_is_level_row : Sm :=
  (.ret (.and (.call 2 (.cons (.var 2) .nil)) (.and (.cmp .eq (.b1 .len (.slot 2)) (.slot 1)) (.b1 .all (.lc [3] (.and (.call 1 (.cons (.var 3) .nil)) (.chn .le .le (.int 0) (.slot 3) (.slot 0))) [3] (.sq (.slot 2)) .no)))))
theorem sm_is_level_row : f_is_level_row.sm TT FN 40 = ir_is_level_row := by kernel_rfl
def ir_fits_levels : Sm :=
  (.seq (.set 4 (.call 5 (.cons (.var 0) (.cons (.var 2) .nil))))
  (.seq (.set 5 (.bin .add (.slot 1) (.int 1)))
  (.seq (.ite (.not (.call 10 (.cons (.var 1) (.cons (.call 9 (.cons (.var 5) (.cons (.b1 .len (.slot 4)) .nil))) (.cons (.var 3) .nil)))))
  (.ret (.bl false))
  .nop)
  (.seq (.for_ [6] (.r1 (.b1 .len (.slot 4)))
  (.seq (.set 7 (.idx (.idx (.nfl 0 "rows") (.var 2)) (.idx (.slot 4) (.var 6))))
  (.seq (.set 8 (.call 9 (.cons (.var 5) (.cons (.var 6) .nil))))
  (.for_ [9] (.r1 (.b1 .len (.slot 3)))
  (.ite (.and (.cmp .ne (.slot 7) (.int 2)) (.and (.cmp .lt (.bin .mod (.bin .fdiv (.slot 9) (.slot 8)) (.slot 5)) (.slot 1)) (.cmp .lt (.bin .mul (.slot 7) (.bin .sub (.idx (.slot 3) (.bin .add (.slot 9) (.slot 8))) (.idx (.slot 3) (.var 9)))) (.int 0))))
  (.ret (.bl false))
  .nop)))))
  (.ret (.bl true))))))
theorem sm_fits_levels : f_fits_levels.sm TT FN 40 = ir_fits_levels := by kernel_rfl
def ir_goal_in : Sm :=
  (.seq (.set 3 (.bin .add (.nfl 0 "most") (.int 1)))
  (.seq (.set 4 (.int 0))
  (.seq (.for_ [5] (.sq (.rev (.call 5 (.cons (.nfl 0 "web") (.cons (.var 2) .nil)))))
  (.set 4 (.bin .add (.bin .mul (.slot 4) (.slot 3)) (.idx (.slot 1) (.var 5)))))
  (.ret (.idx (.idx (.nfl 0 "tables") (.var 2)) (.var 4))))))
theorem sm_goal_in : f_goal_in.sm TT FN 40 = ir_goal_in := by kernel_rfl
def ir_level_states : Sm :=
  (.seq (.set 1 (.lst (.cons (.tup .nil) .nil)))
  (.seq (.for_ [2] (.r1 (.fld (.nfl 0 "web") "size"))
  (.own 1 (.lc2 [3, 4] (.bin .add (.slot 3) (.tup (.cons (.var 4) .nil))) [3] (.sq (.slot 1)) .no [4] (.r1 (.bin .add (.nfl 0 "most") (.int 1))) .no)))
  (.ret (.b1 .tuple (.slot 1)))))
theorem sm_level_states : f_level_states.sm TT FN 40 = ir_level_states := by kernel_rfl
def ir_rests_at : Sm :=
  (.ret (.b1 .all (.lc [2] (.cmp .eq (.call 12 (.cons (.var 0) (.cons (.var 1) (.cons (.var 2) .nil)))) (.idx (.slot 1) (.var 2))) [2] (.r1 (.fld (.nfl 0 "web") "size")) .no)))
theorem sm_rests_at : f_rests_at.sm TT FN 40 = ir_rests_at := by kernel_rfl
def ir_level_rests : Sm :=
  (.ret (.b1 .tuple (.lc [1] (.var 1) [1] (.sq (.call 13 (.cons (.var 0) .nil))) (.yes (.call 14 (.cons (.var 0) (.cons (.var 1) .nil)))))))
theorem sm_level_rests : f_level_rests.sm TT FN 40 = ir_level_rests := by kernel_rfl
def ir_most_told : Sm :=
  (.seq (.ite (.or (.not (.call 1 (.cons (.var 0) .nil))) (.cmp .lt (.slot 0) (.int 1)))
  .nev
  .nop)
  (.ret (.var 0)))
theorem sm_most_told : f_most_told.sm TT FN 40 = ir_most_told := by kernel_rfl
def ir_is_told_levels : Sm :=
  (.ret (.and (.isi (.slot 1) [.tuple]) (.call 10 (.cons (.nfl 0 "most") (.cons (.fld (.nfl 0 "web") "size") (.cons (.var 1) .nil))))))
theorem sm_is_told_levels : f_is_told_levels.sm TT FN 40 = ir_is_told_levels := by kernel_rfl
def ir_levels_of : Sm :=
  (.ret (.and (.isi (.slot 2) [.cls 1]) (.and (.cmp .eq (.nfl 2 "web") (.slot 0)) (.cmp .eq (.nfl 2 "most") (.slot 1)))))
theorem sm_levels_of : f_levels_of.sm TT FN 40 = ir_levels_of := by kernel_rfl
def ir_two_levels_hold : Sm :=
  (.seq (.exp (.call 16 (.cons (.var 1) .nil)))
  (.seq (.ite (.or (.not (.isi (.slot 2) [.cls 2])) (.not (.call 18 (.cons (.var 0) (.cons (.var 1) (.cons (.nfl 2 "rules") .nil))))))
  (.ret (.bl false))
  .nop)
  (.seq (.ite (.or (.not (.call 17 (.cons (.nfl 2 "rules") (.cons (.nfl 2 "one") .nil)))) (.not (.call 17 (.cons (.nfl 2 "rules") (.cons (.nfl 2 "other") .nil)))))
  (.ret (.bl false))
  .nop)
  (.ret (.and (.cmp .ne (.nfl 2 "one") (.nfl 2 "other")) (.and (.call 14 (.cons (.nfl 2 "rules") (.cons (.nfl 2 "one") .nil))) (.call 14 (.cons (.nfl 2 "rules") (.cons (.nfl 2 "other") .nil)))))))))
theorem sm_two_levels_hold : f_two_levels_hold.sm TT FN 40 = ir_two_levels_hold := by kernel_rfl
def ir_no_levels_hold : Sm :=
  (.seq (.exp (.call 16 (.cons (.var 1) .nil)))
  (.ret (.and (.isi (.slot 2) [.cls 3]) (.and (.call 18 (.cons (.var 0) (.cons (.var 1) (.cons (.nfl 2 "rules") .nil)))) (.cmp .eq (.b1 .len (.call 15 (.cons (.nfl 2 "rules") .nil))) (.int 0))))))
theorem sm_no_levels_hold : f_no_levels_hold.sm TT FN 40 = ir_no_levels_hold := by kernel_rfl
def ir__law_free_rows : Sm :=
  (.seq (.set 2 (.call 28 (.cons (.var 0) (.cons (.lst (.cons (.lst (.cons (.int 0) (.cons (.int 0) (.cons (.int 1) (.cons (.neg (.int 1)) .nil))))) (.cons (.lst (.cons (.int 0) (.cons (.int 0) (.cons (.int 0) (.cons (.int 1) (.cons (.neg (.int 1)) (.cons (.int 2) .nil))))))) (.cons (.lst (.cons (.int 0) (.cons (.int 1) .nil))) (.cons (.lst (.cons (.int 0) (.cons (.int 0) (.cons (.int 0) (.cons (.int 0) (.cons (.int 1) (.cons (.neg (.int 1)) .nil))))))) (.cons (.lst (.cons (.int 0) (.cons (.int 0) (.cons (.int 1) (.cons (.neg (.int 1)) (.cons (.neg (.int 1)) (.cons (.int 2) .nil))))))) (.cons (.lst (.cons (.int 0) (.cons (.int 0) (.cons (.int 0) (.cons (.int 1) .nil))))) .nil))))))) .nil))))
  (.rrt (.lc [3] (.lc [4] (.call 28 (.cons (.var 0) (.cons (.var 2) .nil))) [4] (.r1 (.var 1)) .no) [3] (.r1 (.var 1)))))
theorem sm__law_free_rows : f__law_free_rows.sm TT FN 40 = ir__law_free_rows := by kernel_rfl
def ir__law_ordered_rows : Sm :=
  (.seq (.set 2 (.call 29 (.cons (.var 0) (.cons (.lrg (.var 1)) .nil))))
  (.seq (.rws 3 (.lc [6] (.bin .mul (.lst (.cons (.int 0) .nil)) (.var 1)) [6] (.r1 (.var 1))))
  (.seq (.for_ [4] (.r1 (.var 1))
  (.for_ [5] (.r1 (.var 4))
  (.put2 3 (.idx (.slot 2) (.var 4)) (.idx (.slot 2) (.var 5)) (.call 28 (.cons (.var 0) (.cons (.lst (.cons (.int 0) (.cons (.int 1) (.cons (.neg (.int 1)) (.cons (.int 2) .nil))))) .nil))))))
  (.rrt (.var 3)))))
theorem sm__law_ordered_rows : f__law_ordered_rows.sm TT FN 40 = ir__law_ordered_rows := by kernel_rfl
def ir__law_ring_rows : Sm :=
  (.seq (.set 2 (.slc (.call 29 (.cons (.var 0) (.cons (.lrg (.var 1)) .nil))) .no (.yes (.bin .add (.int 1) (.call 27 (.cons (.var 0) (.cons (.var 1) .nil)))))))
  (.seq (.rws 3 (.ite (.cmp .eq (.call 27 (.cons (.var 0) (.cons (.int 2) .nil))) (.int 0)) (.call 22 (.cons (.var 0) (.cons (.var 1) .nil))) (.lc [5] (.bin .mul (.lst (.cons (.int 0) .nil)) (.var 1)) [5] (.r1 (.var 1)))))
  (.seq (.for_ [4] (.r1 (.b1 .len (.slot 2)))
  (.put2 3 (.idx (.slot 2) (.var 4)) (.idx (.slot 2) (.bin .sub (.slot 4) (.int 1))) (.bin .sub (.int 1) (.bin .mul (.int 2) (.call 27 (.cons (.var 0) (.cons (.int 2) .nil)))))))
  (.rrt (.var 3)))))
theorem sm__law_ring_rows : f__law_ring_rows.sm TT FN 40 = ir__law_ring_rows := by kernel_rfl
def ir__law_camp_rows : Sm :=
  (.seq (.own 2 (.lc [3] (.bin .sub (.int 1) (.bin .mul (.int 2) (.call 27 (.cons (.var 0) (.cons (.int 2) .nil))))) [3] (.r1 (.var 1)) .no))
  (.rrt (.lc [3] (.lc [4] (.bin .mul (.bin .mul (.idx (.slot 2) (.var 3)) (.idx (.slot 2) (.var 4))) (.call 28 (.cons (.var 0) (.cons (.lst (.cons (.int 0) (.cons (.int 1) (.cons (.int 1) .nil)))) .nil)))) [4] (.r1 (.var 1)) .no) [3] (.r1 (.var 1)))))
theorem sm__law_camp_rows : f__law_camp_rows.sm TT FN 40 = ir__law_camp_rows := by kernel_rfl
def ir__law_web_rows : Sm :=
  (.seq (.set 2 (.call 27 (.cons (.var 0) (.cons (.int 6) .nil))))
  (.seq (.ite (.cmp .lt (.slot 2) (.int 2))
  (.rws 3 (.call 21 (.cons (.var 0) (.cons (.var 1) .nil))))
  (.ite (.cmp .eq (.slot 2) (.int 2))
  (.rws 3 (.call 22 (.cons (.var 0) (.cons (.var 1) .nil))))
  (.ite (.cmp .eq (.slot 2) (.int 3))
  (.rws 3 (.call 23 (.cons (.var 0) (.cons (.var 1) .nil))))
  (.rws 3 (.call 24 (.cons (.var 0) (.cons (.var 1) .nil)))))))
  (.seq (.ite (.cmp .eq (.slot 2) (.int 5))
  (.put2 3 (.call 27 (.cons (.var 0) (.cons (.var 1) .nil))) (.call 27 (.cons (.var 0) (.cons (.var 1) .nil))) (.call 28 (.cons (.var 0) (.cons (.lst (.cons (.int 0) (.cons (.int 1) (.cons (.neg (.int 1)) (.cons (.int 2) .nil))))) .nil))))
  .nop)
  (.ret (.b1 .tuple (.lc [4] (.b1 .tuple (.slot 4)) [4] (.sq (.var 3)) .no))))))
theorem sm__law_web_rows : f__law_web_rows.sm TT FN 40 = ir__law_web_rows := by kernel_rfl
def ir__law_sources : Sm :=
  (.ret (.lc [2] (.var 2) [2] (.r1 (.b1 .len (.slot 0))) (.yes (.cmp .ne (.idx (.idx (.slot 0) (.var 1)) (.var 2)) (.int 0)))))
theorem sm__law_sources : f__law_sources.sm TT FN 40 = ir__law_sources := by kernel_rfl
def ir__law_draw : Sm :=
  (.seq (.pset 0 .count (.bin .add (.pget 0 .count) (.int 1)))
  (.seq (.ite (.and (.cmp .eq (.pget 0 .digits) (.int 0)) (.cmp .lt (.pget 0 .pos) (.b1 .len (.pget 0 .cells))))
  (.seq (.set 3 (.idx (.pget 0 .cells) (.pget 0 .pos)))
  (.seq (.pset 0 .pos (.bin .add (.pget 0 .pos) (.int 1)))
  (.ite (.cmp .ge (.slot 3) (.bin .pow (.int 10) (.int 18)))
  (.pset 0 .digits (.bin .sub (.slot 3) (.bin .pow (.int 10) (.int 18))))
  (.pset 0 .fold (.bin .mod (.b1 .int (.bin .add (.bin .mul (.pget 0 .fold) (.int 48271)) (.slot 3))) (.int 2147483563))))))
  .nop)
  (.seq (.ite (.cmp .gt (.pget 0 .digits) (.int 0))
  (.seq (.set 4 (.bin .mod (.b1 .int (.pget 0 .digits)) (.slot 1)))
  (.seq (.pset 0 .digits (.bin .fdiv (.pget 0 .digits) (.slot 1)))
  (.ret (.var 4))))
  .nop)
  (.seq (.set 2 (.bin .add (.bin .add (.pget 0 .fold) (.bin .mul (.pget 0 .count) (.int 8513))) (.int 61)))
  (.ret (.bin .mod (.bin .fdiv (.b1 .int (.bin .mod (.bin .pow (.slot 2) (.int 19)) (.int 2305843009213693951))) (.int 256)) (.slot 1)))))))
theorem sm__law_draw : f__law_draw.sm TT FN 40 = ir__law_draw := by kernel_rfl
def ir__law_pick : Sm :=
  (.ret (.idx (.slot 1) (.call 27 (.cons (.var 0) (.cons (.b1 .len (.slot 1)) .nil)))))
theorem sm__law_pick : f__law_pick.sm TT FN 40 = ir__law_pick := by kernel_rfl
def ir__law_shuffled : Sm :=
  (.seq (.par 3 4 true (.b1 .list (.slot 1)) true (.lst .nil))
  (.seq (.for_ [2] (.r1 (.b1 .len (.slot 1)))
  (.apop 4 3 (.call 27 (.cons (.var 0) (.cons (.b1 .len (.slot 3)) .nil)))))
  (.ret (.var 4))))
theorem sm__law_shuffled : f__law_shuffled.sm TT FN 40 = ir__law_shuffled := by kernel_rfl
def ir__law_is_int : Sm :=
  (.ret (.and (.isi (.slot 0) [.int]) (.not (.isi (.slot 0) [.bool]))))
theorem sm__law_is_int : f__law_is_int.sm TT FN 40 = ir__law_is_int := by kernel_rfl
def ir__law_units : Sm :=
  (.seq (.own 2 (.lst (.cons (.int 1) .nil)))
  (.seq (.for_ [3] (.r1 (.var 1))
  (.app 2 (.bin .mul (.idx (.slot 2) (.neg (.int 1))) (.bin .add (.slot 0) (.int 1)))))
  (.ret (.var 2))))
theorem sm__law_units : f__law_units.sm TT FN 40 = ir__law_units := by kernel_rfl
def ir__law_level_table : Sm :=
  (.seq (.par 6 7 true (.lst .nil) false (.call 31 (.cons (.var 2) (.cons (.b1 .len (.slot 1)) .nil))))
  (.seq (.for_ [3] (.r1 (.call 28 (.cons (.var 0) (.cons (.lst (.cons (.int 1) (.cons (.int 2) (.cons (.int 3) (.cons (.int 2) (.cons (.int 0) .nil)))))) .nil))))
  (.seq (.own 8 (.lst .nil))
  (.seq (.for_ [9] (.r1 (.b1 .len (.slot 1)))
  (.ite (.cmp .eq (.call 27 (.cons (.var 0) (.cons (.int 2) .nil))) (.int 0))
  (.app 8 (.tup (.cons (.var 9) (.cons (.ite (.cmp .ne (.idx (.slot 1) (.var 9)) (.int 2)) (.idx (.slot 1) (.var 9)) (.call 28 (.cons (.var 0) (.cons (.lst (.cons (.int 1) (.cons (.neg (.int 1)) (.cons (.int 2) .nil)))) .nil)))) (.cons (.call 27 (.cons (.var 0) (.cons (.bin .add (.slot 2) (.int 1)) .nil))) .nil)))))
  .nop))
  (.app 6 (.tup (.cons (.call 27 (.cons (.var 0) (.cons (.bin .add (.slot 2) (.int 1)) .nil))) (.cons (.var 8) .nil)))))))
  (.seq (.own 4 (.lst .nil))
  (.seq (.for_ [5] (.r1 (.idx (.slot 7) (.neg (.int 1))))
  (.seq (.set 10 (.int 0))
  (.seq (.for_ [11, 8] (.sq (.var 6))
  (.seq (.own 12 (.lc [9, 13, 14] (.tup (.cons (.bin .mod (.b1 .int (.bin .fdiv (.slot 5) (.idx (.slot 7) (.var 9)))) (.bin .add (.slot 2) (.int 1))) (.cons (.var 13) (.cons (.var 14) .nil)))) [9, 13, 14] (.sq (.slot 8)) .no))
  (.ite (.b1 .all (.lc [15, 13, 14] (.ite (.cmp .eq (.slot 13) (.int 2)) (.cmp .eq (.slot 15) (.slot 14)) (.cmp .ge (.bin .mul (.slot 13) (.slot 15)) (.bin .mul (.slot 13) (.slot 14)))) [15, 13, 14] (.sq (.slot 12)) .no))
  (.set 10 (.b2 .max (.var 10) (.var 11)))
  .nop)))
  (.app 4 (.var 10)))))
  (.ret (.b1 .tuple (.slot 4)))))))
theorem sm__law_level_table : f__law_level_table.sm TT FN 40 = ir__law_level_table := by kernel_rfl
def ir__law_level_tables : Sm :=
  (.ret (.b1 .tuple (.lc [3] (.call 32 (.cons (.var 0) (.cons (.lc [4] (.var 4) [4] (.sq (.slot 3)) (.yes (.cmp .ne (.slot 4) (.int 0)))) (.cons (.var 2) .nil)))) [3] (.sq (.slot 1)) .no)))
theorem sm__law_level_tables : f__law_level_tables.sm TT FN 40 = ir__law_level_tables := by kernel_rfl
def ir__law_goal : Sm :=
  (.seq (.set 5 (.call 26 (.cons (.var 0) (.cons (.var 4) .nil))))
  (.seq (.set 6 (.call 31 (.cons (.var 1) (.cons (.b1 .len (.slot 5)) .nil))))
  (.ret (.idx (.idx (.slot 2) (.var 4)) (.b1 .sum (.lc [7] (.bin .mul (.idx (.slot 3) (.idx (.slot 5) (.var 7))) (.idx (.slot 6) (.var 7))) [7] (.r1 (.b1 .len (.slot 5))) .no))))))
theorem sm__law_goal : f__law_goal.sm TT FN 40 = ir__law_goal := by kernel_rfl
def ir__law_level_states : Sm :=
  (.seq (.set 2 (.lst (.cons (.tup .nil) .nil)))
  (.seq (.for_ [3] (.r1 (.var 0))
  (.seq (.set 4 (.lst .nil))
  (.seq (.for_ [5] (.sq (.var 2))
  (.set 4 (.bin .add (.slot 4) (.lc [6] (.bin .add (.slot 5) (.tup (.cons (.var 6) .nil))) [6] (.r1 (.bin .add (.slot 1) (.int 1))) .no))))
  (.set 2 (.var 4)))))
  (.ret (.var 2))))
theorem sm__law_level_states : f__law_level_states.sm TT FN 40 = ir__law_level_states := by kernel_rfl
def ir__law_level_rests : Sm :=
  (.ret (.lc [3] (.var 3) [3] (.sq (.call 35 (.cons (.b1 .len (.slot 0)) (.cons (.var 1) .nil)))) (.yes (.b1 .all (.lc [4] (.cmp .eq (.call 34 (.cons (.var 0) (.cons (.var 1) (.cons (.var 2) (.cons (.var 3) (.cons (.var 4) .nil)))))) (.idx (.slot 3) (.var 4))) [4] (.r1 (.b1 .len (.slot 0))) .no)))))
theorem sm__law_level_rests : f__law_level_rests.sm TT FN 40 = ir__law_level_rests := by kernel_rfl
def ir__law_is_levels : Sm :=
  (.ret (.and (.isi (.slot 2) [.tuple]) (.and (.cmp .eq (.b1 .len (.slot 2)) (.slot 0)) (.b1 .all (.lc [3] (.and (.call 30 (.cons (.var 3) .nil)) (.chn .le .le (.int 0) (.slot 3) (.slot 1))) [3] (.sq (.slot 2)) .no)))))
theorem sm__law_is_levels : f__law_is_levels.sm TT FN 40 = ir__law_is_levels := by kernel_rfl
def ir__law_says_not : Sm :=
  (.ret (.or (.not (.isi (.slot 0) [.bool])) (.cmp .ne (.slot 0) (.slot 1))))
theorem sm__law_says_not : f__law_says_not.sm TT FN 40 = ir__law_says_not := by kernel_rfl
def ir__law_two_right : Sm :=
  (.seq (.set 3 (.nfl 2 "rules"))
  (.seq (.ite (.or (.not (.isi (.slot 3) [.cls 1])) (.or (.cmp .ne (.nfl 3 "web") (.mk 0 (.cons (.var 0) .nil))) (.or (.cmp .ne (.nfl 3 "most") (.slot 1)) (.cmp .eq (.nfl 2 "one") (.nfl 2 "other")))))
  (.ret (.bl false))
  .nop)
  (.seq (.ite (.or (.not (.call 37 (.cons (.b1 .len (.slot 0)) (.cons (.var 1) (.cons (.nfl 2 "one") .nil))))) (.not (.call 37 (.cons (.b1 .len (.slot 0)) (.cons (.var 1) (.cons (.nfl 2 "other") .nil))))))
  (.ret (.bl false))
  .nop)
  (.seq (.set 4 (.call 36 (.cons (.var 0) (.cons (.var 1) (.cons (.nfl 3 "tables") .nil)))))
  (.ret (.and (.cmp .isin (.nfl 2 "one") (.slot 4)) (.cmp .isin (.nfl 2 "other") (.slot 4))))))))
theorem sm__law_two_right : f__law_two_right.sm TT FN 40 = ir__law_two_right := by kernel_rfl
def ir__law_none_right : Sm :=
  (.seq (.set 3 (.nfl 2 "rules"))
  (.seq (.ite (.or (.not (.isi (.slot 3) [.cls 1])) (.or (.cmp .ne (.nfl 3 "web") (.mk 0 (.cons (.var 0) .nil))) (.cmp .ne (.nfl 3 "most") (.slot 1))))
  (.ret (.bl false))
  .nop)
  (.ret (.cmp .eq (.call 36 (.cons (.var 0) (.cons (.var 1) (.cons (.nfl 3 "tables") .nil)))) (.lst .nil)))))
theorem sm__law_none_right : f__law_none_right.sm TT FN 40 = ir__law_none_right := by kernel_rfl
def ir__law_some_rules : Sm :=
  (.seq (.par 3 4 false (.call 27 (.cons (.var 0) (.cons (.int 8) .nil))) false (.b1 .len (.slot 1)))
  (.seq (.ite (.cmp .eq (.slot 3) (.int 0))
  (.set 2 (.bin .add (.bin .mod (.b1 .int (.slot 2)) (.int 4)) (.int 1)))
  .nop)
  (.seq (.ite (.cmp .eq (.slot 3) (.int 1))
  (.seq (.par 5 6 false (.call 27 (.cons (.var 0) (.cons (.var 4) .nil))) false (.call 27 (.cons (.var 0) (.cons (.var 4) .nil))))
  (.set 1 (.bin .add (.bin .add (.slc (.slot 1) .no (.yes (.var 5))) (.tup (.cons (.bin .add (.bin .add (.slc (.idx (.slot 1) (.var 5)) .no (.yes (.var 6))) (.tup (.cons (.call 28 (.cons (.var 0) (.cons (.lst (.cons (.int 0) (.cons (.int 1) (.cons (.neg (.int 1)) (.cons (.int 2) .nil))))) .nil))) .nil))) (.slc (.idx (.slot 1) (.var 5)) (.yes (.bin .add (.slot 6) (.int 1))) .no)) .nil))) (.slc (.slot 1) (.yes (.bin .add (.slot 5) (.int 1))) .no))))
  .nop)
  (.ret (.mk 1 (.cons (.mk 0 (.cons (.var 1) .nil)) (.cons (.var 2) (.cons (.call 33 (.cons (.var 0) (.cons (.var 1) (.cons (.var 2) .nil)))) .nil))))))))
theorem sm__law_some_rules : f__law_some_rules.sm TT FN 40 = ir__law_some_rules := by kernel_rfl
def ir_law : Sm :=
  (.seq (.unp [6, 7] (.call 28 (.cons (.var 1) (.cons (.lst (.cons (.tup (.cons (.int 1) (.cons (.int 1) .nil))) (.cons (.tup (.cons (.int 1) (.cons (.int 4) .nil))) (.cons (.tup (.cons (.int 2) (.cons (.int 2) .nil))) (.cons (.tup (.cons (.int 2) (.cons (.int 3) .nil))) (.cons (.tup (.cons (.int 3) (.cons (.int 1) .nil))) (.cons (.tup (.cons (.int 3) (.cons (.int 2) .nil))) (.cons (.tup (.cons (.int 2) (.cons (.int 1) .nil))) .nil)))))))) .nil))))
  (.seq (.set 2 (.call 25 (.cons (.var 1) (.cons (.var 6) .nil))))
  (.seq (.set 3 (.mk 0 (.cons (.var 2) .nil)))
  (.seq (.for_ [4] (.r1 (.int 8))
  (.seq (.set 8 (.call 41 (.cons (.var 1) (.cons (.var 2) (.cons (.var 7) .nil)))))
  (.seq (.set 9 (.call 36 (.cons (.fld (.nfl 8 "web") "rows") (.cons (.nfl 8 "most") (.cons (.nfl 8 "tables") .nil)))))
  (.seq (.set 10 (.ite (.cmp .ne (.slot 9) (.lst .nil)) (.call 28 (.cons (.var 1) (.cons (.var 9) .nil))) (.bin .mul (.tup (.cons (.int 0) .nil)) (.slot 6))))
  (.seq (.set 11 (.ite (.and (.cmp .ne (.slot 9) (.lst .nil)) (.cmp .gt (.call 27 (.cons (.var 1) (.cons (.int 3) .nil))) (.int 0))) (.call 28 (.cons (.var 1) (.cons (.var 9) .nil))) (.b1 .tuple (.lc [16] (.call 27 (.cons (.var 1) (.cons (.bin .add (.slot 7) (.int 1)) .nil))) [16] (.r1 (.var 6)) .no))))
  (.seq (.set 5 (.call 28 (.cons (.var 1) (.cons (.lst (.cons (.bin .add (.slot 10) (.tup (.cons (.int 0) .nil))) (.cons .non (.cons (.b1 .list (.slot 11)) (.cons (.bin .mul (.tup (.cons (.bl true) .nil)) (.slot 6)) (.cons (.var 10) (.cons (.bin .mul (.tup (.cons (.bin .add (.slot 7) (.int 1)) .nil)) (.slot 6)) (.cons (.rev (.slot 11)) .nil)))))))) .nil))))
  (.seq (.for_ [13, 14, 15] (.sq (.lst (.cons (.tup (.cons (.var 8) (.cons (.var 10) (.cons (.var 11) .nil)))) (.cons (.tup (.cons (.var 8) (.cons (.var 11) (.cons (.var 10) .nil)))) (.cons (.tup (.cons (.var 8) (.cons (.var 10) (.cons (.var 5) .nil)))) (.cons (.tup (.cons (.call 28 (.cons (.var 1) (.cons (.lst (.cons .non (.cons (.nfl 8 "tables") (.cons (.var 3) (.cons (.int 0) .nil))))) .nil))) (.cons (.var 10) (.cons (.var 11) .nil)))) .nil))))))
  (.seq (.set 12 (.mk 2 (.cons (.var 13) (.cons (.var 14) (.cons (.var 15) .nil)))))
  (.ite (.call 38 (.cons (.call 19 (.cons (.var 3) (.cons (.var 7) (.cons (.var 12) .nil)))) (.cons (.call 39 (.cons (.var 2) (.cons (.var 7) (.cons (.var 12) .nil)))) .nil)))
  (.ret (.bl false))
  .nop)))
  (.seq (.ite (.and (.cmp .gt (.b1 .len (.slot 9)) (.int 1)) (.cmp .notN (.call 19 (.cons (.nfl 8 "web") (.cons (.nfl 8 "most") (.cons (.mk 2 (.cons (.var 8) (.cons (.b1 .list (.idx (.slot 9) (.int 0))) (.cons (.idx (.slot 9) (.neg (.int 1))) .nil)))) .nil)))) (.bl true)))
  (.ret (.bl false))
  .nop)
  (.seq (.set 12 (.mk 3 (.cons (.var 8) .nil)))
  (.seq (.ite (.call 38 (.cons (.call 20 (.cons (.var 3) (.cons (.var 7) (.cons (.var 12) .nil)))) (.cons (.call 40 (.cons (.var 2) (.cons (.var 7) (.cons (.var 12) .nil)))) .nil)))
  (.ret (.bl false))
  .nop)
  (.ite (.or (.call 20 (.cons (.var 3) (.cons (.var 7) (.cons (.mk 3 (.cons (.var 5) .nil)) .nil)))) (.or (.call 20 (.cons (.var 3) (.cons (.var 7) (.cons (.mk 2 (.cons (.var 8) (.cons (.var 10) (.cons (.var 11) .nil)))) .nil)))) (.call 19 (.cons (.var 3) (.cons (.var 7) (.cons (.var 12) .nil))))))
  (.ret (.bl false))
  .nop)))))))))))
  (.seq (.for_ [5] (.sq (.lst (.cons .non (.cons (.int 0) (.cons (.tup .nil) (.cons (.var 8) (.cons (.str "x") (.cons (.dic (.inl 0) (.int 1)) (.cons (.mk 2 (.cons .non (.cons .non (.cons .non .nil)))) (.cons (.mk 3 (.cons .non .nil)) (.cons (.mk 3 (.cons (.var 3) .nil)) .nil)))))))))))
  (.ite (.or (.call 19 (.cons (.var 3) (.cons (.var 7) (.cons (.var 5) .nil)))) (.call 20 (.cons (.var 3) (.cons (.var 7) (.cons (.var 5) .nil)))))
  (.ret (.bl false))
  .nop))
  (.seq (.ite (.or (.cmp .ne (.mk 2 (.cons (.int 1) (.cons (.lst (.cons (.int 2) .nil)) (.cons (.lst (.cons (.int 3) .nil)) .nil)))) (.mk 2 (.cons (.int 1) (.cons (.tup (.cons (.int 2) .nil)) (.cons (.tup (.cons (.int 3) .nil)) .nil))))) (.or (.cmp .eq (.mk 2 (.cons (.int 1) (.cons (.int 2) (.cons (.int 3) .nil)))) (.mk 2 (.cons (.int 9) (.cons (.int 2) (.cons (.int 3) .nil))))) (.cmp .eq (.mk 2 (.cons (.int 1) (.cons (.int 2) (.cons (.int 3) .nil)))) (.mk 2 (.cons (.int 1) (.cons (.int 9) (.cons (.int 3) .nil)))))))
  (.ret (.bl false))
  .nop)
  (.ret (.and (.cmp .ne (.mk 2 (.cons (.int 1) (.cons (.int 2) (.cons (.int 3) .nil)))) (.mk 2 (.cons (.int 1) (.cons (.int 2) (.cons (.int 9) .nil))))) (.and (.cmp .eq (.mk 3 (.cons (.lst (.cons (.int 1) .nil)) .nil)) (.mk 3 (.cons (.tup (.cons (.int 1) .nil)) .nil))) (.cmp .ne (.mk 3 (.cons (.int 1) .nil)) (.mk 3 (.cons (.int 2) .nil))))))))))))
theorem sm_law : cSs (cS TT FN f_law.y f_law.c (tOk 40) (cE TT FN 40) 40) (f_law.d.body.drop 1) = ir_law := by kernel_rfl
end UK

set_option Elab.async false
set_option linter.all false
set_option maxRecDepth 100000
set_option maxHeartbeats 4000000
namespace UK
open PySem PySem.Spec PyProof.Rows L2
theorem lev_fn (n i : Nat) (f : Df) (h : B0.fs[i]? = some f) : (B0.lev (n + 1)).1 i = runF TT (B0.lev n).1 (B0.lev n).2 f.y.rt (f.sm TT FN 40) f.N.length := by
  funext ds
  show (match B0.fs[i]? with | some f => runF B0.T (Tb.lev B0 n).1 (Tb.lev B0 n).2 f.y.rt (f.sm B0.T B0.FN B0.m) f.N.length ds | none => stuck) = _
  rw [h]
  rfl
theorem lev_in (n c : Nat) (f : Df) (h : B0.ini[c]? = some f) : (B0.lev (n + 1)).2 c = runI TT (B0.lev n).1 (B0.lev n).2 (f.sm TT FN 40) f.N.length c := by
  funext ds
  show (match B0.ini[c]? with | some f => runI B0.T (Tb.lev B0 n).1 (Tb.lev B0 n).2 (f.sm B0.T B0.FN B0.m) f.N.length c ds | none => stuck) = _
  rw [h]
  rfl
theorem st_frozen (n : Nat) : (B0.lev (n + 1)).1 0 = runF TT (B0.lev n).1 (B0.lev n).2 false ir_frozen 2 := by
  have h := lev_fn n 0 f_frozen rfl
  rw [sm_frozen] at h
  exact h
theorem st_is_whole (n : Nat) : (B0.lev (n + 1)).1 1 = runF TT (B0.lev n).1 (B0.lev n).2 false ir_is_whole 1 := by
  have h := lev_fn n 1 f_is_whole rfl
  rw [sm_is_whole] at h
  exact h
theorem st_is_list (n : Nat) : (B0.lev (n + 1)).1 2 = runF TT (B0.lev n).1 (B0.lev n).2 false ir_is_list 1 := by
  have h := lev_fn n 2 f_is_list rfl
  rw [sm_is_list] at h
  exact h
theorem st_is_signs (n : Nat) : (B0.lev (n + 1)).1 3 = runF TT (B0.lev n).1 (B0.lev n).2 false ir_is_signs 3 := by
  have h := lev_fn n 3 f_is_signs rfl
  rw [sm_is_signs] at h
  exact h
theorem st_Web___eq__ (n : Nat) : (B0.lev (n + 1)).1 4 = runF TT (B0.lev n).1 (B0.lev n).2 false ir_Web___eq__ 2 := by
  have h := lev_fn n 4 f_Web___eq__ rfl
  rw [sm_Web___eq__] at h
  exact h
theorem st_sources_in (n : Nat) : (B0.lev (n + 1)).1 5 = runF TT (B0.lev n).1 (B0.lev n).2 false ir_sources_in 3 := by
  have h := lev_fn n 5 f_sources_in rfl
  rw [sm_sources_in] at h
  exact h
theorem st_LevelRules___eq__ (n : Nat) : (B0.lev (n + 1)).1 6 = runF TT (B0.lev n).1 (B0.lev n).2 false ir_LevelRules___eq__ 2 := by
  have h := lev_fn n 6 f_LevelRules___eq__ rfl
  rw [sm_LevelRules___eq__] at h
  exact h
theorem st_TwoLevels___eq__ (n : Nat) : (B0.lev (n + 1)).1 7 = runF TT (B0.lev n).1 (B0.lev n).2 false ir_TwoLevels___eq__ 2 := by
  have h := lev_fn n 7 f_TwoLevels___eq__ rfl
  rw [sm_TwoLevels___eq__] at h
  exact h
theorem st_NoLevels___eq__ (n : Nat) : (B0.lev (n + 1)).1 8 = runF TT (B0.lev n).1 (B0.lev n).2 false ir_NoLevels___eq__ 2 := by
  have h := lev_fn n 8 f_NoLevels___eq__ rfl
  rw [sm_NoLevels___eq__] at h
  exact h
theorem st_power_of_whole (n : Nat) : (B0.lev (n + 1)).1 9 = runF TT (B0.lev n).1 (B0.lev n).2 false ir_power_of_whole 4 := by
  have h := lev_fn n 9 f_power_of_whole rfl
  rw [sm_power_of_whole] at h
  exact h
theorem st_is_level_row (n : Nat) : (B0.lev (n + 1)).1 10 = runF TT (B0.lev n).1 (B0.lev n).2 false ir_is_level_row 4 := by
  have h := lev_fn n 10 f_is_level_row rfl
  rw [sm_is_level_row] at h
  exact h
theorem st_fits_levels (n : Nat) : (B0.lev (n + 1)).1 11 = runF TT (B0.lev n).1 (B0.lev n).2 false ir_fits_levels 10 := by
  have h := lev_fn n 11 f_fits_levels rfl
  rw [sm_fits_levels] at h
  exact h
theorem st_goal_in (n : Nat) : (B0.lev (n + 1)).1 12 = runF TT (B0.lev n).1 (B0.lev n).2 false ir_goal_in 6 := by
  have h := lev_fn n 12 f_goal_in rfl
  rw [sm_goal_in] at h
  exact h
theorem st_level_states (n : Nat) : (B0.lev (n + 1)).1 13 = runF TT (B0.lev n).1 (B0.lev n).2 false ir_level_states 5 := by
  have h := lev_fn n 13 f_level_states rfl
  rw [sm_level_states] at h
  exact h
theorem st_rests_at (n : Nat) : (B0.lev (n + 1)).1 14 = runF TT (B0.lev n).1 (B0.lev n).2 false ir_rests_at 3 := by
  have h := lev_fn n 14 f_rests_at rfl
  rw [sm_rests_at] at h
  exact h
theorem st_level_rests (n : Nat) : (B0.lev (n + 1)).1 15 = runF TT (B0.lev n).1 (B0.lev n).2 false ir_level_rests 2 := by
  have h := lev_fn n 15 f_level_rests rfl
  rw [sm_level_rests] at h
  exact h
theorem st_most_told (n : Nat) : (B0.lev (n + 1)).1 16 = runF TT (B0.lev n).1 (B0.lev n).2 false ir_most_told 1 := by
  have h := lev_fn n 16 f_most_told rfl
  rw [sm_most_told] at h
  exact h
theorem st_is_told_levels (n : Nat) : (B0.lev (n + 1)).1 17 = runF TT (B0.lev n).1 (B0.lev n).2 false ir_is_told_levels 2 := by
  have h := lev_fn n 17 f_is_told_levels rfl
  rw [sm_is_told_levels] at h
  exact h
theorem st_levels_of (n : Nat) : (B0.lev (n + 1)).1 18 = runF TT (B0.lev n).1 (B0.lev n).2 false ir_levels_of 3 := by
  have h := lev_fn n 18 f_levels_of rfl
  rw [sm_levels_of] at h
  exact h
theorem st_two_levels_hold (n : Nat) : (B0.lev (n + 1)).1 19 = runF TT (B0.lev n).1 (B0.lev n).2 false ir_two_levels_hold 3 := by
  have h := lev_fn n 19 f_two_levels_hold rfl
  rw [sm_two_levels_hold] at h
  exact h
theorem st_no_levels_hold (n : Nat) : (B0.lev (n + 1)).1 20 = runF TT (B0.lev n).1 (B0.lev n).2 false ir_no_levels_hold 3 := by
  have h := lev_fn n 20 f_no_levels_hold rfl
  rw [sm_no_levels_hold] at h
  exact h
theorem st__law_free_rows (n : Nat) : (B0.lev (n + 1)).1 21 = runF TT (B0.lev n).1 (B0.lev n).2 true ir__law_free_rows 5 := by
  have h := lev_fn n 21 f__law_free_rows rfl
  rw [sm__law_free_rows] at h
  exact h
theorem st__law_ordered_rows (n : Nat) : (B0.lev (n + 1)).1 22 = runF TT (B0.lev n).1 (B0.lev n).2 true ir__law_ordered_rows 7 := by
  have h := lev_fn n 22 f__law_ordered_rows rfl
  rw [sm__law_ordered_rows] at h
  exact h
theorem st__law_ring_rows (n : Nat) : (B0.lev (n + 1)).1 23 = runF TT (B0.lev n).1 (B0.lev n).2 true ir__law_ring_rows 6 := by
  have h := lev_fn n 23 f__law_ring_rows rfl
  rw [sm__law_ring_rows] at h
  exact h
theorem st__law_camp_rows (n : Nat) : (B0.lev (n + 1)).1 24 = runF TT (B0.lev n).1 (B0.lev n).2 true ir__law_camp_rows 5 := by
  have h := lev_fn n 24 f__law_camp_rows rfl
  rw [sm__law_camp_rows] at h
  exact h
theorem st__law_web_rows (n : Nat) : (B0.lev (n + 1)).1 25 = runF TT (B0.lev n).1 (B0.lev n).2 false ir__law_web_rows 5 := by
  have h := lev_fn n 25 f__law_web_rows rfl
  rw [sm__law_web_rows] at h
  exact h
theorem st__law_sources (n : Nat) : (B0.lev (n + 1)).1 26 = runF TT (B0.lev n).1 (B0.lev n).2 false ir__law_sources 3 := by
  have h := lev_fn n 26 f__law_sources rfl
  rw [sm__law_sources] at h
  exact h
theorem st__law_draw (n : Nat) : (B0.lev (n + 1)).1 27 = runF TT (B0.lev n).1 (B0.lev n).2 false ir__law_draw 5 := by
  have h := lev_fn n 27 f__law_draw rfl
  rw [sm__law_draw] at h
  exact h
theorem st__law_pick (n : Nat) : (B0.lev (n + 1)).1 28 = runF TT (B0.lev n).1 (B0.lev n).2 false ir__law_pick 2 := by
  have h := lev_fn n 28 f__law_pick rfl
  rw [sm__law_pick] at h
  exact h
theorem st__law_shuffled (n : Nat) : (B0.lev (n + 1)).1 29 = runF TT (B0.lev n).1 (B0.lev n).2 false ir__law_shuffled 5 := by
  have h := lev_fn n 29 f__law_shuffled rfl
  rw [sm__law_shuffled] at h
  exact h
theorem st__law_is_int (n : Nat) : (B0.lev (n + 1)).1 30 = runF TT (B0.lev n).1 (B0.lev n).2 false ir__law_is_int 1 := by
  have h := lev_fn n 30 f__law_is_int rfl
  rw [sm__law_is_int] at h
  exact h
theorem st__law_units (n : Nat) : (B0.lev (n + 1)).1 31 = runF TT (B0.lev n).1 (B0.lev n).2 false ir__law_units 4 := by
  have h := lev_fn n 31 f__law_units rfl
  rw [sm__law_units] at h
  exact h
theorem st__law_level_table (n : Nat) : (B0.lev (n + 1)).1 32 = runF TT (B0.lev n).1 (B0.lev n).2 false ir__law_level_table 16 := by
  have h := lev_fn n 32 f__law_level_table rfl
  rw [sm__law_level_table] at h
  exact h
theorem st__law_level_tables (n : Nat) : (B0.lev (n + 1)).1 33 = runF TT (B0.lev n).1 (B0.lev n).2 false ir__law_level_tables 5 := by
  have h := lev_fn n 33 f__law_level_tables rfl
  rw [sm__law_level_tables] at h
  exact h
theorem st__law_goal (n : Nat) : (B0.lev (n + 1)).1 34 = runF TT (B0.lev n).1 (B0.lev n).2 false ir__law_goal 8 := by
  have h := lev_fn n 34 f__law_goal rfl
  rw [sm__law_goal] at h
  exact h
theorem st__law_level_states (n : Nat) : (B0.lev (n + 1)).1 35 = runF TT (B0.lev n).1 (B0.lev n).2 false ir__law_level_states 7 := by
  have h := lev_fn n 35 f__law_level_states rfl
  rw [sm__law_level_states] at h
  exact h
theorem st__law_level_rests (n : Nat) : (B0.lev (n + 1)).1 36 = runF TT (B0.lev n).1 (B0.lev n).2 false ir__law_level_rests 5 := by
  have h := lev_fn n 36 f__law_level_rests rfl
  rw [sm__law_level_rests] at h
  exact h
theorem st__law_is_levels (n : Nat) : (B0.lev (n + 1)).1 37 = runF TT (B0.lev n).1 (B0.lev n).2 false ir__law_is_levels 4 := by
  have h := lev_fn n 37 f__law_is_levels rfl
  rw [sm__law_is_levels] at h
  exact h
theorem st__law_says_not (n : Nat) : (B0.lev (n + 1)).1 38 = runF TT (B0.lev n).1 (B0.lev n).2 false ir__law_says_not 2 := by
  have h := lev_fn n 38 f__law_says_not rfl
  rw [sm__law_says_not] at h
  exact h
theorem st__law_two_right (n : Nat) : (B0.lev (n + 1)).1 39 = runF TT (B0.lev n).1 (B0.lev n).2 false ir__law_two_right 5 := by
  have h := lev_fn n 39 f__law_two_right rfl
  rw [sm__law_two_right] at h
  exact h
theorem st__law_none_right (n : Nat) : (B0.lev (n + 1)).1 40 = runF TT (B0.lev n).1 (B0.lev n).2 false ir__law_none_right 4 := by
  have h := lev_fn n 40 f__law_none_right rfl
  rw [sm__law_none_right] at h
  exact h
theorem st__law_some_rules (n : Nat) : (B0.lev (n + 1)).1 41 = runF TT (B0.lev n).1 (B0.lev n).2 false ir__law_some_rules 7 := by
  have h := lev_fn n 41 f__law_some_rules rfl
  rw [sm__law_some_rules] at h
  exact h
theorem st_Web___init__ (n : Nat) : (B0.lev (n + 1)).2 0 = runI TT (B0.lev n).1 (B0.lev n).2 ir_Web___init__ 3 0 := by
  have h := lev_in n 0 f_Web___init__ rfl
  rw [sm_Web___init__] at h
  exact h
theorem st_LevelRules___init__ (n : Nat) : (B0.lev (n + 1)).2 1 = runI TT (B0.lev n).1 (B0.lev n).2 ir_LevelRules___init__ 6 1 := by
  have h := lev_in n 1 f_LevelRules___init__ rfl
  rw [sm_LevelRules___init__] at h
  exact h
theorem st_TwoLevels___init__ (n : Nat) : (B0.lev (n + 1)).2 2 = runI TT (B0.lev n).1 (B0.lev n).2 ir_TwoLevels___init__ 4 2 := by
  have h := lev_in n 2 f_TwoLevels___init__ rfl
  rw [sm_TwoLevels___init__] at h
  exact h
theorem st_NoLevels___init__ (n : Nat) : (B0.lev (n + 1)).2 3 = runI TT (B0.lev n).1 (B0.lev n).2 ir_NoLevels___init__ 2 3 := by
  have h := lev_in n 3 f_NoLevels___init__ rfl
  rw [sm_NoLevels___init__] at h
  exact h
end UK

set_option Elab.async false
set_option linter.all false
set_option maxRecDepth 100000
set_option maxHeartbeats 4000000
namespace UK
open PySem PySem.Spec PyProof.Rows L2
/-! ### the draws' logic -/
structure Ok (N : Int) (π : Pen) : Prop where
  pos : 0 ≤ π.pos
  dig : 0 ≤ π.digits
  cnt : 0 ≤ π.count
  bud : π.count + N ≤ 1000000000
  f0 : 0 ≤ π.fold
  f1 : π.fold < 2147483648
def Dr {α : Type} (k : Int) (m : M α) (P : α → Prop) : Prop := ∀ N π, 0 ≤ N → Ok (N + k) π → ∃ a π', m π = some (a, π') ∧ Ok N π' ∧ P a
theorem Dr.ret {α : Type} {k : Int} {a : α} {P : α → Prop} (hk : 0 ≤ k) (h : P a) : Dr k (UK.ret a) P := fun N π _ o => ⟨a, π, rfl, ⟨o.pos, o.dig, o.cnt, by have := o.bud; omega, o.f0, o.f1⟩, h⟩
theorem Dr.bnd {α β : Type} {k k1 k2 : Int} {m : M α} {f : α → M β} {P : α → Prop} {Q : β → Prop} (h : Dr k1 m P) (hk : k1 + k2 ≤ k) (h2 : 0 ≤ k2) (g : ∀ a, P a → Dr k2 (f a) Q) : Dr k (UK.bnd m f) Q := fun N π hN o => by
  obtain ⟨a, π1, e1, o1, p1⟩ := h (N + k2) π (by omega) ⟨o.pos, o.dig, o.cnt, by have := o.bud; omega, o.f0, o.f1⟩
  obtain ⟨b, π2, e2, o2, p2⟩ := g a p1 N π1 hN o1
  exact ⟨b, π2, by unfold UK.bnd; rw [e1]; exact e2, o2, p2⟩
theorem Dr.mono {α : Type} {k k' : Int} {m : M α} {P P' : α → Prop} (h : Dr k m P) (hk : k ≤ k') (g : ∀ a, P a → P' a) : Dr k' m P' := fun N π hN o => by
  obtain ⟨a, π', e, o', p⟩ := h N π hN ⟨o.pos, o.dig, o.cnt, by have := o.bud; omega, o.f0, o.f1⟩
  exact ⟨a, π', e, o', g a p⟩
/-! ### the small defs -/
def wholeB (d : D) : Bool := isT d .int && !isT d .bool
def listB (d : D) : Bool := isT d .tuple || isT d .list
theorem evS_ret (T : Tabs) (φ ψ : Fns) (e : E) (env : Env') : evS T φ ψ (.ret e) env = bnd (bnd (evE T φ ψ e (frz (frE e) env)) fun d => ret (d, frz (frE e) env)) fun r => ret (.ret r.1, r.2) := rfl
theorem is_whole_ev (n : Nat) (d : D) : (B0.lev (n + 1)).1 1 [d] = ret (.bl (wholeB d)) := by
  rw [st_is_whole]
  cases d <;> rfl
theorem is_list_ev (n : Nat) (d : D) : (B0.lev (n + 1)).1 2 [d] = ret (.bl (listB d)) := by
  rw [st_is_list]
  cases d <;> rfl
theorem seq_ev (T : Tabs) (φ ψ : Fns) (a b : Sm) (env : Env') : evS T φ ψ (.seq a b) env = bnd (evS T φ ψ a env) fun r => match r with
    | (.nx, env') => evS T φ ψ b env'
    | r => ret r := rfl
theorem frozen_ev0 (n : Nat) (d : D) (h : listB d = false) : (B0.lev (n + 1)).1 0 [d] = ret d := by
  rw [st_frozen]
  cases d <;> first | rfl | (cases h; done)
end UK

set_option Elab.async false
set_option linter.all false
set_option maxRecDepth 100000
set_option maxHeartbeats 4000000
namespace UK
open PySem PySem.Spec PyProof.Rows L2
/-! ### the evaluator's steps, as simp rules -/
@[simp] theorem cmp_eq_int (φ : Fns) (eqt : EqT) (a b : Int) : cmpM φ eqt .eq (.int a) (.int b) = ret (.bl (decide (a = b))) := by
  show (match eqD (.int a) (.int b) with | some r => ret (D.bl r) | none => stuck) = _
  have e : eqD (.int a) (.int b) = some (decide (a = b)) := by
    show some (PyData.eqv (.int a) (.int b)) = _
    congr 1
  rw [e]
@[simp] theorem cmp_ne_int (φ : Fns) (eqt : EqT) (a b : Int) : cmpM φ eqt .ne (.int a) (.int b) = ret (.bl (!decide (a = b))) := by
  show bnd (cmpM φ eqt .eq (.int a) (.int b)) notD = _
  rw [cmp_eq_int]
  rfl
@[simp] theorem cmp_lt_int (φ : Fns) (eqt : EqT) (a b : Int) : cmpM φ eqt .lt (.int a) (.int b) = ret (.bl (decide (a < b))) := rfl
@[simp] theorem cmp_le_int (φ : Fns) (eqt : EqT) (a b : Int) : cmpM φ eqt .le (.int a) (.int b) = ret (.bl (decide (a ≤ b))) := rfl
@[simp] theorem cmp_gt_int (φ : Fns) (eqt : EqT) (a b : Int) : cmpM φ eqt .gt (.int a) (.int b) = ret (.bl (decide (b < a))) := rfl
@[simp] theorem cmp_ge_int (φ : Fns) (eqt : EqT) (a b : Int) : cmpM φ eqt .ge (.int a) (.int b) = ret (.bl (decide (b ≤ a))) := rfl
@[simp] theorem bin_add_int (a b : Int) : binD .add (.int a) (.int b) = ret (.int (a + b)) := rfl
@[simp] theorem bin_sub_int (a b : Int) : binD .sub (.int a) (.int b) = ret (.int (a - b)) := rfl
theorem bin_mul_int {a b : Int} (h : (small64 a || small64 b) = true) : binD .mul (.int a) (.int b) = ret (.int (a * b)) := by
  show guardM (small64 a || small64 b) _ = _
  unfold guardM; rw [if_pos h]
theorem small64_of {a : Int} (h1 : -(2 ^ 64) < a) (h2 : a < 2 ^ 64) : small64 a = true := by
  unfold small64
  rw [decide_eq_true h1, decide_eq_true h2]; rfl
theorem bin_fdiv_int {a b : Int} (h1 : 0 < b) (h2 : b < 1073741824) : binD .fdiv (.int a) (.int b) = ret (.int (a / b)) := by
  show guardM (decide (0 < b) && decide (b < 1073741824)) _ = _
  unfold guardM; rw [decide_eq_true h1, decide_eq_true h2]; rfl
theorem bin_mod_int {a b : Int} (h1 : 0 < b) : binD .mod (.int a) (.int b) = ret (.int (a % b)) := by
  show guardM (decide (0 < b)) _ = _
  unfold guardM; rw [decide_eq_true h1]; rfl
theorem bin_pow_int {a b : Int} (h1 : 0 ≤ b) (h2 : b ≤ 1000000) (h3 : a.natAbs < 2 ^ 64) : binD .pow (.int a) (.int b) = ret (.int (a ^ b.toNat)) := by
  show guardM (decide (0 ≤ b) && (decide (b ≤ 1000000) && decide (a.natAbs < 2 ^ 64))) _ = _
  unfold guardM; rw [decide_eq_true h1, decide_eq_true h2, decide_eq_true h3]; rfl
@[simp] theorem b1_int (a : Int) : b1D .int (.int a) = ret (.int a) := rfl
@[simp] theorem b1_len_l (xs : List D) : b1D .len (.lst xs) = ret (.int xs.length) := rfl
@[simp] theorem b1_len_t (xs : List D) : b1D .len (.tup xs) = ret (.int xs.length) := rfl
@[simp] theorem b1_tuple_l (xs : List D) : b1D .tuple (.lst xs) = ret (.tup xs) := rfl
@[simp] theorem b1_tuple_t (xs : List D) : b1D .tuple (.tup xs) = ret (.tup xs) := rfl
@[simp] theorem b1_list_l (xs : List D) : b1D .list (.lst xs) = ret (.lst xs) := rfl
@[simp] theorem b1_list_t (xs : List D) : b1D .list (.tup xs) = ret (.lst xs) := rfl
@[simp] theorem endF_ret (d : D) : endF false (.ret d) = ret d := rfl
@[simp] theorem endF_nx : endF false .nx = ret .non := rfl
theorem bnd_at {α β : Type} (m : M α) (f : α → M β) (π : Pen) : bnd m f π = match m π with
  | some (a, π') => f a π'
  | none => none := rfl
theorem ret_at {α : Type} (a : α) (π : Pen) : ret a π = some (a, π) := rfl
theorem getP_at (k : PK) (π : Pen) : getP k π = some (pval k π, π) := rfl
theorem putP_at {α : Type} (k : PK) (v : Int) (a : α) (π : Pen) : putP k v a π = match pputs k v π with
  | some π' => some (a, π')
  | none => none := rfl
theorem atI_ok {α : Type} {xs : List α} {i : Int} (h0 : 0 ≤ i) (h1 : i < xs.length) : ∃ x, atI xs i = some x ∧ x ∈ xs ∧ xs[i.toNat]? = some x := by
  have e : ixN xs.length i = some i.toNat := by unfold ixN; rw [if_pos h0, if_pos h1]
  have hl : i.toNat < xs.length := by omega
  refine ⟨xs[i.toNat], ?_, List.getElem_mem hl, List.getElem?_eq_getElem hl⟩
  unfold atI
  rw [e]
  exact List.getElem?_eq_getElem hl
@[simp] theorem E_var {T : Tabs} {φ ψ : Fns} {env : Env'} {i : Nat} : evE T φ ψ (.var i) env = getSh env i := rfl
@[simp] theorem E_slot {T : Tabs} {φ ψ : Fns} {env : Env'} {i : Nat} : evE T φ ψ (.slot i) env = getAny env i := rfl
@[simp] theorem E_non {T : Tabs} {φ ψ : Fns} {env : Env'}  : evE T φ ψ .non env = ret .non := rfl
@[simp] theorem E_bl {T : Tabs} {φ ψ : Fns} {env : Env'} {b : Bool} : evE T φ ψ (.bl b) env = ret (.bl b) := rfl
@[simp] theorem E_int {T : Tabs} {φ ψ : Fns} {env : Env'} {b : Int} : evE T φ ψ (.int b) env = ret (.int b) := rfl
@[simp] theorem E_str {T : Tabs} {φ ψ : Fns} {env : Env'} {b : Str} : evE T φ ψ (.str b) env = ret (.str b) := rfl
@[simp] theorem E_bin {T : Tabs} {φ ψ : Fns} {env : Env'} {op : Bop} {a b : E} : evE T φ ψ (.bin op a b) env = bnd (evE T φ ψ a env) fun x => bnd (evE T φ ψ b env) fun y => binD op x y := rfl
def negD : D → M D
  | .int i => ret (.int (-i))
  | _ => stuck
@[simp] theorem E_neg {T : Tabs} {φ ψ : Fns} {env : Env'} {a : E} : evE T φ ψ (.neg a) env = bnd (evE T φ ψ a env) negD := rfl
@[simp] theorem neg_int {i : Int} : negD (.int i) = ret (.int (-i)) := rfl
@[simp] theorem E_cmp {T : Tabs} {φ ψ : Fns} {env : Env'} {op : Cop} {a b : E} : evE T φ ψ (.cmp op a b) env = bnd (evE T φ ψ a env) fun x => bnd (evE T φ ψ b env) fun y => cmpM φ T.eqt op x y := rfl
def thenD (m : M D) : D → M D
  | .bl true => m
  | .bl false => ret (.bl false)
  | _ => stuck
def elseD (m : M D) : D → M D
  | .bl true => ret (.bl true)
  | .bl false => m
  | _ => stuck
def iffD {α : Type} (m r : M α) : D → M α
  | .bl true => m
  | .bl false => r
  | _ => stuck
@[simp] theorem thenD_bl {m : M D} {b : Bool} : thenD m (.bl b) = if b = true then m else ret (.bl false) := by cases b <;> rfl
@[simp] theorem elseD_bl {m : M D} {b : Bool} : elseD m (.bl b) = if b = true then ret (.bl true) else m := by cases b <;> rfl
@[simp] theorem iffD_bl {α : Type} {m r : M α} {b : Bool} : iffD m r (.bl b) = if b = true then m else r := by cases b <;> rfl
@[simp] theorem notD_bl {b : Bool} : notD (.bl b) = ret (.bl (!b)) := rfl
@[simp] theorem E_chn {T : Tabs} {φ ψ : Fns} {env : Env'} {o1 o2 : Cop} {a b c : E} : evE T φ ψ (.chn o1 o2 a b c) env = bnd (evE T φ ψ a env) fun x => bnd (evE T φ ψ b env) fun y => bnd (cmpM φ T.eqt o1 x y) (thenD (bnd (evE T φ ψ c env) fun z => cmpM φ T.eqt o2 y z)) := rfl
@[simp] theorem E_and {T : Tabs} {φ ψ : Fns} {env : Env'} {a b : E} : evE T φ ψ (.and a b) env = bnd (evE T φ ψ a env) (thenD (evE T φ ψ b env)) := rfl
@[simp] theorem E_or {T : Tabs} {φ ψ : Fns} {env : Env'} {a b : E} : evE T φ ψ (.or a b) env = bnd (evE T φ ψ a env) (elseD (evE T φ ψ b env)) := rfl
@[simp] theorem E_not {T : Tabs} {φ ψ : Fns} {env : Env'} {a : E} : evE T φ ψ (.not a) env = bnd (evE T φ ψ a env) notD := rfl
@[simp] theorem E_ite {T : Tabs} {φ ψ : Fns} {env : Env'} {c a b : E} : evE T φ ψ (.ite c a b) env = bnd (evE T φ ψ c env) (iffD (evE T φ ψ a env) (evE T φ ψ b env)) := rfl
@[simp] theorem E_call {T : Tabs} {φ ψ : Fns} {env : Env'} {f : Nat} {as : A} : evE T φ ψ (.call f as) env = bnd (evA T φ ψ as env) fun xs => φ f xs := rfl
@[simp] theorem E_mk {T : Tabs} {φ ψ : Fns} {env : Env'} {f : Nat} {as : A} : evE T φ ψ (.mk f as) env = bnd (evA T φ ψ as env) fun xs => ψ f xs := rfl
@[simp] theorem E_fld {T : Tabs} {φ ψ : Fns} {env : Env'} {a : E} {x : Str} : evE T φ ψ (.fld a x) env = bnd (evE T φ ψ a env) fun d => fldD T.CT x d := rfl
@[simp] theorem E_nfl {T : Tabs} {φ ψ : Fns} {env : Env'} {i : Nat} {x : Str} : evE T φ ψ (.nfl i x) env = nflD T.CT x env i := rfl
@[simp] theorem E_idx {T : Tabs} {φ ψ : Fns} {env : Env'} {a i : E} : evE T φ ψ (.idx a i) env = bnd (evE T φ ψ a env) fun x => bnd (evE T φ ψ i env) fun y => idxD x y := rfl
@[simp] theorem E_slc {T : Tabs} {φ ψ : Fns} {env : Env'} {a : E} {lo hi : O} : evE T φ ψ (.slc a lo hi) env = bnd (evE T φ ψ a env) fun x => bnd (evO T φ ψ lo env) fun l => bnd (partD l) fun l => bnd (evO T φ ψ hi env) fun h => bnd (partD h) fun h => slcD x l h := rfl
@[simp] theorem E_rev {T : Tabs} {φ ψ : Fns} {env : Env'} {a : E} : evE T φ ψ (.rev a) env = bnd (evE T φ ψ a env) revD := rfl
@[simp] theorem E_tup {T : Tabs} {φ ψ : Fns} {env : Env'} {as : A} : evE T φ ψ (.tup as) env = bnd (evA T φ ψ as env) fun xs => guardM (decide (xs.length ≤ LIM)) (ret (.tup xs)) := rfl
@[simp] theorem E_lst {T : Tabs} {φ ψ : Fns} {env : Env'} {as : A} : evE T φ ψ (.lst as) env = bnd (evA T φ ψ as env) fun xs => guardM (decide (xs.length ≤ LIM)) (ret (.lst xs)) := rfl
@[simp] theorem E_b1 {T : Tabs} {φ ψ : Fns} {env : Env'} {f : B1} {a : E} : evE T φ ψ (.b1 f a) env = bnd (evE T φ ψ a env) (b1D f) := rfl
@[simp] theorem E_b2 {T : Tabs} {φ ψ : Fns} {env : Env'} {f : B2} {a b : E} : evE T φ ψ (.b2 f a b) env = bnd (evE T φ ψ a env) fun x => bnd (evE T φ ψ b env) fun y => b2D f x y := rfl
@[simp] theorem E_isi {T : Tabs} {φ ψ : Fns} {env : Env'} {a : E} {ts : List Ty} : evE T φ ψ (.isi a ts) env = bnd (evE T φ ψ a env) fun x => ret (.bl (ts.any (isT x))) := rfl
@[simp] theorem E_lc {T : Tabs} {φ ψ : Fns} {env : Env'} {own tg : List Nat} {elt : E} {it : Itn} {c : O} : evE T φ ψ (.lc own elt tg it c) env = bnd (evI T φ ψ it env) fun xs => guardM (decide (xs.length ≤ LIM)) (bnd (mapM' (elM tg (evE T φ ψ elt) (evO T φ ψ c) (wipeE env own)) xs) fun ys => ret (.lst ys)) := rfl
@[simp] theorem E_lc2 {T : Tabs} {φ ψ : Fns} {env : Env'} {own tg tg2 : List Nat} {elt : E} {it it2 : Itn} {c c2 : O} : evE T φ ψ (.lc2 own elt tg it c tg2 it2 c2) env = bnd (evI T φ ψ it env) fun xs => bnd (flatM (el2M tg tg2 (evE T φ ψ elt) (evO T φ ψ c) (evI T φ ψ it2) (evO T φ ψ c2) (wipeE env own)) xs) fun ys => guardM (decide (ys.length ≤ LIM)) (ret (.lst ys)) := rfl
@[simp] theorem E_dic {T : Tabs} {φ ψ : Fns} {env : Env'} {k : Key} {v : E} : evE T φ ψ (.dic k v) env = bnd (evE T φ ψ v env) fun d => ret (.dic [k] [d]) := rfl
def lrgD : D → M D
  | .int n => guardM (smallR n) (ret (.lst (rngD 0 n.toNat)))
  | _ => stuck
def pgD (k : PK) : D → M D
  | .pen => getP k
  | _ => stuck
@[simp] theorem pgD_pen {k : PK} : pgD k .pen = getP k := rfl
@[simp] theorem E_lrg {T : Tabs} {φ ψ : Fns} {env : Env'} {a : E} : evE T φ ψ (.lrg a) env = bnd (evE T φ ψ a env) lrgD := rfl
@[simp] theorem E_pget {T : Tabs} {φ ψ : Fns} {env : Env'} {i : Nat} {k : PK} : evE T φ ψ (.pget i k) env = bnd (getSh env i) (pgD k) := rfl
@[simp] theorem A_nil {T : Tabs} {φ ψ : Fns} {env : Env'}  : evA T φ ψ .nil env = ret [] := rfl
@[simp] theorem A_cons {T : Tabs} {φ ψ : Fns} {env : Env'} {e : E} {r : A} : evA T φ ψ (.cons e r) env = bnd (evE T φ ψ e env) fun x => bnd (evA T φ ψ r env) fun xs => ret (x :: xs) := rfl
@[simp] theorem O_no {T : Tabs} {φ ψ : Fns} {env : Env'}  : evO T φ ψ .no env = ret none := rfl
@[simp] theorem O_yes {T : Tabs} {φ ψ : Fns} {env : Env'} {e : E} : evO T φ ψ (.yes e) env = bnd (evE T φ ψ e env) fun x => ret (some x) := rfl
def r1D : D → M (List D)
  | .int n => guardM (smallR n) (ret (rngD 0 n.toNat))
  | _ => stuck
def r2D : D → D → M (List D)
  | .int i, .int j => guardM (smallR i && smallR j) (ret (rngD i (j - i).toNat))
  | _, _ => stuck
@[simp] theorem I_r1 {T : Tabs} {φ ψ : Fns} {env : Env'} {a : E} : evI T φ ψ (.r1 a) env = bnd (evE T φ ψ a env) r1D := rfl
@[simp] theorem I_r2 {T : Tabs} {φ ψ : Fns} {env : Env'} {a b : E} : evI T φ ψ (.r2 a b) env = bnd (evE T φ ψ a env) fun x => bnd (evE T φ ψ b env) fun y => r2D x y := rfl
@[simp] theorem I_sq {T : Tabs} {φ ψ : Fns} {env : Env'} {a : E} : evI T φ ψ (.sq a) env = bnd (evE T φ ψ a env) fun x => opt (seqD x) := rfl
@[simp] theorem X_ev {T : Tabs} {φ ψ : Fns} {env : Env'} {e : E} : evX T φ ψ e env = bnd (evE T φ ψ e (frz (frE e) env)) fun d => ret (d, frz (frE e) env) := rfl
@[simp] theorem S_nop {T : Tabs} {φ ψ : Fns} {env : Env'}  : evS T φ ψ .nop env = ret (.nx, env) := rfl
def seqD' (f : Env' → M (Flw × Env')) : Flw × Env' → M (Flw × Env')
  | (.nx, env') => f env'
  | r => ret r
@[simp] theorem seqD_nx {f : Env' → M (Flw × Env')} {env : Env'} : seqD' f (.nx, env) = f env := rfl
@[simp] theorem seqD_ret {f : Env' → M (Flw × Env')} {env : Env'} {d : D} : seqD' f (.ret d, env) = ret (.ret d, env) := rfl
@[simp] theorem S_seq {T : Tabs} {φ ψ : Fns} {env : Env'} {a b : Sm} : evS T φ ψ (.seq a b) env = bnd (evS T φ ψ a env) (seqD' (evS T φ ψ b)) := by
  show bnd _ _ = bnd _ _
  congr 1
@[simp] theorem S_set {T : Tabs} {φ ψ : Fns} {env : Env'} {i : Nat} {e : E} : evS T φ ψ (.set i e) env = bnd (evX T φ ψ e env) fun r => ret (.nx, r.2.set i (.sh r.1)) := rfl
def ownD (i : Nat) : D × Env' → M (Flw × Env')
  | (.lst ds, env) => ret (.nx, env.set i (.ow ds))
  | _ => stuck
@[simp] theorem ownD_lst {i : Nat} {ds : List D} {env : Env'} : ownD i (.lst ds, env) = ret (.nx, env.set i (.ow ds)) := rfl
theorem S_own {T : Tabs} {φ ψ : Fns} {env : Env'} {i : Nat} {e : E} : evS T φ ψ (.own i e) env = bnd (evX T φ ψ e env) (ownD i) := by
  show bnd _ _ = bnd _ _
  congr 1
  funext r
  obtain ⟨d, env'⟩ := r
  cases d <;> rfl
@[simp] theorem S_exp {T : Tabs} {φ ψ : Fns} {env : Env'} {e : E} : evS T φ ψ (.exp e) env = bnd (evX T φ ψ e env) fun r => ret (.nx, r.2) := rfl
@[simp] theorem S_ite {T : Tabs} {φ ψ : Fns} {env : Env'} {c : E} {a b : Sm} : evS T φ ψ (.ite c a b) env = bnd (evX T φ ψ c env) fun r => iffD (evS T φ ψ a r.2) (evS T φ ψ b r.2) r.1 := rfl
@[simp] theorem S_for {T : Tabs} {φ ψ : Fns} {env : Env'} {tg : List Nat} {it : Itn} {b : Sm} : evS T φ ψ (.for_ tg it b) env = bnd (evI T φ ψ it (frz (frI it) env)) fun xs => forD (evS T φ ψ b) tg xs (frz (frI it) env) := rfl
@[simp] theorem S_ret {T : Tabs} {φ ψ : Fns} {env : Env'} {e : E} : evS T φ ψ (.ret e) env = bnd (evX T φ ψ e env) fun r => ret (.ret r.1, r.2) := rfl
def psetD (i : Nat) (k : PK) : D × Env' → M (Flw × Env') := fun r => match r.2[i]?, r.1 with
    | some (.sh .pen), .int v => putP k v (.nx, r.2)
    | _, _ => stuck
@[simp] theorem S_pset {T : Tabs} {φ ψ : Fns} {env : Env'} {i : Nat} {k : PK} {e : E} : evS T φ ψ (.pset i k e) env = bnd (evX T φ ψ e env) (psetD i k) := rfl
@[simp] theorem frE_var (i : Nat) : frE (.var i) = [i] := rfl
@[simp] theorem frE_slot (i : Nat) : frE (.slot i) = [] := rfl
@[simp] theorem frE_non  : frE (.non) = [] := rfl
@[simp] theorem frE_bl (b : Bool) : frE (.bl b) = [] := rfl
@[simp] theorem frE_int (i : Int) : frE (.int i) = [] := rfl
@[simp] theorem frE_str (x : Str) : frE (.str x) = [] := rfl
@[simp] theorem frE_bin (o : Bop) (a b : E) : frE (.bin o a b) = frE a ++ frE b := rfl
@[simp] theorem frE_neg (a : E) : frE (.neg a) = frE a := rfl
@[simp] theorem frE_cmp (o : Cop) (a b : E) : frE (.cmp o a b) = frE a ++ frE b := rfl
@[simp] theorem frE_chn (o p : Cop) (a b c : E) : frE (.chn o p a b c) = frE a ++ frE b ++ frE c := rfl
@[simp] theorem frE_and (a b : E) : frE (.and a b) = frE a ++ frE b := rfl
@[simp] theorem frE_or (a b : E) : frE (.or a b) = frE a ++ frE b := rfl
@[simp] theorem frE_not (a : E) : frE (.not a) = frE a := rfl
@[simp] theorem frE_ite (c a b : E) : frE (.ite c a b) = frE c ++ frE a ++ frE b := rfl
@[simp] theorem frE_call (f : Nat) (as : A) : frE (.call f as) = frA as := rfl
@[simp] theorem frE_mk (f : Nat) (as : A) : frE (.mk f as) = frA as := rfl
@[simp] theorem frE_fld (a : E) (x : Str) : frE (.fld a x) = frE a := rfl
@[simp] theorem frE_nfl (i : Nat) (x : Str) : frE (.nfl i x) = [] := rfl
@[simp] theorem frE_idx (a b : E) : frE (.idx a b) = frE a ++ frE b := rfl
@[simp] theorem frE_slc (a : E) (l h : O) : frE (.slc a l h) = frE a ++ frO l ++ frO h := rfl
@[simp] theorem frE_rev (a : E) : frE (.rev a) = frE a := rfl
@[simp] theorem frE_tup (as : A) : frE (.tup as) = frA as := rfl
@[simp] theorem frE_lst (as : A) : frE (.lst as) = frA as := rfl
@[simp] theorem frE_b1 (f : B1) (a : E) : frE (.b1 f a) = frE a := rfl
@[simp] theorem frE_b2 (f : B2) (a b : E) : frE (.b2 f a b) = frE a ++ frE b := rfl
@[simp] theorem frE_isi (a : E) (ts : List Ty) : frE (.isi a ts) = frE a := rfl
@[simp] theorem frE_lc (o tg : List Nat) (e : E) (it : Itn) (c : O) : frE (.lc o e tg it c) = frE e ++ frI it ++ frO c := rfl
@[simp] theorem frE_lc2 (o tg t2 : List Nat) (e : E) (it i2 : Itn) (c c2 : O) : frE (.lc2 o e tg it c t2 i2 c2) = frE e ++ frI it ++ frO c ++ frI i2 ++ frO c2 := rfl
@[simp] theorem frE_dic (k : Key) (a : E) : frE (.dic k a) = frE a := rfl
@[simp] theorem frE_lrg (a : E) : frE (.lrg a) = frE a := rfl
@[simp] theorem frE_pget (i : Nat) (k : PK) : frE (.pget i k) = [] := rfl
@[simp] theorem frA_nil : frA .nil = [] := rfl
@[simp] theorem frA_cons (e : E) (r : A) : frA (.cons e r) = frE e ++ frA r := rfl
@[simp] theorem frO_no : frO .no = [] := rfl
@[simp] theorem frO_yes (e : E) : frO (.yes e) = frE e := rfl
@[simp] theorem frI_r1 (a : E) : frI (.r1 a) = frE a := rfl
@[simp] theorem frI_r2 (a b : E) : frI (.r2 a b) = frE a ++ frE b := rfl
@[simp] theorem frI_sq (a : E) : frI (.sq a) = frE a := rfl
@[simp] theorem frz_nil (env : Env') : frz [] env = env := rfl
@[simp] theorem frz_cons (i : Nat) (is : List Nat) (env : Env') : frz (i :: is) env = frz is (frz1 env i) := rfl
section
theorem draw_dig (φ ψ : Fns) (many : Int) (cells : List Int) (pos digits count fold : Int) (h : ¬ digits = 0) (h1 : 0 < digits) (h2 : 0 < many) (h3 : many < 1073741824) : runF TT φ ψ false ir__law_draw 5 [.pen, .int many] ⟨cells, pos, digits, count, fold⟩ = some (.int (digits % many), ⟨cells, pos, digits / many, count + 1, fold⟩) := by
  unfold runF ir__law_draw
  simp [startE, getSh, getAny, frz1, bnd_at, ret_at, getP_at, putP_at, pval, pputs, psetD, h, h1, bin_mod_int h2, bin_fdiv_int h2 h3]
theorem draw_mix (φ ψ : Fns) (many : Int) (cells : List Int) (pos count fold : Int) (h : ¬ pos < cells.length) (h2 : 0 < many) (h3 : many < 1073741824) (h4 : 0 ≤ fold) (h5 : fold < 2147483648) (h6 : 0 ≤ count) (h7 : count < 1000000000) : runF TT φ ψ false ir__law_draw 5 [.pen, .int many] ⟨cells, pos, 0, count, fold⟩ = some (.int (((fold + (count + 1) * 8513 + 61) ^ 19 % 2305843009213693951) / 256 % many), ⟨cells, pos, 0, count + 1, fold⟩) := by
  have e : (fold + (count + 1) * 8513 + 61).natAbs < 2 ^ 64 := by omega
  have e8 : (small64 (count + 1) || small64 8513) = true := by rw [small64_of (a := 8513) (by decide) (by decide)]; simp
  unfold runF ir__law_draw
  simp [startE, getSh, getAny, frz1, bnd_at, ret_at, getP_at, putP_at, pval, pputs, psetD, h, bin_mul_int e8, bin_pow_int (a := fold + (count + 1) * 8513 + 61) (b := 19) (by decide) (by decide) e, bin_mod_int (b := 2305843009213693951) (by decide), bin_fdiv_int (b := 256) (by decide) (by decide), bin_mod_int h2]
end
end UK

set_option Elab.async false
set_option linter.all false
set_option maxRecDepth 100000
set_option maxHeartbeats 4000000
namespace UK
open PySem PySem.Spec PyProof.Rows L2
theorem atI_ints {cells : List Int} {pos : Int} (h0 : 0 ≤ pos) (h : pos < cells.length) : ∃ c, atI (cells.map D.int) pos = some (.int c) := by
  obtain ⟨x, e, hx, _⟩ := atI_ok (xs := cells.map D.int) h0 (by simpa using h)
  obtain ⟨c, _, rfl⟩ := List.mem_map.mp hx
  exact ⟨c, e⟩
theorem idx_lst {xs : List D} {i : Int} {x : D} (h : atI xs i = some x) : idxD (.lst xs) (.int i) = ret x := by
  show opt (atI xs i) = _
  rw [h]; rfl
theorem idx_tup {xs : List D} {i : Int} {x : D} (h : atI xs i = some x) : idxD (.tup xs) (.int i) = ret x := by
  show opt (atI xs i) = _
  rw [h]; rfl
theorem draw_big (φ ψ : Fns) (many : Int) (cells : List Int) (pos count fold c : Int) (h : pos < cells.length) (hc : atI (cells.map D.int) pos = some (.int c)) (hb : 1000000000000000000 < c) (h2 : 0 < many) (h3 : many < 1073741824) : runF TT φ ψ false ir__law_draw 5 [.pen, .int many] ⟨cells, pos, 0, count, fold⟩ = some (.int ((c - 1000000000000000000) % many), ⟨cells, pos + 1, (c - 1000000000000000000) / many, count + 1, fold⟩) := by
  have e1 : (1000000000000000000 : Int) ≤ c := by omega
  have e2 : (0 : Int) < c - 1000000000000000000 := by omega
  unfold runF ir__law_draw
  simp [startE, getSh, getAny, frz1, bnd_at, ret_at, getP_at, putP_at, pval, pputs, psetD, h, idx_lst hc, bin_pow_int (a := 10) (b := 18) (by decide) (by decide) (by decide), e1, e2, hb, bin_mod_int h2, bin_fdiv_int h2 h3]
theorem draw_even (φ ψ : Fns) (many : Int) (cells : List Int) (pos count fold : Int) (h : pos < cells.length) (hc : atI (cells.map D.int) pos = some (.int 1000000000000000000)) (h2 : 0 < many) (h3 : many < 1073741824) (h4 : 0 ≤ fold) (h5 : fold < 2147483648) (h6 : 0 ≤ count) (h7 : count < 1000000000) : runF TT φ ψ false ir__law_draw 5 [.pen, .int many] ⟨cells, pos, 0, count, fold⟩ = some (.int (((fold + (count + 1) * 8513 + 61) ^ 19 % 2305843009213693951) / 256 % many), ⟨cells, pos + 1, 0, count + 1, fold⟩) := by
  have e : (fold + (count + 1) * 8513 + 61).natAbs < 2 ^ 64 := by omega
  have e8 : (small64 (count + 1) || small64 8513) = true := by rw [small64_of (a := 8513) (by decide) (by decide)]; simp
  unfold runF ir__law_draw
  simp [startE, getSh, getAny, frz1, bnd_at, ret_at, getP_at, putP_at, pval, pputs, psetD, h, idx_lst hc, bin_pow_int (a := 10) (b := 18) (by decide) (by decide) (by decide), bin_mul_int e8, bin_pow_int (a := fold + (count + 1) * 8513 + 61) (b := 19) (by decide) (by decide) e, bin_mod_int (b := 2305843009213693951) (by decide), bin_fdiv_int (b := 256) (by decide) (by decide), bin_mod_int h2]
theorem draw_less (φ ψ : Fns) (many : Int) (cells : List Int) (pos count fold c : Int) (h : pos < cells.length) (hc : atI (cells.map D.int) pos = some (.int c)) (hb : c < 1000000000000000000) (h2 : 0 < many) (h3 : many < 1073741824) (h6 : 0 ≤ count) (h7 : count < 1000000000) : runF TT φ ψ false ir__law_draw 5 [.pen, .int many] ⟨cells, pos, 0, count, fold⟩ = some (.int ((((fold * 48271 + c) % 2147483563 + (count + 1) * 8513 + 61) ^ 19 % 2305843009213693951) / 256 % many), ⟨cells, pos + 1, 0, count + 1, (fold * 48271 + c) % 2147483563⟩) := by
  have m0 := Int.emod_nonneg (fold * 48271 + c) (b := 2147483563) (by decide)
  have m1 := Int.emod_lt_of_pos (fold * 48271 + c) (b := 2147483563) (by decide)
  have e : ((fold * 48271 + c) % 2147483563 + (count + 1) * 8513 + 61).natAbs < 2 ^ 64 := by omega
  have e1 : ¬ (1000000000000000000 : Int) ≤ c := by omega
  have e8 : (small64 (count + 1) || small64 8513) = true := by rw [small64_of (a := 8513) (by decide) (by decide)]; simp
  have e9 : (small64 fold || small64 48271) = true := by rw [small64_of (a := 48271) (by decide) (by decide)]; simp
  unfold runF ir__law_draw
  simp [startE, getSh, getAny, frz1, bnd_at, ret_at, getP_at, putP_at, pval, pputs, psetD, h, idx_lst hc, bin_pow_int (a := 10) (b := 18) (by decide) (by decide) (by decide), e1, bin_mul_int e8, bin_mul_int e9, bin_pow_int (a := (fold * 48271 + c) % 2147483563 + (count + 1) * 8513 + 61) (b := 19) (by decide) (by decide) e, bin_mod_int (b := 2305843009213693951) (by decide), bin_mod_int (b := 2147483563) (by decide), bin_fdiv_int (b := 256) (by decide) (by decide), bin_mod_int h2]
/-- a draw -/
theorem draw_dr (n : Nat) (many : Int) (h2 : 0 < many) (h3 : many < 1073741824) : Dr 1 ((B0.lev (n + 1)).1 27 [.pen, .int many]) (fun d => ∃ r, d = .int r ∧ 0 ≤ r ∧ r < many) := fun N π hN o => by
  rw [st__law_draw]
  obtain ⟨o1, o2, o3, o4, o5, o6⟩ := o
  obtain ⟨cells, pos, digits, count, fold⟩ := π
  dsimp only at o1 o2 o3 o4 o5 o6
  have fin : ∀ x : Int, 0 ≤ x % many ∧ x % many < many := fun x => ⟨Int.emod_nonneg _ (by omega), Int.emod_lt_of_pos _ h2⟩
  by_cases hd : digits = 0
  · subst hd
    by_cases hp : pos < cells.length
    · obtain ⟨c, hc⟩ := atI_ints o1 hp
      by_cases c1 : 1000000000000000000 < c
      · refine ⟨_, _, draw_big _ _ many cells pos count fold c hp hc c1 h2 h3, ⟨by dsimp only; omega, Int.ediv_nonneg (by omega) (by omega), by dsimp only; omega, by dsimp only; omega, o5, o6⟩, _, rfl, fin _⟩
      · by_cases c2 : c = 1000000000000000000
        · subst c2
          exact ⟨_, _, draw_even _ _ many cells pos count fold hp hc h2 h3 o5 o6 o3 (by omega), ⟨by dsimp only; omega, Int.le_refl 0, by dsimp only; omega, by dsimp only; omega, o5, o6⟩, _, rfl, fin _⟩
        · have m0 := Int.emod_nonneg (fold * 48271 + c) (b := 2147483563) (by decide)
          have m1 := Int.emod_lt_of_pos (fold * 48271 + c) (b := 2147483563) (by decide)
          exact ⟨_, _, draw_less _ _ many cells pos count fold c hp hc (by omega) h2 h3 o3 (by omega), ⟨by dsimp only; omega, Int.le_refl 0, by dsimp only; omega, by dsimp only; omega, m0, by dsimp only; omega⟩, _, rfl, fin _⟩
    · exact ⟨_, _, draw_mix _ _ many cells pos count fold hp h2 h3 o5 o6 o3 (by omega), ⟨o1, Int.le_refl 0, by dsimp only; omega, by dsimp only; omega, o5, o6⟩, _, rfl, fin _⟩
  · exact ⟨_, _, draw_dig _ _ many cells pos digits count fold hd (by omega) h2 h3, ⟨o1, Int.ediv_nonneg o2 (by omega), by dsimp only; omega, by dsimp only; omega, o5, o6⟩, _, rfl, fin _⟩
end UK

set_option Elab.async false
set_option linter.all false
set_option maxRecDepth 100000
set_option maxHeartbeats 4000000
namespace UK
open PySem PySem.Spec PyProof.Rows L2
/-! ### loops, comprehensions -/
theorem Dr.zero {α : Type} {m : M α} {a : α} {P : α → Prop} (e : m = UK.ret a) (h : P a) : Dr 0 m P := by rw [e]; exact Dr.ret (Int.le_refl 0) h
theorem forD_dr {b : Env' → M (Flw × Env')} {tg : List Nat} {k : Int} (hk : 0 ≤ k) (Inv : Nat → Env' → Prop) : ∀ (xs : List D) (j : Nat) (env : Env'), Inv j env →
    (∀ i x env, xs[i]? = some x → Inv (j + i) env → ∃ env', setTg tg x env = some env' ∧ Dr k (b env') (fun r => r.1 = .nx ∧ Inv (j + i + 1) r.2)) → Dr (k * xs.length) (forD b tg xs env) (fun r => r.1 = .nx ∧ Inv (j + xs.length) r.2)
  | [], j, env, h0, _ => Dr.ret (by simp) ⟨rfl, h0⟩
  | x :: xs, j, env, h0, st => by
    obtain ⟨env', e, h⟩ := st 0 x env rfl h0
    show Dr _ (match setTg tg x env with
      | some env' => bnd (b env') fun r => match r with
        | (.nx, env2) => forD b tg xs env2
        | (.cnt, env2) => forD b tg xs env2
        | (.brk, env2) => ret (.nx, env2)
        | (.ret d, env2) => ret (.ret d, env2)
        | (.rr d, env2) => ret (.rr d, env2)
      | none => stuck) _
    rw [e]
    have hl : k + k * (xs.length : Int) = k * ((x :: xs).length : Int) := by
      rw [List.length_cons, Int.natCast_succ, Int.mul_add, Int.mul_one, Int.add_comm]
    refine Dr.bnd h (Int.le_of_eq hl) (Int.mul_nonneg hk (by omega)) fun r hr => ?_
    obtain ⟨f, env2⟩ := r
    obtain ⟨rfl, hi⟩ := hr
    have q := forD_dr hk Inv xs (j + 1) env2 hi fun i x env hx hI => by
      have := st (i + 1) x env hx (by rw [show j + (i + 1) = j + 1 + i by omega]; exact hI)
      rw [show j + 1 + i + 1 = j + (i + 1) + 1 by omega]
      exact this
    rw [show j + (x :: xs).length = j + 1 + xs.length by rw [List.length_cons]; omega]
    exact q
theorem forD_ret {b : Env' → M (Flw × Env')} {tg : List Nat} (g : Env' → D → Env') : ∀ (xs : List D) (env : Env') (I : Env' → Prop), I env → (∀ x ∈ xs, ∀ env, I env → (∃ env', setTg tg x env = some env' ∧ b env' = ret (.nx, g env x)) ∧ I (g env x)) → forD b tg xs env = ret (.nx, xs.foldl g env)
  | [], env, I, _, _ => rfl
  | x :: xs, env, I, hI, h => by
    obtain ⟨⟨env', e, hb⟩, hI'⟩ := h x (List.mem_cons_self ..) env hI
    show (match setTg tg x env with
      | some env' => bnd (b env') fun r => match r with
        | (.nx, env2) => forD b tg xs env2
        | (.cnt, env2) => forD b tg xs env2
        | (.brk, env2) => ret (.nx, env2)
        | (.ret d, env2) => ret (.ret d, env2)
        | (.rr d, env2) => ret (.rr d, env2)
      | none => stuck) = _
    rw [e]
    dsimp only
    rw [hb]
    exact forD_ret g xs (g env x) I hI' fun y hy => h y (List.mem_cons_of_mem _ hy)
theorem mapM_dr {f : D → M (Option D)} {k : Int} (hk : 0 ≤ k) : ∀ (xs : List D) (P : Nat → D → Prop), (∀ i x, xs[i]? = some x → Dr k (f x) (fun o => ∃ y, o = some y ∧ P i y)) → Dr (k * xs.length) (mapM' f xs) (fun ys => ys.length = xs.length ∧ ∀ i y, ys[i]? = some y → P i y)
  | [], P, _ => Dr.ret (by simp) ⟨rfl, fun i y h => by simp at h⟩
  | x :: xs, P, h => by
    have hl : k + k * (xs.length : Int) = k * ((x :: xs).length : Int) := by
      rw [List.length_cons, Int.natCast_succ, Int.mul_add, Int.mul_one, Int.add_comm]
    refine Dr.bnd (h 0 x rfl) (Int.le_of_eq hl) (Int.mul_nonneg hk (by omega)) fun o ho => ?_
    obtain ⟨y, rfl, hy⟩ := ho
    have z : k * (xs.length : Int) + 0 ≤ k * (xs.length : Int) := by omega
    refine Dr.bnd (mapM_dr hk xs (fun i => P (i + 1)) fun i x hx => h (i + 1) x hx) z (Int.le_refl 0) fun ys hys => Dr.ret (Int.le_refl 0) ⟨congrArg Nat.succ hys.1, fun i y' hy' => ?_⟩
    cases i with
    | zero => cases hy'; exact hy
    | succ i => exact hys.2 i y' hy'
theorem mapM_ret {f : D → M (Option D)} (g : D → Option D) : ∀ (xs : List D), (∀ x ∈ xs, f x = ret (g x)) → mapM' f xs = ret (xs.filterMap g)
  | [], _ => rfl
  | x :: xs, h => by
    show bnd (f x) _ = _
    rw [h x (List.mem_cons_self ..)]
    show bnd (mapM' f xs) _ = _
    rw [mapM_ret g xs fun y hy => h y (List.mem_cons_of_mem _ hy)]
    rw [List.filterMap_cons]
    cases g x <;> rfl
theorem mapM_some {f : D → M (Option D)} (g : D → D) (xs : List D) (h : ∀ x ∈ xs, f x = ret (some (g x))) : mapM' f xs = ret (xs.map g) := by
  rw [mapM_ret (fun x => some (g x)) xs h, List.filterMap_eq_map']
theorem mapR_dr {f : D → M (List D)} {k : Int} (hk : 0 ≤ k) : ∀ (xs : List D) (P : List D → Prop), (∀ x ∈ xs, Dr k (f x) P) → Dr (k * xs.length) (mapR f xs) (fun ys => ys.length = xs.length ∧ ∀ y ∈ ys, P y)
  | [], P, _ => Dr.ret (by simp) ⟨rfl, fun y h => by cases h⟩
  | x :: xs, P, h => by
    have hl : k + k * (xs.length : Int) = k * ((x :: xs).length : Int) := by
      rw [List.length_cons, Int.natCast_succ, Int.mul_add, Int.mul_one, Int.add_comm]
    refine Dr.bnd (h x (List.mem_cons_self ..)) (Int.le_of_eq hl) (Int.mul_nonneg hk (by omega)) fun y hy => ?_
    have z : k * (xs.length : Int) + 0 ≤ k * (xs.length : Int) := by omega
    refine Dr.bnd (mapR_dr hk xs P fun x hx => h x (List.mem_cons_of_mem _ hx)) z (Int.le_refl 0) fun ys hys => Dr.ret (Int.le_refl 0) ⟨congrArg Nat.succ hys.1, fun y' hy' => ?_⟩
    rcases List.mem_cons.mp hy' with rfl | hm
    · exact hy
    · exact hys.2 y' hm
/-! ### ranges -/
theorem r1D_ok {n : Int} (h : -1000000 ≤ n) (h2 : n ≤ 1000000) : r1D (.int n) = ret (rngD 0 n.toNat) := by
  show guardM (smallR n) _ = _
  refine guard_t' ?_
  unfold smallR
  rw [decide_eq_true h, decide_eq_true h2]; rfl
where guard_t' {α : Type} {c : Bool} {m : M α} (h : c = true) : guardM c m = m := by unfold guardM; rw [if_pos h]
theorem guard_t {α : Type} {c : Bool} {m : M α} (h : c = true) : guardM c m = m := by unfold guardM; rw [if_pos h]
theorem rng_len (lo : Int) (n : Nat) : (rngD lo n).length = n := by simp [rngD]
theorem rng_at {lo : Int} {n i : Nat} {x : D} (h : (rngD lo n)[i]? = some x) : i < n ∧ x = .int (lo + i) := rng_get h
/-! ### picks -/
theorem pick_l (n : Nat) (xs : List D) (h0 : 0 < xs.length) (h1 : xs.length < 1000000) : Dr 1 ((B0.lev (n + 2)).1 28 [.pen, .lst xs]) (fun d => d ∈ xs) := by
  rw [st__law_pick]
  unfold runF ir__law_pick
  simp [startE, getSh, getAny, frz1]
  refine Dr.bnd (k2 := 0) (draw_dr n (xs.length : Int) (by omega) (by omega)) (by decide) (by decide) fun d hd => ?_
  obtain ⟨r, rfl, r0, r1⟩ := hd
  obtain ⟨x, e, hx, _⟩ := atI_ok r0 r1
  rw [idx_lst e]
  exact Dr.ret (by decide) hx
theorem pick_t (n : Nat) (xs : List D) (h0 : 0 < xs.length) (h1 : xs.length < 1000000) : Dr 1 ((B0.lev (n + 2)).1 28 [.pen, .tup xs]) (fun d => d ∈ xs) := by
  rw [st__law_pick]
  unfold runF ir__law_pick
  simp [startE, getSh, getAny, frz1]
  refine Dr.bnd (k2 := 0) (draw_dr n (xs.length : Int) (by omega) (by omega)) (by decide) (by decide) fun d hd => ?_
  obtain ⟨r, rfl, r0, r1⟩ := hd
  obtain ⟨x, e, hx, _⟩ := atI_ok r0 r1
  rw [idx_tup e]
  exact Dr.ret (by decide) hx
end UK

set_option Elab.async false
set_option linter.all false
set_option maxRecDepth 100000
set_option maxHeartbeats 4000000
namespace UK
open PySem PySem.Spec PyProof.Rows L2
section
variable {T : Tabs} {φ ψ : Fns} {env : Env'}
@[simp] theorem S_rrt {r : Rw} : evS T φ ψ (.rrt r) env = bnd (evR T φ ψ r (frz (frR r) env)) fun rss => ret (.rr rss, env) := rfl
@[simp] theorem S_rws {i : Nat} {r : Rw} : evS T φ ψ (.rws i r) env = bnd (evR T φ ψ r (frz (frR r) env)) fun rss => ret (.nx, (frz (frR r) env).set i (.rw rss)) := rfl
@[simp] theorem R_lc {own tg : List Nat} {elt : E} {it : Itn} : evR T φ ψ (.lc own elt tg it) env = bnd (evI T φ ψ it env) fun xs => guardM (decide (xs.length ≤ LIM)) (mapR (elR tg (evE T φ ψ elt) (wipeE env own)) xs) := rfl
@[simp] theorem R_call {f : Nat} {as : A} : evR T φ ψ (.call f as) env = bnd (bnd (evA T φ ψ as env) fun xs => φ f xs) rowsD := rfl
@[simp] theorem R_ite {c : E} {a b : Rw} : evR T φ ψ (.ite c a b) env = bnd (evE T φ ψ c env) (iffD (evR T φ ψ a env) (evR T φ ψ b env)) := rfl
@[simp] theorem R_var {i : Nat} : evR T φ ψ (.var i) env = getRw env i := rfl
@[simp] theorem frR_lc {own tg : List Nat} {elt : E} {it : Itn} : frR (.lc own elt tg it) = frE elt ++ frI it := rfl
@[simp] theorem frR_call {f : Nat} {as : A} : frR (.call f as) = frA as := rfl
@[simp] theorem frR_ite {c : E} {a b : Rw} : frR (.ite c a b) = frE c ++ frR a ++ frR b := rfl
@[simp] theorem frR_var {i : Nat} : frR (.var i) = [] := rfl
@[simp] theorem endF_rr (rss : List (List D)) : endF true (.rr rss) = ret (.lst (rss.map .lst)) := rfl
@[simp] theorem lstD_lst (ds : List D) : lstD (.lst ds) = ret ds := rfl
end
@[simp] theorem bnd_id {α : Type} (m : M α) : bnd m (fun a => ret a) = m := by
  funext π
  unfold bnd
  cases m π <;> rfl
theorem limM {n : Nat} (h : n ≤ 1000) : decide (n ≤ LIM) = true := decide_eq_true (Nat.le_trans h (by decide))
@[simp] theorem elR_one {i : Nat} {me : Env' → M D} {env : Env'} {x : D} : elR [i] me env x = bnd (me (env.set i (.sh x))) lstD := rfl
@[simp] theorem elM_one {i : Nat} {me : Env' → M D} {mc : Env' → M (Option D)} {env : Env'} {x : D} : elM [i] me mc env x = ifM mc (env.set i (.sh x)) (bnd (me (env.set i (.sh x))) fun y => ret (some y)) (ret none) := rfl
@[simp] theorem ifM_no {α : Type} {T : Tabs} {φ ψ : Fns} {env : Env'} {y n : M α} : ifM (evO T φ ψ .no) env y n = y := rfl
@[simp] theorem ifM_yes {α : Type} {T : Tabs} {φ ψ : Fns} {e : E} {env : Env'} {y n : M α} : ifM (evO T φ ψ (.yes e)) env y n = bnd (evE T φ ψ e env) (iffD y n) := by
  show bnd (bnd (evE T φ ψ e env) fun x => ret (some x)) _ = _
  rw [bnd_bnd]
  congr 1
  funext d
  cases d <;> first | rfl | (rename_i b; cases b <;> rfl)
@[simp] theorem wipeE_nil {env : Env'} : wipeE env [] = env := rfl
@[simp] theorem wipeE_cons {env : Env'} {v : Nat} {vs : List Nat} : wipeE env (v :: vs) = (wipeE env vs).set v .un := rfl
theorem lc_any {own tg : List Nat} {elt : E} {it : Itn} {c : O} {T : Tabs} {φ ψ : Fns} {env : Env'} {xs : List D} (h : evI T φ ψ it env = ret xs) (hl : xs.length ≤ 1000) : evE T φ ψ (.lc own elt tg it c) env = bnd (mapM' (elM tg (evE T φ ψ elt) (evO T φ ψ c) (wipeE env own)) xs) fun ys => ret (.lst ys) := by
  rw [E_lc, h]
  show guardM (decide (xs.length ≤ LIM)) _ = _
  rw [guard_t (limM hl)]
/-! ### the drawn rows -/
def Sg (d : D) : Prop := ∃ i : Int, d = .int i ∧ -1 ≤ i ∧ i ≤ 2
def RowsOk (n : Nat) (rss : List (List D)) : Prop := rss.length = n ∧ ∀ r ∈ rss, r.length = n ∧ ∀ d ∈ r, Sg d
theorem sg_int {i : Int} (h1 : -1 ≤ i) (h2 : i ≤ 2) : Sg (.int i) := ⟨i, rfl, h1, h2⟩
theorem free_rows (n : Nat) (size : Nat) (h0 : 0 < size) (h3 : size ≤ 3) : Dr 20 ((B0.lev (n + 3)).1 21 [.pen, .int size]) (fun d => ∃ rss, d = .lst (rss.map .lst) ∧ RowsOk size rss) := by
  rw [st__law_free_rows]
  unfold runF ir__law_free_rows
  simp [startE, getSh, getAny, frz1, LIM, guardM]
  refine Dr.bnd (k1 := 1) (k2 := 19) (P := fun d => ∃ xs, d = .lst xs ∧ 0 < xs.length ∧ xs.length < 10 ∧ ∀ d ∈ xs, Sg d) ((pick_l n _ (by simp) (by simp)).mono (Int.le_refl 1) fun d hd => ?_) (by decide) (by decide) fun d hd => ?_
  · have ok : ∀ is : List Int, (∀ i ∈ is, -1 ≤ i ∧ i ≤ 2) → ∀ d ∈ is.map D.int, Sg d := fun is h d hd => by
      obtain ⟨i, hi, rfl⟩ := List.mem_map.mp hd
      exact sg_int (h i hi).1 (h i hi).2
    simp at hd
    rcases hd with rfl | rfl | rfl | rfl | rfl | rfl
    · exact ⟨_, rfl, by simp, by simp, ok [0, 0, 1, -1] (by decide)⟩
    · exact ⟨_, rfl, by simp, by simp, ok [0, 0, 0, 1, -1, 2] (by decide)⟩
    · exact ⟨_, rfl, by simp, by simp, ok [0, 1] (by decide)⟩
    · exact ⟨_, rfl, by simp, by simp, ok [0, 0, 0, 0, 1, -1] (by decide)⟩
    · exact ⟨_, rfl, by simp, by simp, ok [0, 0, 1, -1, -1, 2] (by decide)⟩
    · exact ⟨_, rfl, by simp, by simp, ok [0, 0, 0, 1] (by decide)⟩
  · obtain ⟨xs, rfl, x0, x1, hx⟩ := hd
    rw [r1D_ok (by omega) (by omega)]
    simp [rng_len]
    rw [if_pos (by omega)]
    refine Dr.bnd (k1 := 9) (k2 := 0) ((mapR_dr (k := 3) (by decide) _ (fun r => r.length = size ∧ ∀ d ∈ r, Sg d) fun x _ => ?_).mono (by rw [rng_len]; omega) fun _ h => h) (by decide) (by decide) fun rss hr => Dr.ret (by decide) ⟨rss, rfl, by simpa [rng_len] using hr.1, hr.2⟩
    simp [getSh]
    rw [r1D_ok (by omega) (by omega)]
    simp [rng_len, guardM, LIM]
    rw [if_pos (by omega)]
    simp
    refine (mapM_dr (k := 1) (by decide) _ (fun _ d => Sg d) fun i x _ => ?_).mono ?_ fun r h => ⟨by simpa [rng_len] using h.1, fun d hd => ?_⟩
    · simp [getSh]
      refine Dr.bnd (k1 := 1) (k2 := 0) (pick_l n xs x0 (by omega)) (by decide) (by decide) fun d hd => Dr.ret (by decide) ⟨d, rfl, hx d hd⟩
    · rw [rng_len]; omega
    · obtain ⟨i, hi, e⟩ := List.mem_iff_getElem.mp hd
      exact h.2 i d (by rw [List.getElem?_eq_getElem hi, e])
end UK

set_option Elab.async false
set_option linter.all false
set_option maxRecDepth 100000
set_option maxHeartbeats 4000000
namespace UK
open PySem PySem.Spec PyProof.Rows L2
section
variable {T : Tabs} {φ ψ : Fns} {env : Env'}
@[simp] theorem S_par {i j : Nat} {o1 o2 : Bool} {e1 e2 : E} : evS T φ ψ (.par i j o1 e1 o2 e2) env = bnd (bnd (evE T φ ψ e1 (frz (frE e1 ++ frE e2) env)) (slD o1)) fun x => bnd (bnd (evE T φ ψ e2 (frz (frE e1 ++ frE e2) env)) (slD o2)) fun y => ret (.nx, ((frz (frE e1 ++ frE e2) env).set i x).set j y) := rfl
@[simp] theorem slD_lst {ds : List D} : slD true (.lst ds) = ret (.ow ds) := rfl
@[simp] theorem slD_sh {d : D} : slD false d = ret (.sh d) := rfl
def apopD (f r : Nat) : D × Env' → M (Flw × Env') := fun x => match x.2[f]?, x.2[r]?, x.1 with
    | some (.ow fs), some (.ow rs), .int j => match ixN rs.length j with
      | some n => match rs[n]? with
        | some d => guardM (decide (f ≠ r) && (decide (fs.length ≤ LIM) && decide (rs.length ≤ LIM))) (ret (.nx, (x.2.set r (.ow (rs.eraseIdx n))).set f (.ow (fs ++ [d]))))
        | none => stuck
      | none => stuck
    | _, _, _ => stuck
@[simp] theorem S_apop {f r : Nat} {e : E} : evS T φ ψ (.apop f r e) env = bnd (evX T φ ψ e env) (apopD f r) := rfl
theorem apop_ok {f r : Nat} {env : Env'} {fs rs : List D} {j : Int} {d : D} (h1 : env[f]? = some (.ow fs)) (h2 : env[r]? = some (.ow rs)) (h0 : 0 ≤ j) (hj : j < rs.length) (hd : rs[j.toNat]? = some d) (hn : f ≠ r) (l1 : fs.length ≤ 1000) (l2 : rs.length ≤ 1000) : apopD f r (.int j, env) = ret (.nx, (env.set r (.ow (rs.eraseIdx j.toNat))).set f (.ow (fs ++ [d]))) := by
  unfold apopD
  dsimp only
  rw [h1, h2]
  dsimp only
  have e : ixN rs.length j = some j.toNat := by unfold ixN; rw [if_pos h0, if_pos hj]
  rw [e]
  dsimp only
  rw [hd]
  dsimp only
  rw [guard_t]
  rw [decide_eq_true hn, limM l1, limM l2]
  rfl
end
theorem shuffled (n : Nat) (xs : List D) (hl : xs.length ≤ 100) : Dr xs.length ((B0.lev (n + 2)).1 29 [.pen, .lst xs]) (fun d => ∃ ys, d = .lst ys ∧ ys.length = xs.length ∧ ∀ y ∈ ys, y ∈ xs) := by
  rw [st__law_shuffled]
  unfold runF ir__law_shuffled
  simp [startE, getSh, getAny, frz1, guardM]
  rw [r1D_ok (by omega) (by omega)]
  simp
  refine Dr.bnd (k1 := xs.length) (k2 := 0) ((forD_dr (k := 1) (by decide) (fun i env => ∃ s rs fs, env = [.sh .pen, .sh (.lst xs), s, .ow rs, .ow fs] ∧ rs.length + i = xs.length ∧ fs.length = i ∧ (∀ y ∈ rs, y ∈ xs) ∧ ∀ y ∈ fs, y ∈ xs) (rngD 0 xs.length) 0 _ ⟨_, xs, [], rfl, rfl, rfl, fun y h => h, fun y h => by cases h⟩ fun i x env hx hI => ?_).mono (by rw [rng_len]; omega) fun _ h => h) (by omega) (by omega) fun r hr => ?_
  · obtain ⟨s, rs, fs, rfl, e1, e2, e3, e4⟩ := hI
    obtain ⟨hi, rfl⟩ := rng_at hx
    refine ⟨_, rfl, ?_⟩
    simp [getSh, getAny, frz1]
    have hr : 0 < rs.length := by omega
    refine Dr.bnd (k1 := 1) (k2 := 0) (draw_dr n (rs.length : Int) (by omega) (by omega)) (by decide) (by decide) fun d hd => ?_
    obtain ⟨r, rfl, r0, r1⟩ := hd
    have hlt : r.toNat < rs.length := by omega
    rw [apop_ok (f := 4) (r := 3) rfl rfl r0 r1 (List.getElem?_eq_getElem hlt) (by decide) (by omega) (by omega)]
    refine Dr.ret (by decide) ⟨rfl, .sh (.int i), rs.eraseIdx r.toNat, fs ++ [rs[r.toNat]], rfl, ?_, by simp; omega, fun y hy => e3 y (List.mem_of_mem_eraseIdx hy), fun y hy => ?_⟩
    · rw [List.length_eraseIdx_of_lt hlt]; omega
    · rcases List.mem_append.mp hy with hy | hy
      · exact e4 y hy
      · rw [List.mem_singleton.mp hy]; exact e3 _ (List.getElem_mem hlt)
  · obtain ⟨f, env⟩ := r
    obtain ⟨rfl, s, rs, fs, rfl, e1, e2, e3, e4⟩ := hr
    rw [rng_len] at e1 e2
    simp [getSh, frz1]
    exact Dr.ret (by decide) ⟨fs, rfl, by omega, e4⟩
end UK

set_option Elab.async false
set_option linter.all false
set_option maxRecDepth 100000
set_option maxHeartbeats 1000000
namespace UK
open PySem PySem.Spec PyProof.Rows L2
theorem atI_mem {α : Type} {xs : List α} {i : Int} (h0 : -(xs.length : Int) ≤ i) (h1 : i < xs.length) : ∃ x, atI xs i = some x ∧ x ∈ xs := by
  by_cases hi : 0 ≤ i
  · obtain ⟨x, e, hx, _⟩ := atI_ok hi h1
    exact ⟨x, e, hx⟩
  · have e : ixN xs.length i = some (i + xs.length).toNat := by unfold ixN; rw [if_neg hi, if_pos h0]
    have hl : (i + xs.length).toNat < xs.length := by omega
    refine ⟨xs[(i + xs.length).toNat], ?_, List.getElem_mem hl⟩
    unfold atI
    rw [e]
    exact List.getElem?_eq_getElem hl
def put2D (i : Nat) (d j1 : D) : D × Env' → M (Flw × Env') := fun z => match z.2[i]?, j1, z.1 with
    | some (.rw rss), .int j1, .int j2 => match putRw rss j1 j2 d with
      | some rss' => ret (.nx, z.2.set i (.rw rss'))
      | none => stuck
    | _, _, _ => stuck
@[simp] theorem S_put2 {T : Tabs} {φ ψ : Fns} {env : Env'} {i : Nat} {k1 k2 e : E} : evS T φ ψ (.put2 i k1 k2 e) env = bnd (evX T φ ψ e env) fun r => bnd (evX T φ ψ k1 r.2) fun q => bnd (evX T φ ψ k2 q.2) fun z => put2D i r.1 q.1 z := rfl
/-- an index of a place -/
def Pl (n : Nat) (d : D) : Prop := ∃ i : Int, d = .int i ∧ 0 ≤ i ∧ i < n
theorem put2_ok {i n : Nat} {env : Env'} {rss : List (List D)} {d j1 j2 : D} (h : env[i]? = some (.rw rss)) (hr : RowsOk n rss) (h1 : Pl n j1) (h2 : Pl n j2) (hd : Sg d) : ∃ rss', put2D i d j1 (j2, env) = ret (.nx, env.set i (.rw rss')) ∧ RowsOk n rss' := by
  obtain ⟨a, rfl, a0, a1⟩ := h1
  obtain ⟨b, rfl, b0, b1⟩ := h2
  obtain ⟨l1, l2⟩ := hr
  have ha : a.toNat < rss.length := by omega
  have hm := List.getElem_mem ha
  have hb : b.toNat < rss[a.toNat].length := by rw [(l2 _ hm).1]; omega
  refine ⟨rss.set a.toNat (rss[a.toNat].set b.toNat d), ?_, by rw [List.length_set]; exact l1, fun r hr => ?_⟩
  · unfold put2D
    dsimp only
    rw [h]
    dsimp only
    have e : putRw rss a b d = some (rss.set a.toNat (rss[a.toNat].set b.toNat d)) := by
      unfold putRw
      have e1 : ixN rss.length a = some a.toNat := by unfold ixN; rw [if_pos a0, if_pos (by omega)]
      have e2 : ixN rss[a.toNat].length b = some b.toNat := by unfold ixN; rw [if_pos b0, if_pos (by rw [(l2 _ hm).1]; omega)]
      rw [e1]
      dsimp only
      rw [List.getElem?_eq_getElem ha]
      dsimp only
      rw [e2]
    rw [e]
  · rcases List.mem_or_eq_of_mem_set hr with hr | rfl
    · exact l2 r hr
    · refine ⟨by rw [List.length_set]; exact (l2 _ hm).1, fun x hx => ?_⟩
      rcases List.mem_or_eq_of_mem_set hx with hx | rfl
      · exact (l2 _ hm).2 x hx
      · exact hd
theorem rng_pl {n : Nat} {x : D} (h : x ∈ rngD 0 n) : Pl n x := by
  obtain ⟨i, hi, e⟩ := List.mem_iff_getElem.mp h
  obtain ⟨h1, rfl⟩ := rng_at (x := x) (by rw [List.getElem?_eq_getElem hi, e])
  exact ⟨0 + i, rfl, by omega, by omega⟩
theorem sg4 (n : Nat) : Dr 1 ((B0.lev (n + 2)).1 28 [.pen, .lst [.int 0, .int 1, .int (-1), .int 2]]) Sg := (pick_l n _ (by simp) (by simp)).mono (Int.le_refl 1) fun d hd => by
  simp at hd
  rcases hd with rfl | rfl | rfl | rfl <;> exact ⟨_, rfl, by decide, by decide⟩
/-- rows of noughts -/
theorem noughts {φ ψ : Fns} (size : Nat) (h : size ≤ 3) (env : Env') (i j : Nat) (own tg : Nat) (hs : env[i]? = some (.sh (.int size))) (hw : ∀ x, ((wipeE env [own]).set tg (.sh x))[i]? = some (.sh (.int size))) :
    evR TT φ ψ (.lc [own] (.bin .mul (.lst (.cons (.int 0) .nil)) (.var i)) [tg] (.r1 (.var i))) env = ret (List.replicate size (List.replicate size (.int 0))) := by
  have g1 : getSh env i = ret (.int size) := by unfold getSh; rw [hs]
  have key : ∀ xs : List D, mapR (elR [tg] (evE TT φ ψ (.bin .mul (.lst (.cons (.int 0) .nil)) (.var i))) (wipeE env [own])) xs = ret (xs.map fun _ => List.replicate size (.int 0)) := fun xs => by
    induction xs with
    | nil => rfl
    | cons x xs ih =>
      show bnd (elR _ _ _ x) _ = _
      have e : elR [tg] (evE TT φ ψ (.bin .mul (.lst (.cons (.int 0) .nil)) (.var i))) (wipeE env [own]) x = ret (List.replicate size (.int 0)) := by
        rw [elR_one]
        have g2 : getSh ((wipeE env [own]).set tg (.sh x)) i = ret (.int size) := by unfold getSh; rw [hw x]
        simp only [E_bin, E_lst, A_cons, A_nil, E_int, E_var, bnd_ret, bnd_bnd, List.length_cons, List.length_nil, g2]
        rw [guard_t (limM (by decide))]
        show bnd (guardM _ (ret (.lst (List.replicate (size : Int).toNat [D.int 0]).flatten))) lstD = _
        rw [guard_t (by
          rw [decide_eq_true (show [D.int 0].length ≤ 1000 by simp), decide_eq_true (show (0 : Int) ≤ size by omega), decide_eq_true (show (size : Int) ≤ 1000 by omega)]; rfl)]
        have f : ∀ k : Nat, (List.replicate k [D.int 0]).flatten = List.replicate k (.int 0) := fun k => by
          induction k with
          | zero => rfl
          | succ k ih => rw [List.replicate_succ, List.flatten_cons, ih]; rfl
        rw [f]
        rfl
      rw [e]
      show bnd (mapR _ xs) _ = _
      rw [ih]
      rfl
  rw [R_lc, I_r1, E_var, g1]
  show bnd (r1D (.int size)) _ = _
  rw [r1D_ok (by omega) (by omega)]
  show guardM _ _ = _
  rw [guard_t (limM (by rw [rng_len]; omega)), key]
  congr 1
  have : ∀ (n : Nat) (a : List D) (xs : List D), xs.length = n → xs.map (fun _ => a) = List.replicate n a := fun n a xs h => by rw [← h]; exact List.map_const' ..
  exact this size _ _ (by rw [rng_len]; omega)
theorem noughts_ok (size : Nat) : RowsOk size (List.replicate size (List.replicate size (.int 0))) := ⟨by simp, fun r hr => by
  rw [(List.mem_replicate.mp hr).2]
  exact ⟨by simp, fun d hd => by rw [(List.mem_replicate.mp hd).2]; exact ⟨0, rfl, by decide, by decide⟩⟩⟩
theorem lrgD_ok {n : Int} (h : -1000000 ≤ n) (h2 : n ≤ 1000000) : lrgD (.int n) = ret (.lst (rngD 0 n.toNat)) := by
  show guardM (smallR n) _ = _
  refine guard_t ?_
  unfold smallR
  rw [decide_eq_true h, decide_eq_true h2]; rfl
theorem ordered_rows (n : Nat) (size : Nat) (h0 : 0 < size) (h3 : size ≤ 3) : Dr 20 ((B0.lev (n + 3)).1 22 [.pen, .int size]) (fun d => ∃ rss, d = .lst (rss.map .lst) ∧ RowsOk size rss) := by
  rw [st__law_ordered_rows]
  unfold runF ir__law_ordered_rows
  have hlrg : lrgD (.int size) = ret (.lst (rngD 0 size)) := lrgD_ok (n := size) (by omega) (by omega)
  simp only [S_seq, S_set, S_for, S_rws, S_rrt, X_ev, startE, List.map_cons, List.map_nil, List.length_cons, List.length_nil, E_call, A_cons, A_nil, E_var, E_lrg, frE_call, frA_cons, frA_nil, frE_var, frE_lrg, frz_cons, frz_nil, bnd_bnd, bnd_ret, getSh, frz1, List.getElem?_cons_zero, List.getElem?_cons_succ, List.cons_append, List.nil_append, List.append_nil, hlrg, List.replicate]
  refine Dr.bnd (k1 := 3) (k2 := 17) ((shuffled n (rngD 0 size) (by rw [rng_len]; omega)).mono (by rw [rng_len]; omega) fun _ h => h) (by decide) (by decide) fun d hd => ?_
  obtain ⟨ys, rfl, y1, y2⟩ := hd
  have y3 : ys.length = size := by rw [y1, rng_len]
  have hp : ∀ y ∈ ys, Pl size y := fun y hy => rng_pl (y2 y hy)
  have ix : ∀ j : Int, 0 ≤ j → j < size → ∃ y, idxD (.lst ys) (.int j) = ret y ∧ Pl size y := fun j h0 h1 => by
    obtain ⟨x, e, hx⟩ := atI_mem (xs := ys) (i := j) (by omega) (by omega)
    exact ⟨x, idx_lst e, hp x hx⟩
  simp only [List.set_cons_succ, List.set_cons_zero, seqD_nx, S_seq, S_rws, bnd_bnd]
  rw [show frz (frR (.lc [6] (.bin .mul (.lst (.cons (.int 0) .nil)) (.var 1)) [6] (.r1 (.var 1)))) [Slot.sh D.pen, Slot.sh (D.int size), Slot.sh (D.lst ys), Slot.un, Slot.un, Slot.un, Slot.un] = [Slot.sh D.pen, Slot.sh (D.int size), Slot.sh (D.lst ys), Slot.un, Slot.un, Slot.un, Slot.un] from rfl]
  rw [noughts size h3 _ 1 0 6 6 rfl (fun x => rfl)]
  simp only [bnd_ret, List.set_cons_succ, List.set_cons_zero, seqD_nx, S_seq, S_for, I_r1, E_var, bnd_bnd]
  rw [show frz (frI (.r1 (.var 1))) [Slot.sh D.pen, Slot.sh (D.int size), Slot.sh (D.lst ys), Slot.rw (List.replicate size (List.replicate size (.int 0))), Slot.un, Slot.un, Slot.un] = [Slot.sh D.pen, Slot.sh (D.int size), Slot.sh (D.lst ys), Slot.rw (List.replicate size (List.replicate size (.int 0))), Slot.un, Slot.un, Slot.un] from rfl]
  show Dr 17 (bnd (r1D (.int size)) _) _
  rw [r1D_ok (n := size) (by omega) (by omega)]
  simp only [bnd_ret, Int.toNat_natCast]
  refine Dr.bnd (k1 := 9) (k2 := 0) ((forD_dr (k := 3) (by decide) (fun i env => ∃ rss s4 s5, env = [Slot.sh D.pen, Slot.sh (D.int size), Slot.sh (D.lst ys), Slot.rw rss, s4, s5, Slot.un] ∧ RowsOk size rss) (rngD 0 size) 0 _ ⟨_, _, _, rfl, noughts_ok size⟩ fun i x env hx hI => ?_).mono (by rw [rng_len]; omega) fun _ h => h) (by decide) (by decide) fun r hr => ?_
  · obtain ⟨rss, s4, s5, rfl, hR⟩ := hI
    obtain ⟨hi, rfl⟩ := rng_at hx
    refine ⟨_, rfl, ?_⟩
    show Dr 3 (bnd (r1D (.int (0 + (i : Int)))) _) _
    rw [r1D_ok (n := 0 + (i : Int)) (by omega) (by omega)]
    rw [bnd_ret]
    refine (forD_dr (k := 1) (by decide) (fun _ env => ∃ rss s5, env = [Slot.sh D.pen, Slot.sh (D.int size), Slot.sh (D.lst ys), Slot.rw rss, Slot.sh (.int (0 + (i : Int))), s5, Slot.un] ∧ RowsOk size rss) _ 0 _ ⟨rss, s5, rfl, hR⟩ fun j z env hz hJ => ?_).mono (by rw [rng_len]; omega) fun r hr => ⟨hr.1, by obtain ⟨rss, s5, e, h⟩ := hr.2; exact ⟨rss, _, _, e, h⟩⟩
    obtain ⟨rss, s5, rfl, hR⟩ := hJ
    obtain ⟨hj, rfl⟩ := rng_at hz
    refine ⟨_, rfl, ?_⟩
    obtain ⟨q1, e1, p1⟩ := ix (0 + (i : Int)) (by omega) (by omega)
    obtain ⟨q2, e2, p2⟩ := ix (0 + (j : Int)) (by omega) (by omega)
    simp [getSh, getAny, frz1, guardM, LIM]
    refine Dr.bnd (k1 := 1) (k2 := 0) (sg4 n) (by decide) (by decide) fun d hd => ?_
    simp only [Int.zero_add] at e1 e2
    simp only [e1, e2, bnd_ret]
    obtain ⟨rss', e3, hR'⟩ := put2_ok (i := 3) (env := [Slot.sh D.pen, Slot.sh (D.int size), Slot.sh (D.lst ys), Slot.rw rss, Slot.sh (D.int i), Slot.sh (D.int j), Slot.un]) rfl hR p1 p2 hd
    rw [e3]
    exact Dr.ret (by decide) ⟨rfl, rss', ⟨_, rfl⟩, hR'⟩
  · obtain ⟨f, env⟩ := r
    obtain ⟨rfl, rss, s4, s5, rfl, hR⟩ := hr
    exact Dr.ret (by decide) ⟨rss, rfl, hR⟩
end UK

set_option Elab.async false
set_option linter.all false
set_option maxRecDepth 100000
set_option maxHeartbeats 400000
namespace UK
open PySem PySem.Spec PyProof.Rows L2
@[simp] theorem part_none : partD none = ret none := rfl
@[simp] theorem part_int {i : Int} : partD (some (.int i)) = ret (some i) := rfl
theorem cut_mem {α : Type} {xs : List α} {lo hi : Option Int} {x : α} (h : x ∈ cutD xs lo hi) : x ∈ xs := List.mem_of_mem_drop (List.mem_of_mem_take h)
theorem cut_len {α : Type} (xs : List α) (lo hi : Option Int) : (cutD xs lo hi).length ≤ xs.length := by
  unfold cutD
  rw [List.length_take, List.length_drop]
  omega
@[simp] theorem slc_lst {xs : List D} {lo hi : Option Int} : slcD (.lst xs) lo hi = ret (.lst (cutD xs lo hi)) := rfl
@[simp] theorem slc_tup {xs : List D} {lo hi : Option Int} : slcD (.tup xs) lo hi = ret (.tup (cutD xs lo hi)) := rfl
theorem rowsD_of {rss : List (List D)} : rowsD (.lst (rss.map .lst)) = ret rss := rowsD_map rss
theorem mul2 (r : Int) (h0 : 0 ≤ r) (h1 : r < 2) : binD .mul (.int 2) (.int r) = ret (.int (2 * r)) := bin_mul_int (by rw [small64_of (a := 2) (by decide) (by decide)]; rfl)
theorem ring_rows (n : Nat) (size : Nat) (h0 : 0 < size) (h3 : size ≤ 3) : Dr 40 ((B0.lev (n + 4)).1 23 [.pen, .int size]) (fun d => ∃ rss, d = .lst (rss.map .lst) ∧ RowsOk size rss) := by
  rw [st__law_ring_rows]
  unfold runF ir__law_ring_rows
  have hlrg : lrgD (.int size) = ret (.lst (rngD 0 size)) := lrgD_ok (n := size) (by omega) (by omega)
  simp only [S_seq, S_set, X_ev, startE, List.map_cons, List.map_nil, List.length_cons, List.length_nil, E_slc, O_no, O_yes, E_bin, E_int, E_call, A_cons, A_nil, E_var, E_lrg, frE_slc, frO_no, frO_yes, frE_bin, frE_int, frE_call, frA_cons, frA_nil, frE_var, frE_lrg, frz_cons, frz_nil, bnd_bnd, bnd_ret, getSh, frz1, List.getElem?_cons_zero, List.getElem?_cons_succ, List.cons_append, List.nil_append, List.append_nil, hlrg, List.replicate, part_none]
  refine Dr.bnd (k1 := 3) (k2 := 37) ((shuffled (n + 1) (rngD 0 size) (by rw [rng_len]; omega)).mono (by rw [rng_len]; omega) fun _ h => h) (by decide) (by decide) fun d hd => ?_
  obtain ⟨ys, rfl, y1, y2⟩ := hd
  refine Dr.bnd (k1 := 1) (k2 := 36) (draw_dr (n + 2) (size : Int) (by omega) (by omega)) (by decide) (by decide) fun d hd => ?_
  obtain ⟨r, rfl, r0, r1⟩ := hd
  simp only [bin_add_int, bnd_ret, part_int, slc_lst, List.set_cons_succ, List.set_cons_zero, seqD_nx]
  have hp : ∀ y ∈ cutD ys none (some (1 + r)), Pl size y := fun y hy => rng_pl (y2 y (cut_mem hy))
  have hlen : (cutD ys none (some (1 + r))).length ≤ size := by
    have := cut_len ys none (some (1 + r))
    rw [y1, rng_len] at this
    exact this
  generalize cutD ys none (some (1 + r)) = zs at hp hlen ⊢
  have ix : ∀ j : Int, -(zs.length : Int) ≤ j → j < zs.length → ∃ y, idxD (.lst zs) (.int j) = ret y ∧ Pl size y := fun j h0 h1 => by
    obtain ⟨x, e, hx⟩ := atI_mem (xs := zs) (i := j) h0 h1
    exact ⟨x, idx_lst e, hp x hx⟩
  have tail : ∀ rss, RowsOk size rss → Dr 10 (bnd (seqD' (evS TT (B0.lev (n + 3)).1 (B0.lev (n + 3)).2 (.seq (.for_ [4] (.r1 (.b1 .len (.slot 2)))
      (.put2 3 (.idx (.slot 2) (.var 4)) (.idx (.slot 2) (.bin .sub (.slot 4) (.int 1))) (.bin .sub (.int 1) (.bin .mul (.int 2) (.call 27 (.cons (.var 0) (.cons (.int 2) .nil)))))))
      (.rrt (.var 3)))) (.nx, [Slot.sh D.pen, Slot.sh (D.int size), Slot.sh (D.lst zs), Slot.rw rss, Slot.un, Slot.un])) fun r => endF true r.1) (fun d => ∃ rss, d = .lst (rss.map .lst) ∧ RowsOk size rss) := fun rss hR => by
    simp only [seqD_nx, S_seq, S_for, I_r1, E_b1, E_slot, frI_r1, frE_b1, frE_slot, frz_nil, getAny, List.getElem?_cons_zero, List.getElem?_cons_succ, bnd_ret, bnd_bnd, b1_len_l]
    rw [r1D_ok (n := zs.length) (by omega) (by omega)]
    simp only [bnd_ret, Int.toNat_natCast]
    refine Dr.bnd (k1 := 9) (k2 := 0) ((forD_dr (k := 3) (by decide) (fun i env => ∃ rss s4, env = [Slot.sh D.pen, Slot.sh (D.int size), Slot.sh (D.lst zs), Slot.rw rss, s4, Slot.un] ∧ RowsOk size rss) (rngD 0 zs.length) 0 _ ⟨_, _, rfl, hR⟩ fun i x env hx hI => ?_).mono (by rw [rng_len]; omega) fun _ h => h) (by decide) (by decide) fun r hr => ?_
    · obtain ⟨rss, s4, rfl, hR⟩ := hI
      obtain ⟨hi, rfl⟩ := rng_at hx
      refine ⟨_, rfl, ?_⟩
      obtain ⟨q1, e1, p1⟩ := ix (0 + (i : Int)) (by omega) (by omega)
      obtain ⟨q2, e2, p2⟩ := ix (0 + (i : Int) - 1) (by omega) (by omega)
      simp only [S_put2, X_ev, E_bin, E_int, E_call, A_cons, A_nil, E_var, E_slot, E_idx, frE_bin, frE_int, frE_call, frA_cons, frA_nil, frE_var, frE_slot, frE_idx, frz_cons, frz_nil, bnd_bnd, bnd_ret, getSh, getAny, frz1, List.set_cons_succ, List.set_cons_zero, List.getElem?_cons_zero, List.getElem?_cons_succ, List.cons_append, List.nil_append, List.append_nil]
      refine Dr.bnd (k1 := 1) (k2 := 0) (draw_dr (n + 2) 2 (by decide) (by decide)) (by decide) (by decide) fun d hd => ?_
      obtain ⟨v, rfl, v0, v1⟩ := hd
      simp only [mul2 v v0 v1, bin_sub_int, bnd_ret, e1, e2]
      obtain ⟨rss', e3, hR'⟩ := put2_ok (i := 3) (d := .int (1 - 2 * v)) (env := [Slot.sh D.pen, Slot.sh (D.int size), Slot.sh (D.lst zs), Slot.rw rss, Slot.sh (D.int (0 + (i : Int))), Slot.un]) rfl hR p1 p2 ⟨_, rfl, by omega, by omega⟩
      rw [e3]
      exact Dr.ret (by decide) ⟨rfl, rss', _, rfl, hR'⟩
    · obtain ⟨f, env⟩ := r
      obtain ⟨rfl, rss, s4, rfl, hR⟩ := hr
      exact Dr.ret (by decide) ⟨rss, rfl, hR⟩
  rw [S_seq, S_rws]
  rw [show frz (frR (.ite (.cmp .eq (.call 27 (.cons (.var 0) (.cons (.int 2) .nil))) (.int 0)) (.call 22 (.cons (.var 0) (.cons (.var 1) .nil))) (.lc [5] (.bin .mul (.lst (.cons (.int 0) .nil)) (.var 1)) [5] (.r1 (.var 1))))) [Slot.sh D.pen, Slot.sh (D.int size), Slot.sh (D.lst zs), Slot.un, Slot.un, Slot.un] = [Slot.sh D.pen, Slot.sh (D.int size), Slot.sh (D.lst zs), Slot.un, Slot.un, Slot.un] from rfl]
  simp only [R_ite, E_cmp, E_call, E_int, A_cons, A_nil, E_var, getSh, List.getElem?_cons_zero, List.getElem?_cons_succ, bnd_bnd, bnd_ret]
  refine Dr.bnd (k1 := 1) (k2 := 35) (draw_dr (n + 2) 2 (by decide) (by decide)) (by decide) (by decide) fun d hd => ?_
  obtain ⟨v, rfl, v0, v1⟩ := hd
  simp only [cmp_eq_int, bnd_ret, iffD_bl]
  by_cases hv : v = 0
  · rw [if_pos (decide_eq_true hv)]
    simp only [R_call, A_cons, A_nil, E_var, getSh, List.getElem?_cons_zero, List.getElem?_cons_succ, bnd_bnd, bnd_ret]
    refine Dr.bnd (k1 := 20) (k2 := 10) (ordered_rows n size h0 h3) (by decide) (by decide) fun d hd => ?_
    obtain ⟨rss, rfl, hR⟩ := hd
    rw [rowsD_of]
    exact tail rss hR
  · rw [if_neg (by simpa using hv)]
    rw [noughts size h3 _ 1 0 5 5 rfl (fun x => rfl)]
    exact (tail _ (noughts_ok size)).mono (by decide) fun _ h => h
end UK

set_option Elab.async false
set_option linter.all false
set_option maxRecDepth 100000
set_option maxHeartbeats 400000
namespace UK
open PySem PySem.Spec PyProof.Rows L2
/-- a camp's sign -/
def Cs (d : D) : Prop := d = .int 1 ∨ d = .int (-1)
theorem cs_small {d : D} (h : Cs d) : ∃ i : Int, d = .int i ∧ -1 ≤ i ∧ i ≤ 1 := by
  rcases h with rfl | rfl
  · exact ⟨1, rfl, by decide, by decide⟩
  · exact ⟨-1, rfl, by decide, by decide⟩
theorem camp_rows (n : Nat) (size : Nat) (h0 : 0 < size) (h3 : size ≤ 3) : Dr 20 ((B0.lev (n + 3)).1 24 [.pen, .int size]) (fun d => ∃ rss, d = .lst (rss.map .lst) ∧ RowsOk size rss) := by
  rw [st__law_camp_rows]
  unfold runF ir__law_camp_rows
  have hr1 : r1D (.int size) = ret (rngD 0 size) := r1D_ok (n := size) (by omega) (by omega)
  have hit : ∀ env : Env', getSh env 1 = ret (.int size) → evI TT (B0.lev (n + 2)).1 (B0.lev (n + 2)).2 (.r1 (.var 1)) env = ret (rngD 0 size) := fun env h => by
    rw [I_r1, E_var, h]
    exact hr1
  rw [S_seq, S_own, X_ev]
  rw [show frz (frE (.lc [3] (.bin .sub (.int 1) (.bin .mul (.int 2) (.call 27 (.cons (.var 0) (.cons (.int 2) .nil))))) [3] (.r1 (.var 1)) .no)) (startE 5 [D.pen, D.int size]) = [Slot.sh D.pen, Slot.sh (D.int size), Slot.un, Slot.un, Slot.un] from rfl]
  rw [lc_any (xs := rngD 0 size) (hit _ rfl) (by rw [rng_len]; omega)]
  simp only [bnd_bnd, bnd_ret, ownD_lst]
  refine Dr.bnd (k1 := 3) (k2 := 17) ((mapM_dr (k := 1) (by decide) (rngD 0 size) (fun _ d => Cs d) fun i x _ => ?_).mono (by rw [rng_len]; omega) fun _ h => h) (by decide) (by decide) fun ss hs => ?_
  · simp only [elM_one, ifM_no, E_bin, E_int, E_call, A_cons, A_nil, E_var, bnd_bnd, bnd_ret, wipeE_cons, wipeE_nil, List.set_cons_succ, List.set_cons_zero, getSh, List.getElem?_cons_zero]
    refine Dr.bnd (k1 := 1) (k2 := 0) (draw_dr (n + 1) 2 (by decide) (by decide)) (by decide) (by decide) fun d hd => ?_
    obtain ⟨v, rfl, v0, v1⟩ := hd
    simp only [mul2 v v0 v1, bin_sub_int, bnd_ret]
    refine Dr.ret (by decide) ⟨_, rfl, ?_⟩
    by_cases hv : v = 0
    · subst hv; exact .inl rfl
    · have : v = 1 := by omega
      subst this; exact .inr rfl
  · obtain ⟨s1, s2⟩ := hs
    have hsl : ss.length = size := by rw [s1, rng_len]
    have ix : ∀ j : Int, 0 ≤ j → j < size → ∃ y, idxD (.lst ss) (.int j) = ret y ∧ Cs y := fun j h0 h1 => by
      obtain ⟨x, e, _, hx⟩ := atI_ok (xs := ss) (i := j) h0 (by omega)
      exact ⟨x, idx_lst e, s2 _ x hx⟩
    simp only [List.set_cons_succ, List.set_cons_zero, seqD_nx, S_rrt]
    rw [show frz (frR (.lc [3] (.lc [4] (.bin .mul (.bin .mul (.idx (.slot 2) (.var 3)) (.idx (.slot 2) (.var 4))) (.call 28 (.cons (.var 0) (.cons (.lst (.cons (.int 0) (.cons (.int 1) (.cons (.int 1) .nil)))) .nil)))) [4] (.r1 (.var 1)) .no) [3] (.r1 (.var 1)))) [Slot.sh D.pen, Slot.sh (D.int size), Slot.ow ss, Slot.un, Slot.un] = [Slot.sh D.pen, Slot.sh (D.int size), Slot.ow ss, Slot.un, Slot.un] from rfl]
    rw [R_lc, hit _ rfl]
    simp only [bnd_ret, bnd_bnd]
    rw [guard_t (limM (by rw [rng_len]; omega))]
    refine Dr.bnd (k1 := 9) (k2 := 0) ((mapR_dr (k := 3) (by decide) _ (fun r => r.length = size ∧ ∀ d ∈ r, Sg d) fun x hx => ?_).mono (by rw [rng_len]; omega) fun _ h => h) (by decide) (by decide) fun rss hr => Dr.ret (by decide) ⟨rss, rfl, by simpa [rng_len] using hr.1, hr.2⟩
    obtain ⟨a, rfl, a0, a1⟩ := rng_pl hx
    simp only [elR_one, wipeE_cons, wipeE_nil, List.set_cons_succ, List.set_cons_zero]
    rw [lc_any (xs := rngD 0 size) (hit _ rfl) (by rw [rng_len]; omega)]
    simp only [bnd_bnd, bnd_ret, lstD_lst, bnd_id]
    refine (mapM_dr (k := 1) (by decide) _ (fun _ d => Sg d) fun i x hx => ?_).mono (by rw [rng_len]; omega) fun r h => ⟨by simpa [rng_len] using h.1, fun d hd => ?_⟩
    · obtain ⟨hi, rfl⟩ := rng_at hx
      obtain ⟨q1, e1, c1⟩ := ix a a0 a1
      obtain ⟨q2, e2, c2⟩ := ix (0 + (i : Int)) (by omega) (by omega)
      obtain ⟨z1, rfl, z2, z3⟩ := cs_small c1
      obtain ⟨w1, rfl, w2, w3⟩ := cs_small c2
      have hm : binD .mul (.int z1) (.int w1) = ret (.int (z1 * w1)) := bin_mul_int (by rw [small64_of (a := z1) (by omega) (by omega)]; rfl)
      have hb : -1 ≤ z1 * w1 ∧ z1 * w1 ≤ 1 := by
        rcases c1 with e | e <;> rcases c2 with f | f <;> cases e <;> cases f <;> decide
      simp only [elM_one, ifM_no, wipeE_cons, wipeE_nil, E_bin, E_idx, E_int, E_lst, E_call, A_cons, A_nil, E_var, E_slot, bnd_bnd, bnd_ret, getSh, getAny, List.set_cons_succ, List.set_cons_zero, List.getElem?_cons_zero, List.getElem?_cons_succ, e1, e2, hm, List.length_cons, List.length_nil]
      rw [guard_t (limM (by decide))]
      simp only [bnd_ret]
      refine Dr.bnd (k1 := 1) (k2 := 0) (P := fun d => ∃ j : Int, d = .int j ∧ 0 ≤ j ∧ j ≤ 1) ((pick_l n [.int 0, .int 1, .int 1] (by simp) (by simp)).mono (Int.le_refl 1) fun d hd => ?_) (by decide) (by decide) fun d hd => ?_
      · simp at hd
        rcases hd with rfl | rfl <;> exact ⟨_, rfl, by decide, by decide⟩
      · obtain ⟨j, rfl, j0, j1⟩ := hd
        rw [bin_mul_int (a := z1 * w1) (b := j) (by rw [small64_of (a := z1 * w1) (by omega) (by omega)]; rfl)]
        refine Dr.ret (by decide) ⟨_, rfl, _, rfl, ?_⟩
        by_cases hj : j = 0
        · subst hj; rw [Int.mul_zero]; decide
        · have : j = 1 := by omega
          subst this
          rw [Int.mul_one]
          omega
    · obtain ⟨i, hi, e⟩ := List.mem_iff_getElem.mp hd
      exact h.2 i d (by rw [List.getElem?_eq_getElem hi, e])
end UK

set_option Elab.async false
set_option linter.all false
set_option maxRecDepth 100000
set_option maxHeartbeats 400000
namespace UK
open PySem PySem.Spec PyProof.Rows L2
theorem tup_rows {φ ψ : Fns} (rss : List (List D)) (hl : rss.length ≤ 1000) (a b c e : Slot) : evE TT φ ψ (.b1 .tuple (.lc [4] (.b1 .tuple (.slot 4)) [4] (.sq (.var 3)) .no)) [a, b, c, Slot.sh (.lst (rss.map .lst)), e] = ret (.tup (rss.map .tup)) := by
  rw [E_b1, lc_any (xs := rss.map .lst) rfl (by rw [List.length_map]; exact hl)]
  rw [mapM_some (fun d => match d with | .lst r => .tup r | d => d)]
  · rw [bnd_ret, bnd_ret, b1_tuple_l, List.map_map]
    rfl
  · intro x hx
    obtain ⟨r, _, rfl⟩ := List.mem_map.mp hx
    rfl
theorem web_rows (n : Nat) (size : Nat) (h0 : 0 < size) (h3 : size ≤ 3) : Dr 60 ((B0.lev (n + 5)).1 25 [.pen, .int size]) (fun d => ∃ rss, d = .tup (rss.map .tup) ∧ RowsOk size rss) := by
  rw [st__law_web_rows]
  unfold runF ir__law_web_rows
  rw [S_seq, S_set, X_ev]
  rw [show frz (frE (.call 27 (.cons (.var 0) (.cons (.int 6) .nil)))) (startE 5 [D.pen, D.int size]) = [Slot.sh D.pen, Slot.sh (D.int size), Slot.un, Slot.un, Slot.un] from rfl]
  simp only [E_call, A_cons, A_nil, E_var, E_int, getSh, List.getElem?_cons_zero, bnd_bnd, bnd_ret]
  refine Dr.bnd (k1 := 1) (k2 := 59) (draw_dr (n + 3) 6 (by decide) (by decide)) (by decide) (by decide) fun d hd => ?_
  obtain ⟨v, rfl, v0, v1⟩ := hd
  simp only [List.set_cons_succ, List.set_cons_zero, seqD_nx]
  have last : ∀ rss, RowsOk size rss → Dr 0 (bnd (evS TT (B0.lev (n + 4)).1 (B0.lev (n + 4)).2 (.ret (.b1 .tuple (.lc [4] (.b1 .tuple (.slot 4)) [4] (.sq (.var 3)) .no))) [Slot.sh D.pen, Slot.sh (D.int size), Slot.sh (.int v), Slot.rw rss, Slot.un]) fun r => endF false r.1) (fun d => ∃ rss, d = .tup (rss.map .tup) ∧ RowsOk size rss) := fun rss hR => by
    rw [S_ret, X_ev]
    rw [show frz (frE (.b1 .tuple (.lc [4] (.b1 .tuple (.slot 4)) [4] (.sq (.var 3)) .no))) [Slot.sh D.pen, Slot.sh (D.int size), Slot.sh (.int v), Slot.rw rss, Slot.un] = [Slot.sh D.pen, Slot.sh (D.int size), Slot.sh (.int v), Slot.sh (.lst (rss.map .lst)), Slot.un] from rfl]
    rw [tup_rows rss (by rw [hR.1]; omega)]
    exact Dr.ret (by decide) ⟨rss, rfl, hR⟩
  have tail : ∀ rss, RowsOk size rss → Dr 9 (bnd (seqD' (evS TT (B0.lev (n + 4)).1 (B0.lev (n + 4)).2 (.seq (.ite (.cmp .eq (.slot 2) (.int 5))
      (.put2 3 (.call 27 (.cons (.var 0) (.cons (.var 1) .nil))) (.call 27 (.cons (.var 0) (.cons (.var 1) .nil))) (.call 28 (.cons (.var 0) (.cons (.lst (.cons (.int 0) (.cons (.int 1) (.cons (.neg (.int 1)) (.cons (.int 2) .nil))))) .nil))))
      .nop) (.ret (.b1 .tuple (.lc [4] (.b1 .tuple (.slot 4)) [4] (.sq (.var 3)) .no))))) (.nx, [Slot.sh D.pen, Slot.sh (D.int size), Slot.sh (.int v), Slot.rw rss, Slot.un])) fun r => endF false r.1) (fun d => ∃ rss, d = .tup (rss.map .tup) ∧ RowsOk size rss) := fun rss hR => by
    simp only [seqD_nx, S_seq, S_ite, X_ev, frE_cmp, frE_slot, frE_int, List.append_nil, frz_nil, E_cmp, E_slot, E_int, getAny, List.getElem?_cons_zero, List.getElem?_cons_succ, bnd_bnd, bnd_ret, cmp_eq_int, iffD_bl]
    by_cases hv : v = 5
    · rw [if_pos (decide_eq_true hv)]
      simp only [S_put2, X_ev, E_int, E_neg, neg_int, E_call, E_lst, A_cons, A_nil, E_var, frE_int, frE_neg, frE_lst, frE_call, frA_cons, frA_nil, frE_var, frz_cons, frz_nil, bnd_bnd, bnd_ret, getSh, getAny, frz1, List.getElem?_cons_zero, List.getElem?_cons_succ, List.cons_append, List.nil_append, List.append_nil, List.length_cons, List.length_nil]
      rw [guard_t (limM (by decide))]
      simp only [bnd_ret]
      refine Dr.bnd (k1 := 1) (k2 := 8) (sg4 (n + 2)) (by decide) (by decide) fun d hd => ?_
      refine Dr.bnd (k1 := 1) (k2 := 7) (draw_dr (n + 3) (size : Int) (by omega) (by omega)) (by decide) (by decide) fun j1 hj1 => ?_
      refine Dr.bnd (k1 := 1) (k2 := 6) (draw_dr (n + 3) (size : Int) (by omega) (by omega)) (by decide) (by decide) fun j2 hj2 => ?_
      obtain ⟨rss', e3, hR'⟩ := put2_ok (i := 3) (env := [Slot.sh D.pen, Slot.sh (D.int size), Slot.sh (D.int v), Slot.rw rss, Slot.un]) rfl hR hj1 hj2 hd
      rw [e3]
      simp only [bnd_ret, List.set_cons_succ, List.set_cons_zero, seqD_nx]
      exact (last rss' hR').mono (by decide) fun _ h => h
    · rw [if_neg (by simpa using hv), S_nop, bnd_ret]
      exact (last rss hR).mono (by decide) fun _ h => h
  have go : ∀ i, (i = 21 ∨ i = 22 ∨ i = 23 ∨ i = 24) → Dr 40 ((B0.lev (n + 4)).1 i [.pen, .int size]) (fun d => ∃ rss, d = .lst (rss.map .lst) ∧ RowsOk size rss) := fun i h => by
    rcases h with rfl | rfl | rfl | rfl
    · exact (free_rows (n + 1) size h0 h3).mono (by decide) fun _ h => h
    · exact (ordered_rows (n + 1) size h0 h3).mono (by decide) fun _ h => h
    · exact ring_rows n size h0 h3
    · exact (camp_rows (n + 1) size h0 h3).mono (by decide) fun _ h => h
  have rwst : ∀ i, (i = 21 ∨ i = 22 ∨ i = 23 ∨ i = 24) → Dr 40 (evS TT (B0.lev (n + 4)).1 (B0.lev (n + 4)).2 (.rws 3 (.call i (.cons (.var 0) (.cons (.var 1) .nil)))) [Slot.sh D.pen, Slot.sh (D.int size), Slot.sh (.int v), Slot.un, Slot.un]) (fun r => ∃ rss, r = (.nx, [Slot.sh D.pen, Slot.sh (D.int size), Slot.sh (.int v), Slot.rw rss, Slot.un]) ∧ RowsOk size rss) := fun i hi => by
    simp only [S_rws, R_call, frR_call, frA_cons, frA_nil, frE_var, frz_cons, frz_nil, frz1, List.getElem?_cons_zero, List.getElem?_cons_succ, List.cons_append, List.nil_append, List.append_nil, A_cons, A_nil, E_var, getSh, bnd_bnd, bnd_ret]
    refine Dr.bnd (k1 := 40) (k2 := 0) (go i hi) (by decide) (by decide) fun d hd => ?_
    obtain ⟨rss, rfl, hR⟩ := hd
    rw [rowsD_of, bnd_ret]
    exact Dr.ret (by decide) ⟨rss, rfl, hR⟩
  have fin : ∀ i, (i = 21 ∨ i = 22 ∨ i = 23 ∨ i = 24) → Dr 59 (bnd (bnd (evS TT (B0.lev (n + 4)).1 (B0.lev (n + 4)).2 (.rws 3 (.call i (.cons (.var 0) (.cons (.var 1) .nil)))) [Slot.sh D.pen, Slot.sh (D.int size), Slot.sh (.int v), Slot.un, Slot.un]) (seqD' (evS TT (B0.lev (n + 4)).1 (B0.lev (n + 4)).2 (.seq (.ite (.cmp .eq (.slot 2) (.int 5))
      (.put2 3 (.call 27 (.cons (.var 0) (.cons (.var 1) .nil))) (.call 27 (.cons (.var 0) (.cons (.var 1) .nil))) (.call 28 (.cons (.var 0) (.cons (.lst (.cons (.int 0) (.cons (.int 1) (.cons (.neg (.int 1)) (.cons (.int 2) .nil))))) .nil))))
      .nop) (.ret (.b1 .tuple (.lc [4] (.b1 .tuple (.slot 4)) [4] (.sq (.var 3)) .no))))))) fun r => endF false r.1) (fun d => ∃ rss, d = .tup (rss.map .tup) ∧ RowsOk size rss) := fun i hi => by
    rw [bnd_bnd]
    refine Dr.bnd (k1 := 40) (k2 := 19) (rwst i hi) (by decide) (by decide) fun r hr => ?_
    obtain ⟨rss, rfl, hR⟩ := hr
    exact (tail rss hR).mono (by decide) fun _ h => h
  rw [S_seq]
  simp only [S_ite, X_ev, frE_cmp, frE_slot, frE_int, List.append_nil, frz_nil, E_cmp, E_slot, E_int, getAny, List.getElem?_cons_zero, List.getElem?_cons_succ, bnd_ret, cmp_eq_int, cmp_lt_int, iffD_bl]
  by_cases c1 : v < 2
  · rw [if_pos (decide_eq_true c1)]; exact fin 21 (.inl rfl)
  · rw [if_neg (by simpa using c1)]
    by_cases c2 : v = 2
    · rw [if_pos (decide_eq_true c2)]; exact fin 22 (.inr (.inl rfl))
    · rw [if_neg (by simpa using c2)]
      by_cases c3 : v = 3
      · rw [if_pos (decide_eq_true c3)]; exact fin 23 (.inr (.inr (.inl rfl)))
      · rw [if_neg (by simpa using c3)]; exact fin 24 (.inr (.inr (.inr rfl)))
end UK

set_option Elab.async false
set_option linter.all false
set_option maxRecDepth 100000
set_option maxHeartbeats 400000
namespace UK
open PySem PySem.Spec PyProof.Rows L2
theorem blsOf_map {α : Type} (f : α → Bool) : ∀ xs : List α, blsOf (xs.map fun x => D.bl (f x)) = some (xs.map f)
  | [] => rfl
  | x :: xs => by
    show (blsOf (xs.map fun x => D.bl (f x))).map (f x :: ·) = _
    rw [blsOf_map f xs]
    rfl
theorem all_map {α : Type} (f : α → Bool) (xs : List α) : b1D .all (.lst (xs.map fun x => D.bl (f x))) = ret (.bl (xs.all f)) := by
  show (match blsOf (xs.map fun x => D.bl (f x)) with | some is => ret (D.bl (is.all id)) | none => stuck) = _
  rw [blsOf_map]
  dsimp only
  rw [List.all_map]
  rfl
theorem all_yes (xs : List D) : b1D .all (.lst (xs.map fun _ => D.bl true)) = ret (.bl true) := by
  rw [all_map (fun _ => true) xs]
  congr 2
  simp
def rowT (r : List D) : D := .tup r
def webD (rss : List (List D)) : D := .ins 0 [.tup (rss.map .tup), .int rss.length]
theorem is_signs_ev (n : Nat) (size : Nat) (rss : List (List D)) (hR : RowsOk size rss) (h0 : 0 < size) (h3 : size ≤ 3) : (B0.lev (n + 2)).1 3 [.tup (rss.map .tup)] = ret (.bl true) := by
  rw [st_is_signs]
  unfold runF ir_is_signs
  obtain ⟨l1, l2⟩ := hR
  have hne : ¬ ((rss.map D.tup).length : Int) = 0 := by rw [List.length_map]; omega
  simp only [S_seq, S_ite, S_ret, S_for, X_ev, frE_or, frE_not, frE_call, frA_cons, frA_nil, frE_var, frE_cmp, frE_b1, frE_slot, frE_int, frE_bl, List.append_nil, List.cons_append, List.nil_append, frz_cons, frz_nil, frz1, startE, List.map_cons, List.map_nil, List.length_cons, List.length_nil, List.replicate, List.getElem?_cons_zero, E_or, E_not, E_call, A_cons, A_nil, E_var, getSh, bnd_bnd, bnd_ret, is_list_ev, notD_bl, elseD_bl]
  rw [if_neg (show ¬ (!listB (.tup (rss.map D.tup))) = true from Bool.false_ne_true)]
  simp only [E_cmp, E_b1, E_slot, E_int, getAny, List.getElem?_cons_zero, bnd_ret, b1_len_t, cmp_eq_int, iffD_bl]
  rw [if_neg (by simpa using hne)]
  simp only [S_nop, bnd_ret, seqD_nx, S_seq, S_for, frI_sq, frE_var, frz_cons, frz_nil, frz1, List.getElem?_cons_zero, I_sq, E_var, getSh]
  rw [show opt (seqD (.tup (rss.map D.tup))) = ret (rss.map D.tup) from rfl, bnd_ret]
  rw [forD_ret (fun env x => env.set 1 (.sh x)) (rss.map D.tup) _ (fun env => ∃ s, env = [Slot.sh (.tup (rss.map D.tup)), s, Slot.un]) ⟨_, rfl⟩ (fun x hx env hI => ?_)]
  · simp only [bnd_ret, seqD_nx, S_ret, X_ev, frE_bl, frz_nil, E_bl]
    rfl
  · obtain ⟨s, rfl⟩ := hI
    obtain ⟨r, hr, rfl⟩ := List.mem_map.mp hx
    obtain ⟨r1, r2⟩ := l2 r hr
    refine ⟨⟨_, rfl, ?_⟩, _, rfl⟩
    have hlen : (r.length : Int) = ((rss.map D.tup).length : Int) := by rw [List.length_map]; omega
    have hlc : ∀ env : Env', env[1]? = some (.sh (.tup r)) → env.length = 3 → evE TT (B0.lev (n + 1)).1 (B0.lev (n + 1)).2 (.lc [2] (.and (.call 1 (.cons (.var 2) .nil)) (.chn .le .le (.neg (.int 1)) (.slot 2) (.int 2))) [2] (.sq (.slot 1)) .no) env = ret (.lst (r.map fun _ => .bl true)) := fun env h1 hl => by
      rw [lc_any (xs := r) (by rw [I_sq, E_slot]; unfold getAny; rw [h1]; rfl) (by omega)]
      rw [mapM_some (fun _ => .bl true) r fun d hd => ?_]
      · rfl
      · obtain ⟨i, rfl, i1, i2⟩ := r2 d hd
        have g2 : ∀ e : Env', e.length = 3 → ((wipeE e [2]).set 2 (.sh (.int i)))[2]? = some (.sh (.int i)) := fun e he => by
          rw [wipeE_cons, wipeE_nil, List.getElem?_set_self (by rw [List.length_set]; omega)]
        rw [elM_one, ifM_no]
        simp only [E_and, E_call, A_cons, A_nil, E_var, E_chn, E_neg, E_int, E_slot, getSh, getAny, g2 env hl, bnd_ret, bnd_bnd, neg_int, cmp_le_int, is_whole_ev, thenD_bl]
        rw [if_pos (show wholeB (.int i) = true from rfl)]
        simp only [bnd_ret, thenD_bl, decide_eq_true i1, decide_eq_true i2, if_true]
    simp only [List.set_cons_succ, List.set_cons_zero, S_ite, S_nop, X_ev, frE_or, frE_not, frE_call, frA_cons, frA_nil, frE_var, frE_cmp, frE_b1, frE_slot, frE_lc, frE_and, frE_chn, frE_neg, frE_int, frI_sq, frO_no, List.append_nil, List.cons_append, List.nil_append, frz_cons, frz_nil, frz1, List.getElem?_cons_zero, List.getElem?_cons_succ, E_or, E_not, E_call, A_cons, A_nil, E_var, getSh, bnd_bnd, bnd_ret, is_list_ev, notD_bl, elseD_bl]
    rw [if_neg (show ¬ (!listB (.tup r)) = true from Bool.false_ne_true)]
    simp only [E_cmp, E_b1, E_slot, getAny, List.getElem?_cons_zero, List.getElem?_cons_succ, bnd_bnd, bnd_ret, b1_len_t, cmp_ne_int, hlen, elseD_bl]
    rw [if_neg (by simp)]
    simp only [hlc [Slot.sh (.tup (rss.map D.tup)), Slot.sh (.tup r), Slot.un] rfl rfl, bnd_ret, all_yes, notD_bl, Bool.not_true, iffD_bl]
    rfl
end UK

set_option Elab.async false
set_option linter.all false
set_option maxRecDepth 100000
set_option maxHeartbeats 400000
namespace UK
open PySem PySem.Spec PyProof.Rows L2
def fldS (T : Tabs) (x : Str) : D × Env' → M (Flw × Env') := fun r => match (r.2[(0 : Nat)]? : Option Slot) with
    | some (.se c fs) => guardM (decide ((T.CT[c]?.bind fun q => q.2[fs.length]?) = some x) && (decide (fs.lookup x = none) && decide (fs.length < 100))) (ret (.nx, r.2.set 0 (.se c (fs ++ [(x, r.1)]))))
    | _ => stuck
@[simp] theorem S_fld {T : Tabs} {φ ψ : Fns} {env : Env'} {x : Str} {e : E} : evS T φ ψ (.fld x e) env = bnd (evX T φ ψ e env) (fldS T x) := rfl
theorem fld_ok {x : Str} {c : Nat} {fs : List (Str × D)} {d : D} {env : Env'} (h : env[(0 : Nat)]? = some (.se c fs)) (h1 : (TT.CT[c]?.bind fun q => q.2[fs.length]?) = some x) (h2 : fs.lookup x = none) (h3 : fs.length < 100) : fldS TT x (d, env) = ret (.nx, env.set 0 (.se c (fs ++ [(x, d)]))) := by
  unfold fldS
  dsimp only
  rw [h]
  dsimp only
  rw [guard_t]
  rw [decide_eq_true h1, decide_eq_true h2, decide_eq_true h3]
  rfl
theorem lk_hit {x : Str} {d : D} {fs : List (Str × D)} : List.lookup x ((x, d) :: fs) = some d := by rw [List.lookup_cons, beq_self_eq_true]
theorem lk_miss {x y : Str} {d : D} {fs : List (Str × D)} (h : ¬ x = y) : List.lookup x ((y, d) :: fs) = List.lookup x fs := by rw [List.lookup_cons, beq_eq_false_iff_ne.mpr h]
theorem nfl_se {CT : CTab} {x : Str} {env : Env'} {i c : Nat} {fs : List (Str × D)} (h : env[i]? = some (.se c fs)) : nflD CT x env i = opt (fs.lookup x) := by
  unfold nflD
  rw [h]
theorem n_size_rows : ¬ ("size" : Str) = "rows" := by decide +kernel
theorem web_ini (n : Nat) (rss : List (List D)) (h0 : 0 < rss.length) (h3 : rss.length ≤ 3) (hR : RowsOk rss.length rss) : (B0.lev (n + 3)).2 0 [.tup (rss.map .tup)] = ret (webD rss) := by
  rw [st_Web___init__]
  unfold runI ir_Web___init__
  simp only [S_seq, S_ite, S_nop, S_fld, X_ev, frE_not, frE_call, frA_cons, frA_nil, frE_var, frE_b1, frE_lc, frE_slot, frE_nfl, frI_sq, frO_no, List.append_nil, List.cons_append, List.nil_append, frz_cons, frz_nil, frz1, startE, List.map_cons, List.map_nil, List.length_cons, List.length_nil, List.replicate, List.getElem?_cons_zero, List.getElem?_cons_succ, E_not, E_call, A_cons, A_nil, E_var, getSh, bnd_bnd, bnd_ret]
  rw [is_signs_ev n rss.length rss hR h0 h3]
  simp only [bnd_ret, notD_bl, Bool.not_true, iffD_bl]
  rw [if_neg Bool.false_ne_true]
  simp only [bnd_ret, seqD_nx, S_seq, S_fld, X_ev, frE_b1, frE_lc, frE_slot, frI_sq, frO_no, List.append_nil, frz_nil, bnd_bnd]
  rw [E_b1, lc_any (xs := rss.map D.tup) rfl (by rw [List.length_map]; omega)]
  rw [mapM_some (fun d => d) (rss.map D.tup) fun x hx => by
    obtain ⟨r, _, rfl⟩ := List.mem_map.mp hx
    rfl]
  simp only [List.map_id', bnd_ret, b1_tuple_l]
  rw [fld_ok (x := "rows") (c := 0) (fs := []) rfl (by decide +kernel) rfl (by decide)]
  simp only [bnd_ret, seqD_nx, S_fld, X_ev, E_b1, E_nfl, frE_b1, frE_nfl, frz_nil, List.set_cons_zero, List.nil_append, bnd_bnd]
  rw [show nflD TT.CT "rows" [Slot.se 0 [("rows", D.tup (rss.map D.tup))], Slot.sh (D.tup (rss.map D.tup)), Slot.un] 0 = ret (D.tup (rss.map D.tup)) by
    rw [nfl_se rfl, lk_hit]; rfl]
  simp only [bnd_ret, b1_len_t, List.length_map]
  rw [fld_ok (x := "size") (c := 0) (fs := [("rows", D.tup (rss.map D.tup))]) rfl (show (TT.CT[0]?.bind fun q => q.2[1]?) = some ("size" : Str) by decide +kernel) (by rw [lk_miss n_size_rows]; rfl) (show (1 : Nat) < 100 by decide)]
  simp only [bnd_ret, List.set_cons_zero, List.getElem?_cons_zero, List.cons_append, List.nil_append]
  show (if (0 = 0 ∧ (TT.CT[0]?.map (·.2)) = some [("rows" : Str), "size"]) then (ret (webD rss) : M D) else stuck) = _
  rw [if_pos ⟨rfl, by decide +kernel⟩]
end UK

set_option Elab.async false
set_option linter.all false
set_option maxRecDepth 100000
set_option maxHeartbeats 400000
namespace UK
open PySem PySem.Spec PyProof.Rows L2
/-! ### whole numbers as rows -/
def IRow (n : Nat) (rows : List (List Int)) : Prop := rows.length = n ∧ ∀ r ∈ rows, r.length = n ∧ ∀ i ∈ r, -1 ≤ i ∧ i ≤ 2
def rowsR (rows : List (List Int)) : List (List D) := rows.map fun r => r.map D.int
theorem sg_ints : ∀ {r : List D}, (∀ d ∈ r, Sg d) → ∃ s : List Int, r = s.map D.int ∧ ∀ i ∈ s, -1 ≤ i ∧ i ≤ 2
  | [], _ => ⟨[], rfl, fun i h => by cases h⟩
  | d :: r, h => by
    obtain ⟨s, rfl, hs⟩ := sg_ints (r := r) fun x hx => h x (List.mem_cons_of_mem _ hx)
    obtain ⟨i, rfl, i1, i2⟩ := h d (List.mem_cons_self ..)
    exact ⟨i :: s, rfl, fun j hj => by
      rcases List.mem_cons.mp hj with rfl | hj
      · exact ⟨i1, i2⟩
      · exact hs j hj⟩
theorem rows_ints {n : Nat} {rss : List (List D)} (h : RowsOk n rss) : ∃ rows, rss = rowsR rows ∧ IRow n rows := by
  obtain ⟨h1, h2⟩ := h
  have go : ∀ l : List (List D), (∀ r ∈ l, r.length = n ∧ ∀ d ∈ r, Sg d) → ∃ rows, l = rowsR rows ∧ ∀ r ∈ rows, r.length = n ∧ ∀ i ∈ r, -1 ≤ i ∧ i ≤ 2 := fun l => by
    induction l with
    | nil => exact fun _ => ⟨[], rfl, fun r h => by cases h⟩
    | cons r l ih =>
      intro h
      obtain ⟨rows, rfl, hr⟩ := ih fun x hx => h x (List.mem_cons_of_mem _ hx)
      obtain ⟨r1, r2⟩ := h r (List.mem_cons_self ..)
      obtain ⟨s, rfl, hs⟩ := sg_ints r2
      exact ⟨s :: rows, rfl, fun q hq => by
        rcases List.mem_cons.mp hq with rfl | hq
        · exact ⟨by simpa using r1, hs⟩
        · exact hr q hq⟩
  obtain ⟨rows, rfl, hr⟩ := go rss h2
  exact ⟨rows, rfl, by simpa [rowsR] using h1, hr⟩
theorem IRow.ok {n : Nat} {rows : List (List Int)} (h : IRow n rows) : RowsOk n (rowsR rows) := by
  refine ⟨by simpa [rowsR] using h.1, fun r hr => ?_⟩
  obtain ⟨s, hs, rfl⟩ := List.mem_map.mp hr
  obtain ⟨h1, h2⟩ := h.2 s hs
  refine ⟨by simpa using h1, fun d hd => ?_⟩
  obtain ⟨i, hi, rfl⟩ := List.mem_map.mp hd
  exact ⟨i, rfl, h2 i hi⟩
/-! ### powers -/
theorem pow_ev (n : Nat) (b m : Int) (hb : small64 b = true) (m0 : 0 ≤ m) (m1 : m ≤ 1000) : (B0.lev (n + 1)).1 9 [.int b, .int m] = ret (.int (b ^ m.toNat)) := by
  rw [st_power_of_whole]
  unfold runF ir_power_of_whole
  have loop : ∀ (xs : List D) (f : Int) (s : Slot), ∃ s', forD (evS TT (B0.lev n).1 (B0.lev n).2 (.set 2 (.bin .mul (.slot 2) (.slot 0)))) [3] xs [Slot.sh (.int b), Slot.sh (.int m), Slot.sh (.int f), s] = ret (.nx, [Slot.sh (.int b), Slot.sh (.int m), Slot.sh (.int (f * b ^ xs.length)), s']) := fun xs => by
    induction xs with
    | nil => exact fun f s => ⟨s, by simp [forD]⟩
    | cons x xs ih =>
      intro f s
      obtain ⟨s', e⟩ := ih (f * b) (.sh x)
      refine ⟨s', ?_⟩
      have hm : binD .mul (.int f) (.int b) = ret (.int (f * b)) := bin_mul_int (by rw [hb]; simp)
      show bnd (evS TT (B0.lev n).1 (B0.lev n).2 (.set 2 (.bin .mul (.slot 2) (.slot 0))) [Slot.sh (.int b), Slot.sh (.int m), Slot.sh (.int f), Slot.sh x]) _ = _
      simp only [S_set, X_ev, frE_bin, frE_slot, List.append_nil, frz_nil, E_bin, E_slot, getAny, List.getElem?_cons_zero, List.getElem?_cons_succ, bnd_ret, bnd_bnd, hm, List.set_cons_succ, List.set_cons_zero]
      rw [e, List.length_cons, Int.pow_succ', Int.mul_assoc]
  simp only [S_seq, S_set, S_for, S_ret, X_ev, frE_int, frz_nil, E_int, I_r1, frI_r1, frE_var, frz_cons, frz1, startE, List.map_cons, List.map_nil, List.length_cons, List.length_nil, List.replicate, List.cons_append, List.nil_append, List.getElem?_cons_zero, List.getElem?_cons_succ, E_var, getSh, bnd_ret, bnd_bnd, List.set_cons_succ, List.set_cons_zero, seqD_nx]
  rw [r1D_ok (n := m) (by omega) (by omega), bnd_ret]
  obtain ⟨s', e⟩ := loop (rngD 0 m.toNat) 1 .un
  rw [e]
  simp only [bnd_ret, seqD_nx, S_ret, X_ev, frE_var, frz_cons, frz_nil, frz1, List.getElem?_cons_zero, List.getElem?_cons_succ, E_var, getSh, rng_len, Int.one_mul]
  rfl
/-! ### sources -/
def signAt (rows : List (List Int)) (i j : Nat) : Int := (rows.getD i []).getD j 0
def srcs (rows : List (List Int)) (i : Nat) : List Nat := (List.range rows.length).filter fun j => decide (¬ signAt rows i j = 0)
def natD (j : Nat) : D := .int j
theorem atI_nat {α : Type} {xs : List α} {i : Nat} {x : α} (h : xs[i]? = some x) : atI xs (i : Int) = some x := by
  have hl := (List.getElem?_eq_some_iff.mp h).1
  unfold atI
  have e : ixN xs.length (i : Int) = some i := by unfold ixN; rw [if_pos (by omega), if_pos (by omega)]; rfl
  rw [e]
  exact h
theorem sign_get {n : Nat} {rows : List (List Int)} (h : IRow n rows) {i j : Nat} (hi : i < n) (hj : j < n) : ∃ r, rows[i]? = some r ∧ r[j]? = some (signAt rows i j) ∧ -1 ≤ signAt rows i j ∧ signAt rows i j ≤ 2 := by
  have hi' : i < rows.length := by rw [h.1]; exact hi
  obtain ⟨h1, h2⟩ := h.2 _ (List.getElem_mem hi')
  have hj' : j < rows[i].length := by rw [h1]; exact hj
  have e : signAt rows i j = rows[i][j] := by
    unfold signAt
    simp [List.getElem?_eq_getElem hi', List.getElem?_eq_getElem hj']
  refine ⟨rows[i], List.getElem?_eq_getElem hi', ?_, ?_⟩
  · rw [e]; exact List.getElem?_eq_getElem hj'
  · rw [e]; exact h2 _ (List.getElem_mem hj')
theorem idx_rows {n : Nat} {rows : List (List Int)} (h : IRow n rows) {i j : Nat} (hi : i < n) (hj : j < n) : bnd (idxD (.tup ((rowsR rows).map .tup)) (.int i)) (fun x => idxD x (.int j)) = ret (.int (signAt rows i j)) := by
  obtain ⟨r, e1, e2, _⟩ := sign_get h hi hj
  rw [idx_tup (x := .tup (r.map .int)) (atI_nat (by rw [List.getElem?_map]; unfold rowsR; rw [List.getElem?_map, e1]; rfl))]
  rw [bnd_ret, idx_tup (x := .int (signAt rows i j)) (atI_nat (by rw [List.getElem?_map, e2]; rfl))]
end UK

set_option Elab.async false
set_option linter.all false
set_option maxRecDepth 100000
set_option maxHeartbeats 400000
namespace UK
open PySem PySem.Spec PyProof.Rows L2
theorem nfl_sh {CT : CTab} {x : Str} {env : Env'} {i : Nat} {d : D} (h : env[i]? = some (.sh d)) : nflD CT x env i = fldD CT x d := by
  unfold nflD
  rw [h]
theorem ct0 : (TT.CT[0]? : Option (Str × List Str)) = some (("Web" : Str), [("rows" : Str), ("size" : Str)]) := rfl
theorem ct1 : (TT.CT[1]? : Option (Str × List Str)) = some (("LevelRules" : Str), [("web" : Str), ("most" : Str), ("tables" : Str)]) := rfl
theorem ct2 : (TT.CT[2]? : Option (Str × List Str)) = some (("TwoLevels" : Str), [("rules" : Str), ("one" : Str), ("other" : Str)]) := rfl
theorem ct3 : (TT.CT[3]? : Option (Str × List Str)) = some (("NoLevels" : Str), [("rules" : Str)]) := rfl
theorem fld_at {c : Nat} {C : Str} {fns : List Str} {ds : List D} {x : Str} {j : Nat} {d : D} (h : TT.CT[c]? = some (C, fns)) (hj : fns.idxOf x = j) (hd : ds[j]? = some d) : fldD TT.CT x (.ins c ds) = ret d := by
  show (match TT.CT[c]? with | some (_, fns) => opt (ds[fns.idxOf x]?) | none => stuck) = _
  rw [h]
  dsimp only
  rw [hj, hd]
  rfl
theorem web_rows_f (rss : List (List D)) : fldD TT.CT "rows" (webD rss) = ret (.tup (rss.map .tup)) := fld_at ct0 (show List.idxOf ("rows" : Str) [("rows" : Str), ("size" : Str)] = 0 by decide +kernel) rfl
theorem web_size_f (rss : List (List D)) : fldD TT.CT "size" (webD rss) = ret (.int rss.length) := fld_at ct0 (show List.idxOf ("size" : Str) [("rows" : Str), ("size" : Str)] = 1 by decide +kernel) rfl
theorem rng_nat (n : Nat) : rngD 0 n = (List.range n).map natD := by
  unfold rngD
  congr 1
  funext k
  show D.int (0 + (k : Int)) = D.int k
  rw [Int.zero_add]
theorem filt_nat {g : D → Option D} {p : Nat → Bool} : ∀ l : List Nat, (∀ k ∈ l, g (natD k) = if p k = true then some (natD k) else none) → (l.map natD).filterMap g = (l.filter p).map natD
  | [], _ => rfl
  | k :: l, h => by
    rw [List.map_cons, List.filterMap_cons, h k (List.mem_cons_self ..), List.filter_cons]
    by_cases e : p k = true
    · rw [if_pos e, if_pos e, List.map_cons]
      exact congrArg (natD k :: ·) (filt_nat l fun j hj => h j (List.mem_cons_of_mem _ hj))
    · rw [if_neg e, if_neg e]
      exact filt_nat l fun j hj => h j (List.mem_cons_of_mem _ hj)
def pickNat (p : Nat → Bool) : D → Option D
  | .int k => if p k.toNat = true then some (.int k) else none
  | _ => none
theorem pickNat_nat (p : Nat → Bool) (k : Nat) : pickNat p (natD k) = if p k = true then some (natD k) else none := rfl
theorem sources_ev (n : Nat) {size : Nat} {rows : List (List Int)} (h : IRow size rows) (h3 : size ≤ 3) {i : Nat} (hi : i < size) : (B0.lev (n + 1)).1 5 [webD (rowsR rows), .int i] = ret (.tup ((srcs rows i).map natD)) := by
  rw [st_sources_in]
  unfold runF ir_sources_in
  have hl : (rowsR rows).length = size := by unfold rowsR; rw [List.length_map]; exact h.1
  rw [S_ret, X_ev]
  rw [show frz (frE (.b1 .tuple (.lc [2] (.var 2) [2] (.r1 (.nfl 0 "size")) (.yes (.cmp .ne (.idx (.idx (.nfl 0 "rows") (.var 1)) (.var 2)) (.int 0)))))) (startE 3 [webD (rowsR rows), D.int i]) = [Slot.sh (webD (rowsR rows)), Slot.sh (D.int i), Slot.un] from rfl]
  rw [E_b1, lc_any (xs := rngD 0 size) (by rw [I_r1, E_nfl, nfl_sh rfl, web_size_f, bnd_ret, hl]; exact r1D_ok (n := size) (by omega) (by omega)) (by rw [rng_len]; omega)]
  rw [mapM_ret (pickNat fun j => decide (¬ signAt rows i j = 0)) (rngD 0 size) fun x hx => ?_]
  · rw [bnd_ret, bnd_ret, b1_tuple_l, bnd_ret, bnd_ret]
    rw [rng_nat, filt_nat (p := fun j => decide (¬ signAt rows i j = 0)) _ fun k _ => pickNat_nat _ k]
    unfold srcs
    rw [h.1]
    rfl
  · obtain ⟨j, rfl, j0, j1⟩ := rng_pl hx
    have hj : j.toNat < size := by omega
    have ej : (j.toNat : Int) = j := by omega
    have q := idx_rows h hi hj
    rw [ej] at q
    rw [elM_one, ifM_yes]
    simp only [wipeE_cons, wipeE_nil, List.set_cons_succ, List.set_cons_zero, E_cmp, E_idx, E_var, E_int, E_nfl, bnd_bnd, getSh, List.getElem?_cons_zero, List.getElem?_cons_succ, bnd_ret]
    rw [nfl_sh rfl, web_rows_f, bnd_ret]
    rw [← bnd_bnd, q]
    simp only [bnd_ret, cmp_ne_int, iffD_bl]
    show _ = ret (if decide (¬ signAt rows i j.toNat = 0) = true then some (D.int j) else none)
    by_cases z : signAt rows i j.toNat = 0
    · simp [z]
    · simp [z]
end UK

set_option Elab.async false
set_option linter.all false
set_option maxRecDepth 100000
set_option maxHeartbeats 400000
namespace UK
open PySem PySem.Spec PyProof.Rows L2
/-! ### units -/
def unitL (b : Int) (k : Nat) : List D := (List.range (k + 1)).map fun j => D.int (b ^ j)
theorem unitL_len (b : Int) (k : Nat) : (unitL b k).length = k + 1 := by simp [unitL]
theorem unitL_at (b : Int) {k j : Nat} (h : j < k + 1) : (unitL b k)[j]? = some (.int (b ^ j)) := by
  unfold unitL
  rw [List.getElem?_map, List.getElem?_range h]
  rfl
theorem unitL_succ (b : Int) (k : Nat) : unitL b (k + 1) = unitL b k ++ [.int (b ^ (k + 1))] := by
  unfold unitL
  rw [List.range_succ, List.map_append]
  rfl
theorem atI_last {α : Type} {xs : List α} {k : Nat} {x : α} (hl : xs.length = k + 1) (h : xs[k]? = some x) : atI xs (-1) = some x := by
  unfold atI
  have e : ixN xs.length (-1) = some k := by
    unfold ixN
    rw [if_neg (by decide), if_pos (by omega)]
    congr 1
    omega
  rw [e]
  exact h
def appD (i : Nat) : D × Env' → M (Flw × Env') := fun r => match r.2[i]? with
      | some (.ow ds) => guardM (decide (ds.length ≤ LIM)) (ret (.nx, r.2.set i (.ow (ds ++ [r.1]))))
      | _ => stuck
@[simp] theorem S_app {T : Tabs} {φ ψ : Fns} {env : Env'} {i : Nat} {e : E} : evS T φ ψ (.app i e) env = bnd (evX T φ ψ e env) (appD i) := rfl
theorem app_ok {i : Nat} {env : Env'} {ds : List D} {d : D} (h : env[i]? = some (.ow ds)) (hl : ds.length ≤ 1000) : appD i (d, env) = ret (.nx, env.set i (.ow (ds ++ [d]))) := by
  unfold appD
  dsimp only
  rw [h]
  dsimp only
  rw [guard_t (limM hl)]
theorem units_ev (n : Nat) (most : Int) (k : Nat) (hb : small64 (most + 1) = true) (hk : k ≤ 100) : (B0.lev (n + 1)).1 31 [.int most, .int k] = ret (.lst (unitL (most + 1) k)) := by
  rw [st__law_units]
  unfold runF ir__law_units
  have loop : ∀ (xs : List D) (j : Nat) (s : Slot), j + xs.length ≤ 100 → ∃ s', forD (evS TT (B0.lev n).1 (B0.lev n).2 (.app 2 (.bin .mul (.idx (.slot 2) (.neg (.int 1))) (.bin .add (.slot 0) (.int 1))))) [3] xs [Slot.sh (.int most), Slot.sh (.int k), Slot.ow (unitL (most + 1) j), s] = ret (.nx, [Slot.sh (.int most), Slot.sh (.int k), Slot.ow (unitL (most + 1) (j + xs.length)), s']) := fun xs => by
    induction xs with
    | nil => exact fun j s _ => ⟨s, rfl⟩
    | cons x xs ih =>
      intro j s hj
      rw [List.length_cons] at hj
      obtain ⟨s', e⟩ := ih (j + 1) (.sh x) (by omega)
      refine ⟨s', ?_⟩
      have hm : binD .mul (.int ((most + 1) ^ j)) (.int (most + 1)) = ret (.int ((most + 1) ^ j * (most + 1))) := bin_mul_int (by rw [hb]; simp)
      have hi : idxD (.lst (unitL (most + 1) j)) (.int (-1)) = ret (.int ((most + 1) ^ j)) := idx_lst (atI_last (unitL_len _ j) (unitL_at _ (by omega)))
      show bnd (evS TT (B0.lev n).1 (B0.lev n).2 (.app 2 (.bin .mul (.idx (.slot 2) (.neg (.int 1))) (.bin .add (.slot 0) (.int 1)))) [Slot.sh (.int most), Slot.sh (.int k), Slot.ow (unitL (most + 1) j), Slot.sh x]) _ = _
      simp only [S_app, X_ev, frE_bin, frE_idx, frE_neg, frE_int, frE_slot, List.append_nil, frz_nil, E_bin, E_idx, E_neg, E_int, E_slot, getAny, List.getElem?_cons_zero, List.getElem?_cons_succ, bnd_ret, bnd_bnd, neg_int, hi, bin_add_int, hm]
      rw [app_ok rfl (by rw [unitL_len]; omega), ← Int.pow_succ, ← unitL_succ]
      simp only [bnd_ret, List.set_cons_succ, List.set_cons_zero]
      rw [e, List.length_cons, show j + 1 + xs.length = j + (xs.length + 1) by omega]
  have h1 : unitL (most + 1) 0 = [.int 1] := by simp [unitL]
  simp only [S_seq, S_own, S_for, S_ret, X_ev, frE_lst, frA_cons, frA_nil, frE_int, List.append_nil, frz_nil, E_lst, A_cons, A_nil, E_int, I_r1, frI_r1, frE_var, frz_cons, frz1, startE, List.map_cons, List.map_nil, List.length_cons, List.length_nil, List.replicate, List.cons_append, List.nil_append, List.getElem?_cons_zero, List.getElem?_cons_succ, E_var, getSh, bnd_ret, bnd_bnd]
  rw [guard_t (limM (by decide))]
  simp only [bnd_ret, ownD_lst, List.set_cons_succ, List.set_cons_zero, seqD_nx, S_seq, S_for, frI_r1, frE_var, frz_cons, frz_nil, frz1, List.getElem?_cons_zero, List.getElem?_cons_succ, I_r1, E_var, getSh]
  rw [r1D_ok (n := k) (by omega) (by omega), bnd_ret, ← h1]
  obtain ⟨s', e⟩ := loop (rngD 0 k) 0 .un (by rw [rng_len]; omega)
  rw [show (k : Int).toNat = k from rfl, e]
  simp only [bnd_ret, seqD_nx, S_ret, X_ev, frE_var, frz_cons, frz_nil, frz1, List.getElem?_cons_zero, List.getElem?_cons_succ, List.set_cons_succ, List.set_cons_zero, E_var, getSh, rng_len, Nat.zero_add]
  rfl
end UK

set_option Elab.async false
set_option linter.all false
set_option maxRecDepth 100000
set_option maxHeartbeats 400000
namespace UK
open PySem PySem.Spec PyProof.Rows L2
/-! ### goals -/
def rulesD (rows : List (List Int)) (most : Int) (tables : List (List Int)) : D := .ins 1 [webD (rowsR rows), .int most, .tup (tables.map fun t => .tup (t.map .int))]
def stD (state : List Int) : D := .tup (state.map .int)
theorem rules_web_f (rows : List (List Int)) (most : Int) (tables : List (List Int)) : fldD TT.CT "web" (rulesD rows most tables) = ret (webD (rowsR rows)) := fld_at ct1 (show List.idxOf ("web" : Str) [("web" : Str), ("most" : Str), ("tables" : Str)] = 0 by decide +kernel) rfl
theorem rules_most_f (rows : List (List Int)) (most : Int) (tables : List (List Int)) : fldD TT.CT "most" (rulesD rows most tables) = ret (.int most) := fld_at ct1 (show List.idxOf ("most" : Str) [("web" : Str), ("most" : Str), ("tables" : Str)] = 1 by decide +kernel) rfl
theorem rules_tabs_f (rows : List (List Int)) (most : Int) (tables : List (List Int)) : fldD TT.CT "tables" (rulesD rows most tables) = ret (.tup (tables.map fun t => .tup (t.map .int))) := fld_at ct1 (show List.idxOf ("tables" : Str) [("web" : Str), ("most" : Str), ("tables" : Str)] = 2 by decide +kernel) rfl
/-- the number of a state's levels at a lot, the first place the lowest -/
def numAt (b : Int) (state : List Int) : List Nat → Int
  | [] => 0
  | s :: r => state.getD s 0 + b * numAt b state r
theorem int_get {l : List Int} {k : Nat} (h : k < l.length) : (l.map D.int)[k]? = some (.int (l.getD k 0)) := by
  rw [List.getElem?_map, List.getElem?_eq_getElem h]
  simp [List.getElem?_eq_getElem h]
theorem idx_st {state : List Int} {s : Nat} (h : s < state.length) : idxD (stD state) (natD s) = ret (.int (state.getD s 0)) := idx_tup (atI_nat (int_get h))
theorem horner (b : Int) (state : List Int) : ∀ (lot : List Nat) (a : Int), lot.foldr (fun s acc => acc * b + state.getD s 0) a = numAt b state lot + b ^ lot.length * a
  | [], a => by simp [numAt]
  | s :: r, a => by
    rw [List.foldr_cons, horner b state r a]
    show (numAt b state r + b ^ r.length * a) * b + state.getD s 0 = state.getD s 0 + b * numAt b state r + b ^ (r.length + 1) * a
    rw [Int.add_mul, Int.mul_comm (numAt b state r) b, Int.pow_succ, Int.mul_assoc, Int.mul_comm a b, ← Int.mul_assoc]
    omega
theorem goal_ev (n : Nat) {size : Nat} {rows : List (List Int)} (h : IRow size rows) (h3 : size ≤ 3) {i : Nat} (hi : i < size) {most : Int} (hm : small64 (most + 1) = true) {tables : List (List Int)} {state : List Int} (hs : state.length = size) {t : List Int} (ht : tables[i]? = some t)
    {g : Int} (h0 : 0 ≤ numAt (most + 1) state (srcs rows i)) (hg : t[(numAt (most + 1) state (srcs rows i)).toNat]? = some g) : (B0.lev (n + 2)).1 12 [rulesD rows most tables, stD state, .int i] = ret (.int g) := by
  rw [st_goal_in]
  unfold runF ir_goal_in
  have loop : ∀ (lot : List Nat) (a : Int) (s : Slot), (∀ x ∈ lot, x < size) → ∃ s', forD (evS TT (B0.lev (n + 1)).1 (B0.lev (n + 1)).2 (.set 4 (.bin .add (.bin .mul (.slot 4) (.slot 3)) (.idx (.slot 1) (.var 5))))) [5] (lot.map natD) [Slot.sh (rulesD rows most tables), Slot.sh (stD state), Slot.sh (.int i), Slot.sh (.int (most + 1)), Slot.sh (.int a), s] = ret (.nx, [Slot.sh (rulesD rows most tables), Slot.sh (stD state), Slot.sh (.int i), Slot.sh (.int (most + 1)), Slot.sh (.int (lot.foldl (fun acc s => acc * (most + 1) + state.getD s 0) a)), s']) := fun lot => by
    induction lot with
    | nil => exact fun a s _ => ⟨s, rfl⟩
    | cons x lot ih =>
      intro a s hl
      obtain ⟨s', e⟩ := ih (a * (most + 1) + state.getD x 0) (.sh (natD x)) fun y hy => hl y (List.mem_cons_of_mem _ hy)
      refine ⟨s', ?_⟩
      have hx := idx_st (state := state) (s := x) (by rw [hs]; exact hl x (List.mem_cons_self ..))
      have hmul : binD .mul (.int a) (.int (most + 1)) = ret (.int (a * (most + 1))) := bin_mul_int (by rw [hm]; simp)
      show bnd (evS TT (B0.lev (n + 1)).1 (B0.lev (n + 1)).2 (.set 4 (.bin .add (.bin .mul (.slot 4) (.slot 3)) (.idx (.slot 1) (.var 5)))) [Slot.sh (rulesD rows most tables), Slot.sh (stD state), Slot.sh (.int i), Slot.sh (.int (most + 1)), Slot.sh (.int a), Slot.sh (natD x)]) _ = _
      rw [S_set, X_ev]
      rw [show frz (frE (.bin .add (.bin .mul (.slot 4) (.slot 3)) (.idx (.slot 1) (.var 5)))) [Slot.sh (rulesD rows most tables), Slot.sh (stD state), Slot.sh (.int i), Slot.sh (.int (most + 1)), Slot.sh (.int a), Slot.sh (natD x)] = [Slot.sh (rulesD rows most tables), Slot.sh (stD state), Slot.sh (.int i), Slot.sh (.int (most + 1)), Slot.sh (.int a), Slot.sh (natD x)] from rfl]
      simp only [E_bin, E_idx, E_slot, E_var, getAny, getSh, List.getElem?_cons_zero, List.getElem?_cons_succ, bnd_ret, bnd_bnd, hmul, hx, bin_add_int, List.set_cons_succ, List.set_cons_zero]
      exact e
  have hN : nflD TT.CT "most" (startE 6 [rulesD rows most tables, stD state, D.int i]) 0 = ret (.int most) := by rw [nfl_sh rfl, rules_most_f]
  rw [S_seq, S_set, X_ev]
  rw [show frz (frE (.bin .add (.nfl 0 "most") (.int 1))) (startE 6 [rulesD rows most tables, stD state, D.int i]) = startE 6 [rulesD rows most tables, stD state, D.int i] from rfl]
  simp only [E_bin, E_nfl, E_int, bnd_ret, bnd_bnd, hN, bin_add_int]
  rw [show (startE 6 [rulesD rows most tables, stD state, D.int i]).set 3 (.sh (.int (most + 1))) = [Slot.sh (rulesD rows most tables), Slot.sh (stD state), Slot.sh (.int i), Slot.sh (.int (most + 1)), Slot.un, Slot.un] from rfl]
  simp only [seqD_nx, S_seq, S_set, S_for, X_ev, frE_int, frz_nil, E_int, bnd_ret, bnd_bnd, List.set_cons_succ, List.set_cons_zero]
  rw [show frz (frI (.sq (.rev (.call 5 (.cons (.nfl 0 "web") (.cons (.var 2) .nil)))))) [Slot.sh (rulesD rows most tables), Slot.sh (stD state), Slot.sh (.int i), Slot.sh (.int (most + 1)), Slot.sh (.int 0), Slot.un] = [Slot.sh (rulesD rows most tables), Slot.sh (stD state), Slot.sh (.int i), Slot.sh (.int (most + 1)), Slot.sh (.int 0), Slot.un] from rfl]
  have hW : nflD TT.CT "web" [Slot.sh (rulesD rows most tables), Slot.sh (stD state), Slot.sh (.int i), Slot.sh (.int (most + 1)), Slot.sh (.int 0), Slot.un] 0 = ret (webD (rowsR rows)) := by rw [nfl_sh rfl, rules_web_f]
  have hsrc := sources_ev n h h3 hi
  simp only [I_sq, E_rev, E_call, A_cons, A_nil, E_nfl, E_var, hW, getSh, List.getElem?_cons_zero, List.getElem?_cons_succ, bnd_ret, bnd_bnd, hsrc]
  rw [show revD (.tup ((srcs rows i).map natD)) = ret (.tup ((srcs rows i).reverse.map natD)) by rw [List.map_reverse]; rfl, bnd_ret]
  rw [show opt (seqD (.tup ((srcs rows i).reverse.map natD))) = ret ((srcs rows i).reverse.map natD) from rfl, bnd_ret]
  obtain ⟨s', e⟩ := loop (srcs rows i).reverse 0 .un fun x hx => by
    have := (List.mem_filter.mp (List.mem_reverse.mp hx)).1
    rw [← h.1]
    exact List.mem_range.mp this
  rw [e]
  rw [List.foldl_reverse, horner, Int.mul_zero, Int.add_zero]
  simp only [bnd_ret, seqD_nx, S_ret, X_ev]
  rw [show frz (frE (.idx (.idx (.nfl 0 "tables") (.var 2)) (.var 4))) [Slot.sh (rulesD rows most tables), Slot.sh (stD state), Slot.sh (.int i), Slot.sh (.int (most + 1)), Slot.sh (.int (numAt (most + 1) state (srcs rows i))), s'] = [Slot.sh (rulesD rows most tables), Slot.sh (stD state), Slot.sh (.int i), Slot.sh (.int (most + 1)), Slot.sh (.int (numAt (most + 1) state (srcs rows i))), s'] from rfl]
  have hT : nflD TT.CT "tables" [Slot.sh (rulesD rows most tables), Slot.sh (stD state), Slot.sh (.int i), Slot.sh (.int (most + 1)), Slot.sh (.int (numAt (most + 1) state (srcs rows i))), s'] 0 = ret (.tup (tables.map fun t => .tup (t.map .int))) := by rw [nfl_sh rfl, rules_tabs_f]
  have i1 : idxD (.tup (tables.map fun t => .tup (t.map D.int))) (.int i) = ret (.tup (t.map .int)) := idx_tup (atI_nat (by rw [List.getElem?_map, ht]; rfl))
  have i2 : idxD (.tup (t.map D.int)) (.int (numAt (most + 1) state (srcs rows i))) = ret (.int g) := by
    obtain ⟨k, hk⟩ := Int.eq_ofNat_of_zero_le h0
    rw [hk] at hg ⊢
    exact idx_tup (atI_nat (by rw [List.getElem?_map, show t[k]? = some g from hg]; rfl))
  simp only [E_idx, E_nfl, E_var, hT, getSh, List.getElem?_cons_zero, List.getElem?_cons_succ, bnd_ret, bnd_bnd, i1, i2]
  rfl
end UK

set_option Elab.async false
set_option linter.all false
set_option maxRecDepth 100000
set_option maxHeartbeats 400000
namespace UK
open PySem PySem.Spec PyProof.Rows L2
def rowsT (rows : List (List Int)) : D := .tup ((rowsR rows).map .tup)
theorem law_sources_ev (n : Nat) {size : Nat} {rows : List (List Int)} (h : IRow size rows) (h3 : size ≤ 3) {i : Nat} (hi : i < size) : (B0.lev (n + 1)).1 26 [rowsT rows, .int i] = ret (.lst ((srcs rows i).map natD)) := by
  rw [st__law_sources]
  unfold runF ir__law_sources
  have hl : ((rowsR rows).map D.tup).length = size := by unfold rowsR; rw [List.length_map, List.length_map]; exact h.1
  rw [S_ret, X_ev]
  rw [show frz (frE (.lc [2] (.var 2) [2] (.r1 (.b1 .len (.slot 0))) (.yes (.cmp .ne (.idx (.idx (.slot 0) (.var 1)) (.var 2)) (.int 0))))) (startE 3 [rowsT rows, D.int i]) = [Slot.sh (rowsT rows), Slot.sh (D.int i), Slot.un] from rfl]
  rw [lc_any (xs := rngD 0 size) (by
    rw [I_r1, E_b1, E_slot]
    show r1D (.int (((rowsR rows).map D.tup).length : Int)) = _
    rw [hl]; exact r1D_ok (n := size) (by omega) (by omega)) (by rw [rng_len]; omega)]
  rw [mapM_ret (pickNat fun j => decide (¬ signAt rows i j = 0)) (rngD 0 size) fun x hx => ?_]
  · rw [bnd_ret, bnd_ret, bnd_ret, bnd_ret]
    rw [rng_nat, filt_nat (p := fun j => decide (¬ signAt rows i j = 0)) _ fun k _ => pickNat_nat _ k]
    unfold srcs
    rw [h.1]
    rfl
  · obtain ⟨j, rfl, j0, j1⟩ := rng_pl hx
    have hj : j.toNat < size := by omega
    have ej : (j.toNat : Int) = j := by omega
    have q := idx_rows h hi hj
    rw [ej] at q
    rw [elM_one, ifM_yes]
    simp only [wipeE_cons, wipeE_nil, List.set_cons_succ, List.set_cons_zero, E_cmp, E_idx, E_var, E_slot, E_int, bnd_bnd, getSh, getAny, List.getElem?_cons_zero, List.getElem?_cons_succ, bnd_ret]
    rw [← bnd_bnd]
    unfold rowsT
    rw [q]
    simp only [bnd_ret, cmp_ne_int, iffD_bl]
    show _ = ret (if decide (¬ signAt rows i j.toNat = 0) = true then some (D.int j) else none)
    by_cases z : signAt rows i j.toNat = 0
    · simp [z]
    · simp [z]
/-- the sum of levels by units is the number -/
theorem num_sum (b : Int) (state : List Int) : ∀ (lot : List Nat) (k : Nat), ((List.range lot.length).map fun at_ => state.getD (lot.getD at_ 0) 0 * b ^ (at_ + k)).sum = b ^ k * numAt b state lot
  | [], k => by simp [numAt]
  | s :: r, k => by
    rw [List.length_cons, List.range_succ_eq_map, List.map_cons, List.map_map, List.sum_cons]
    have q := num_sum b state r (k + 1)
    have e : ((fun at_ => state.getD ((s :: r).getD at_ 0) 0 * b ^ (at_ + k)) ∘ Nat.succ) = fun at_ => state.getD (r.getD at_ 0) 0 * b ^ (at_ + (k + 1)) := by
      funext at_
      show state.getD ((s :: r).getD (at_ + 1) 0) 0 * b ^ (at_ + 1 + k) = _
      rw [show at_ + 1 + k = at_ + (k + 1) by omega]
      rfl
    rw [e, q]
    show state.getD s 0 * b ^ (0 + k) + b ^ (k + 1) * numAt b state r = b ^ k * (state.getD s 0 + b * numAt b state r)
    rw [Nat.zero_add, Int.mul_add, Int.pow_succ, Int.mul_assoc, Int.mul_comm (state.getD s 0)]
end UK

set_option Elab.async false
set_option linter.all false
set_option maxRecDepth 100000
set_option maxHeartbeats 400000
namespace UK
open PySem PySem.Spec PyProof.Rows L2
theorem intsOf_map : ∀ xs : List Int, intsOf (xs.map D.int) = some xs
  | [] => rfl
  | x :: xs => by
    show (intsOf (xs.map D.int)).map (x :: ·) = _
    rw [intsOf_map xs]
    rfl
theorem sum_ints (xs : List Int) : b1D .sum (.lst (xs.map D.int)) = ret (.int xs.sum) := by
  show (match intsOf (xs.map D.int) with | some is => ret (D.int is.sum) | none => stuck) = _
  rw [intsOf_map]
def tabsD (tables : List (List Int)) : D := .tup (tables.map fun t => .tup (t.map .int))
theorem law_goal_ev (n : Nat) {size : Nat} {rows : List (List Int)} (h : IRow size rows) (h3 : size ≤ 3) {i : Nat} (hi : i < size) {most : Int} (hm : small64 (most + 1) = true) {tables : List (List Int)} {state : List Int} (hs : state.length = size) (hst : ∀ j, small64 (state.getD j 0) = true) {t : List Int} (ht : tables[i]? = some t)
    {g : Int} (h0 : 0 ≤ numAt (most + 1) state (srcs rows i)) (hg : t[(numAt (most + 1) state (srcs rows i)).toNat]? = some g) : (B0.lev (n + 2)).1 34 [rowsT rows, .int most, tabsD tables, stD state, .int i] = ret (.int g) := by
  rw [st__law_goal]
  unfold runF ir__law_goal
  have hL : (srcs rows i).length ≤ size := by
    have := List.length_filter_le (fun j => decide (¬ signAt rows i j = 0)) (List.range rows.length)
    rw [List.length_range] at this
    exact Nat.le_trans this (Nat.le_of_eq h.1)
  generalize hlot : srcs rows i = lot at *
  have hmem : ∀ x ∈ lot, x < size := fun x hx => by
    rw [← hlot] at hx
    rw [← h.1]
    exact List.mem_range.mp (List.mem_filter.mp hx).1
  have hsrc := law_sources_ev n h h3 hi
  rw [hlot] at hsrc
  have hun := units_ev n most lot.length hm (by omega)
  rw [S_seq, S_set, X_ev]
  rw [show frz (frE (.call 26 (.cons (.var 0) (.cons (.var 4) .nil)))) (startE 8 [rowsT rows, D.int most, tabsD tables, stD state, D.int i]) = [Slot.sh (rowsT rows), Slot.sh (D.int most), Slot.sh (tabsD tables), Slot.sh (stD state), Slot.sh (D.int i), Slot.un, Slot.un, Slot.un] from rfl]
  simp only [E_call, A_cons, A_nil, E_var, getSh, List.getElem?_cons_zero, List.getElem?_cons_succ, bnd_ret, bnd_bnd, hsrc, List.set_cons_succ, List.set_cons_zero, seqD_nx]
  rw [S_seq, S_set, X_ev]
  rw [show frz (frE (.call 31 (.cons (.var 1) (.cons (.b1 .len (.slot 5)) .nil)))) [Slot.sh (rowsT rows), Slot.sh (D.int most), Slot.sh (tabsD tables), Slot.sh (stD state), Slot.sh (D.int i), Slot.sh (.lst (lot.map natD)), Slot.un, Slot.un] = [Slot.sh (rowsT rows), Slot.sh (D.int most), Slot.sh (tabsD tables), Slot.sh (stD state), Slot.sh (D.int i), Slot.sh (.lst (lot.map natD)), Slot.un, Slot.un] from rfl]
  simp only [E_call, A_cons, A_nil, E_var, E_b1, E_slot, getAny, getSh, List.getElem?_cons_zero, List.getElem?_cons_succ, bnd_ret, bnd_bnd, b1_len_l, List.length_map, hun, List.set_cons_succ, List.set_cons_zero, seqD_nx]
  rw [S_ret, X_ev]
  generalize hE : [Slot.sh (rowsT rows), Slot.sh (D.int most), Slot.sh (tabsD tables), Slot.sh (stD state), Slot.sh (D.int i), Slot.sh (D.lst (lot.map natD)), Slot.sh (D.lst (unitL (most + 1) lot.length)), Slot.un] = env
  have hf : frz (frE (.idx (.idx (.slot 2) (.var 4)) (.b1 .sum (.lc [7] (.bin .mul (.idx (.slot 3) (.idx (.slot 5) (.var 7))) (.idx (.slot 6) (.var 7))) [7] (.r1 (.b1 .len (.slot 5))) .no)))) env = env := by rw [← hE]; rfl
  rw [hf]
  have hlc : evE TT (B0.lev (n + 1)).1 (B0.lev (n + 1)).2 (.lc [7] (.bin .mul (.idx (.slot 3) (.idx (.slot 5) (.var 7))) (.idx (.slot 6) (.var 7))) [7] (.r1 (.b1 .len (.slot 5))) .no) env = ret (.lst (((List.range lot.length).map fun at_ => state.getD (lot.getD at_ 0) 0 * (most + 1) ^ (at_ + 0)).map D.int)) := by
    rw [lc_any (xs := rngD 0 lot.length) (by
      rw [I_r1, E_b1, E_slot, ← hE]
      show r1D (.int ((lot.map natD).length : Int)) = _
      rw [List.length_map]; exact r1D_ok (n := lot.length) (by omega) (by omega)) (by rw [rng_len]; omega)]
    rw [rng_nat, mapM_some (fun d => match d with | .int k => .int (state.getD (lot.getD k.toNat 0) 0 * (most + 1) ^ (k.toNat + 0)) | d => d)]
    · rw [bnd_ret, List.map_map, List.map_map]
      rfl
    · intro x hx
      obtain ⟨k, hk, rfl⟩ := List.mem_map.mp hx
      have hk := List.mem_range.mp hk
      have e1 : idxD (.lst (lot.map natD)) (.int k) = ret (natD (lot.getD k 0)) := idx_lst (atI_nat (by
        rw [List.getElem?_map, List.getElem?_eq_getElem hk]
        simp [List.getElem?_eq_getElem hk]))
      have e2 : idxD (stD state) (natD (lot.getD k 0)) = ret (.int (state.getD (lot.getD k 0) 0)) := idx_st (by
        rw [hs]
        have : lot.getD k 0 = lot[k] := by simp [List.getElem?_eq_getElem hk]
        rw [this]
        exact hmem _ (List.getElem_mem hk))
      have e3 : idxD (.lst (unitL (most + 1) lot.length)) (.int k) = ret (.int ((most + 1) ^ k)) := idx_lst (atI_nat (unitL_at _ (by omega)))
      have e4 : binD .mul (.int (state.getD (lot.getD k 0) 0)) (.int ((most + 1) ^ k)) = ret (.int (state.getD (lot.getD k 0) 0 * (most + 1) ^ k)) := bin_mul_int (by rw [hst]; rfl)
      rw [elM_one, ifM_no, ← hE]
      show bnd (evE TT (B0.lev (n + 1)).1 (B0.lev (n + 1)).2 (.bin .mul (.idx (.slot 3) (.idx (.slot 5) (.var 7))) (.idx (.slot 6) (.var 7))) [Slot.sh (rowsT rows), Slot.sh (D.int most), Slot.sh (tabsD tables), Slot.sh (stD state), Slot.sh (D.int i), Slot.sh (D.lst (lot.map natD)), Slot.sh (D.lst (unitL (most + 1) lot.length)), Slot.sh (.int (k : Int))]) _ = _
      simp only [E_bin, E_idx, E_slot, E_var, getAny, getSh, List.getElem?_cons_zero, List.getElem?_cons_succ, bnd_ret, bnd_bnd, e1, e2, e3, e4]
      rfl
  have i1 : idxD (tabsD tables) (.int i) = ret (.tup (t.map .int)) := idx_tup (atI_nat (by rw [List.getElem?_map, ht]; rfl))
  have i2 : idxD (.tup (t.map D.int)) (.int (numAt (most + 1) state lot)) = ret (.int g) := by
    obtain ⟨k, hk⟩ := Int.eq_ofNat_of_zero_le h0
    rw [hk] at hg ⊢
    exact idx_tup (atI_nat (by rw [List.getElem?_map, show t[k]? = some g from hg]; rfl))
  rw [E_idx, E_idx, E_b1, hlc]
  rw [bnd_ret, sum_ints, num_sum, Int.pow_zero, Int.one_mul]
  rw [← hE]
  simp only [E_slot, E_var, getAny, getSh, List.getElem?_cons_zero, List.getElem?_cons_succ, bnd_ret, bnd_bnd, i1, i2]
  rfl
end UK

set_option Elab.async false
set_option linter.all false
set_option maxRecDepth 100000
set_option maxHeartbeats 400000
namespace UK
open PySem PySem.Spec PyProof.Rows L2
def inLv (most i : Int) : Bool := decide (0 ≤ i) && decide (i ≤ most)
/-- a row of levels, told of a list or tuple of whole numbers -/
theorem level_row_ev (n : Nat) (most many : Int) (t : List Int) (hl : t.length ≤ 1000) : (B0.lev (n + 2)).1 10 [.int most, .int many, .tup (t.map .int)] = ret (.bl (decide ((t.length : Int) = many) && t.all (inLv most))) := by
  rw [st_is_level_row]
  unfold runF ir_is_level_row
  rw [S_ret, X_ev]
  rw [show frz (frE (.and (.call 2 (.cons (.var 2) .nil)) (.and (.cmp .eq (.b1 .len (.slot 2)) (.slot 1)) (.b1 .all (.lc [3] (.and (.call 1 (.cons (.var 3) .nil)) (.chn .le .le (.int 0) (.slot 3) (.slot 0))) [3] (.sq (.slot 2)) .no))))) (startE 4 [D.int most, D.int many, D.tup (t.map .int)]) = [Slot.sh (D.int most), Slot.sh (D.int many), Slot.sh (D.tup (t.map .int)), Slot.un] from rfl]
  have hlc : evE TT (B0.lev (n + 1)).1 (B0.lev (n + 1)).2 (.lc [3] (.and (.call 1 (.cons (.var 3) .nil)) (.chn .le .le (.int 0) (.slot 3) (.slot 0))) [3] (.sq (.slot 2)) .no) [Slot.sh (D.int most), Slot.sh (D.int many), Slot.sh (D.tup (t.map .int)), Slot.un] = ret (.lst (t.map fun i => .bl (inLv most i))) := by
    rw [lc_any (xs := t.map D.int) rfl (by rw [List.length_map]; exact hl)]
    rw [mapM_some (fun d => match d with | .int i => .bl (inLv most i) | d => d)]
    · rw [bnd_ret, List.map_map]
      rfl
    · intro x hx
      obtain ⟨i, _, rfl⟩ := List.mem_map.mp hx
      rw [elM_one, ifM_no]
      show bnd (evE TT (B0.lev (n + 1)).1 (B0.lev (n + 1)).2 (.and (.call 1 (.cons (.var 3) .nil)) (.chn .le .le (.int 0) (.slot 3) (.slot 0))) [Slot.sh (D.int most), Slot.sh (D.int many), Slot.sh (D.tup (t.map .int)), Slot.sh (.int i)]) _ = _
      simp only [E_and, E_call, A_cons, A_nil, E_var, E_chn, E_int, E_slot, getSh, getAny, List.getElem?_cons_zero, List.getElem?_cons_succ, bnd_ret, bnd_bnd, cmp_le_int, is_whole_ev, thenD_bl]
      rw [if_pos (show wholeB (.int i) = true from rfl)]
      unfold inLv
      by_cases z : 0 ≤ i
      · rw [if_pos (decide_eq_true z), decide_eq_true z, bnd_ret, Bool.true_and]
      · rw [if_neg (by simpa using z), decide_eq_false z, bnd_ret, Bool.false_and]
  simp only [E_and, E_call, A_cons, A_nil, E_var, E_cmp, E_slot, getSh, getAny, List.getElem?_cons_zero, List.getElem?_cons_succ, bnd_ret, bnd_bnd, is_list_ev, thenD_bl]
  rw [if_pos (show listB (.tup (t.map D.int)) = true from rfl), E_b1, E_b1, hlc]
  simp only [E_slot, getAny, List.getElem?_cons_zero, List.getElem?_cons_succ, bnd_ret, b1_len_t, List.length_map, cmp_eq_int, thenD_bl, all_map]
  by_cases z : (t.length : Int) = many
  · rw [if_pos (decide_eq_true z), decide_eq_true z, Bool.true_and]; rfl
  · rw [if_neg (by simpa using z), decide_eq_false z, Bool.false_and]; rfl
end UK

set_option Elab.async false
set_option linter.all false
set_option maxRecDepth 100000
set_option maxHeartbeats 400000
namespace UK
open PySem PySem.Spec PyProof.Rows L2
/-! ### all states -/
def levs (most : Int) : List Int := (List.range (most + 1).toNat).map fun (k : Nat) => (k : Int)
def states (most : Int) : Nat → List (List Int)
  | 0 => [[]]
  | n + 1 => (states most n).flatMap fun s => (levs most).map fun l => s ++ [l]
theorem rng_levs (most : Int) : rngD 0 (most + 1).toNat = (levs most).map D.int := by
  rw [rng_nat]
  unfold levs
  rw [List.map_map]
  rfl
theorem flatM_ret {f : D → M (List D)} (g : D → List D) : ∀ (xs : List D), (∀ x ∈ xs, f x = ret (g x)) → flatM f xs = ret (xs.flatMap g)
  | [], _ => rfl
  | x :: xs, h => by
    show bnd (f x) _ = _
    rw [h x (List.mem_cons_self ..), bnd_ret]
    rw [flatM_ret g xs fun y hy => h y (List.mem_cons_of_mem _ hy), bnd_ret]
    rfl
theorem states_len (most : Int) : ∀ n, (states most n).length = (levs most).length ^ n
  | 0 => rfl
  | n + 1 => by
    show ((states most n).flatMap fun s => (levs most).map fun l => s ++ [l]).length = _
    rw [List.length_flatMap, Nat.pow_succ, ← states_len most n]
    have : ∀ l : List (List Int), (l.map fun s => ((levs most).map fun x => s ++ [x]).length).sum = l.length * (levs most).length := fun l => by
      induction l with
      | nil => simp
      | cons a l ih => rw [List.map_cons, List.sum_cons, ih, List.length_map, List.length_cons, Nat.succ_mul, Nat.add_comm]
    exact this _
theorem states_mem {most : Int} : ∀ {n : Nat} {s : List Int}, s ∈ states most n → s.length = n ∧ ∀ l ∈ s, 0 ≤ l ∧ l < (most + 1).toNat
  | 0, s, h => by
    have : s = [] := by simpa [states] using h
    subst this
    exact ⟨rfl, fun l h => by cases h⟩
  | n + 1, s, h => by
    obtain ⟨t, ht, h2⟩ := List.mem_flatMap.mp (show s ∈ (states most n).flatMap fun s => (levs most).map fun l => s ++ [l] from h)
    obtain ⟨l, hl, rfl⟩ := List.mem_map.mp h2
    obtain ⟨h3, h4⟩ := states_mem ht
    refine ⟨by simp [h3], fun x hx => ?_⟩
    rcases List.mem_append.mp hx with hx | hx
    · exact h4 x hx
    · rw [List.mem_singleton.mp hx]
      unfold levs at hl
      obtain ⟨k, hk, rfl⟩ := List.mem_map.mp hl
      have := List.mem_range.mp hk
      omega
end UK

set_option Elab.async false
set_option linter.all false
set_option maxRecDepth 100000
set_option maxHeartbeats 400000
namespace UK
open PySem PySem.Spec PyProof.Rows L2
theorem add_lst {xs ys : List D} (h : xs.length + ys.length ≤ 1000) : binD .add (.lst xs) (.lst ys) = ret (.lst (xs ++ ys)) := by
  show guardM (decide (xs.length + ys.length ≤ LIM)) _ = _
  rw [guard_t (limM h)]
theorem add_tup {xs ys : List D} (h : xs.length + ys.length ≤ 1000) : binD .add (.tup xs) (.tup ys) = ret (.tup (xs ++ ys)) := by
  show guardM (decide (xs.length + ys.length ≤ LIM)) _ = _
  rw [guard_t (limM h)]
def longer (most : Int) (s : List Int) : List (List Int) := (levs most).map fun l => s ++ [l]
theorem levs_len (most : Int) : (levs most).length = (most + 1).toNat := by simp [levs]
/-- one state made longer -/
theorem longer_ev {φ ψ : Fns} (most : Int) (m0 : 0 ≤ most) (m1 : most ≤ 10) (s : List Int) (hs : s.length ≤ 10) (a b c d : Slot) : evE TT φ ψ (.lc [6] (.bin .add (.slot 5) (.tup (.cons (.var 6) .nil))) [6] (.r1 (.bin .add (.slot 1) (.int 1))) .no) [a, Slot.sh (.int most), b, c, d, Slot.sh (stD s), Slot.un] = ret (.lst ((longer most s).map stD)) := by
  rw [lc_any (xs := rngD 0 (most + 1).toNat) (by
    rw [I_r1, E_bin, E_slot]
    show r1D (.int (most + 1)) = _
    exact r1D_ok (by omega) (by omega)) (by rw [rng_len]; omega)]
  rw [rng_levs, mapM_some (fun x => match x with | .int l => stD (s ++ [l]) | x => x)]
  · rw [bnd_ret, List.map_map]
    unfold longer
    rw [List.map_map]
    rfl
  · intro x hx
    obtain ⟨l, _, rfl⟩ := List.mem_map.mp hx
    rw [elM_one, ifM_no]
    show bnd (evE TT φ ψ (.bin .add (.slot 5) (.tup (.cons (.var 6) .nil))) [a, Slot.sh (.int most), b, c, d, Slot.sh (stD s), Slot.sh (.int l)]) _ = _
    simp only [E_bin, E_slot, E_tup, A_cons, A_nil, E_var, getAny, getSh, List.getElem?_cons_zero, List.getElem?_cons_succ, bnd_ret, bnd_bnd, List.length_cons, List.length_nil]
    rw [guard_t (limM (by decide)), bnd_ret]
    unfold stD
    rw [add_tup (by rw [List.length_map]; simp; omega), bnd_ret, List.map_append]
    rfl
end UK

set_option Elab.async false
set_option linter.all false
set_option maxRecDepth 100000
set_option maxHeartbeats 400000
namespace UK
open PySem PySem.Spec PyProof.Rows L2
abbrev innerS : Sm := .set 4 (.bin .add (.slot 4) (.lc [6] (.bin .add (.slot 5) (.tup (.cons (.var 6) .nil))) [6] (.r1 (.bin .add (.slot 1) (.int 1))) .no))
theorem inner_loop {φ ψ : Fns} (most : Int) (m0 : 0 ≤ most) (m1 : most ≤ 10) (a b c : Slot) : ∀ (Ls : List (List Int)) (acc : List (List Int)) (s5 : Slot), (∀ s ∈ Ls, s.length ≤ 10) → acc.length + Ls.length * (most + 1).toNat ≤ 900 →
    ∃ s', forD (evS TT φ ψ innerS) [5] (Ls.map stD) [a, Slot.sh (.int most), b, c, Slot.sh (.lst (acc.map stD)), s5, Slot.un] = ret (.nx, [a, Slot.sh (.int most), b, c, Slot.sh (.lst ((acc ++ Ls.flatMap (longer most)).map stD)), s', Slot.un])
  | [], acc, s5, _, _ => ⟨s5, by simp [forD]⟩
  | s :: Ls, acc, s5, hs, hl => by
    rw [List.length_cons, Nat.succ_mul] at hl
    have hll : (longer most s).length = (most + 1).toNat := by unfold longer; rw [List.length_map, levs_len]
    obtain ⟨s', e⟩ := inner_loop most m0 m1 a b c Ls (acc ++ longer most s) (.sh (stD s)) (fun t ht => hs t (List.mem_cons_of_mem _ ht)) (by rw [List.length_append, hll]; omega)
    refine ⟨s', ?_⟩
    show bnd (evS TT φ ψ innerS [a, Slot.sh (.int most), b, c, Slot.sh (.lst (acc.map stD)), Slot.sh (stD s), Slot.un]) _ = _
    rw [S_set, X_ev]
    rw [show frz (frE (.bin .add (.slot 4) (.lc [6] (.bin .add (.slot 5) (.tup (.cons (.var 6) .nil))) [6] (.r1 (.bin .add (.slot 1) (.int 1))) .no))) [a, Slot.sh (.int most), b, c, Slot.sh (.lst (acc.map stD)), Slot.sh (stD s), Slot.un] = [a, Slot.sh (.int most), b, c, Slot.sh (.lst (acc.map stD)), Slot.sh (stD s), Slot.un] from rfl]
    rw [E_bin, longer_ev most m0 m1 s (hs s (List.mem_cons_self ..))]
    simp only [E_slot, getAny, List.getElem?_cons_zero, List.getElem?_cons_succ, bnd_ret]
    rw [add_lst (by rw [List.length_map, List.length_map, hll]; omega), bnd_ret, bnd_ret]
    rw [← List.map_append]
    show forD _ [5] (Ls.map stD) _ = _
    rw [List.flatMap_cons, ← List.append_assoc]
    exact e
end UK

set_option Elab.async false
set_option linter.all false
set_option maxRecDepth 100000
set_option maxHeartbeats 400000
namespace UK
open PySem PySem.Spec PyProof.Rows L2
theorem states_small {most : Int} (m0 : 0 ≤ most) (m1 : most ≤ 4) {j : Nat} (hj : j ≤ 2) : (states most j).length * (most + 1).toNat ≤ 900 := by
  rw [states_len, levs_len]
  have h5 : (most + 1).toNat ≤ 5 := by omega
  have h1 : (most + 1).toNat ^ j ≤ 5 ^ j := Nat.pow_le_pow_left h5 j
  have h2 : 5 ^ j ≤ 5 ^ 2 := Nat.pow_le_pow_right (by decide) hj
  have h3 : (most + 1).toNat ^ j ≤ 25 := Nat.le_trans h1 h2
  have h4 := Nat.mul_le_mul h3 h5
  omega
abbrev bodyS : Sm := .seq (.set 4 (.lst .nil)) (.seq (.for_ [5] (.sq (.var 2)) innerS) (.set 2 (.var 4)))
theorem outer_loop {φ ψ : Fns} (most : Int) (m0 : 0 ≤ most) (m1 : most ≤ 4) (a : Slot) : ∀ (xs : List D) (j : Nat) (s3 s4 s5 : Slot), frz1 [a, Slot.sh (.int most), Slot.sh (.lst ((states most j).map stD)), s3, s4, s5, Slot.un] 2 = [a, Slot.sh (.int most), Slot.sh (.lst ((states most j).map stD)), s3, s4, s5, Slot.un] → j + xs.length ≤ 3 →
    ∃ s3' s4' s5', forD (evS TT φ ψ bodyS) [3] xs [a, Slot.sh (.int most), Slot.sh (.lst ((states most j).map stD)), s3, s4, s5, Slot.un] = ret (.nx, [a, Slot.sh (.int most), Slot.sh (.lst ((states most (j + xs.length)).map stD)), s3', s4', s5', Slot.un])
  | [], j, s3, s4, s5, _, _ => ⟨s3, s4, s5, rfl⟩
  | x :: xs, j, s3, s4, s5, _, hj => by
    rw [List.length_cons] at hj
    obtain ⟨s', e1⟩ := inner_loop (φ := φ) (ψ := ψ) most m0 (by omega) a (Slot.sh (.lst ((states most j).map stD))) (Slot.sh x) (states most j) [] s5 (fun s hs => by have := (states_mem hs).1; omega) (by
      have := states_small m0 m1 (j := j) (by omega)
      rw [List.length_nil]; omega)
    obtain ⟨s3', s4', s5', e2⟩ := outer_loop (φ := φ) (ψ := ψ) most m0 m1 a xs (j + 1) (Slot.sh x) (Slot.sh (.lst ((states most (j + 1)).map stD))) s' rfl (by omega)
    refine ⟨s3', s4', s5', ?_⟩
    show bnd (evS TT φ ψ bodyS [a, Slot.sh (.int most), Slot.sh (.lst ((states most j).map stD)), Slot.sh x, s4, s5, Slot.un]) _ = _
    rw [S_seq, S_set, X_ev]
    simp only [frE_lst, frA_nil, frz_nil, E_lst, A_nil, bnd_ret, bnd_bnd, List.length_nil]
    rw [guard_t (limM (by decide))]
    simp only [bnd_ret, List.set_cons_succ, List.set_cons_zero, seqD_nx]
    rw [S_seq, S_for]
    rw [show frz (frI (.sq (.var 2))) [a, Slot.sh (.int most), Slot.sh (.lst ((states most j).map stD)), Slot.sh x, Slot.sh (.lst []), s5, Slot.un] = [a, Slot.sh (.int most), Slot.sh (.lst ((states most j).map stD)), Slot.sh x, Slot.sh (.lst []), s5, Slot.un] from rfl]
    simp only [I_sq, E_var, getSh, List.getElem?_cons_zero, List.getElem?_cons_succ, bnd_ret]
    rw [show opt (seqD (.lst ((states most j).map stD))) = ret ((states most j).map stD) from rfl, bnd_ret]
    have e1' : forD (evS TT φ ψ innerS) [5] ((states most j).map stD) [a, Slot.sh (.int most), Slot.sh (.lst ((states most j).map stD)), Slot.sh x, Slot.sh (.lst []), s5, Slot.un] = ret (.nx, [a, Slot.sh (.int most), Slot.sh (.lst ((states most j).map stD)), Slot.sh x, Slot.sh (.lst ((states most (j + 1)).map stD)), s', Slot.un]) := e1
    rw [e1']
    simp only [bnd_ret, seqD_nx, S_set, X_ev, frE_var, frz_cons, frz_nil, frz1, List.getElem?_cons_zero, List.getElem?_cons_succ, E_var, getSh, List.set_cons_succ, List.set_cons_zero]
    rw [List.length_cons, show j + (xs.length + 1) = j + 1 + xs.length by omega]
    exact e2
end UK

set_option Elab.async false
set_option linter.all false
set_option maxRecDepth 100000
set_option maxHeartbeats 400000
namespace UK
open PySem PySem.Spec PyProof.Rows L2
theorem law_states_ev (n : Nat) (size : Nat) (h3 : size ≤ 3) (most : Int) (m0 : 0 ≤ most) (m1 : most ≤ 4) : (B0.lev (n + 1)).1 35 [.int size, .int most] = ret (.lst ((states most size).map stD)) := by
  rw [st__law_level_states]
  unfold runF ir__law_level_states
  obtain ⟨s3', s4', s5', e⟩ := outer_loop (φ := (B0.lev n).1) (ψ := (B0.lev n).2) most m0 m1 (Slot.sh (.int size)) (rngD 0 size) 0 .un .un .un rfl (by rw [rng_len]; omega)
  rw [S_seq, S_set, X_ev]
  rw [show frz (frE (.lst (.cons (.tup .nil) .nil))) (startE 7 [D.int size, D.int most]) = [Slot.sh (D.int size), Slot.sh (D.int most), Slot.un, Slot.un, Slot.un, Slot.un, Slot.un] from rfl]
  rw [show evE TT (B0.lev n).1 (B0.lev n).2 (.lst (.cons (.tup .nil) .nil)) [Slot.sh (D.int size), Slot.sh (D.int most), Slot.un, Slot.un, Slot.un, Slot.un, Slot.un] = ret (.lst ((states most 0).map stD)) by
    simp only [E_lst, A_cons, A_nil, E_tup, bnd_ret, bnd_bnd, List.length_nil, List.length_cons]
    rw [guard_t (limM (by decide)), bnd_ret, guard_t (limM (by decide))]
    rfl]
  simp only [bnd_ret, List.set_cons_succ, List.set_cons_zero, seqD_nx]
  rw [S_seq, S_for]
  rw [show frz (frI (.r1 (.var 0))) [Slot.sh (D.int size), Slot.sh (D.int most), Slot.sh (.lst ((states most 0).map stD)), Slot.un, Slot.un, Slot.un, Slot.un] = [Slot.sh (D.int size), Slot.sh (D.int most), Slot.sh (.lst ((states most 0).map stD)), Slot.un, Slot.un, Slot.un, Slot.un] from rfl]
  simp only [I_r1, E_var, getSh, List.getElem?_cons_zero, bnd_ret]
  rw [r1D_ok (n := size) (by omega) (by omega), bnd_ret]
  rw [show (size : Int).toNat = size from rfl, e]
  simp only [bnd_ret, seqD_nx, S_ret, X_ev, frE_var, frz_cons, frz_nil, frz1, List.getElem?_cons_zero, List.getElem?_cons_succ, E_var, getSh, rng_len, Nat.zero_add]
  rfl
end UK

set_option Elab.async false
set_option linter.all false
set_option maxRecDepth 100000
set_option maxHeartbeats 400000
namespace UK
open PySem PySem.Spec PyProof.Rows L2
/-- one layer made longer, in one comprehension of two clauses -/
theorem layer_ev {φ ψ : Fns} {rows : List (List Int)} {most : Int} {tables : List (List Int)} (m0 : 0 ≤ most) (m1 : most ≤ 4) {j : Nat} (hj : j ≤ 2) (sl s2 : Slot) (hsl : sl = .sh (.lst ((states most j).map stD)) ∨ sl = .ow ((states most j).map stD)) :
    evE TT φ ψ (.lc2 [3, 4] (.bin .add (.slot 3) (.tup (.cons (.var 4) .nil))) [3] (.sq (.slot 1)) .no [4] (.r1 (.bin .add (.nfl 0 "most") (.int 1))) .no) [Slot.sh (rulesD rows most tables), sl, s2, .un, .un] = ret (.lst ((states most (j + 1)).map stD)) := by
  rw [E_lc2]
  have hI : evI TT φ ψ (.sq (.slot 1)) [Slot.sh (rulesD rows most tables), sl, s2, .un, .un] = ret ((states most j).map stD) := by
    rcases hsl with rfl | rfl <;> rfl
  rw [hI, bnd_ret]
  rw [flatM_ret (fun d => match d with | .tup s => (levs most).map fun l => .tup (s ++ [.int l]) | _ => [])]
  · rw [bnd_ret]
    have hlen : (((states most j).map stD).flatMap fun d => match d with | .tup s => (levs most).map fun l => D.tup (s ++ [.int l]) | _ => []) = (states most (j + 1)).map stD := by
      show _ = ((states most j).flatMap fun s => (levs most).map fun l => s ++ [l]).map stD
      rw [List.map_flatMap, List.flatMap_map]
      congr 1
      funext s
      show (levs most).map (fun l => D.tup (s.map D.int ++ [.int l])) = ((levs most).map fun l => s ++ [l]).map stD
      rw [List.map_map]
      congr 1
      funext l
      show D.tup (s.map D.int ++ [.int l]) = D.tup ((s ++ [l]).map D.int)
      rw [List.map_append]
      rfl
    rw [hlen]
    have hs := states_small m0 m1 hj
    rw [guard_t (limM (by
      rw [List.length_map, states_len, Nat.pow_succ, ← states_len, levs_len]
      omega))]
  · intro x hx
    obtain ⟨s, hs, rfl⟩ := List.mem_map.mp hx
    show bnd (evI TT φ ψ (.r1 (.bin .add (.nfl 0 "most") (.int 1))) [Slot.sh (rulesD rows most tables), sl, s2, Slot.sh (stD s), .un]) (fun zs => mapM' (elM [4] (evE TT φ ψ (.bin .add (.slot 3) (.tup (.cons (.var 4) .nil)))) (evO TT φ ψ .no) [Slot.sh (rulesD rows most tables), sl, s2, Slot.sh (stD s), .un]) zs) = _
    rw [I_r1, E_bin, E_nfl, nfl_sh rfl, rules_most_f]
    simp only [bnd_ret, E_int, bin_add_int]
    rw [r1D_ok (by omega) (by omega), bnd_ret, rng_levs]
    rw [mapM_some (fun x => match x with | .int l => .tup (s.map D.int ++ [.int l]) | x => x)]
    · rw [List.map_map]
      rfl
    · intro x hx
      obtain ⟨l, _, rfl⟩ := List.mem_map.mp hx
      have hsl := (states_mem hs).1
      rw [elM_one, ifM_no]
      show bnd (evE TT φ ψ (.bin .add (.slot 3) (.tup (.cons (.var 4) .nil))) [Slot.sh (rulesD rows most tables), sl, s2, Slot.sh (stD s), Slot.sh (.int l)]) _ = _
      simp only [E_bin, E_slot, E_tup, A_cons, A_nil, E_var, getAny, getSh, List.getElem?_cons_zero, List.getElem?_cons_succ, bnd_ret, bnd_bnd, List.length_cons, List.length_nil]
      rw [guard_t (limM (by decide)), bnd_ret]
      unfold stD
      rw [add_tup (by rw [List.length_map]; simp; omega), bnd_ret]
end UK

set_option Elab.async false
set_option linter.all false
set_option maxRecDepth 100000
set_option maxHeartbeats 400000
namespace UK
open PySem PySem.Spec PyProof.Rows L2
abbrev layE : E := .lc2 [3, 4] (.bin .add (.slot 3) (.tup (.cons (.var 4) .nil))) [3] (.sq (.slot 1)) .no [4] (.r1 (.bin .add (.nfl 0 "most") (.int 1))) .no
theorem lay_loop {φ ψ : Fns} {rows : List (List Int)} {most : Int} {tables : List (List Int)} (m0 : 0 ≤ most) (m1 : most ≤ 4) : ∀ (xs : List D) (j : Nat) (sl s2 : Slot), (sl = .sh (.lst ((states most j).map stD)) ∨ sl = .ow ((states most j).map stD)) → j + xs.length ≤ 3 →
    ∃ sl' s2', (sl' = .sh (.lst ((states most (j + xs.length)).map stD)) ∨ sl' = .ow ((states most (j + xs.length)).map stD)) ∧ forD (evS TT φ ψ (.own 1 layE)) [2] xs [Slot.sh (rulesD rows most tables), sl, s2, .un, .un] = ret (.nx, [Slot.sh (rulesD rows most tables), sl', s2', .un, .un])
  | [], j, sl, s2, h, _ => ⟨sl, s2, h, rfl⟩
  | x :: xs, j, sl, s2, h, hj => by
    rw [List.length_cons] at hj
    obtain ⟨sl', s2', h', e⟩ := lay_loop (φ := φ) (ψ := ψ) (rows := rows) (tables := tables) m0 m1 xs (j + 1) (.ow ((states most (j + 1)).map stD)) (.sh x) (.inr rfl) (by omega)
    refine ⟨sl', s2', by rw [List.length_cons, show j + (xs.length + 1) = j + 1 + xs.length by omega]; exact h', ?_⟩
    show bnd (evS TT φ ψ (.own 1 layE) [Slot.sh (rulesD rows most tables), sl, Slot.sh x, .un, .un]) _ = _
    rw [S_own, X_ev]
    have hf : frz (frE layE) [Slot.sh (rulesD rows most tables), sl, Slot.sh x, .un, .un] = [Slot.sh (rulesD rows most tables), sl, Slot.sh x, .un, .un] := by
      rcases h with rfl | rfl <;> rfl
    rw [hf, layer_ev m0 m1 (by omega) sl (.sh x) h]
    simp only [bnd_ret, ownD_lst, List.set_cons_succ, List.set_cons_zero]
    exact e
theorem level_states_ev (n : Nat) {size : Nat} {rows : List (List Int)} (h : IRow size rows) (h3 : size ≤ 3) {most : Int} (m0 : 0 ≤ most) (m1 : most ≤ 4) {tables : List (List Int)} : (B0.lev (n + 1)).1 13 [rulesD rows most tables] = ret (.tup ((states most size).map stD)) := by
  rw [st_level_states]
  unfold runF ir_level_states
  have hl : (rowsR rows).length = size := by unfold rowsR; rw [List.length_map]; exact h.1
  rw [S_seq, S_set, X_ev]
  rw [show frz (frE (.lst (.cons (.tup .nil) .nil))) (startE 5 [rulesD rows most tables]) = [Slot.sh (rulesD rows most tables), Slot.un, Slot.un, Slot.un, Slot.un] from rfl]
  rw [show evE TT (B0.lev n).1 (B0.lev n).2 (.lst (.cons (.tup .nil) .nil)) [Slot.sh (rulesD rows most tables), Slot.un, Slot.un, Slot.un, Slot.un] = ret (.lst ((states most 0).map stD)) by
    simp only [E_lst, A_cons, A_nil, E_tup, bnd_ret, bnd_bnd, List.length_nil, List.length_cons]
    rw [guard_t (limM (by decide)), bnd_ret, guard_t (limM (by decide))]
    rfl]
  simp only [bnd_ret, List.set_cons_succ, List.set_cons_zero, seqD_nx]
  rw [S_seq, S_for]
  rw [show frz (frI (.r1 (.fld (.nfl 0 "web") "size"))) [Slot.sh (rulesD rows most tables), Slot.sh (.lst ((states most 0).map stD)), Slot.un, Slot.un, Slot.un] = [Slot.sh (rulesD rows most tables), Slot.sh (.lst ((states most 0).map stD)), Slot.un, Slot.un, Slot.un] from rfl]
  rw [I_r1, E_fld, E_nfl, nfl_sh rfl, rules_web_f, bnd_ret, web_size_f, bnd_ret, hl]
  rw [r1D_ok (n := size) (by omega) (by omega), bnd_ret]
  obtain ⟨sl', s2', h', e⟩ := lay_loop (φ := (B0.lev n).1) (ψ := (B0.lev n).2) (rows := rows) (tables := tables) m0 m1 (rngD 0 size) 0 _ .un (.inl rfl) (by rw [rng_len]; omega)
  rw [rng_len, Nat.zero_add] at h'
  rw [show (size : Int).toNat = size from rfl, e]
  simp only [bnd_ret, seqD_nx, S_ret, X_ev, frE_b1, frE_slot, frz_nil, E_b1, E_slot]
  rcases h' with rfl | rfl <;> rfl
end UK

set_option Elab.async false
set_option linter.all false
set_option maxRecDepth 100000
set_option maxHeartbeats 400000
namespace UK
open PySem PySem.Spec PyProof.Rows L2
theorem num_bound {b : Int} {state : List Int} (hb : 0 < b) (hs : ∀ k, 0 ≤ state.getD k 0 ∧ state.getD k 0 < b) : ∀ lot : List Nat, 0 ≤ numAt b state lot ∧ numAt b state lot < b ^ lot.length
  | [] => ⟨Int.le_refl 0, by simp [numAt]⟩
  | s :: r => by
    obtain ⟨h1, h2⟩ := num_bound hb hs r
    obtain ⟨h3, h4⟩ := hs s
    have p1 : 0 ≤ b * numAt b state r := Int.mul_nonneg (Int.le_of_lt hb) h1
    have p2 : b * (numAt b state r + 1) ≤ b * b ^ r.length := Int.mul_le_mul_of_nonneg_left (by omega) (Int.le_of_lt hb)
    rw [Int.mul_add, Int.mul_one] at p2
    refine ⟨show 0 ≤ state.getD s 0 + b * numAt b state r by omega, ?_⟩
    show state.getD s 0 + b * numAt b state r < b ^ (r.length + 1)
    rw [Int.pow_succ, Int.mul_comm (b ^ r.length) b]
    omega
end UK

set_option Elab.async false
set_option linter.all false
set_option maxRecDepth 100000
set_option maxHeartbeats 1000000
namespace UK
open PySem PySem.Spec PyProof.Rows L2
/-! ### slots may be forgotten: a program that runs over fewer known slots runs alike over more -/
inductive EnvLe : Env' → Env' → Prop
  | nil : EnvLe [] []
  | un {s : Slot} {e e' : Env'} : EnvLe e e' → EnvLe (.un :: e) (s :: e')
  | same {s : Slot} {e e' : Env'} : EnvLe e e' → EnvLe (s :: e) (s :: e')
theorem EnvLe.refl : ∀ e : Env', EnvLe e e
  | [] => .nil
  | _ :: e => .same (EnvLe.refl e)
theorem EnvLe.get {e e' : Env'} (h : EnvLe e e') : ∀ i : Nat, e[i]? = some .un ∨ e[i]? = e'[i]? := by
  induction h with
  | nil => exact fun i => .inr rfl
  | un h ih =>
    intro i
    cases i with
    | zero => exact .inl rfl
    | succ i => simpa using ih i
  | same h ih =>
    intro i
    cases i with
    | zero => exact .inr rfl
    | succ i => simpa using ih i
theorem EnvLe.len {e e' : Env'} (h : EnvLe e e') : e.length = e'.length := by
  induction h with
  | nil => rfl
  | un h ih => simp [ih]
  | same h ih => simp [ih]
theorem EnvLe.set {e e' : Env'} (h : EnvLe e e') : ∀ (i : Nat) (s : Slot), EnvLe (e.set i s) (e'.set i s) := by
  induction h with
  | nil => exact fun i s => .nil
  | un h ih =>
    intro i s
    cases i with
    | zero => exact .same h
    | succ i => exact .un (ih i s)
  | same h ih =>
    intro i s
    cases i with
    | zero => exact .same h
    | succ i => exact .same (ih i s)
theorem EnvLe.setUn {e e' : Env'} (h : EnvLe e e') : ∀ (i : Nat) (s : Slot), e[i]? = some .un → EnvLe e (e'.set i s) := by
  induction h with
  | nil => exact fun i s _ => .nil
  | un h ih =>
    intro i s hi
    cases i with
    | zero => exact .un h
    | succ i => exact .un (ih i s (by simpa using hi))
  | same h ih =>
    intro i s hi
    cases i with
    | zero =>
      have hi' : (_ : Slot) = .un := Option.some.inj (by simpa using hi)
      rw [hi']
      exact .un h
    | succ i => exact .same (ih i s (by simpa using hi))
theorem EnvLe.trans {a b : Env'} (h : EnvLe a b) : ∀ {c : Env'}, EnvLe b c → EnvLe a c := by
  induction h with
  | nil => exact fun h => h
  | un h ih =>
    intro c hc
    cases hc with
    | un hc => exact .un (ih hc)
    | same hc => exact .un (ih hc)
  | same h ih =>
    intro c hc
    cases hc with
    | un hc => exact .un (ih hc)
    | same hc => exact .same (ih hc)
theorem EnvLe.frz1 {e e' : Env'} (h : EnvLe e e') (i : Nat) : EnvLe (frz1 e i) (frz1 e' i) := by
  rcases h.get i with q | q
  · have a : UK.frz1 e i = e := by unfold UK.frz1; rw [q]
    rw [a]
    unfold UK.frz1
    split
    · exact h.setUn i _ q
    · exact h.setUn i _ q
    · exact h
  · unfold UK.frz1
    rw [← q]
    split
    · exact h.set i _
    · exact h.set i _
    · exact h
theorem EnvLe.frz : ∀ (is : List Nat) {e e' : Env'}, EnvLe e e' → EnvLe (frz is e) (frz is e')
  | [], _, _, h => h
  | i :: is, _, _, h => EnvLe.frz is (h.frz1 i)
theorem EnvLe.wipe {e e' : Env'} (h : EnvLe e e') : ∀ is : List Nat, EnvLe (wipeE e is) (wipeE e' is)
  | [] => h
  | i :: is => (EnvLe.wipe h is).set i .un
theorem EnvLe.setAll : ∀ (is : List Nat) (ds : List D) {e e' : Env'}, EnvLe e e' → ∀ {f : Env'}, setAll is ds e = some f → ∃ f', UK.setAll is ds e' = some f' ∧ EnvLe f f'
  | [], [], _, _, h, _, q => by cases q; exact ⟨_, rfl, h⟩
  | i :: is, d :: ds, _, _, h, _, q => EnvLe.setAll is ds (h.set i (.sh d)) q
  | [], _ :: _, _, _, _, _, q => by cases q
  | _ :: _, [], _, _, _, _, q => by cases q
theorem EnvLe.setTg (is : List Nat) (d : D) {e e' f : Env'} (h : EnvLe e e') (q : setTg is d e = some f) : ∃ f', UK.setTg is d e' = some f' ∧ EnvLe f f' := by
  unfold UK.setTg at q ⊢
  split at q
  · cases q; exact ⟨_, rfl, h.set _ _⟩
  · exact EnvLe.setAll _ _ h q
  · cases q
def LeM {α : Type} (m m' : M α) : Prop := ∀ π r, m π = some r → m' π = some r
theorem LeM.refl {α : Type} (m : M α) : LeM m m := fun _ _ h => h
theorem LeM.stuck {α : Type} (m : M α) : LeM (UK.stuck : M α) m := fun _ _ h => by cases h
theorem LeM.bnd {α β : Type} {m m' : M α} {f f' : α → M β} (h : LeM m m') (g : ∀ a, LeM (f a) (f' a)) : LeM (UK.bnd m f) (UK.bnd m' f') := fun π r q => by
  obtain ⟨b, π'⟩ := r
  obtain ⟨a, π1, e1, e2⟩ := bnd_some q
  unfold UK.bnd
  rw [h _ _ e1]
  exact g a _ _ e2
theorem LeM.ret {α : Type} {a : α} {m : M α} (h : LeM (UK.ret a) m) : m = UK.ret a := by
  funext π
  exact h π (a, π) rfl
theorem LeM.eq {α : Type} {a : α} {m m' : M α} (h : LeM m m') (e : m = UK.ret a) : m' = UK.ret a := LeM.ret (e ▸ h)
theorem LeM.thenD {m m' : M D} (h : LeM m m') : ∀ d, LeM (thenD m d) (thenD m' d)
  | .bl true => h
  | .bl false => .refl _
  | .non | .int _ | .str _ | .tup _ | .lst _ | .ins _ _ | .dic _ _ | .pen => .refl _
theorem LeM.elseD {m m' : M D} (h : LeM m m') : ∀ d, LeM (elseD m d) (elseD m' d)
  | .bl true => .refl _
  | .bl false => h
  | .non | .int _ | .str _ | .tup _ | .lst _ | .ins _ _ | .dic _ _ | .pen => .refl _
theorem LeM.iffD {α : Type} {m m' r r' : M α} (h : LeM m m') (h2 : LeM r r') : ∀ d, LeM (iffD m r d) (iffD m' r' d)
  | .bl true => h
  | .bl false => h2
  | .non | .int _ | .str _ | .tup _ | .lst _ | .ins _ _ | .dic _ _ | .pen => .refl _
theorem LeM.guardM {α : Type} {m m' : M α} (c : Bool) (h : LeM m m') : LeM (guardM c m) (guardM c m') := by
  unfold UK.guardM
  cases c
  · exact .refl _
  · exact h
theorem getSh_le {e e' : Env'} (h : EnvLe e e') (i : Nat) : LeM (getSh e i) (getSh e' i) := by
  unfold getSh
  rcases h.get i with q | q
  · rw [q]; exact .stuck _
  · rw [q]; exact .refl _
theorem getAny_le {e e' : Env'} (h : EnvLe e e') (i : Nat) : LeM (getAny e i) (getAny e' i) := by
  unfold getAny
  rcases h.get i with q | q
  · rw [q]; exact .stuck _
  · rw [q]; exact .refl _
theorem getRw_le {e e' : Env'} (h : EnvLe e e') (i : Nat) : LeM (getRw e i) (getRw e' i) := by
  unfold getRw
  rcases h.get i with q | q
  · rw [q]; exact .stuck _
  · rw [q]; exact .refl _
theorem nflD_le {CT : CTab} {x : Str} {e e' : Env'} (h : EnvLe e e') (i : Nat) : LeM (nflD CT x e i) (nflD CT x e' i) := by
  unfold nflD
  rcases h.get i with q | q
  · rw [q]; exact .stuck _
  · rw [q]; exact .refl _
theorem mapM'_le {f g : D → M (Option D)} (h : ∀ x, LeM (f x) (g x)) : ∀ xs, LeM (mapM' f xs) (mapM' g xs)
  | [] => .refl _
  | x :: xs => .bnd (h x) fun _ => .bnd (mapM'_le h xs) fun _ => .refl _
theorem flatM_le {f g : D → M (List D)} (h : ∀ x, LeM (f x) (g x)) : ∀ xs, LeM (flatM f xs) (flatM g xs)
  | [] => .refl _
  | x :: xs => .bnd (h x) fun _ => .bnd (flatM_le h xs) fun _ => .refl _
theorem mapR_le {f g : D → M (List D)} (h : ∀ x, LeM (f x) (g x)) : ∀ xs, LeM (mapR f xs) (mapR g xs)
  | [] => .refl _
  | x :: xs => .bnd (h x) fun _ => .bnd (mapR_le h xs) fun _ => .refl _
theorem ifM_le {α : Type} {mc : Env' → M (Option D)} {e e' : Env'} {y y' n n' : M α} (h : LeM (mc e) (mc e')) (hy : LeM y y') (hn : LeM n n') : LeM (ifM mc e y n) (ifM mc e' y' n') := by
  unfold ifM
  refine .bnd h fun k => ?_
  match k with
  | none => exact hy
  | some (.bl true) => exact hy
  | some (.bl false) => exact hn
  | some .non | some (.int _) | some (.str _) | some (.tup _) | some (.lst _) | some (.ins _ _) | some (.dic _ _) | some .pen => exact .refl _
theorem elM_le {tg : List Nat} {me : Env' → M D} {mc : Env' → M (Option D)} {e e' : Env'} (h : EnvLe e e') (h1 : ∀ a b, EnvLe a b → LeM (me a) (me b)) (h2 : ∀ a b, EnvLe a b → LeM (mc a) (mc b)) (x : D) : LeM (elM tg me mc e x) (elM tg me mc e' x) := by
  unfold elM
  cases q : setTg tg x e with
  | none => exact .stuck _
  | some f =>
    obtain ⟨f', e1, e2⟩ := h.setTg tg x q
    rw [e1]
    exact ifM_le (h2 _ _ e2) (.bnd (h1 _ _ e2) fun _ => .refl _) (.refl _)
theorem el2M_le {tg tg2 : List Nat} {me : Env' → M D} {mc mc2 : Env' → M (Option D)} {mi : Env' → M (List D)} {e e' : Env'} (h : EnvLe e e') (h1 : ∀ a b, EnvLe a b → LeM (me a) (me b)) (h2 : ∀ a b, EnvLe a b → LeM (mc a) (mc b)) (h3 : ∀ a b, EnvLe a b → LeM (mi a) (mi b)) (h4 : ∀ a b, EnvLe a b → LeM (mc2 a) (mc2 b)) (x : D) : LeM (el2M tg tg2 me mc mi mc2 e x) (el2M tg tg2 me mc mi mc2 e' x) := by
  unfold el2M
  cases q : setTg tg x e with
  | none => exact .stuck _
  | some f =>
    obtain ⟨f', e1, e2⟩ := h.setTg tg x q
    rw [e1]
    exact ifM_le (h2 _ _ e2) (.bnd (h3 _ _ e2) fun zs => mapM'_le (elM_le (e2.wipe tg2) h1 h4) zs) (.refl _)
theorem elR_le {tg : List Nat} {me : Env' → M D} {e e' : Env'} (h : EnvLe e e') (h1 : ∀ a b, EnvLe a b → LeM (me a) (me b)) (x : D) : LeM (elR tg me e x) (elR tg me e' x) := by
  unfold elR
  cases q : setTg tg x e with
  | none => exact .stuck _
  | some f =>
    obtain ⟨f', e1, e2⟩ := h.setTg tg x q
    rw [e1]
    exact .bnd (h1 _ _ e2) fun _ => .refl _
section
variable {T : Tabs} {φ ψ : Fns}
mutual
theorem evE_le : ∀ (x : E) {e e' : Env'}, EnvLe e e' → LeM (evE T φ ψ x e) (evE T φ ψ x e')
  | .var i, _, _, h => getSh_le h i
  | .slot i, _, _, h => getAny_le h i
  | .non, _, _, _ | .bl _, _, _, _ | .int _, _, _, _ | .str _, _, _, _ | .bad, _, _, _ => .refl _
  | .bin op a b, _, _, h => .bnd (evE_le a h) fun _ => .bnd (evE_le b h) fun _ => .refl _
  | .neg a, _, _, h => .bnd (evE_le a h) fun _ => .refl _
  | .cmp op a b, _, _, h => .bnd (evE_le a h) fun _ => .bnd (evE_le b h) fun _ => .refl _
  | .chn o1 o2 a b c, _, _, h => by
    rw [E_chn, E_chn]
    exact .bnd (evE_le a h) fun _ => .bnd (evE_le b h) fun _ => .bnd (.refl _) (.thenD (.bnd (evE_le c h) fun _ => .refl _))
  | .and a b, _, _, h => by
    rw [E_and, E_and]
    exact .bnd (evE_le a h) (.thenD (evE_le b h))
  | .or a b, _, _, h => by
    rw [E_or, E_or]
    exact .bnd (evE_le a h) (.elseD (evE_le b h))
  | .not a, _, _, h => .bnd (evE_le a h) fun _ => .refl _
  | .ite c a b, _, _, h => by
    rw [E_ite, E_ite]
    exact .bnd (evE_le c h) (.iffD (evE_le a h) (evE_le b h))
  | .call f as, _, _, h => .bnd (evA_le as h) fun _ => .refl _
  | .mk c as, _, _, h => .bnd (evA_le as h) fun _ => .refl _
  | .fld a x, _, _, h => .bnd (evE_le a h) fun _ => .refl _
  | .nfl i x, _, _, h => nflD_le h i
  | .idx a i, _, _, h => .bnd (evE_le a h) fun _ => .bnd (evE_le i h) fun _ => .refl _
  | .slc a lo hi, _, _, h => .bnd (evE_le a h) fun _ => .bnd (evO_le lo h) fun _ => .bnd (.refl _) fun _ => .bnd (evO_le hi h) fun _ => .refl _
  | .rev a, _, _, h => .bnd (evE_le a h) fun _ => .refl _
  | .tup as, _, _, h => .bnd (evA_le as h) fun _ => .refl _
  | .b1 f a, _, _, h => .bnd (evE_le a h) fun _ => .refl _
  | .b2 f a b, _, _, h => .bnd (evE_le a h) fun _ => .bnd (evE_le b h) fun _ => .refl _
  | .isi a ts, _, _, h => .bnd (evE_le a h) fun _ => .refl _
  | .lst as, _, _, h => .bnd (evA_le as h) fun _ => .refl _
  | .lc own elt tg it c, _, _, h => by
    rw [E_lc, E_lc]
    exact .bnd (evI_le it h) fun xs => .guardM _ (.bnd (mapM'_le (elM_le (h.wipe own) (fun a b q => evE_le elt q) (fun a b q => evO_le c q)) xs) fun _ => .refl _)
  | .lc2 own elt tg it c tg2 it2 c2, _, _, h => by
    rw [E_lc2, E_lc2]
    exact .bnd (evI_le it h) fun xs => .bnd (flatM_le (el2M_le (h.wipe own) (fun a b q => evE_le elt q) (fun a b q => evO_le c q) (fun a b q => evI_le it2 q) (fun a b q => evO_le c2 q)) xs) fun _ => .refl _
  | .dic k v, _, _, h => .bnd (evE_le v h) fun _ => .refl _
  | .lrg a, _, _, h => .bnd (evE_le a h) fun _ => .refl _
  | .pget i k, _, _, h => .bnd (getSh_le h i) fun _ => .refl _
theorem evA_le : ∀ (x : A) {e e' : Env'}, EnvLe e e' → LeM (evA T φ ψ x e) (evA T φ ψ x e')
  | .nil, _, _, _ => .refl _
  | .cons x r, _, _, h => .bnd (evE_le x h) fun _ => .bnd (evA_le r h) fun _ => .refl _
theorem evO_le : ∀ (x : O) {e e' : Env'}, EnvLe e e' → LeM (evO T φ ψ x e) (evO T φ ψ x e')
  | .no, _, _, _ => .refl _
  | .yes x, _, _, h => .bnd (evE_le x h) fun _ => .refl _
theorem evI_le : ∀ (x : Itn) {e e' : Env'}, EnvLe e e' → LeM (evI T φ ψ x e) (evI T φ ψ x e')
  | .r1 a, _, _, h => .bnd (evE_le a h) fun _ => .refl _
  | .r2 a b, _, _, h => .bnd (evE_le a h) fun _ => .bnd (evE_le b h) fun _ => .refl _
  | .sq a, _, _, h => .bnd (evE_le a h) fun _ => .refl _
end
end
end UK

set_option Elab.async false
set_option linter.all false
set_option maxRecDepth 100000
set_option maxHeartbeats 1000000
namespace UK
open PySem PySem.Spec PyProof.Rows L2
def LeP {α : Type} (m m' : M (α × Env')) : Prop := ∀ π a e π', m π = some ((a, e), π') → ∃ e', m' π = some ((a, e'), π') ∧ EnvLe e e'
theorem LeP.stuck {α : Type} (m : M (α × Env')) : LeP (UK.stuck : M (α × Env')) m := fun _ _ _ _ h => by cases h
theorem LeP.ret {α : Type} {a : α} {e e' : Env'} (h : EnvLe e e') : LeP (UK.ret (a, e)) (UK.ret (a, e')) := fun π _ _ _ q => by
  cases q
  exact ⟨_, rfl, h⟩
theorem LeP.bndE {α β : Type} {m m' : M β} {f f' : β → M (α × Env')} (h : LeM m m') (g : ∀ a, LeP (f a) (f' a)) : LeP (UK.bnd m f) (UK.bnd m' f') := fun π b e π' q => by
  obtain ⟨a, π1, e1, e2⟩ := bnd_some q
  unfold UK.bnd
  rw [h _ _ e1]
  exact g a _ _ _ _ e2
theorem LeP.bnd {α β : Type} {m m' : M (β × Env')} {f f' : β × Env' → M (α × Env')} (h : LeP m m') (g : ∀ a e e', EnvLe e e' → LeP (f (a, e)) (f' (a, e'))) : LeP (UK.bnd m f) (UK.bnd m' f') := fun π b e π' q => by
  obtain ⟨⟨a, ea⟩, π1, e1, e2⟩ := bnd_some q
  obtain ⟨e', e3, h3⟩ := h _ _ _ _ e1
  unfold UK.bnd
  rw [e3]
  exact g a _ _ h3 _ _ _ _ e2
theorem LeP.guardM {α : Type} {m m' : M (α × Env')} (c : Bool) (h : LeP m m') : LeP (UK.guardM c m) (UK.guardM c m') := by
  unfold UK.guardM
  cases c
  · exact .stuck _
  · exact h
theorem LeP.at {α : Type} {e e' : Env'} (h : EnvLe e e') (i : Nat) {k k' : Option Slot → M (α × Env')} (h0 : k (some .un) = UK.stuck) (hk : ∀ s, LeP (k s) (k' s)) : LeP (k e[i]?) (k' e'[i]?) := by
  rcases h.get i with q | q
  · rw [q, h0]; exact .stuck _
  · rw [q]; exact hk _
theorem LeP.iffD {m m' r r' : M (Flw × Env')} (h : LeP m m') (h2 : LeP r r') : ∀ d, LeP (iffD m r d) (iffD m' r' d)
  | .bl true => h
  | .bl false => h2
  | .non | .int _ | .str _ | .tup _ | .lst _ | .ins _ _ | .dic _ _ | .pen => .stuck _
theorem forD_le {b b' : Env' → M (Flw × Env')} (hb : ∀ e e', EnvLe e e' → LeP (b e) (b' e')) (tg : List Nat) : ∀ (xs : List D) {e e' : Env'}, EnvLe e e' → LeP (forD b tg xs e) (forD b' tg xs e')
  | [], _, _, h => .ret h
  | x :: xs, e, e', h => by
    unfold forD
    cases q : setTg tg x e with
    | none => exact .stuck _
    | some f =>
      obtain ⟨f', e1, e2⟩ := h.setTg tg x q
      rw [e1]
      refine .bnd (hb _ _ e2) fun fl a a' ha => ?_
      cases fl with
      | nx => exact forD_le hb tg xs ha
      | cnt => exact forD_le hb tg xs ha
      | brk => exact .ret ha
      | ret d => exact .ret ha
      | rr d => exact .ret ha
theorem whlD_le {c c' : Env' → M (D × Env')} {b b' : Env' → M (Flw × Env')} (hc : ∀ e e', EnvLe e e' → LeP (c e) (c' e')) (hb : ∀ e e', EnvLe e e' → LeP (b e) (b' e')) : ∀ (n : Nat) {e e' : Env'}, EnvLe e e' → LeP (whlD c b n e) (whlD c' b' n e')
  | 0, _, _, _ => .stuck _
  | n + 1, e, e', h => by
    unfold whlD
    refine .bnd (hc _ _ h) fun d a a' ha => ?_
    match d with
    | .bl true =>
      refine .bnd (hb _ _ ha) fun fl f f' hf => ?_
      cases fl with
      | nx => exact whlD_le hc hb n hf
      | cnt => exact whlD_le hc hb n hf
      | brk => exact .ret hf
      | ret d => exact .ret hf
      | rr d => exact .ret hf
    | .bl false => exact .ret ha
    | .non | .int _ | .str _ | .tup _ | .lst _ | .ins _ _ | .dic _ _ | .pen => exact .stuck _
section
variable {T : Tabs} {φ ψ : Fns}
theorem evX_le (x : E) {e e' : Env'} (h : EnvLe e e') : LeP (evX T φ ψ x e) (evX T φ ψ x e') := by
  rw [X_ev, X_ev]
  have q := EnvLe.frz (frE x) h
  exact .bndE (evE_le x q) fun d => .ret q
theorem evR_le : ∀ (r : Rw) {e e' : Env'}, EnvLe e e' → LeM (evR T φ ψ r e) (evR T φ ψ r e')
  | .lc own elt tg it, _, _, h => by
    rw [R_lc, R_lc]
    exact .bnd (evI_le it h) fun xs => .guardM _ (mapR_le (elR_le (h.wipe own) fun a b q => evE_le elt q) xs)
  | .call f as, _, _, h => .bnd (.bnd (evA_le as h) fun _ => .refl _) fun _ => .refl _
  | .ite c a b, _, _, h => by
    rw [R_ite, R_ite]
    exact .bnd (evE_le c h) (.iffD (evR_le a h) (evR_le b h))
  | .var i, _, _, h => getRw_le h i
theorem evS_le : ∀ (s : Sm) {e e' : Env'}, EnvLe e e' → LeP (evS T φ ψ s e) (evS T φ ψ s e')
  | .nop, _, _, h => .ret h
  | .seq a b, _, _, h => by
    rw [S_seq, S_seq]
    refine .bnd (evS_le a h) fun fl f f' hf => ?_
    cases fl with
    | nx => exact evS_le b hf
    | cnt => exact .ret hf
    | brk => exact .ret hf
    | ret d => exact .ret hf
    | rr d => exact .ret hf
  | .set i x, _, _, h => .bnd (evX_le x h) fun d f f' hf => .ret (hf.set i _)
  | .own i x, _, _, h => by
    rw [S_own, S_own]
    refine .bnd (evX_le x h) fun d f f' hf => ?_
    cases d with
    | lst ds => exact .ret (hf.set i _)
    | _ => exact .stuck _
  | .unp is x, _, _, h => by
    refine .bnd (evX_le x h) fun d f f' hf => ?_
    cases d with
    | tup ds =>
      dsimp only
      cases q : setAll is ds f with
      | none => exact .stuck _
      | some g =>
        obtain ⟨g', e1, e2⟩ := EnvLe.setAll is ds hf q
        rw [e1]
        exact .ret e2
    | _ => exact .stuck _
  | .app i x, _, _, h => by
    refine .bnd (evX_le x h) fun d f f' hf => ?_
    rcases hf.get i with q | q
    · dsimp only
      rw [q]
      exact .stuck _
    · dsimp only
      rw [← q]
      split
      · exact .guardM _ (.ret (hf.set i _))
      · exact .stuck _
  | .put i k x, _, _, h => by
    refine .bnd (evX_le x h) fun d f f' hf => .bnd (evX_le k hf) fun d2 g g' hg => ?_
    rcases hg.get i with q | q
    · dsimp only
      rw [q]
      exact .stuck _
    · dsimp only
      rw [← q]
      split
      · split
        · exact .ret (hg.set i _)
        · exact .stuck _
      · exact .stuck _
  | .exp x, _, _, h => .bnd (evX_le x h) fun d f f' hf => .ret hf
  | .ite c a b, _, _, h => by
    rw [S_ite, S_ite]
    exact .bnd (evX_le c h) fun d f f' hf => .iffD (evS_le a hf) (evS_le b hf) d
  | .for_ tg it b, _, _, h => .bndE (evI_le it (h.frz _)) fun xs => forD_le (fun _ _ q => evS_le b q) tg xs (h.frz _)
  | .whl n c b, _, _, h => whlD_le (fun _ _ q => evX_le c q) (fun _ _ q => evS_le b q) n h
  | .ret x, _, _, h => .bnd (evX_le x h) fun d f f' hf => .ret hf
  | .brk, _, _, h => .ret h
  | .cnt, _, _, h => .ret h
  | .fld x a, _, _, h => by
    refine .bnd (evX_le a h) fun d f f' hf => ?_
    rcases hf.get 0 with q | q
    · dsimp only
      rw [q]
      exact .stuck _
    · dsimp only
      rw [← q]
      split
      · exact .guardM _ (.ret (hf.set 0 _))
      · exact .stuck _
  | .nev, _, _, h => .stuck _
  | .par i j o1 e1 o2 e2, _, _, h => by
    have q := EnvLe.frz (frE e1 ++ frE e2) h
    exact .bndE (.bnd (evE_le e1 q) fun _ => .refl _) fun x => .bndE (.bnd (evE_le e2 q) fun _ => .refl _) fun y => .ret ((q.set i x).set j y)
  | .rws i r, _, _, h => by
    have q := EnvLe.frz (frR r) h
    exact .bndE (evR_le r q) fun rss => .ret (q.set i _)
  | .put2 i k1 k2 x, _, _, h => by
    refine .bnd (evX_le x h) fun d f f' hf => .bnd (evX_le k1 hf) fun d2 g g' hg => .bnd (evX_le k2 hg) fun d3 g2 g2' hg2 => ?_
    rcases hg2.get i with q | q
    · dsimp only
      rw [q]
      exact .stuck _
    · dsimp only
      rw [← q]
      split
      · split
        · exact .ret (hg2.set i _)
        · exact .stuck _
      · exact .stuck _
  | .pset i k x, _, _, h => by
    refine .bnd (evX_le x h) fun d f f' hf => ?_
    rcases hf.get i with q | q
    · dsimp only
      rw [q]
      exact .stuck _
    · dsimp only
      rw [← q]
      split
      · intro π a e π' q2
        unfold putP at q2 ⊢
        revert q2
        cases pputs k _ π with
        | none => intro q2; cases q2
        | some π2 => intro q2; cases q2; exact ⟨_, rfl, hf⟩
      · exact .stuck _
  | .rrt r, _, _, h => .bndE (evR_le r (h.frz _)) fun rss => .ret h
  | .apop f r x, _, _, h => by
    refine .bnd (evX_le x h) fun d g g' hg => ?_
    rcases hg.get f with q | q
    · dsimp only
      rw [q]
      exact .stuck _
    · rcases hg.get r with q2 | q2
      · intro π a e π' z
        exfalso
        revert z
        dsimp only
        rw [q2]
        generalize g[f]? = z0
        rcases z0 with _ | s
        · intro z; cases z
        · cases s <;> (intro z; cases z)
      · dsimp only
        rw [← q, ← q2]
        split
        · split
          · split
            · exact .guardM _ (.ret ((hg.set r _).set f _))
            · exact .stuck _
          · exact .stuck _
        · exact .stuck _
end
end UK

set_option Elab.async false
set_option linter.all false
set_option maxRecDepth 100000
set_option maxHeartbeats 1000000
namespace UK
open PySem PySem.Spec PyProof.Rows L2
/-! ### what a statement yields, at least: `Rl` without draws, `DrS` with draws -/
def Up (Q : Flw → Env' → Prop) (r : Flw × Env') : Prop := ∃ p, EnvLe p r.2 ∧ Q r.1 p
def Rl (m : M (Flw × Env')) (Q : Flw → Env' → Prop) : Prop := ∀ π, ∃ r, m π = some (r, π) ∧ Up Q r
def DrS (k : Int) (m : M (Flw × Env')) (Q : Flw → Env' → Prop) : Prop := Dr k m (Up Q)
theorem Up.mono {Q Q' : Flw → Env' → Prop} (h : ∀ f p, Q f p → Q' f p) : ∀ r, Up Q r → Up Q' r := fun r ⟨p, h1, h2⟩ => ⟨p, h1, h _ _ h2⟩
theorem Up.bind {Q : Flw → Env' → Prop} {f : Flw} {p e : Env'} (l : EnvLe p e) (u : Up Q (f, p)) : Up Q (f, e) := by
  obtain ⟨q, h1, h2⟩ := u
  exact ⟨q, h1.trans l, h2⟩
theorem Rl.up {m : M (Flw × Env')} {Q : Flw → Env' → Prop} {f : Flw} {e p : Env'} (h : m = ret (f, e)) (l : EnvLe p e) (q : Q f p) : Rl m Q := fun π => ⟨(f, e), by rw [h]; rfl, p, l, q⟩
theorem Rl.of {m : M (Flw × Env')} {Q : Flw → Env' → Prop} {f : Flw} {e : Env'} (h : m = ret (f, e)) (q : Q f e) : Rl m Q := Rl.up h (EnvLe.refl e) q
theorem Rl.mono {m : M (Flw × Env')} {Q Q' : Flw → Env' → Prop} (h : Rl m Q) (g : ∀ f p, Q f p → Q' f p) : Rl m Q' := fun π => by
  obtain ⟨r, e, u⟩ := h π
  exact ⟨r, e, Up.mono g _ u⟩
theorem Rl.dr {m : M (Flw × Env')} {Q : Flw → Env' → Prop} {k : Int} (h : Rl m Q) (hk : 0 ≤ k) : DrS k m Q := fun N π hN o => by
  obtain ⟨r, e, u⟩ := h π
  exact ⟨r, π, e, ⟨o.pos, o.dig, o.cnt, by have := o.bud; omega, o.f0, o.f1⟩, u⟩
theorem Rl.bndR {α : Type} {m : M α} {a : α} {g : α → M (Flw × Env')} {Q : Flw → Env' → Prop} (e : m = ret a) (h : Rl (g a) Q) : Rl (bnd m g) Q := by
  rw [e]
  exact h
theorem Rl.bnd {m : M (Flw × Env')} {g : Flw × Env' → M (Flw × Env')} {Q1 Q : Flw → Env' → Prop} (h1 : Rl m Q1) (h : ∀ f e, Up Q1 (f, e) → Rl (g (f, e)) Q) : Rl (UK.bnd m g) Q := fun π => by
  obtain ⟨⟨f, e⟩, e1, u⟩ := h1 π
  obtain ⟨r, e2, u2⟩ := h f e u π
  refine ⟨r, ?_, u2⟩
  unfold UK.bnd
  rw [e1]
  exact e2
theorem DrS.mono {k k' : Int} {m : M (Flw × Env')} {Q Q' : Flw → Env' → Prop} (h : DrS k m Q) (hk : k ≤ k') (g : ∀ f p, Q f p → Q' f p) : DrS k' m Q' := Dr.mono h hk (Up.mono g)
section
variable {T : Tabs} {φ ψ : Fns}
/-- over more slots the same -/
theorem Rl.le {s : Sm} {p e : Env'} {Q : Flw → Env' → Prop} (l : EnvLe p e) (h : Rl (evS T φ ψ s p) Q) : Rl (evS T φ ψ s e) Q := fun π => by
  obtain ⟨⟨f, e1⟩, h1, u⟩ := h π
  obtain ⟨e', q1, q2⟩ := evS_le s l π f e1 π h1
  exact ⟨(f, e'), q1, u.bind q2⟩
theorem DrS.le {k : Int} {s : Sm} {p e : Env'} {Q : Flw → Env' → Prop} (l : EnvLe p e) (h : DrS k (evS T φ ψ s p) Q) : DrS k (evS T φ ψ s e) Q := fun N π hN o => by
  obtain ⟨⟨f, e1⟩, π', h1, o', u⟩ := h N π hN o
  obtain ⟨e', q1, q2⟩ := evS_le s l π f e1 π' h1
  exact ⟨(f, e'), π', q1, o', u.bind q2⟩
theorem Rl.seq {a b : Sm} {env : Env'} {Q1 Q : Flw → Env' → Prop} (h1 : Rl (evS T φ ψ a env) Q1) (h2 : ∀ p, Q1 .nx p → Rl (evS T φ ψ b p) Q) (h3 : ∀ f p, f ≠ .nx → Q1 f p → Q f p) : Rl (evS T φ ψ (.seq a b) env) Q := by
  rw [S_seq]
  refine Rl.bnd h1 fun f e u => ?_
  obtain ⟨p, l, q⟩ := u
  cases f with
  | nx => exact (h2 p q).le l
  | cnt => exact Rl.up rfl l (h3 _ _ (by intro z; cases z) q)
  | brk => exact Rl.up rfl l (h3 _ _ (by intro z; cases z) q)
  | ret d => exact Rl.up rfl l (h3 _ _ (by intro z; cases z) q)
  | rr d => exact Rl.up rfl l (h3 _ _ (by intro z; cases z) q)
/-- a step without a loop -/
theorem Rl.st {a b : Sm} {env p : Env'} {Q : Flw → Env' → Prop} (h1 : evS T φ ψ a env = ret (.nx, p)) (h2 : Rl (evS T φ ψ b p) Q) : Rl (evS T φ ψ (.seq a b) env) Q := by
  rw [S_seq, h1]
  exact h2
theorem Rl.iteT {c : E} {a b : Sm} {env p : Env'} {Q : Flw → Env' → Prop} (h1 : evX T φ ψ c env = ret (.bl true, p)) (h2 : Rl (evS T φ ψ a p) Q) : Rl (evS T φ ψ (.ite c a b) env) Q := by
  rw [S_ite, h1]
  exact h2
theorem Rl.iteF {c : E} {a b : Sm} {env p : Env'} {Q : Flw → Env' → Prop} (h1 : evX T φ ψ c env = ret (.bl false, p)) (h2 : Rl (evS T φ ψ b p) Q) : Rl (evS T φ ψ (.ite c a b) env) Q := by
  rw [S_ite, h1]
  exact h2
theorem Rl.ite {c : E} {a b : Sm} {env p : Env'} {Q : Flw → Env' → Prop} {t : Bool} (h1 : evX T φ ψ c env = ret (.bl t, p)) (h2 : t = true → Rl (evS T φ ψ a p) Q) (h3 : t = false → Rl (evS T φ ψ b p) Q) : Rl (evS T φ ψ (.ite c a b) env) Q := by
  rw [S_ite, h1]
  cases t with
  | true => exact h2 rfl
  | false => exact h3 rfl
theorem Rl.nop {env : Env'} {Q : Flw → Env' → Prop} (h : Q .nx env) : Rl (evS T φ ψ .nop env) Q := Rl.of rfl h
theorem Rl.ret {x : E} {env p : Env'} {d : D} {Q : Flw → Env' → Prop} (h1 : evX T φ ψ x env = UK.ret (d, p)) (h : Q (.ret d) p) : Rl (evS T φ ψ (.ret x) env) Q := by
  rw [S_ret, h1]
  exact Rl.of rfl h
/-- how a loop's body may end -/
def Turn (I Q : Env' → Prop) (R : Flw → Env' → Prop) : Flw → Env' → Prop
  | .nx, p => I p
  | .cnt, p => I p
  | .brk, p => Q p
  | .ret d, p => R (.ret d) p
  | .rr d, p => R (.rr d) p
theorem EnvLe.tg {tg : List Nat} {x : D} {p e f : Env'} (l : EnvLe p e) (h : UK.setTg tg x p = some f) : ∃ f', UK.setTg tg x e = some f' ∧ EnvLe f f' := l.setTg tg x h
theorem forRl {s : Sm} {tg : List Nat} (I : Nat → Env' → Prop) (Q : Flw → Env' → Prop) : ∀ (xs : List D) (j : Nat) (p e : Env'), EnvLe p e → I j p →
    (∀ i x p, xs[i]? = some x → I (j + i) p → ∃ e, setTg tg x p = some e ∧ Rl (evS T φ ψ s e) (Turn (I (j + i + 1)) (Q .nx) Q)) → (∀ p, I (j + xs.length) p → Q .nx p) → Rl (forD (evS T φ ψ s) tg xs e) Q
  | [], j, p, e, l, h0, _, hq => Rl.up rfl l (hq p h0)
  | x :: xs, j, p, e, l, h0, hs, hq => by
    obtain ⟨f, e1, h⟩ := hs 0 x p rfl h0
    obtain ⟨f', e2, l2⟩ := l.tg e1
    show Rl (match setTg tg x e with
      | some env' => UK.bnd (evS T φ ψ s env') fun r => match r with
        | (.nx, env2) => forD (evS T φ ψ s) tg xs env2
        | (.cnt, env2) => forD (evS T φ ψ s) tg xs env2
        | (.brk, env2) => UK.ret (.nx, env2)
        | (.ret d, env2) => UK.ret (.ret d, env2)
        | (.rr d, env2) => UK.ret (.rr d, env2)
      | none => stuck) Q
    rw [e2]
    have next : ∀ p' e', EnvLe p' e' → I (j + 0 + 1) p' → Rl (forD (evS T φ ψ s) tg xs e') Q := fun p' e' l' hI =>
      forRl I Q xs (j + 1) p' e' l' hI (fun i x p hx hp => by
        have := hs (i + 1) x p hx (by rw [show j + (i + 1) = j + 1 + i by omega]; exact hp)
        rw [show j + 1 + i + 1 = j + (i + 1) + 1 by omega]
        exact this) fun p hp => hq p (by rw [show j + (x :: xs).length = j + 1 + xs.length by rw [List.length_cons]; omega]; exact hp)
    refine Rl.bnd (h.le l2) fun fl e' u => ?_
    obtain ⟨p', l', q'⟩ := u
    cases fl with
    | nx => exact next p' e' l' q'
    | cnt => exact next p' e' l' q'
    | brk => exact Rl.up rfl l' q'
    | ret d => exact Rl.up rfl l' q'
    | rr d => exact Rl.up rfl l' q'
theorem Rl.for {s : Sm} {tg : List Nat} {it : Itn} {env : Env'} {xs : List D} {Q : Flw → Env' → Prop} (I : Nat → Env' → Prop) (hI : evI T φ ψ it (frz (frI it) env) = UK.ret xs) (p : Env') (l : EnvLe p (frz (frI it) env)) (h0 : I 0 p)
    (hs : ∀ i x p, xs[i]? = some x → I i p → ∃ e, setTg tg x p = some e ∧ Rl (evS T φ ψ s e) (Turn (I (i + 1)) (Q .nx) Q)) (hq : ∀ p, I xs.length p → Q .nx p) : Rl (evS T φ ψ (.for_ tg it s) env) Q := by
  rw [S_for, hI]
  exact forRl I Q xs 0 p _ l h0 (fun i x p hx hp => by
    rw [Nat.zero_add] at hp ⊢
    exact hs i x p hx hp) fun p hp => hq p (by rw [Nat.zero_add] at hp; exact hp)
/-- a def -/
theorem runF_of {s : Sm} {N : Nat} {ds : List D} {d : D} (h : Rl (evS T φ ψ s (startE N ds)) fun f _ => f = .ret d) : runF T φ ψ false s N ds = UK.ret d := by
  funext π
  obtain ⟨⟨f, e⟩, h1, p, _, rfl⟩ := h π
  unfold runF
  rw [bnd_at, h1]
  rfl
end
/-! ### the same with draws -/
theorem Dr.bndR {α β : Type} {k : Int} {m : M α} {a : α} {g : α → M β} {Q : β → Prop} (e : m = UK.ret a) (h : Dr k (g a) Q) : Dr k (UK.bnd m g) Q := by
  rw [e]
  exact h
section
variable {T : Tabs} {φ ψ : Fns}
theorem DrS.ret {x : E} {env p : Env'} {d : D} {Q : Flw → Env' → Prop} {k : Int} (hk : 0 ≤ k) (h1 : evX T φ ψ x env = UK.ret (d, p)) (h : Q (.ret d) p) : DrS k (evS T φ ψ (.ret x) env) Q := (Rl.ret h1 h).dr hk
theorem DrS.up {m : M (Flw × Env')} {Q : Flw → Env' → Prop} {f : Flw} {e p : Env'} {k : Int} (hk : 0 ≤ k) (h : m = UK.ret (f, e)) (l : EnvLe p e) (q : Q f p) : DrS k m Q := (Rl.up h l q).dr hk
theorem DrS.seq {a b : Sm} {env : Env'} {Q1 Q : Flw → Env' → Prop} {k k1 k2 : Int} (h1 : DrS k1 (evS T φ ψ a env) Q1) (hk : k1 + k2 ≤ k) (h0 : 0 ≤ k2) (h2 : ∀ p, Q1 .nx p → DrS k2 (evS T φ ψ b p) Q) (h3 : ∀ f p, f ≠ .nx → Q1 f p → Q f p) : DrS k (evS T φ ψ (.seq a b) env) Q := by
  rw [S_seq]
  refine Dr.bnd h1 hk h0 fun r u => ?_
  obtain ⟨f, e⟩ := r
  obtain ⟨p, l, q⟩ := u
  cases f with
  | nx => exact (h2 p q).le l
  | cnt => exact DrS.up h0 rfl l (h3 _ _ (by intro z; cases z) q)
  | brk => exact DrS.up h0 rfl l (h3 _ _ (by intro z; cases z) q)
  | ret d => exact DrS.up h0 rfl l (h3 _ _ (by intro z; cases z) q)
  | rr d => exact DrS.up h0 rfl l (h3 _ _ (by intro z; cases z) q)
theorem DrS.st {a b : Sm} {env p : Env'} {Q : Flw → Env' → Prop} {k : Int} (h1 : evS T φ ψ a env = UK.ret (.nx, p)) (h2 : DrS k (evS T φ ψ b p) Q) : DrS k (evS T φ ψ (.seq a b) env) Q := by
  rw [S_seq, h1]
  exact h2
theorem DrS.iteT {c : E} {a b : Sm} {env p : Env'} {Q : Flw → Env' → Prop} {k : Int} (h1 : evX T φ ψ c env = UK.ret (.bl true, p)) (h2 : DrS k (evS T φ ψ a p) Q) : DrS k (evS T φ ψ (.ite c a b) env) Q := by
  rw [S_ite, h1]
  exact h2
theorem DrS.iteF {c : E} {a b : Sm} {env p : Env'} {Q : Flw → Env' → Prop} {k : Int} (h1 : evX T φ ψ c env = UK.ret (.bl false, p)) (h2 : DrS k (evS T φ ψ b p) Q) : DrS k (evS T φ ψ (.ite c a b) env) Q := by
  rw [S_ite, h1]
  exact h2
theorem DrS.ite {c : E} {a b : Sm} {env p : Env'} {Q : Flw → Env' → Prop} {t : Bool} {k : Int} (h1 : evX T φ ψ c env = UK.ret (.bl t, p)) (h2 : t = true → DrS k (evS T φ ψ a p) Q) (h3 : t = false → DrS k (evS T φ ψ b p) Q) : DrS k (evS T φ ψ (.ite c a b) env) Q := by
  rw [S_ite, h1]
  cases t with
  | true => exact h2 rfl
  | false => exact h3 rfl
theorem forDrS {s : Sm} {tg : List Nat} {k : Int} (hk : 0 ≤ k) (I : Nat → Env' → Prop) (Q : Flw → Env' → Prop) : ∀ (xs : List D) (j : Nat) (p e : Env'), EnvLe p e → I j p →
    (∀ i x p, xs[i]? = some x → I (j + i) p → ∃ e, setTg tg x p = some e ∧ DrS k (evS T φ ψ s e) (Turn (I (j + i + 1)) (Q .nx) Q)) → (∀ p, I (j + xs.length) p → Q .nx p) → DrS (k * xs.length) (forD (evS T φ ψ s) tg xs e) Q
  | [], j, p, e, l, h0, _, hq => DrS.up (by simp) rfl l (hq p h0)
  | x :: xs, j, p, e, l, h0, hs, hq => by
    obtain ⟨f, e1, h⟩ := hs 0 x p rfl h0
    obtain ⟨f', e2, l2⟩ := l.tg e1
    show DrS _ (match setTg tg x e with
      | some env' => UK.bnd (evS T φ ψ s env') fun r => match r with
        | (.nx, env2) => forD (evS T φ ψ s) tg xs env2
        | (.cnt, env2) => forD (evS T φ ψ s) tg xs env2
        | (.brk, env2) => UK.ret (.nx, env2)
        | (.ret d, env2) => UK.ret (.ret d, env2)
        | (.rr d, env2) => UK.ret (.rr d, env2)
      | none => stuck) Q
    rw [e2]
    have hl : k + k * (xs.length : Int) = k * ((x :: xs).length : Int) := by
      rw [List.length_cons, Int.natCast_succ, Int.mul_add, Int.mul_one, Int.add_comm]
    have h0' : 0 ≤ k * (xs.length : Int) := Int.mul_nonneg hk (by omega)
    have next : ∀ p' e', EnvLe p' e' → I (j + 0 + 1) p' → DrS (k * xs.length) (forD (evS T φ ψ s) tg xs e') Q := fun p' e' l' hI =>
      forDrS hk I Q xs (j + 1) p' e' l' hI (fun i x p hx hp => by
        have := hs (i + 1) x p hx (by rw [show j + (i + 1) = j + 1 + i by omega]; exact hp)
        rw [show j + 1 + i + 1 = j + (i + 1) + 1 by omega]
        exact this) fun p hp => hq p (by rw [show j + (x :: xs).length = j + 1 + xs.length by rw [List.length_cons]; omega]; exact hp)
    refine Dr.bnd (h.le l2) (Int.le_of_eq hl) h0' fun r u => ?_
    obtain ⟨fl, e'⟩ := r
    obtain ⟨p', l', q'⟩ := u
    cases fl with
    | nx => exact next p' e' l' q'
    | cnt => exact next p' e' l' q'
    | brk => exact DrS.up h0' rfl l' q'
    | ret d => exact DrS.up h0' rfl l' q'
    | rr d => exact DrS.up h0' rfl l' q'
theorem DrS.for {s : Sm} {tg : List Nat} {it : Itn} {env : Env'} {xs : List D} {Q : Flw → Env' → Prop} {k K : Int} (hk : 0 ≤ k) (hK : k * xs.length ≤ K) (I : Nat → Env' → Prop) (hI : evI T φ ψ it (frz (frI it) env) = UK.ret xs) (p : Env') (l : EnvLe p (frz (frI it) env)) (h0 : I 0 p)
    (hs : ∀ i x p, xs[i]? = some x → I i p → ∃ e, setTg tg x p = some e ∧ DrS k (evS T φ ψ s e) (Turn (I (i + 1)) (Q .nx) Q)) (hq : ∀ p, I xs.length p → Q .nx p) : DrS K (evS T φ ψ (.for_ tg it s) env) Q := by
  rw [S_for, hI]
  exact (forDrS hk I Q xs 0 p _ l h0 (fun i x p hx hp => by
    rw [Nat.zero_add] at hp ⊢
    exact hs i x p hx hp) fun p hp => hq p (by rw [Nat.zero_add] at hp; exact hp)).mono hK fun _ _ h => h
theorem runDr_of {s : Sm} {N : Nat} {ds : List D} {k : Int} {P : D → Prop} (h : DrS k (evS T φ ψ s (startE N ds)) fun f _ => ∃ d, f = .ret d ∧ P d) : Dr k (runF T φ ψ false s N ds) P := fun N' π hN o => by
  obtain ⟨⟨f, e⟩, π', h1, o', p, _, d, rfl, hp⟩ := h N' π hN o
  refine ⟨d, π', ?_, o', hp⟩
  unfold runF
  rw [bnd_at, h1]
  rfl
end
end UK

set_option Elab.async false
set_option linter.all false
set_option maxRecDepth 100000
set_option maxHeartbeats 400000
namespace UK
open PySem PySem.Spec PyProof.Rows L2
/-! ### small rules for typed data -/
theorem guard_le {α : Type} {n : Nat} {m : M α} (h : n ≤ 1000) : guardM (decide (n ≤ LIM)) m = m := guard_t (limM h)
theorem r1_nat {n : Nat} (h : n ≤ 1000000) : r1D (.int n) = ret ((List.range n).map natD) := by
  rw [r1D_ok (n := n) (by omega) (by omega), show (n : Int).toNat = n from rfl, rng_nat]
theorem r1_int {n : Int} (h0 : 0 ≤ n) (h : n ≤ 1000000) : r1D (.int n) = ret ((List.range n.toNat).map natD) := by
  rw [r1D_ok (n := n) (by omega) (by omega), rng_nat]
theorem lc_fil {α : Type} {own tg : List Nat} {elt : E} {it : Itn} {c : O} {T : Tabs} {φ ψ : Fns} {env : Env'} (xs : List α) (enc : α → D) (p : α → Bool) (F : α → D) (hI : evI T φ ψ it env = ret (xs.map enc)) (hl : xs.length ≤ 1000)
    (hb : ∀ x ∈ xs, elM tg (evE T φ ψ elt) (evO T φ ψ c) (wipeE env own) (enc x) = ret (if p x = true then some (F x) else none)) : evE T φ ψ (.lc own elt tg it c) env = ret (.lst ((xs.filter p).map F)) := by
  rw [lc_any hI (by rw [List.length_map]; exact hl)]
  have key : ∀ l : List α, (∀ x ∈ l, elM tg (evE T φ ψ elt) (evO T φ ψ c) (wipeE env own) (enc x) = ret (if p x = true then some (F x) else none)) → mapM' (elM tg (evE T φ ψ elt) (evO T φ ψ c) (wipeE env own)) (l.map enc) = ret ((l.filter p).map F) := fun l => by
    induction l with
    | nil => exact fun _ => rfl
    | cons a l ih =>
      intro h
      show bnd (elM tg (evE T φ ψ elt) (evO T φ ψ c) (wipeE env own) (enc a)) _ = _
      rw [h a (List.mem_cons_self ..), bnd_ret, ih fun x hx => h x (List.mem_cons_of_mem _ hx), bnd_ret, List.filter_cons]
      by_cases q : p a = true
      · rw [if_pos q, if_pos q]; rfl
      · rw [if_neg q, if_neg q]
  rw [key xs hb, bnd_ret]
theorem lc_all {α : Type} {own tg : List Nat} {elt : E} {it : Itn} {c : O} {T : Tabs} {φ ψ : Fns} {env : Env'} (xs : List α) (enc : α → D) (F : α → D) (hI : evI T φ ψ it env = ret (xs.map enc)) (hl : xs.length ≤ 1000)
    (hb : ∀ x ∈ xs, elM tg (evE T φ ψ elt) (evO T φ ψ c) (wipeE env own) (enc x) = ret (some (F x))) : evE T φ ψ (.lc own elt tg it c) env = ret (.lst (xs.map F)) := by
  rw [lc_fil xs enc (fun _ => true) F hI hl fun x hx => by rw [hb x hx, if_pos rfl]]
  rw [List.filter_eq_self.mpr fun _ _ => rfl]
theorem any_map {α : Type} (f : α → Bool) (xs : List α) : b1D .any (.lst (xs.map fun x => D.bl (f x))) = ret (.bl (xs.any f)) := by
  show (match blsOf (xs.map fun x => D.bl (f x)) with | some is => ret (D.bl (is.any id)) | none => stuck) = _
  rw [blsOf_map]
  dsimp only
  rw [List.any_map]
  rfl
theorem sum_map {α : Type} (f : α → Int) (xs : List α) : b1D .sum (.lst (xs.map fun x => D.int (f x))) = ret (.int (xs.map f).sum) := by
  have := sum_ints (xs.map f)
  rw [List.map_map] at this
  exact this
/-! ### indices -/
theorem idx_tmap {α : Type} {xs : List α} {f : α → D} {i : Nat} (d : α) (h : i < xs.length) : idxD (.tup (xs.map f)) (.int i) = ret (f (xs.getD i d)) := idx_tup (atI_nat (by
  rw [List.getElem?_map, List.getElem?_eq_getElem h]
  simp [List.getElem?_eq_getElem h]))
theorem idx_lmap {α : Type} {xs : List α} {f : α → D} {i : Nat} (d : α) (h : i < xs.length) : idxD (.lst (xs.map f)) (.int i) = ret (f (xs.getD i d)) := idx_lst (atI_nat (by
  rw [List.getElem?_map, List.getElem?_eq_getElem h]
  simp [List.getElem?_eq_getElem h]))
theorem getD_mem {α : Type} {xs : List α} {i : Nat} (d : α) (h : i < xs.length) : xs.getD i d ∈ xs := by
  rw [List.getD_eq_getElem?_getD, List.getElem?_eq_getElem h]
  exact List.getElem_mem h
@[simp] theorem b2_max (i j : Int) : b2D .max (.int i) (.int j) = ret (.int (max i j)) := by
  show ret (D.int (if j > i then j else i)) = _
  by_cases h : j > i
  · rw [if_pos h, show max i j = j by omega]
  · rw [if_neg h, show max i j = i by omega]
@[simp] theorem b2_min (i j : Int) : b2D .min (.int i) (.int j) = ret (.int (min i j)) := by
  show ret (D.int (if j < i then j else i)) = _
  by_cases h : j < i
  · rw [if_pos h, show min i j = j by omega]
  · rw [if_neg h, show min i j = i by omega]
theorem iff_if {α : Type} {c : Bool} {x y : α} : (if c = true then ret x else ret y : M α) = ret (if c = true then x else y) := by cases c <;> rfl
end UK

set_option Elab.async false
set_option linter.all false
set_option maxRecDepth 100000
set_option maxHeartbeats 400000
namespace UK
open PySem PySem.Spec PyProof.Rows L2
/-! ### a drawn table of goals: its terms -/
abbrev Cnd := Nat × Int × Int
abbrev Trm := Int × List Cnd
def cndD (c : Cnd) : D := .tup [natD c.1, .int c.2.1, .int c.2.2]
def trmD (t : Trm) : D := .tup [.int t.1, .lst (t.2.map cndD)]
def CndOk (signs : List Int) (most : Int) (c : Cnd) : Prop := c.1 < signs.length ∧ (signs.getD c.1 0 ≠ 2 → c.2.1 = signs.getD c.1 0) ∧ (-1 ≤ c.2.1 ∧ c.2.1 ≤ 2) ∧ 0 ≤ c.2.2 ∧ c.2.2 ≤ most
def TrmOk (signs : List Int) (most : Int) (t : Trm) : Prop := (0 ≤ t.1 ∧ t.1 ≤ most) ∧ ∀ c ∈ t.2, CndOk signs most c
def SgOk (signs : List Int) : Prop := signs.length ≤ 4 ∧ ∀ s ∈ signs, -1 ≤ s ∧ s ≤ 2
abbrev tEnv (signs : List Int) (most : Int) (s4 s5 s6 s7 s8 s9 s10 s11 s12 : Slot) : Env' := [.sh .pen, .sh (.lst (signs.map .int)), .sh (.int most), .un, s4, s5, s6, s7, s8, s9, s10, s11, s12, .un, .un, .un]
theorem pick3 (n : Nat) : Dr 1 ((B0.lev (n + 2)).1 28 [.pen, .lst [.int 1, .int (-1), .int 2]]) (fun d => ∃ i : Int, d = .int i ∧ -1 ≤ i ∧ i ≤ 2) := (pick_l n _ (by simp) (by simp)).mono (Int.le_refl 1) fun d hd => by
  simp at hd
  rcases hd with rfl | rfl | rfl <;> exact ⟨_, rfl, by decide, by decide⟩
abbrev atS : Sm := (.ite (.cmp .eq (.call 27 (.cons (.var 0) (.cons (.int 2) .nil))) (.int 0))
  (.app 8 (.tup (.cons (.var 9) (.cons (.ite (.cmp .ne (.idx (.slot 1) (.var 9)) (.int 2)) (.idx (.slot 1) (.var 9)) (.call 28 (.cons (.var 0) (.cons (.lst (.cons (.int 1) (.cons (.neg (.int 1)) (.cons (.int 2) .nil)))) .nil)))) (.cons (.call 27 (.cons (.var 0) (.cons (.bin .add (.slot 2) (.int 1)) .nil))) .nil)))))
  .nop)
theorem at_dr (n : Nat) {signs : List Int} (hs : SgOk signs) {most : Int} (m0 : 1 ≤ most) (m1 : most ≤ 4) {i : Nat} (hi : i < signs.length) (s4 s5 s6 s7 s10 s11 s12 : Slot) (cs : List Cnd) (hc : ∀ c ∈ cs, CndOk signs most c) (hl : cs.length ≤ 10) :
    DrS 3 (evS TT (B0.lev (n + 2)).1 (B0.lev (n + 2)).2 atS (tEnv signs most s4 s5 s6 s7 (.ow (cs.map cndD)) (.sh (natD i)) s10 s11 s12)) (fun f p => f = .nx ∧ ∃ cs' : List Cnd, p = tEnv signs most s4 s5 s6 s7 (.ow (cs'.map cndD)) (.sh (natD i)) s10 s11 s12 ∧ (∀ c ∈ cs', CndOk signs most c) ∧ cs'.length ≤ cs.length + 1) := by
  simp only [S_ite, X_ev, S_set, S_own, S_exp, S_app, S_par, S_rws, slD_lst, slD_sh, ownD_lst, seqD_nx, List.set_cons_succ, List.set_cons_zero, frE_var, frE_slot, frE_non, frE_bl, frE_int, frE_str, frE_bin, frE_neg, frE_cmp, frE_chn, frE_and, frE_or, frE_not, frE_ite, frE_call, frE_mk, frE_fld, frE_nfl, frE_idx, frE_slc, frE_rev, frE_tup, frE_lst, frE_b1, frE_b2, frE_isi, frE_lc, frE_lc2, frE_dic, frE_lrg, frE_pget, frA_nil, frA_cons, frO_no, frO_yes, frI_r1, frI_r2, frI_sq, frR_lc, frR_call, frR_ite, frR_var, List.append_nil, List.cons_append, List.nil_append, frz_cons, frz_nil, frz1, E_var, E_slot, E_non, E_bl, E_int, E_str, E_bin, E_neg, E_cmp, E_chn, E_and, E_or, E_not, E_ite, E_call, E_mk, E_fld, E_nfl, E_idx, E_slc, E_rev, E_tup, E_lst, E_b1, E_b2, E_isi, E_dic, E_lrg, A_nil, A_cons, O_no, O_yes, I_r1, I_r2, I_sq, getSh, getAny, List.getElem?_cons_zero, List.getElem?_cons_succ, bnd_ret, bnd_bnd, neg_int, cmp_eq_int, cmp_ne_int, cmp_lt_int, cmp_le_int, cmp_gt_int, cmp_ge_int, bin_add_int, bin_sub_int, b1_int, b1_len_l, b1_len_t, b1_tuple_l, b1_tuple_t, b1_list_l, b1_list_t, thenD_bl, elseD_bl, iffD_bl, notD_bl, slc_lst, slc_tup, part_none, part_int, List.length_cons, List.length_nil, List.length_map]
  refine Dr.bnd (k1 := 1) (k2 := 2) (draw_dr (n + 1) 2 (by decide) (by decide)) (by decide) (by decide) fun d hd => ?_
  obtain ⟨r, rfl, r0, r1⟩ := hd
  simp only [cmp_eq_int, bnd_ret, iffD_bl]
  by_cases q : r = 0
  · rw [if_pos (decide_eq_true q)]
    have hsg := hs.2 _ (getD_mem 0 hi)
    have fin : ∀ s : Int, (signs.getD i 0 ≠ 2 → s = signs.getD i 0) → -1 ≤ s ∧ s ≤ 2 → ∀ b : Int, 0 ≤ b → b < most + 1 → DrS 0 (appD 8 (.tup [natD i, .int s, .int b], tEnv signs most s4 s5 s6 s7 (.ow (cs.map cndD)) (.sh (natD i)) s10 s11 s12)) (fun f p => f = .nx ∧ ∃ cs' : List Cnd, p = tEnv signs most s4 s5 s6 s7 (.ow (cs'.map cndD)) (.sh (natD i)) s10 s11 s12 ∧ (∀ c ∈ cs', CndOk signs most c) ∧ cs'.length ≤ cs.length + 1) := fun s h1 h2 b b0 b1 => by
      rw [app_ok rfl (by rw [List.length_map]; omega)]
      refine DrS.up (Int.le_refl 0) rfl (EnvLe.refl _) ⟨rfl, cs ++ [(i, s, b)], ?_, fun c hc' => ?_, by simp⟩
      · simp only [List.set_cons_succ, List.set_cons_zero, List.map_append]; rfl
      · rcases List.mem_append.mp hc' with hc' | hc'
        · exact hc c hc'
        · rw [List.mem_singleton.mp hc']
          exact ⟨hi, h1, h2, b0, by show b ≤ most; omega⟩
    have hix : idxD (.lst (signs.map .int)) (.int i) = ret (.int (signs.getD i 0)) := idx_lmap 0 hi
    simp only [S_app, X_ev, S_set, S_own, S_exp, S_app, S_par, S_rws, slD_lst, slD_sh, ownD_lst, seqD_nx, List.set_cons_succ, List.set_cons_zero, frE_var, frE_slot, frE_non, frE_bl, frE_int, frE_str, frE_bin, frE_neg, frE_cmp, frE_chn, frE_and, frE_or, frE_not, frE_ite, frE_call, frE_mk, frE_fld, frE_nfl, frE_idx, frE_slc, frE_rev, frE_tup, frE_lst, frE_b1, frE_b2, frE_isi, frE_lc, frE_lc2, frE_dic, frE_lrg, frE_pget, frA_nil, frA_cons, frO_no, frO_yes, frI_r1, frI_r2, frI_sq, frR_lc, frR_call, frR_ite, frR_var, List.append_nil, List.cons_append, List.nil_append, frz_cons, frz_nil, frz1, E_var, E_slot, E_non, E_bl, E_int, E_str, E_bin, E_neg, E_cmp, E_chn, E_and, E_or, E_not, E_ite, E_call, E_mk, E_fld, E_nfl, E_idx, E_slc, E_rev, E_tup, E_lst, E_b1, E_b2, E_isi, E_dic, E_lrg, A_nil, A_cons, O_no, O_yes, I_r1, I_r2, I_sq, getSh, getAny, List.getElem?_cons_zero, List.getElem?_cons_succ, bnd_ret, bnd_bnd, neg_int, cmp_eq_int, cmp_ne_int, cmp_lt_int, cmp_le_int, cmp_gt_int, cmp_ge_int, bin_add_int, bin_sub_int, b1_int, b1_len_l, b1_len_t, b1_tuple_l, b1_tuple_t, b1_list_l, b1_list_t, thenD_bl, elseD_bl, iffD_bl, notD_bl, slc_lst, slc_tup, part_none, part_int, List.length_cons, List.length_nil, List.length_map, natD, hix]
    by_cases z : signs.getD i 0 = 2
    · rw [if_neg (by simpa using z), guard_le (by decide), bnd_ret]
      refine Dr.bnd (k1 := 1) (k2 := 1) (pick3 n) (by decide) (by decide) fun d hd => ?_
      obtain ⟨s, rfl, s0, s1⟩ := hd
      refine Dr.bnd (k1 := 1) (k2 := 0) (draw_dr (n + 1) (most + 1) (by omega) (by omega)) (by decide) (by decide) fun d hd => ?_
      obtain ⟨b, rfl, b0, b1⟩ := hd
      rw [guard_le (by decide), bnd_ret]
      exact fin s (fun h => absurd z h) ⟨s0, s1⟩ b b0 b1
    · rw [if_pos (by simpa using z), bnd_ret]
      refine Dr.bnd (k1 := 1) (k2 := 0) (draw_dr (n + 1) (most + 1) (by omega) (by omega)) (by decide) (by decide) fun d hd => ?_
      obtain ⟨b, rfl, b0, b1⟩ := hd
      rw [guard_le (by decide), bnd_ret]
      exact fin _ (fun h => rfl) hsg b b0 b1
  · rw [if_neg (by simpa using q)]
    exact DrS.up (by decide) rfl (EnvLe.refl _) ⟨rfl, cs, rfl, hc, by omega⟩
end UK

set_option Elab.async false
set_option linter.all false
set_option maxRecDepth 100000
set_option maxHeartbeats 400000
namespace UK
open PySem PySem.Spec PyProof.Rows L2
theorem Up.weak {Q Q' : Flw → Env' → Prop} (h : ∀ f p, Q f p → ∃ p', EnvLe p' p ∧ Q' f p') : ∀ r, Up Q r → Up Q' r := fun r ⟨p, h1, h2⟩ => by
  obtain ⟨p', l, q⟩ := h _ _ h2
  exact ⟨p', l.trans h1, q⟩
theorem DrS.weak {k k' : Int} {m : M (Flw × Env')} {Q Q' : Flw → Env' → Prop} (h : DrS k m Q) (hk : k ≤ k') (g : ∀ f p, Q f p → ∃ p', EnvLe p' p ∧ Q' f p') : DrS k' m Q' := Dr.mono h hk (Up.weak g)
theorem Rl.weak {m : M (Flw × Env')} {Q Q' : Flw → Env' → Prop} (h : Rl m Q) (g : ∀ f p, Q f p → ∃ p', EnvLe p' p ∧ Q' f p') : Rl m Q' := fun π => by
  obtain ⟨r, e, u⟩ := h π
  exact ⟨r, e, Up.weak g _ u⟩
theorem map_at {α : Type} {f : α → D} {xs : List α} {i : Nat} {x : D} (h : (xs.map f)[i]? = some x) : ∃ a, xs[i]? = some a ∧ x = f a := by
  rw [List.getElem?_map] at h
  cases q : xs[i]? with
  | none => rw [q] at h; cases h
  | some a => rw [q] at h; cases h; exact ⟨a, rfl, rfl⟩
theorem range_at {n i a : Nat} (h : (List.range n)[i]? = some a) : i < n ∧ i = a := by
  have hi := (List.getElem?_eq_some_iff.mp h).1
  rw [List.length_range] at hi
  rw [List.getElem?_range hi] at h
  exact ⟨hi, Option.some.inj h⟩
abbrev lapS : Sm := .seq (.own 8 (.lst .nil)) (.seq (.for_ [9] (.r1 (.b1 .len (.slot 1))) atS)
  (.app 6 (.tup (.cons (.call 27 (.cons (.var 0) (.cons (.bin .add (.slot 2) (.int 1)) .nil))) (.cons (.var 8) .nil)))))
theorem lap_dr (n : Nat) {signs : List Int} (hs : SgOk signs) {most : Int} (m0 : 1 ≤ most) (m1 : most ≤ 4) (s7 : Slot) (ts : List Trm) (ht : ∀ t ∈ ts, TrmOk signs most t) (hl : ts.length ≤ 10) :
    DrS 13 (evS TT (B0.lev (n + 2)).1 (B0.lev (n + 2)).2 lapS (tEnv signs most .un .un (.ow (ts.map trmD)) s7 .un .un .un .un .un)) (fun f p => f = .nx ∧ ∃ ts' : List Trm, p = tEnv signs most .un .un (.ow (ts'.map trmD)) s7 .un .un .un .un .un ∧ (∀ t ∈ ts', TrmOk signs most t) ∧ ts'.length ≤ ts.length + 1 ∧ ((∀ t ∈ ts, t.2.length ≤ 10) → ∀ t ∈ ts', t.2.length ≤ 10)) := by
  refine DrS.st (p := tEnv signs most .un .un (.ow (ts.map trmD)) s7 (.ow []) .un .un .un .un) (by
    simp only [X_ev, S_set, S_own, S_exp, S_app, S_par, S_rws, slD_lst, slD_sh, ownD_lst, seqD_nx, List.set_cons_succ, List.set_cons_zero, frE_var, frE_slot, frE_non, frE_bl, frE_int, frE_str, frE_bin, frE_neg, frE_cmp, frE_chn, frE_and, frE_or, frE_not, frE_ite, frE_call, frE_mk, frE_fld, frE_nfl, frE_idx, frE_slc, frE_rev, frE_tup, frE_lst, frE_b1, frE_b2, frE_isi, frE_lc, frE_lc2, frE_dic, frE_lrg, frE_pget, frA_nil, frA_cons, frO_no, frO_yes, frI_r1, frI_r2, frI_sq, frR_lc, frR_call, frR_ite, frR_var, List.append_nil, List.cons_append, List.nil_append, frz_cons, frz_nil, frz1, E_var, E_slot, E_non, E_bl, E_int, E_str, E_bin, E_neg, E_cmp, E_chn, E_and, E_or, E_not, E_ite, E_call, E_mk, E_fld, E_nfl, E_idx, E_slc, E_rev, E_tup, E_lst, E_b1, E_b2, E_isi, E_dic, E_lrg, A_nil, A_cons, O_no, O_yes, I_r1, I_r2, I_sq, getSh, getAny, List.getElem?_cons_zero, List.getElem?_cons_succ, bnd_ret, bnd_bnd, neg_int, cmp_eq_int, cmp_ne_int, cmp_lt_int, cmp_le_int, cmp_gt_int, cmp_ge_int, bin_add_int, bin_sub_int, b1_int, b1_len_l, b1_len_t, b1_tuple_l, b1_tuple_t, b1_list_l, b1_list_t, thenD_bl, elseD_bl, iffD_bl, notD_bl, slc_lst, slc_tup, part_none, part_int, List.length_cons, List.length_nil, List.length_map]
    rw [guard_le (by decide)]
    rfl) ?_
  refine DrS.seq (k1 := 12) (k2 := 1) (Q1 := fun f p => f = .nx ∧ ∃ cs : List Cnd, p = tEnv signs most .un .un (.ow (ts.map trmD)) s7 (.ow (cs.map cndD)) .un .un .un .un ∧ (∀ c ∈ cs, CndOk signs most c) ∧ cs.length ≤ 10) (DrS.for (k := 3) (by decide) (xs := (List.range signs.length).map natD) (by rw [List.length_map, List.length_range]; have := hs.1; omega)
    (fun j p => ∃ cs : List Cnd, p = tEnv signs most .un .un (.ow (ts.map trmD)) s7 (.ow (cs.map cndD)) .un .un .un .un ∧ (∀ c ∈ cs, CndOk signs most c) ∧ cs.length ≤ j) ?_ _ (EnvLe.refl _) ⟨[], rfl, (fun c h => by cases h), Nat.le_refl _⟩ ?_ ?_) (by decide) (by decide) ?_ ?_
  · have h4 := hs.1
    simp only [X_ev, S_set, S_own, S_exp, S_app, S_par, S_rws, slD_lst, slD_sh, ownD_lst, seqD_nx, List.set_cons_succ, List.set_cons_zero, frE_var, frE_slot, frE_non, frE_bl, frE_int, frE_str, frE_bin, frE_neg, frE_cmp, frE_chn, frE_and, frE_or, frE_not, frE_ite, frE_call, frE_mk, frE_fld, frE_nfl, frE_idx, frE_slc, frE_rev, frE_tup, frE_lst, frE_b1, frE_b2, frE_isi, frE_lc, frE_lc2, frE_dic, frE_lrg, frE_pget, frA_nil, frA_cons, frO_no, frO_yes, frI_r1, frI_r2, frI_sq, frR_lc, frR_call, frR_ite, frR_var, List.append_nil, List.cons_append, List.nil_append, frz_cons, frz_nil, frz1, E_var, E_slot, E_non, E_bl, E_int, E_str, E_bin, E_neg, E_cmp, E_chn, E_and, E_or, E_not, E_ite, E_call, E_mk, E_fld, E_nfl, E_idx, E_slc, E_rev, E_tup, E_lst, E_b1, E_b2, E_isi, E_dic, E_lrg, A_nil, A_cons, O_no, O_yes, I_r1, I_r2, I_sq, getSh, getAny, List.getElem?_cons_zero, List.getElem?_cons_succ, bnd_ret, bnd_bnd, neg_int, cmp_eq_int, cmp_ne_int, cmp_lt_int, cmp_le_int, cmp_gt_int, cmp_ge_int, bin_add_int, bin_sub_int, b1_int, b1_len_l, b1_len_t, b1_tuple_l, b1_tuple_t, b1_list_l, b1_list_t, thenD_bl, elseD_bl, iffD_bl, notD_bl, slc_lst, slc_tup, part_none, part_int, List.length_cons, List.length_nil, List.length_map]
    rw [r1_nat (by omega)]
  · rintro i x p hx ⟨cs, rfl, hc, hl⟩
    obtain ⟨a, ha, rfl⟩ := map_at hx
    obtain ⟨hi, rfl⟩ := range_at ha
    have h4 := hs.1
    refine ⟨_, rfl, (at_dr n hs m0 m1 hi .un .un (.ow (ts.map trmD)) s7 .un .un .un cs hc (by omega)).weak (Int.le_refl _) ?_⟩
    rintro f p ⟨rfl, cs', rfl, h1, h2⟩
    exact ⟨_, .same (.same (.same (.same (.same (.same (.same (.same (.same (.un (EnvLe.refl _)))))))))), cs', rfl, h1, by omega⟩
  · rintro p ⟨cs, rfl, hc, hl⟩
    refine ⟨rfl, cs, rfl, hc, ?_⟩
    rw [List.length_map, List.length_range] at hl
    have h4 := hs.1
    omega
  · rintro p ⟨_, cs, rfl, hc, hcl⟩
    simp only [S_app, X_ev, S_set, S_own, S_exp, S_app, S_par, S_rws, slD_lst, slD_sh, ownD_lst, seqD_nx, List.set_cons_succ, List.set_cons_zero, frE_var, frE_slot, frE_non, frE_bl, frE_int, frE_str, frE_bin, frE_neg, frE_cmp, frE_chn, frE_and, frE_or, frE_not, frE_ite, frE_call, frE_mk, frE_fld, frE_nfl, frE_idx, frE_slc, frE_rev, frE_tup, frE_lst, frE_b1, frE_b2, frE_isi, frE_lc, frE_lc2, frE_dic, frE_lrg, frE_pget, frA_nil, frA_cons, frO_no, frO_yes, frI_r1, frI_r2, frI_sq, frR_lc, frR_call, frR_ite, frR_var, List.append_nil, List.cons_append, List.nil_append, frz_cons, frz_nil, frz1, E_var, E_slot, E_non, E_bl, E_int, E_str, E_bin, E_neg, E_cmp, E_chn, E_and, E_or, E_not, E_ite, E_call, E_mk, E_fld, E_nfl, E_idx, E_slc, E_rev, E_tup, E_lst, E_b1, E_b2, E_isi, E_dic, E_lrg, A_nil, A_cons, O_no, O_yes, I_r1, I_r2, I_sq, getSh, getAny, List.getElem?_cons_zero, List.getElem?_cons_succ, bnd_ret, bnd_bnd, neg_int, cmp_eq_int, cmp_ne_int, cmp_lt_int, cmp_le_int, cmp_gt_int, cmp_ge_int, bin_add_int, bin_sub_int, b1_int, b1_len_l, b1_len_t, b1_tuple_l, b1_tuple_t, b1_list_l, b1_list_t, thenD_bl, elseD_bl, iffD_bl, notD_bl, slc_lst, slc_tup, part_none, part_int, List.length_cons, List.length_nil, List.length_map]
    refine Dr.bnd (k1 := 1) (k2 := 0) (draw_dr (n + 1) (most + 1) (by omega) (by omega)) (by decide) (by decide) fun d hd => ?_
    obtain ⟨b, rfl, b0, b1⟩ := hd
    rw [guard_le (by decide), bnd_ret, app_ok rfl (by rw [List.length_map]; omega)]
    refine DrS.up (Int.le_refl 0) rfl (p := tEnv signs most .un .un (.ow ((ts ++ [(b, cs)]).map trmD)) s7 .un .un .un .un .un) ?_ ⟨rfl, ts ++ [(b, cs)], rfl, fun t h => ?_, by simp, fun hh t h => ?_⟩
    · rw [List.map_append]
      exact .same (.same (.same (.same (.same (.same (.same (.same (.un (EnvLe.refl _)))))))))
    · rcases List.mem_append.mp h with h | h
      · exact ht t h
      · rw [List.mem_singleton.mp h]
        exact ⟨⟨b0, by show b ≤ most; omega⟩, hc⟩
    · rcases List.mem_append.mp h with h | h
      · exact hh t h
      · rw [List.mem_singleton.mp h]
        exact hcl
  · rintro f p hf ⟨h, _⟩
    exact absurd h hf
end UK

set_option Elab.async false
set_option linter.all false
set_option maxRecDepth 100000
set_option maxHeartbeats 400000
namespace UK
open PySem PySem.Spec PyProof.Rows L2
@[simp] theorem elM_2 {i j : Nat} {me : Env' → M D} {mc : Env' → M (Option D)} {env : Env'} {x y : D} : elM [i, j] me mc env (.tup [x, y]) = ifM mc ((env.set i (.sh x)).set j (.sh y)) (bnd (me ((env.set i (.sh x)).set j (.sh y))) fun y => ret (some y)) (ret none) := rfl
@[simp] theorem elM_3 {i j k : Nat} {me : Env' → M D} {mc : Env' → M (Option D)} {env : Env'} {x y z : D} : elM [i, j, k] me mc env (.tup [x, y, z]) = ifM mc (((env.set i (.sh x)).set j (.sh y)).set k (.sh z)) (bnd (me (((env.set i (.sh x)).set j (.sh y)).set k (.sh z))) fun y => ret (some y)) (ret none) := rfl
theorem pow_small {b : Int} (b1 : 1 ≤ b) (b5 : b ≤ 5) {j : Nat} (hj : j ≤ 4) : 1 ≤ b ^ j ∧ b ^ j ≤ 625 := by
  obtain ⟨m, rfl⟩ : ∃ m : Nat, b = m := ⟨b.toNat, by omega⟩
  have h5 : m ^ j ≤ 5 ^ j := Nat.pow_le_pow_left (by omega) j
  have h2 : 5 ^ j ≤ 5 ^ 4 := Nat.pow_le_pow_right (by decide) hj
  have h3 : 0 < m ^ j := Nat.pow_pos (by omega)
  have e : ((m : Int) ^ j) = ((m ^ j : Nat) : Int) := by simp
  rw [e]
  omega
def cndB (b number : Int) (c : Cnd) : Bool := if c.2.1 = 2 then decide (number / b ^ c.1 % b = c.2.2) else decide (c.2.1 * c.2.2 ≤ c.2.1 * (number / b ^ c.1 % b))
def hgtF (b number : Int) (h : Int) (t : Trm) : Int := if t.2.all (cndB b number) = true then max h t.1 else h
def hgt (b number : Int) (ts : List Trm) : Int := ts.foldl (hgtF b number) 0
abbrev trmS : Sm := (.seq (.own 12 (.lc [9, 13, 14] (.tup (.cons (.bin .mod (.b1 .int (.bin .fdiv (.slot 5) (.idx (.slot 7) (.var 9)))) (.bin .add (.slot 2) (.int 1))) (.cons (.var 13) (.cons (.var 14) .nil)))) [9, 13, 14] (.sq (.slot 8)) .no))
  (.ite (.b1 .all (.lc [15, 13, 14] (.ite (.cmp .eq (.slot 13) (.int 2)) (.cmp .eq (.slot 15) (.slot 14)) (.cmp .ge (.bin .mul (.slot 13) (.slot 15)) (.bin .mul (.slot 13) (.slot 14)))) [15, 13, 14] (.sq (.slot 12)) .no))
  (.set 10 (.b2 .max (.var 10) (.var 11)))
  .nop))
abbrev hEnv (signs : List Int) (most : Int) (s4 : Slot) (k : Nat) (ts : List Trm) (h : Int) : Env' := tEnv signs most s4 (.sh (natD k)) (.sh (.lst (ts.map trmD))) (.sh (.lst (unitL (most + 1) signs.length))) .un .un (.sh (.int h)) .un .un
theorem trm_rl {φ ψ : Fns} {signs : List Int} (hs : SgOk signs) {most : Int} (m0 : 1 ≤ most) (m1 : most ≤ 4) (s4 : Slot) (k : Nat) (ts : List Trm) (h : Int) (t : Trm) (ht : TrmOk signs most t) (hl : t.2.length ≤ 10) (e : Env') (he : setTg [11, 8] (trmD t) (hEnv signs most s4 k ts h) = some e) :
    Rl (evS TT φ ψ trmS e) (fun f p => f = .nx ∧ EnvLe (hEnv signs most s4 k ts (hgtF (most + 1) k h t)) p) := by
  cases he
  have h4 := hs.1
  have lcs : ∀ env : Env', env = [.sh .pen, .sh (.lst (signs.map .int)), .sh (.int most), .un, s4, .sh (natD k), .sh (.lst (ts.map trmD)), .sh (.lst (unitL (most + 1) signs.length)), .sh (.lst (t.2.map cndD)), .un, .sh (.int h), .sh (.int t.1), .un, .un, .un, .un] → evE TT φ ψ (.lc [9, 13, 14] (.tup (.cons (.bin .mod (.b1 .int (.bin .fdiv (.slot 5) (.idx (.slot 7) (.var 9)))) (.bin .add (.slot 2) (.int 1))) (.cons (.var 13) (.cons (.var 14) .nil)))) [9, 13, 14] (.sq (.slot 8)) .no) env = ret (.lst (t.2.map fun c => .tup [.int (k / (most + 1) ^ c.1 % (most + 1)), .int c.2.1, .int c.2.2])) := fun env he => by
    subst he
    refine lc_all t.2 cndD _ rfl (by omega) fun c hc => ?_
    obtain ⟨c1, c2, c3, c4, c5⟩ := ht.2 c hc
    obtain ⟨p1, p2⟩ := pow_small (b := most + 1) (by omega) (by omega) (j := c.1) (by omega)
    have e1 : idxD (.lst (unitL (most + 1) signs.length)) (.int c.1) = ret (.int ((most + 1) ^ c.1)) := idx_lst (atI_nat (unitL_at _ (by omega)))
    simp only [cndD, elM_3, elM_one, ifM_no, ifM_yes, wipeE_nil, wipeE_cons, X_ev, S_set, S_own, S_exp, S_app, S_par, S_rws, slD_lst, slD_sh, ownD_lst, seqD_nx, List.set_cons_succ, List.set_cons_zero, E_var, E_slot, E_non, E_bl, E_int, E_str, E_bin, E_neg, E_cmp, E_chn, E_and, E_or, E_not, E_ite, E_call, E_mk, E_fld, E_nfl, E_idx, E_slc, E_rev, E_tup, E_lst, E_b1, E_b2, E_isi, E_dic, E_lrg, A_nil, A_cons, O_no, O_yes, I_r1, I_r2, I_sq, getSh, getAny, List.getElem?_cons_zero, List.getElem?_cons_succ, bnd_ret, bnd_bnd, neg_int, cmp_eq_int, cmp_ne_int, cmp_lt_int, cmp_le_int, cmp_gt_int, cmp_ge_int, bin_add_int, bin_sub_int, b1_int, b1_len_l, b1_len_t, b1_tuple_l, b1_tuple_t, b1_list_l, b1_list_t, thenD_bl, elseD_bl, iffD_bl, notD_bl, slc_lst, slc_tup, part_none, part_int, List.length_cons, List.length_nil, List.length_map, natD, e1]
    rw [bin_fdiv_int (by omega) (by omega), bnd_ret, b1_int, bnd_ret, bin_mod_int (by omega), bnd_ret, guard_le (by decide)]
    rfl
  have l2 : ∀ env : Env', env[12]? = some (.ow (t.2.map fun c => .tup [.int (k / (most + 1) ^ c.1 % (most + 1)), .int c.2.1, .int c.2.2])) → env.length = 16 → evE TT φ ψ (.b1 .all (.lc [15, 13, 14] (.ite (.cmp .eq (.slot 13) (.int 2)) (.cmp .eq (.slot 15) (.slot 14)) (.cmp .ge (.bin .mul (.slot 13) (.slot 15)) (.bin .mul (.slot 13) (.slot 14)))) [15, 13, 14] (.sq (.slot 12)) .no)) env = ret (.bl (t.2.all (cndB (most + 1) k))) := fun env h1 h2 => by
    rw [E_b1, lc_all t.2 (fun c => .tup [.int (k / (most + 1) ^ c.1 % (most + 1)), .int c.2.1, .int c.2.2]) (fun c => .bl (cndB (most + 1) k c)) (by rw [I_sq, E_slot]; unfold getAny; rw [h1]; rfl) (by omega) fun c hc => ?_]
    · rw [bnd_ret, all_map]
    · obtain ⟨c1, c2, c3, c4, c5⟩ := ht.2 c hc
      have w : ∀ z, binD .mul (.int c.2.1) (.int z) = ret (.int (c.2.1 * z)) := fun z => bin_mul_int (by rw [small64_of (a := c.2.1) (by omega) (by omega)]; rfl)
      simp only [elM_3, ifM_no]
      generalize hE : ((List.set _ 15 _).set 13 _).set 14 _ = env'
      have g13 : env'[13]? = some (.sh (.int c.2.1)) := by rw [← hE]; simp [wipeE_cons, h2]
      have g14 : env'[14]? = some (.sh (.int c.2.2)) := by rw [← hE]; simp [wipeE_cons, h2]
      have g15 : env'[15]? = some (.sh (.int (k / (most + 1) ^ c.1 % (most + 1)))) := by rw [← hE]; simp [wipeE_cons, h2]
      simp only [E_var, E_slot, E_non, E_bl, E_int, E_str, E_bin, E_neg, E_cmp, E_chn, E_and, E_or, E_not, E_ite, E_call, E_mk, E_fld, E_nfl, E_idx, E_slc, E_rev, E_tup, E_lst, E_b1, E_b2, E_isi, E_dic, E_lrg, A_nil, A_cons, O_no, O_yes, I_r1, I_r2, I_sq, getSh, getAny, List.getElem?_cons_zero, List.getElem?_cons_succ, bnd_ret, bnd_bnd, neg_int, cmp_eq_int, cmp_ne_int, cmp_lt_int, cmp_le_int, cmp_gt_int, cmp_ge_int, bin_add_int, bin_sub_int, b1_int, b1_len_l, b1_len_t, b1_tuple_l, b1_tuple_t, b1_list_l, b1_list_t, thenD_bl, elseD_bl, iffD_bl, notD_bl, slc_lst, slc_tup, part_none, part_int, List.length_cons, List.length_nil, List.length_map, g13, g14, g15, w]
      unfold cndB
      by_cases q : c.2.1 = 2
      · rw [if_pos (decide_eq_true q), if_pos q, bnd_ret]
      · rw [if_neg (by simpa using q), if_neg q, bnd_ret]
  refine Rl.st (p := [.sh .pen, .sh (.lst (signs.map .int)), .sh (.int most), .un, s4, .sh (natD k), .sh (.lst (ts.map trmD)), .sh (.lst (unitL (most + 1) signs.length)), .sh (.lst (t.2.map cndD)), .un, .sh (.int h), .sh (.int t.1), .ow (t.2.map fun c => .tup [.int (k / (most + 1) ^ c.1 % (most + 1)), .int c.2.1, .int c.2.2]), .un, .un, .un]) (by
    rw [S_own, X_ev]
    refine (show bnd (bnd (evE TT φ ψ (.lc [9, 13, 14] (.tup (.cons (.bin .mod (.b1 .int (.bin .fdiv (.slot 5) (.idx (.slot 7) (.var 9)))) (.bin .add (.slot 2) (.int 1))) (.cons (.var 13) (.cons (.var 14) .nil)))) [9, 13, 14] (.sq (.slot 8)) .no) [.sh .pen, .sh (.lst (signs.map .int)), .sh (.int most), .un, s4, .sh (natD k), .sh (.lst (ts.map trmD)), .sh (.lst (unitL (most + 1) signs.length)), .sh (.lst (t.2.map cndD)), .un, .sh (.int h), .sh (.int t.1), .un, .un, .un, .un]) _) _ = _ from ?_)
    rw [lcs _ rfl]
    rfl) ?_
  refine Rl.ite (t := t.2.all (cndB (most + 1) k)) (p := [.sh .pen, .sh (.lst (signs.map .int)), .sh (.int most), .un, s4, .sh (natD k), .sh (.lst (ts.map trmD)), .sh (.lst (unitL (most + 1) signs.length)), .sh (.lst (t.2.map cndD)), .un, .sh (.int h), .sh (.int t.1), .ow (t.2.map fun c => .tup [.int (k / (most + 1) ^ c.1 % (most + 1)), .int c.2.1, .int c.2.2]), .un, .un, .un]) (by
    rw [X_ev]
    simp only [frE_var, frE_slot, frE_non, frE_bl, frE_int, frE_str, frE_bin, frE_neg, frE_cmp, frE_chn, frE_and, frE_or, frE_not, frE_ite, frE_call, frE_mk, frE_fld, frE_nfl, frE_idx, frE_slc, frE_rev, frE_tup, frE_lst, frE_b1, frE_b2, frE_isi, frE_lc, frE_lc2, frE_dic, frE_lrg, frE_pget, frA_nil, frA_cons, frO_no, frO_yes, frI_r1, frI_r2, frI_sq, frR_lc, frR_call, frR_ite, frR_var, List.append_nil, List.cons_append, List.nil_append, frz_cons, frz_nil, frz1]
    rw [l2 _ rfl rfl]
    rfl) (fun hc => ?_) (fun hc => ?_)
  · refine Rl.of (e := [.sh .pen, .sh (.lst (signs.map .int)), .sh (.int most), .un, s4, .sh (natD k), .sh (.lst (ts.map trmD)), .sh (.lst (unitL (most + 1) signs.length)), .sh (.lst (t.2.map cndD)), .un, .sh (.int (max h t.1)), .sh (.int t.1), .ow (t.2.map fun c => .tup [.int (k / (most + 1) ^ c.1 % (most + 1)), .int c.2.1, .int c.2.2]), .un, .un, .un]) (by
      simp only [X_ev, S_set, S_own, S_exp, S_app, S_par, S_rws, slD_lst, slD_sh, ownD_lst, seqD_nx, List.set_cons_succ, List.set_cons_zero, frE_var, frE_slot, frE_non, frE_bl, frE_int, frE_str, frE_bin, frE_neg, frE_cmp, frE_chn, frE_and, frE_or, frE_not, frE_ite, frE_call, frE_mk, frE_fld, frE_nfl, frE_idx, frE_slc, frE_rev, frE_tup, frE_lst, frE_b1, frE_b2, frE_isi, frE_lc, frE_lc2, frE_dic, frE_lrg, frE_pget, frA_nil, frA_cons, frO_no, frO_yes, frI_r1, frI_r2, frI_sq, frR_lc, frR_call, frR_ite, frR_var, List.append_nil, List.cons_append, List.nil_append, frz_cons, frz_nil, frz1, E_var, E_slot, E_non, E_bl, E_int, E_str, E_bin, E_neg, E_cmp, E_chn, E_and, E_or, E_not, E_ite, E_call, E_mk, E_fld, E_nfl, E_idx, E_slc, E_rev, E_tup, E_lst, E_b1, E_b2, E_isi, E_dic, E_lrg, A_nil, A_cons, O_no, O_yes, I_r1, I_r2, I_sq, getSh, getAny, List.getElem?_cons_zero, List.getElem?_cons_succ, bnd_ret, bnd_bnd, neg_int, cmp_eq_int, cmp_ne_int, cmp_lt_int, cmp_le_int, cmp_gt_int, cmp_ge_int, bin_add_int, bin_sub_int, b1_int, b1_len_l, b1_len_t, b1_tuple_l, b1_tuple_t, b1_list_l, b1_list_t, thenD_bl, elseD_bl, iffD_bl, notD_bl, slc_lst, slc_tup, part_none, part_int, List.length_cons, List.length_nil, List.length_map, b2_max]) ⟨rfl, ?_⟩
    unfold hgtF
    rw [if_pos hc]
    exact (by repeat (first | exact EnvLe.refl _ | apply EnvLe.same | apply EnvLe.un))
  · refine Rl.nop ⟨rfl, ?_⟩
    unfold hgtF
    rw [if_neg (by rw [hc]; exact Bool.false_ne_true)]
    exact (by repeat (first | exact EnvLe.refl _ | apply EnvLe.same | apply EnvLe.un))
end UK

set_option Elab.async false
set_option linter.all false
set_option maxRecDepth 100000
set_option maxHeartbeats 400000
namespace UK
open PySem PySem.Spec PyProof.Rows L2
abbrev numS : Sm := .seq (.set 10 (.int 0)) (.seq (.for_ [11, 8] (.sq (.var 6)) trmS) (.app 4 (.var 10)))
def hgts (b : Int) (ts : List Trm) (k : Nat) : List Int := (List.range k).map fun (j : Nat) => hgt b (j : Int) ts
theorem hgts_len (b : Int) (ts : List Trm) (k : Nat) : (hgts b ts k).length = k := by simp [hgts]
theorem hgts_succ (b : Int) (ts : List Trm) (k : Nat) : hgts b ts (k + 1) = hgts b ts k ++ [hgt b k ts] := by
  unfold hgts
  rw [List.range_succ, List.map_append]
  rfl
abbrev nEnv (signs : List Int) (most : Int) (k : Nat) (ts : List Trm) (s6 : Slot) : Env' := tEnv signs most (.ow ((hgts (most + 1) ts k).map .int)) .un s6 (.sh (.lst (unitL (most + 1) signs.length))) .un .un .un .un .un
theorem num_rl {φ ψ : Fns} {signs : List Int} (hs : SgOk signs) {most : Int} (m0 : 1 ≤ most) (m1 : most ≤ 4) (k : Nat) (ts : List Trm) (ht : ∀ t ∈ ts, TrmOk signs most t) (hl : ∀ t ∈ ts, t.2.length ≤ 10) (hk : k ≤ 700) (s6 : Slot) (h6 : s6 = .ow (ts.map trmD) ∨ s6 = .sh (.lst (ts.map trmD))) :
    Rl (evS TT φ ψ numS ((nEnv signs most k ts s6).set 5 (.sh (natD k)))) (fun f p => f = .nx ∧ EnvLe (nEnv signs most (k + 1) ts (.sh (.lst (ts.map trmD)))) p) := by
  refine Rl.st (p := tEnv signs most (.ow ((hgts (most + 1) ts k).map .int)) (.sh (natD k)) s6 (.sh (.lst (unitL (most + 1) signs.length))) .un .un (.sh (.int 0)) .un .un) (by
    simp only [X_ev, S_set, S_own, S_exp, S_app, S_par, S_rws, slD_lst, slD_sh, ownD_lst, seqD_nx, List.set_cons_succ, List.set_cons_zero, frE_var, frE_slot, frE_non, frE_bl, frE_int, frE_str, frE_bin, frE_neg, frE_cmp, frE_chn, frE_and, frE_or, frE_not, frE_ite, frE_call, frE_mk, frE_fld, frE_nfl, frE_idx, frE_slc, frE_rev, frE_tup, frE_lst, frE_b1, frE_b2, frE_isi, frE_lc, frE_lc2, frE_dic, frE_lrg, frE_pget, frA_nil, frA_cons, frO_no, frO_yes, frI_r1, frI_r2, frI_sq, frR_lc, frR_call, frR_ite, frR_var, List.append_nil, List.cons_append, List.nil_append, frz_cons, frz_nil, frz1, E_var, E_slot, E_non, E_bl, E_int, E_str, E_bin, E_neg, E_cmp, E_chn, E_and, E_or, E_not, E_ite, E_call, E_mk, E_fld, E_nfl, E_idx, E_slc, E_rev, E_tup, E_lst, E_b1, E_b2, E_isi, E_dic, E_lrg, A_nil, A_cons, O_no, O_yes, I_r1, I_r2, I_sq, getSh, getAny, List.getElem?_cons_zero, List.getElem?_cons_succ, bnd_ret, bnd_bnd, neg_int, cmp_eq_int, cmp_ne_int, cmp_lt_int, cmp_le_int, cmp_gt_int, cmp_ge_int, bin_add_int, bin_sub_int, b1_int, b1_len_l, b1_len_t, b1_tuple_l, b1_tuple_t, b1_list_l, b1_list_t, thenD_bl, elseD_bl, iffD_bl, notD_bl, slc_lst, slc_tup, part_none, part_int, List.length_cons, List.length_nil, List.length_map]) ?_
  refine Rl.seq (Q1 := fun f p => f = .nx ∧ p = hEnv signs most (.ow ((hgts (most + 1) ts k).map .int)) k ts (hgt (most + 1) k ts)) (Rl.for (xs := ts.map trmD) (fun j p => p = hEnv signs most (.ow ((hgts (most + 1) ts k).map .int)) k ts ((ts.take j).foldl (hgtF (most + 1) k) 0)) ?_ (hEnv signs most (.ow ((hgts (most + 1) ts k).map .int)) k ts 0) ?_ rfl ?_ ?_) ?_ ?_
  · rcases h6 with rfl | rfl <;> rfl
  · rcases h6 with rfl | rfl <;> exact EnvLe.refl _
  · rintro i x p hx rfl
    obtain ⟨t, hti, rfl⟩ := map_at hx
    have hm : t ∈ ts := List.mem_of_getElem? hti
    refine ⟨_, rfl, (trm_rl hs m0 m1 _ k ts _ t (ht t hm) (hl t hm) _ rfl).weak ?_⟩
    rintro f p ⟨rfl, l⟩
    refine ⟨_, l, ?_⟩
    show _ = hEnv _ _ _ _ _ _
    rw [List.take_add_one, hti]
    simp
  · rintro p rfl
    refine ⟨rfl, ?_⟩
    rw [List.length_map, List.take_length]
    rfl
  · rintro p ⟨_, rfl⟩
    refine Rl.up (p := nEnv signs most (k + 1) ts (.sh (.lst (ts.map trmD)))) (e := (hEnv signs most (.ow ((hgts (most + 1) ts k).map .int)) k ts (hgt (most + 1) k ts)).set 4 (.ow ((hgts (most + 1) ts (k + 1)).map .int))) (f := .nx) ?_ (by repeat (first | exact EnvLe.refl _ | apply EnvLe.same | apply EnvLe.un)) ⟨rfl, EnvLe.refl _⟩
    simp only [S_app, X_ev, S_set, S_own, S_exp, S_app, S_par, S_rws, slD_lst, slD_sh, ownD_lst, seqD_nx, List.set_cons_succ, List.set_cons_zero, frE_var, frE_slot, frE_non, frE_bl, frE_int, frE_str, frE_bin, frE_neg, frE_cmp, frE_chn, frE_and, frE_or, frE_not, frE_ite, frE_call, frE_mk, frE_fld, frE_nfl, frE_idx, frE_slc, frE_rev, frE_tup, frE_lst, frE_b1, frE_b2, frE_isi, frE_lc, frE_lc2, frE_dic, frE_lrg, frE_pget, frA_nil, frA_cons, frO_no, frO_yes, frI_r1, frI_r2, frI_sq, frR_lc, frR_call, frR_ite, frR_var, List.append_nil, List.cons_append, List.nil_append, frz_cons, frz_nil, frz1, E_var, E_slot, E_non, E_bl, E_int, E_str, E_bin, E_neg, E_cmp, E_chn, E_and, E_or, E_not, E_ite, E_call, E_mk, E_fld, E_nfl, E_idx, E_slc, E_rev, E_tup, E_lst, E_b1, E_b2, E_isi, E_dic, E_lrg, A_nil, A_cons, O_no, O_yes, I_r1, I_r2, I_sq, getSh, getAny, List.getElem?_cons_zero, List.getElem?_cons_succ, bnd_ret, bnd_bnd, neg_int, cmp_eq_int, cmp_ne_int, cmp_lt_int, cmp_le_int, cmp_gt_int, cmp_ge_int, bin_add_int, bin_sub_int, b1_int, b1_len_l, b1_len_t, b1_tuple_l, b1_tuple_t, b1_list_l, b1_list_t, thenD_bl, elseD_bl, iffD_bl, notD_bl, slc_lst, slc_tup, part_none, part_int, List.length_cons, List.length_nil, List.length_map]
    rw [app_ok rfl (by rw [List.length_map, hgts_len]; omega), hgts_succ, List.map_append]
    rfl
  · rintro f p hf ⟨h, _⟩
    exact absurd h hf
theorem table_dr (n : Nat) {signs : List Int} (hs : SgOk signs) {most : Int} (m0 : 1 ≤ most) (m1 : most ≤ 4) :
    Dr 50 ((B0.lev (n + 3)).1 32 [.pen, .lst (signs.map .int), .int most]) (fun d => ∃ ts : List Trm, (∀ t ∈ ts, TrmOk signs most t) ∧ d = .tup ((hgts (most + 1) ts ((most + 1) ^ signs.length).toNat).map .int)) := by
  rw [st__law_level_table]
  refine runDr_of ?_
  unfold ir__law_level_table
  have h4 := hs.1
  obtain ⟨p1, p2⟩ := pow_small (b := most + 1) (by omega) (by omega) h4
  have hu := units_ev (n + 1) most signs.length (small64_of (by omega) (by omega)) (by omega)
  refine DrS.st (p := tEnv signs most .un .un (.ow (([] : List Trm).map trmD)) (.sh (.lst (unitL (most + 1) signs.length))) .un .un .un .un .un) (by
    simp only [startE, List.map_cons, List.map_nil, List.replicate, X_ev, S_set, S_own, S_exp, S_app, S_par, S_rws, slD_lst, slD_sh, ownD_lst, seqD_nx, List.set_cons_succ, List.set_cons_zero, frE_var, frE_slot, frE_non, frE_bl, frE_int, frE_str, frE_bin, frE_neg, frE_cmp, frE_chn, frE_and, frE_or, frE_not, frE_ite, frE_call, frE_mk, frE_fld, frE_nfl, frE_idx, frE_slc, frE_rev, frE_tup, frE_lst, frE_b1, frE_b2, frE_isi, frE_lc, frE_lc2, frE_dic, frE_lrg, frE_pget, frA_nil, frA_cons, frO_no, frO_yes, frI_r1, frI_r2, frI_sq, frR_lc, frR_call, frR_ite, frR_var, List.append_nil, List.cons_append, List.nil_append, frz_cons, frz_nil, frz1, E_var, E_slot, E_non, E_bl, E_int, E_str, E_bin, E_neg, E_cmp, E_chn, E_and, E_or, E_not, E_ite, E_call, E_mk, E_fld, E_nfl, E_idx, E_slc, E_rev, E_tup, E_lst, E_b1, E_b2, E_isi, E_dic, E_lrg, A_nil, A_cons, O_no, O_yes, I_r1, I_r2, I_sq, getSh, getAny, List.getElem?_cons_zero, List.getElem?_cons_succ, bnd_ret, bnd_bnd, neg_int, cmp_eq_int, cmp_ne_int, cmp_lt_int, cmp_le_int, cmp_gt_int, cmp_ge_int, bin_add_int, bin_sub_int, b1_int, b1_len_l, b1_len_t, b1_tuple_l, b1_tuple_t, b1_list_l, b1_list_t, thenD_bl, elseD_bl, iffD_bl, notD_bl, slc_lst, slc_tup, part_none, part_int, List.length_cons, List.length_nil, List.length_map, hu]
    rw [guard_le (by decide)]
    rfl) ?_
  refine DrS.seq (k1 := 50) (k2 := 0) (Q1 := fun f p => f = .nx ∧ ∃ ts : List Trm, p = tEnv signs most .un .un (.ow (ts.map trmD)) (.sh (.lst (unitL (most + 1) signs.length))) .un .un .un .un .un ∧ (∀ t ∈ ts, TrmOk signs most t) ∧ (∀ t ∈ ts, t.2.length ≤ 10)) ?_ (by decide) (by decide) ?_ (fun f p hf h => absurd h.1 hf)
  · simp only [S_for, X_ev, S_set, S_own, S_exp, S_app, S_par, S_rws, slD_lst, slD_sh, ownD_lst, seqD_nx, List.set_cons_succ, List.set_cons_zero, frE_var, frE_slot, frE_non, frE_bl, frE_int, frE_str, frE_bin, frE_neg, frE_cmp, frE_chn, frE_and, frE_or, frE_not, frE_ite, frE_call, frE_mk, frE_fld, frE_nfl, frE_idx, frE_slc, frE_rev, frE_tup, frE_lst, frE_b1, frE_b2, frE_isi, frE_lc, frE_lc2, frE_dic, frE_lrg, frE_pget, frA_nil, frA_cons, frO_no, frO_yes, frI_r1, frI_r2, frI_sq, frR_lc, frR_call, frR_ite, frR_var, List.append_nil, List.cons_append, List.nil_append, frz_cons, frz_nil, frz1, E_var, E_slot, E_non, E_bl, E_int, E_str, E_bin, E_neg, E_cmp, E_chn, E_and, E_or, E_not, E_ite, E_call, E_mk, E_fld, E_nfl, E_idx, E_slc, E_rev, E_tup, E_lst, E_b1, E_b2, E_isi, E_dic, E_lrg, A_nil, A_cons, O_no, O_yes, I_r1, I_r2, I_sq, getSh, getAny, List.getElem?_cons_zero, List.getElem?_cons_succ, bnd_ret, bnd_bnd, neg_int, cmp_eq_int, cmp_ne_int, cmp_lt_int, cmp_le_int, cmp_gt_int, cmp_ge_int, bin_add_int, bin_sub_int, b1_int, b1_len_l, b1_len_t, b1_tuple_l, b1_tuple_t, b1_list_l, b1_list_t, thenD_bl, elseD_bl, iffD_bl, notD_bl, slc_lst, slc_tup, part_none, part_int, List.length_cons, List.length_nil, List.length_map]
    rw [guard_le (by decide), bnd_ret]
    refine Dr.bnd (k1 := 1) (k2 := 49) (P := fun d => ∃ r : Nat, d = .int r ∧ r ≤ 3) ((pick_l (n) _ (by simp) (by simp)).mono (Int.le_refl 1) fun d hd => ?_) (by decide) (by decide) fun d hd => ?_
    · simp at hd
      rcases hd with rfl | rfl | rfl | rfl | rfl
      · exact ⟨1, rfl, by decide⟩
      · exact ⟨2, rfl, by decide⟩
      · exact ⟨3, rfl, by decide⟩
      · exact ⟨2, rfl, by decide⟩
      · exact ⟨0, rfl, by decide⟩
    · obtain ⟨r, rfl, hr⟩ := hd
      rw [r1_nat (by omega), bnd_ret]
      refine (forDrS (k := 13) (by decide) (fun j p => ∃ ts : List Trm, p = tEnv signs most .un .un (.ow (ts.map trmD)) (.sh (.lst (unitL (most + 1) signs.length))) .un .un .un .un .un ∧ (∀ t ∈ ts, TrmOk signs most t) ∧ (∀ t ∈ ts, t.2.length ≤ 10) ∧ ts.length ≤ j) _ ((List.range r).map natD) 0 _ _ (EnvLe.refl _) ⟨[], rfl, (fun t h => by cases h), (fun t h => by cases h), Nat.le_refl _⟩ ?_ ?_).mono (by rw [List.length_map, List.length_range]; omega) fun _ _ h => h
      · rintro i x p hx ⟨ts, rfl, q1, q2, q3⟩
        obtain ⟨a, ha, rfl⟩ := map_at hx
        obtain ⟨hi, rfl⟩ := range_at ha
        refine ⟨_, rfl, DrS.le (p := tEnv signs most .un .un (.ow (ts.map trmD)) (.sh (.lst (unitL (most + 1) signs.length))) .un .un .un .un .un) (by repeat (first | exact EnvLe.refl _ | apply EnvLe.same | apply EnvLe.un)) ((lap_dr n hs m0 m1 _ ts q1 (by omega)).mono (Int.le_refl _) ?_)⟩
        rintro f p ⟨rfl, ts', rfl, r1, r2, r3⟩
        exact ⟨ts', rfl, r1, r3 q2, by omega⟩
      · rintro p ⟨ts, rfl, q1, q2, q3⟩
        exact ⟨rfl, ts, rfl, q1, q2⟩
  · rintro p ⟨_, ts, rfl, q1, q2⟩
    refine Rl.dr ?_ (Int.le_refl 0)
    refine Rl.st (p := nEnv signs most 0 ts (.ow (ts.map trmD))) (by
      simp only [X_ev, S_set, S_own, S_exp, S_app, S_par, S_rws, slD_lst, slD_sh, ownD_lst, seqD_nx, List.set_cons_succ, List.set_cons_zero, frE_var, frE_slot, frE_non, frE_bl, frE_int, frE_str, frE_bin, frE_neg, frE_cmp, frE_chn, frE_and, frE_or, frE_not, frE_ite, frE_call, frE_mk, frE_fld, frE_nfl, frE_idx, frE_slc, frE_rev, frE_tup, frE_lst, frE_b1, frE_b2, frE_isi, frE_lc, frE_lc2, frE_dic, frE_lrg, frE_pget, frA_nil, frA_cons, frO_no, frO_yes, frI_r1, frI_r2, frI_sq, frR_lc, frR_call, frR_ite, frR_var, List.append_nil, List.cons_append, List.nil_append, frz_cons, frz_nil, frz1, E_var, E_slot, E_non, E_bl, E_int, E_str, E_bin, E_neg, E_cmp, E_chn, E_and, E_or, E_not, E_ite, E_call, E_mk, E_fld, E_nfl, E_idx, E_slc, E_rev, E_tup, E_lst, E_b1, E_b2, E_isi, E_dic, E_lrg, A_nil, A_cons, O_no, O_yes, I_r1, I_r2, I_sq, getSh, getAny, List.getElem?_cons_zero, List.getElem?_cons_succ, bnd_ret, bnd_bnd, neg_int, cmp_eq_int, cmp_ne_int, cmp_lt_int, cmp_le_int, cmp_gt_int, cmp_ge_int, bin_add_int, bin_sub_int, b1_int, b1_len_l, b1_len_t, b1_tuple_l, b1_tuple_t, b1_list_l, b1_list_t, thenD_bl, elseD_bl, iffD_bl, notD_bl, slc_lst, slc_tup, part_none, part_int, List.length_cons, List.length_nil, List.length_map]
      rw [guard_le (by decide)]
      rfl) ?_
    refine Rl.seq (Q1 := fun f p => f = .nx ∧ ∃ s6, p = nEnv signs most ((most + 1) ^ signs.length).toNat ts s6) (Rl.for (xs := (List.range ((most + 1) ^ signs.length).toNat).map natD) (fun j p => ∃ s6, (s6 = .ow (ts.map trmD) ∨ s6 = .sh (.lst (ts.map trmD))) ∧ p = nEnv signs most j ts s6) ?_ _ (EnvLe.refl _) ⟨_, .inl rfl, rfl⟩ ?_ ?_) ?_ (fun f p hf h => absurd h.1 hf)
    · have e1 : idxD (.lst (unitL (most + 1) signs.length)) (.int (-1)) = ret (.int ((most + 1) ^ signs.length)) := idx_lst (atI_last (unitL_len _ _) (unitL_at _ (by omega)))
      simp only [X_ev, S_set, S_own, S_exp, S_app, S_par, S_rws, slD_lst, slD_sh, ownD_lst, seqD_nx, List.set_cons_succ, List.set_cons_zero, frE_var, frE_slot, frE_non, frE_bl, frE_int, frE_str, frE_bin, frE_neg, frE_cmp, frE_chn, frE_and, frE_or, frE_not, frE_ite, frE_call, frE_mk, frE_fld, frE_nfl, frE_idx, frE_slc, frE_rev, frE_tup, frE_lst, frE_b1, frE_b2, frE_isi, frE_lc, frE_lc2, frE_dic, frE_lrg, frE_pget, frA_nil, frA_cons, frO_no, frO_yes, frI_r1, frI_r2, frI_sq, frR_lc, frR_call, frR_ite, frR_var, List.append_nil, List.cons_append, List.nil_append, frz_cons, frz_nil, frz1, E_var, E_slot, E_non, E_bl, E_int, E_str, E_bin, E_neg, E_cmp, E_chn, E_and, E_or, E_not, E_ite, E_call, E_mk, E_fld, E_nfl, E_idx, E_slc, E_rev, E_tup, E_lst, E_b1, E_b2, E_isi, E_dic, E_lrg, A_nil, A_cons, O_no, O_yes, I_r1, I_r2, I_sq, getSh, getAny, List.getElem?_cons_zero, List.getElem?_cons_succ, bnd_ret, bnd_bnd, neg_int, cmp_eq_int, cmp_ne_int, cmp_lt_int, cmp_le_int, cmp_gt_int, cmp_ge_int, bin_add_int, bin_sub_int, b1_int, b1_len_l, b1_len_t, b1_tuple_l, b1_tuple_t, b1_list_l, b1_list_t, thenD_bl, elseD_bl, iffD_bl, notD_bl, slc_lst, slc_tup, part_none, part_int, List.length_cons, List.length_nil, List.length_map, e1]
      rw [r1_int (by omega) (by omega)]
    · rintro i x p hx ⟨s6, h6, rfl⟩
      obtain ⟨a, ha, rfl⟩ := map_at hx
      obtain ⟨hi, rfl⟩ := range_at ha
      refine ⟨_, rfl, (num_rl hs m0 m1 i ts q1 q2 (by omega) s6 h6).weak ?_⟩
      rintro f p ⟨rfl, l⟩
      exact ⟨_, l, _, .inr rfl, rfl⟩
    · rintro p ⟨s6, h6, rfl⟩
      refine ⟨rfl, s6, ?_⟩
      rw [List.length_map, List.length_range]
    · rintro p ⟨_, s6, rfl⟩
      refine Rl.ret (d := .tup ((hgts (most + 1) ts ((most + 1) ^ signs.length).toNat).map .int)) (by
        simp only [X_ev, S_set, S_own, S_exp, S_app, S_par, S_rws, slD_lst, slD_sh, ownD_lst, seqD_nx, List.set_cons_succ, List.set_cons_zero, frE_var, frE_slot, frE_non, frE_bl, frE_int, frE_str, frE_bin, frE_neg, frE_cmp, frE_chn, frE_and, frE_or, frE_not, frE_ite, frE_call, frE_mk, frE_fld, frE_nfl, frE_idx, frE_slc, frE_rev, frE_tup, frE_lst, frE_b1, frE_b2, frE_isi, frE_lc, frE_lc2, frE_dic, frE_lrg, frE_pget, frA_nil, frA_cons, frO_no, frO_yes, frI_r1, frI_r2, frI_sq, frR_lc, frR_call, frR_ite, frR_var, List.append_nil, List.cons_append, List.nil_append, frz_cons, frz_nil, frz1, E_var, E_slot, E_non, E_bl, E_int, E_str, E_bin, E_neg, E_cmp, E_chn, E_and, E_or, E_not, E_ite, E_call, E_mk, E_fld, E_nfl, E_idx, E_slc, E_rev, E_tup, E_lst, E_b1, E_b2, E_isi, E_dic, E_lrg, A_nil, A_cons, O_no, O_yes, I_r1, I_r2, I_sq, getSh, getAny, List.getElem?_cons_zero, List.getElem?_cons_succ, bnd_ret, bnd_bnd, neg_int, cmp_eq_int, cmp_ne_int, cmp_lt_int, cmp_le_int, cmp_gt_int, cmp_ge_int, bin_add_int, bin_sub_int, b1_int, b1_len_l, b1_len_t, b1_tuple_l, b1_tuple_t, b1_list_l, b1_list_t, thenD_bl, elseD_bl, iffD_bl, notD_bl, slc_lst, slc_tup, part_none, part_int, List.length_cons, List.length_nil, List.length_map]
        rfl) ⟨_, rfl, ts, q1, rfl⟩
end UK

set_option Elab.async false
set_option linter.all false
set_option maxRecDepth 100000
set_option maxHeartbeats 400000
namespace UK
open PySem PySem.Spec PyProof.Rows L2
/-! ### plain: what a drawn table keeps -/
def dig (b j k : Nat) : Nat := k / b ^ j % b
theorem dig_int (b j k : Nat) : (k : Int) / (b : Int) ^ j % (b : Int) = (dig b j k : Nat) := by
  unfold dig
  push_cast
  rfl
theorem step_div {b u k : Nat} (hu : 0 < u) (hd : k / u % b + 1 < b) : (k + u) / (u * b) = k / (u * b) := by
  rw [← Nat.div_div_eq_div_mul, ← Nat.div_div_eq_div_mul, Nat.add_div_right _ hu]
  have hb : 0 < b := by omega
  have e := Nat.div_add_mod (k / u) b
  have : k / u + 1 = (k / u % b + 1) + b * (k / u / b) := by omega
  rw [this, Nat.add_mul_div_left _ _ hb, Nat.div_eq_of_lt hd, Nat.zero_add]
theorem step_lt {b at_ m k : Nat} (ha : at_ < m) (hk : k < b ^ m) (hd : dig b at_ k + 1 < b) : k + b ^ at_ < b ^ m := by
  have hb : 0 < b := by omega
  have hu : 0 < b ^ at_ := Nat.pow_pos hb
  have e : b ^ m = b ^ at_ * b * b ^ (m - at_ - 1) := by
    rw [← Nat.pow_succ, ← Nat.pow_add]
    congr 1
    omega
  have hpos : 0 < b ^ at_ * b := Nat.mul_pos hu hb
  have s := step_div (b := b) (u := b ^ at_) (k := k) hu hd
  rw [e] at hk ⊢
  have h1 : k / (b ^ at_ * b) < b ^ (m - at_ - 1) := Nat.div_lt_of_lt_mul hk
  rw [← s] at h1
  exact (Nat.div_lt_iff_lt_mul hpos).mp h1 |> fun h => by rw [Nat.mul_comm]; exact h
theorem dig_self {b at_ k : Nat} (hd : dig b at_ k + 1 < b) : dig b at_ (k + b ^ at_) = dig b at_ k + 1 := by
  have hu : 0 < b ^ at_ := Nat.pow_pos (by omega)
  unfold dig at hd ⊢
  rw [Nat.add_div_right _ hu, Nat.add_mod, Nat.mod_eq_of_lt (show 1 < b by omega), Nat.mod_eq_of_lt hd]
theorem dig_other {b at_ j k : Nat} (hj : j ≠ at_) (hd : dig b at_ k + 1 < b) : dig b j (k + b ^ at_) = dig b j k := by
  have hb : 0 < b := by omega
  have hu : 0 < b ^ at_ := Nat.pow_pos hb
  rcases Nat.lt_or_gt_of_ne hj with h | h
  · have e : b ^ at_ = b ^ j * (b * b ^ (at_ - j - 1)) := by
      rw [← Nat.pow_succ', ← Nat.pow_add]
      congr 1
      omega
    unfold dig
    rw [e, Nat.add_mul_div_left _ _ (Nat.pow_pos hb), Nat.add_mul_mod_self_left]
  · have e : b ^ j = b ^ at_ * b * b ^ (j - at_ - 1) := by
      rw [← Nat.pow_succ, ← Nat.pow_add]
      congr 1
      omega
    unfold dig
    rw [e, ← Nat.div_div_eq_div_mul, ← Nat.div_div_eq_div_mul (k), step_div hu hd]
theorem hgtF_mono {b n1 n2 : Int} : ∀ (ts : List Trm) (h1 h2 : Int), (∀ t ∈ ts, t.2.all (cndB b n1) = true → t.2.all (cndB b n2) = true) → h1 ≤ h2 → ts.foldl (hgtF b n1) h1 ≤ ts.foldl (hgtF b n2) h2
  | [], _, _, _, h => h
  | t :: ts, h1, h2, ht, h => by
    refine hgtF_mono ts _ _ (fun x hx => ht x (List.mem_cons_of_mem _ hx)) ?_
    have q := ht t (List.mem_cons_self ..)
    unfold hgtF
    by_cases a : t.2.all (cndB b n1) = true
    · rw [if_pos a, if_pos (q a)]; omega
    · rw [if_neg a]
      split <;> omega
theorem hgtF_bound {b n most : Int} : ∀ (ts : List Trm) (h : Int), (∀ t ∈ ts, 0 ≤ t.1 ∧ t.1 ≤ most) → 0 ≤ h → h ≤ most → 0 ≤ ts.foldl (hgtF b n) h ∧ ts.foldl (hgtF b n) h ≤ most
  | [], _, _, h0, h1 => ⟨h0, h1⟩
  | t :: ts, h, ht, h0, h1 => by
    have q := ht t (List.mem_cons_self ..)
    refine hgtF_bound ts _ (fun x hx => ht x (List.mem_cons_of_mem _ hx)) ?_ ?_
    · unfold hgtF; split <;> omega
    · unfold hgtF; split <;> omega
/-- a table that fits -/
def TabOk (m : Nat) (signs : List Int) (t : List Int) : Prop := t.length = (m + 1) ^ signs.length ∧ (∀ x ∈ t, 0 ≤ x ∧ x ≤ (m : Int)) ∧
  ∀ at_ k, at_ < signs.length → k < (m + 1) ^ signs.length → signs.getD at_ 0 ≠ 2 → dig (m + 1) at_ k < m → 0 ≤ signs.getD at_ 0 * (t.getD (k + (m + 1) ^ at_) 0 - t.getD k 0)
theorem hgts_at {b : Int} {ts : List Trm} {N k : Nat} (h : k < N) : (hgts b ts N).getD k 0 = hgt b k ts := by
  unfold hgts
  simp [List.getElem?_map, List.getElem?_range h]
theorem cndB_nat (b k : Nat) (c : Cnd) : cndB b k c = if c.2.1 = 2 then decide ((dig b c.1 k : Int) = c.2.2) else decide (c.2.1 * c.2.2 ≤ c.2.1 * (dig b c.1 k : Int)) := by
  unfold cndB
  rw [dig_int]
theorem cnd_keep {m : Nat} {signs : List Int} {at_ k1 k2 : Nat} {c : Cnd} (hc : CndOk signs m c) (h2 : signs.getD at_ 0 ≠ 2)
    (same : ∀ j, j ≠ at_ → dig (m + 1) j k2 = dig (m + 1) j k1) (more : signs.getD at_ 0 * (dig (m + 1) at_ k1 : Int) ≤ signs.getD at_ 0 * (dig (m + 1) at_ k2 : Int)) (h : cndB ((m + 1 : Nat) : Int) k1 c = true) : cndB ((m + 1 : Nat) : Int) k2 c = true := by
  rw [cndB_nat] at h ⊢
  by_cases q : c.1 = at_
  · have hs : c.2.1 = signs.getD at_ 0 := by rw [← q]; exact hc.2.1 (by rw [q]; exact h2)
    have n2 : ¬ c.2.1 = 2 := by rw [hs]; exact h2
    rw [if_neg n2] at h ⊢
    rw [q, hs] at h ⊢
    have := of_decide_eq_true h
    exact decide_eq_true (Int.le_trans this more)
  · rw [same _ q]
    exact h
theorem table_ok {m : Nat} {signs : List Int} (hs : SgOk signs) {ts : List Trm} (ht : ∀ t ∈ ts, TrmOk signs m t) : TabOk m signs (hgts ((m : Int) + 1) ts (((m : Int) + 1) ^ signs.length).toNat) := by
  have eb : (m : Int) + 1 = ((m + 1 : Nat) : Int) := by omega
  have eN : (((m : Int) + 1) ^ signs.length).toNat = (m + 1) ^ signs.length := by
    rw [eb, ← Int.natCast_pow]
    rfl
  rw [eN, eb]
  refine ⟨by simp [hgts], fun x hx => ?_, fun at_ k ha hk h2 hd => ?_⟩
  · unfold hgts at hx
    obtain ⟨k, hk, rfl⟩ := List.mem_map.mp hx
    exact hgtF_bound ts 0 (fun t h => (ht t h).1) (Int.le_refl 0) (by omega)
  · have hd' : dig (m + 1) at_ k + 1 < m + 1 := by omega
    have hk2 := step_lt ha hk hd'
    rw [hgts_at hk, hgts_at hk2]
    have hsg := hs.2 _ (getD_mem 0 ha)
    have d1 := dig_self hd'
    have up : ∀ j, j ≠ at_ → dig (m + 1) j (k + (m + 1) ^ at_) = dig (m + 1) j k := fun j hj => dig_other hj hd'
    have z : signs.getD at_ 0 = 1 ∨ signs.getD at_ 0 = -1 ∨ signs.getD at_ 0 = 0 := by omega
    rcases z with z | z | z
    · have : hgt ((m + 1 : Nat) : Int) k ts ≤ hgt ((m + 1 : Nat) : Int) ((k + (m + 1) ^ at_ : Nat) : Int) ts := hgtF_mono ts 0 0 (fun t h => fun q => List.all_eq_true.mpr fun c hc => cnd_keep ((ht t h).2 c hc) h2 up (by rw [z, d1]; omega) (List.all_eq_true.mp q c hc)) (Int.le_refl 0)
      rw [z]; omega
    · have : hgt ((m + 1 : Nat) : Int) ((k + (m + 1) ^ at_ : Nat) : Int) ts ≤ hgt ((m + 1 : Nat) : Int) k ts := hgtF_mono ts 0 0 (fun t h => fun q => List.all_eq_true.mpr fun c hc => cnd_keep ((ht t h).2 c hc) h2 (fun j hj => (up j hj).symm) (by rw [z, d1]; omega) (List.all_eq_true.mp q c hc)) (Int.le_refl 0)
      rw [z]; omega
    · rw [z]; omega
end UK

set_option Elab.async false
set_option linter.all false
set_option maxRecDepth 100000
set_option maxHeartbeats 400000
namespace UK
open PySem PySem.Spec PyProof.Rows L2
def signsOf (rows : List (List Int)) (i : Nat) : List Int := (srcs rows i).map (signAt rows i)
theorem srcs_lt {size : Nat} {rows : List (List Int)} (h : IRow size rows) {i x : Nat} (hx : x ∈ srcs rows i) : x < size := by
  have := (List.mem_filter.mp hx).1
  rw [← h.1]
  exact List.mem_range.mp this
theorem srcs_len {size : Nat} {rows : List (List Int)} (h : IRow size rows) (i : Nat) : (srcs rows i).length ≤ size := by
  have := List.length_filter_le (fun j => decide (¬ signAt rows i j = 0)) (List.range rows.length)
  rw [List.length_range] at this
  exact Nat.le_trans this (Nat.le_of_eq h.1)
theorem signs_ok {size : Nat} {rows : List (List Int)} (h : IRow size rows) (h3 : size ≤ 4) {i : Nat} (hi : i < size) : SgOk (signsOf rows i) := by
  refine ⟨by unfold signsOf; rw [List.length_map]; have := srcs_len h i; omega, fun s hs => ?_⟩
  obtain ⟨j, hj, rfl⟩ := List.mem_map.mp hs
  obtain ⟨_, _, _, h3, h4⟩ := sign_get h hi (srcs_lt h hj)
  exact ⟨h3, h4⟩
theorem int_pow_nat (m k : Nat) : ((m : Int) + 1) ^ k = (((m + 1) ^ k : Nat) : Int) := by
  rw [Int.natCast_pow]
  rfl
theorem nat_pow_small {m : Nat} (m4 : m ≤ 4) {j : Nat} (hj : j ≤ 4) : 0 < (m + 1) ^ j ∧ (m + 1) ^ j ≤ 625 := by
  have h5 : (m + 1) ^ j ≤ 5 ^ j := Nat.pow_le_pow_left (by omega) j
  have h2 : 5 ^ j ≤ 5 ^ 4 := Nat.pow_le_pow_right (by decide) hj
  have h3 : 0 < (m + 1) ^ j := Nat.pow_pos (by omega)
  omega
theorem row_at {n : Nat} {rows : List (List Int)} (h : IRow n rows) {i : Nat} (hi : i < n) : idxD (.tup ((rowsR rows).map .tup)) (.int i) = ret (.tup ((rows.getD i []).map .int)) := by
  have hi' : i < rows.length := by rw [h.1]; exact hi
  refine idx_tup (atI_nat ?_)
  unfold rowsR
  rw [List.map_map, List.getElem?_map, List.getElem?_eq_getElem hi']
  simp [List.getElem?_eq_getElem hi']
theorem sign_at {n : Nat} {rows : List (List Int)} (h : IRow n rows) {i j : Nat} (hi : i < n) (hj : j < n) : idxD (.tup ((rows.getD i []).map .int)) (.int j) = ret (.int (signAt rows i j)) := by
  obtain ⟨r, e1, e2, _⟩ := sign_get h hi hj
  have : rows.getD i [] = r := by simp [e1]
  rw [this]
  exact idx_tup (atI_nat (by rw [List.getElem?_map, e2]; rfl))
theorem fits_ev (n : Nat) {size : Nat} {rows : List (List Int)} (h : IRow size rows) (h3 : size ≤ 3) {i : Nat} (hi : i < size) {m : Nat} (m1 : 1 ≤ m) (m4 : m ≤ 4) {t : List Int} (ht : TabOk m (signsOf rows i) t) : (B0.lev (n + 3)).1 11 [webD (rowsR rows), .int m, .int i, .tup (t.map .int)] = ret (.bl true) := by
  rw [st_fits_levels]
  refine runF_of ?_
  unfold ir_fits_levels
  have hsrc := sources_ev (n + 1) h h3 hi
  have hll := srcs_len h i
  have hso := signs_ok h (by omega) hi
  obtain ⟨t1, t2, t3⟩ := ht
  have hlen : (signsOf rows i).length = (srcs rows i).length := by unfold signsOf; rw [List.length_map]
  rw [hlen] at t1 t3
  have hmem : ∀ x ∈ srcs rows i, x < size := fun x hx => srcs_lt h hx
  have hsg : ∀ a, a < (srcs rows i).length → (signsOf rows i).getD a 0 = signAt rows i ((srcs rows i).getD a 0) := fun a ha => by
    unfold signsOf
    simp [List.getElem?_eq_getElem ha]
  generalize signsOf rows i = sg at t3 hso hlen hsg
  generalize srcs rows i = lot at hsrc hll t1 t3 hmem hlen hsg
  obtain ⟨p1, p2⟩ := nat_pow_small m4 (j := lot.length) (by omega)
  have hp : ∀ j : Nat, (B0.lev (n + 2)).1 9 [.int ((m : Int) + 1), .int j] = ret (.int (((m + 1) ^ j : Nat) : Int)) ∨ 1000 < j := fun j => by
    by_cases hj : j ≤ 1000
    · left
      have := pow_ev (n + 1) ((m : Int) + 1) j (small64_of (by omega) (by omega)) (by omega) (by omega)
      rw [this]
      show ret (D.int (((m : Int) + 1) ^ j)) = _
      rw [int_pow_nat]
    · right; omega
  have hp' : ∀ j : Nat, j ≤ 1000 → (B0.lev (n + 2)).1 9 [.int ((m : Int) + 1), .int j] = ret (.int (((m + 1) ^ j : Nat) : Int)) := fun j hj => (hp j).resolve_right (by omega)
  have hpl := hp' lot.length (by omega)
  have hlv := level_row_ev n (m : Int) ((((m + 1) ^ lot.length : Nat)) : Int) t (by omega)
  have htr : (decide ((t.length : Int) = (((m + 1) ^ lot.length : Nat) : Int)) && t.all (inLv m)) = true := by
    rw [t1]
    simp only [decide_true, Bool.true_and]
    refine List.all_eq_true.mpr fun x hx => ?_
    obtain ⟨a, b⟩ := t2 x hx
    unfold inLv
    rw [decide_eq_true a, decide_eq_true b]
    rfl
  rw [htr] at hlv
  refine Rl.st (p := [.sh (webD (rowsR rows)), .sh (.int m), .sh (.int i), .sh (.tup (t.map .int)), .sh (.tup (lot.map natD)), .un, .un, .un, .un, .un]) (by
    simp only [startE, List.map_cons, List.map_nil, List.replicate, X_ev, S_set, S_own, S_exp, S_app, S_par, S_rws, slD_lst, slD_sh, ownD_lst, seqD_nx, List.set_cons_succ, List.set_cons_zero, frE_var, frE_slot, frE_non, frE_bl, frE_int, frE_str, frE_bin, frE_neg, frE_cmp, frE_chn, frE_and, frE_or, frE_not, frE_ite, frE_call, frE_mk, frE_fld, frE_nfl, frE_idx, frE_slc, frE_rev, frE_tup, frE_lst, frE_b1, frE_b2, frE_isi, frE_lc, frE_lc2, frE_dic, frE_lrg, frE_pget, frA_nil, frA_cons, frO_no, frO_yes, frI_r1, frI_r2, frI_sq, frR_lc, frR_call, frR_ite, frR_var, List.append_nil, List.cons_append, List.nil_append, frz_cons, frz_nil, frz1, E_var, E_slot, E_non, E_bl, E_int, E_str, E_bin, E_neg, E_cmp, E_chn, E_and, E_or, E_not, E_ite, E_call, E_mk, E_fld, E_nfl, E_idx, E_slc, E_rev, E_tup, E_lst, E_b1, E_b2, E_isi, E_dic, E_lrg, A_nil, A_cons, O_no, O_yes, I_r1, I_r2, I_sq, getSh, getAny, List.getElem?_cons_zero, List.getElem?_cons_succ, bnd_ret, bnd_bnd, neg_int, cmp_eq_int, cmp_ne_int, cmp_lt_int, cmp_le_int, cmp_gt_int, cmp_ge_int, bin_add_int, bin_sub_int, b1_int, b1_len_l, b1_len_t, b1_tuple_l, b1_tuple_t, b1_list_l, b1_list_t, thenD_bl, elseD_bl, iffD_bl, notD_bl, slc_lst, slc_tup, part_none, part_int, List.length_cons, List.length_nil, List.length_map, hsrc]) ?_
  refine Rl.st (p := [.sh (webD (rowsR rows)), .sh (.int m), .sh (.int i), .sh (.tup (t.map .int)), .sh (.tup (lot.map natD)), .sh (.int ((m : Int) + 1)), .un, .un, .un, .un]) (by
    simp only [X_ev, S_set, S_own, S_exp, S_app, S_par, S_rws, slD_lst, slD_sh, ownD_lst, seqD_nx, List.set_cons_succ, List.set_cons_zero, frE_var, frE_slot, frE_non, frE_bl, frE_int, frE_str, frE_bin, frE_neg, frE_cmp, frE_chn, frE_and, frE_or, frE_not, frE_ite, frE_call, frE_mk, frE_fld, frE_nfl, frE_idx, frE_slc, frE_rev, frE_tup, frE_lst, frE_b1, frE_b2, frE_isi, frE_lc, frE_lc2, frE_dic, frE_lrg, frE_pget, frA_nil, frA_cons, frO_no, frO_yes, frI_r1, frI_r2, frI_sq, frR_lc, frR_call, frR_ite, frR_var, List.append_nil, List.cons_append, List.nil_append, frz_cons, frz_nil, frz1, E_var, E_slot, E_non, E_bl, E_int, E_str, E_bin, E_neg, E_cmp, E_chn, E_and, E_or, E_not, E_ite, E_call, E_mk, E_fld, E_nfl, E_idx, E_slc, E_rev, E_tup, E_lst, E_b1, E_b2, E_isi, E_dic, E_lrg, A_nil, A_cons, O_no, O_yes, I_r1, I_r2, I_sq, getSh, getAny, List.getElem?_cons_zero, List.getElem?_cons_succ, bnd_ret, bnd_bnd, neg_int, cmp_eq_int, cmp_ne_int, cmp_lt_int, cmp_le_int, cmp_gt_int, cmp_ge_int, bin_add_int, bin_sub_int, b1_int, b1_len_l, b1_len_t, b1_tuple_l, b1_tuple_t, b1_list_l, b1_list_t, thenD_bl, elseD_bl, iffD_bl, notD_bl, slc_lst, slc_tup, part_none, part_int, List.length_cons, List.length_nil, List.length_map]) ?_
  refine Rl.st (p := [.sh (webD (rowsR rows)), .sh (.int m), .sh (.int i), .sh (.tup (t.map .int)), .sh (.tup (lot.map natD)), .sh (.int ((m : Int) + 1)), .un, .un, .un, .un]) (by
    simp only [S_ite, S_nop, X_ev, S_set, S_own, S_exp, S_app, S_par, S_rws, slD_lst, slD_sh, ownD_lst, seqD_nx, List.set_cons_succ, List.set_cons_zero, frE_var, frE_slot, frE_non, frE_bl, frE_int, frE_str, frE_bin, frE_neg, frE_cmp, frE_chn, frE_and, frE_or, frE_not, frE_ite, frE_call, frE_mk, frE_fld, frE_nfl, frE_idx, frE_slc, frE_rev, frE_tup, frE_lst, frE_b1, frE_b2, frE_isi, frE_lc, frE_lc2, frE_dic, frE_lrg, frE_pget, frA_nil, frA_cons, frO_no, frO_yes, frI_r1, frI_r2, frI_sq, frR_lc, frR_call, frR_ite, frR_var, List.append_nil, List.cons_append, List.nil_append, frz_cons, frz_nil, frz1, E_var, E_slot, E_non, E_bl, E_int, E_str, E_bin, E_neg, E_cmp, E_chn, E_and, E_or, E_not, E_ite, E_call, E_mk, E_fld, E_nfl, E_idx, E_slc, E_rev, E_tup, E_lst, E_b1, E_b2, E_isi, E_dic, E_lrg, A_nil, A_cons, O_no, O_yes, I_r1, I_r2, I_sq, getSh, getAny, List.getElem?_cons_zero, List.getElem?_cons_succ, bnd_ret, bnd_bnd, neg_int, cmp_eq_int, cmp_ne_int, cmp_lt_int, cmp_le_int, cmp_gt_int, cmp_ge_int, bin_add_int, bin_sub_int, b1_int, b1_len_l, b1_len_t, b1_tuple_l, b1_tuple_t, b1_list_l, b1_list_t, thenD_bl, elseD_bl, iffD_bl, notD_bl, slc_lst, slc_tup, part_none, part_int, List.length_cons, List.length_nil, List.length_map, hpl, hlv]
    rfl) ?_
  refine Rl.seq (Q1 := fun f p => f = .nx) (Rl.for (xs := (List.range lot.length).map natD) (fun j p => p = [.sh (webD (rowsR rows)), .sh (.int m), .sh (.int i), .sh (.tup (t.map .int)), .sh (.tup (lot.map natD)), .sh (.int ((m : Int) + 1)), .un, .un, .un, .un]) (by
    simp only [X_ev, S_set, S_own, S_exp, S_app, S_par, S_rws, slD_lst, slD_sh, ownD_lst, seqD_nx, List.set_cons_succ, List.set_cons_zero, frE_var, frE_slot, frE_non, frE_bl, frE_int, frE_str, frE_bin, frE_neg, frE_cmp, frE_chn, frE_and, frE_or, frE_not, frE_ite, frE_call, frE_mk, frE_fld, frE_nfl, frE_idx, frE_slc, frE_rev, frE_tup, frE_lst, frE_b1, frE_b2, frE_isi, frE_lc, frE_lc2, frE_dic, frE_lrg, frE_pget, frA_nil, frA_cons, frO_no, frO_yes, frI_r1, frI_r2, frI_sq, frR_lc, frR_call, frR_ite, frR_var, List.append_nil, List.cons_append, List.nil_append, frz_cons, frz_nil, frz1, E_var, E_slot, E_non, E_bl, E_int, E_str, E_bin, E_neg, E_cmp, E_chn, E_and, E_or, E_not, E_ite, E_call, E_mk, E_fld, E_nfl, E_idx, E_slc, E_rev, E_tup, E_lst, E_b1, E_b2, E_isi, E_dic, E_lrg, A_nil, A_cons, O_no, O_yes, I_r1, I_r2, I_sq, getSh, getAny, List.getElem?_cons_zero, List.getElem?_cons_succ, bnd_ret, bnd_bnd, neg_int, cmp_eq_int, cmp_ne_int, cmp_lt_int, cmp_le_int, cmp_gt_int, cmp_ge_int, bin_add_int, bin_sub_int, b1_int, b1_len_l, b1_len_t, b1_tuple_l, b1_tuple_t, b1_list_l, b1_list_t, thenD_bl, elseD_bl, iffD_bl, notD_bl, slc_lst, slc_tup, part_none, part_int, List.length_cons, List.length_nil, List.length_map]
    rw [r1_nat (by omega)]) _ (EnvLe.refl _) rfl ?_ (fun _ _ => rfl)) ?_ (fun f p hf hq => absurd hq hf)
  · rintro a x p hx rfl
    obtain ⟨a', ha, rfl⟩ := map_at hx
    obtain ⟨hi', rfl⟩ := range_at ha
    refine ⟨_, rfl, ?_⟩
    have hin : lot.getD a 0 < size := hmem _ (getD_mem 0 hi')
    have hla : idxD (.tup (lot.map natD)) (natD a) = ret (natD (lot.getD a 0)) := idx_tmap 0 hi'
    have hnf : nflD TT.CT "rows" [Slot.sh (webD (rowsR rows)), .sh (.int m), .sh (.int i), .sh (.tup (t.map .int)), .sh (.tup (lot.map natD)), .sh (.int ((m : Int) + 1)), .sh (natD a), .un, .un, .un] 0 = ret (.tup ((rowsR rows).map .tup)) := by rw [nfl_sh rfl, web_rows_f]
    obtain ⟨u1, u2⟩ := nat_pow_small m4 (j := a) (by omega)
    have hpa := hp' a (by omega)
    refine Rl.st (p := [.sh (webD (rowsR rows)), .sh (.int m), .sh (.int i), .sh (.tup (t.map .int)), .sh (.tup (lot.map natD)), .sh (.int ((m : Int) + 1)), .sh (natD a), .sh (.int (signAt rows i (lot.getD a 0))), .un, .un]) (by
      simp only [X_ev, S_set, S_own, S_exp, S_app, S_par, S_rws, slD_lst, slD_sh, ownD_lst, seqD_nx, List.set_cons_succ, List.set_cons_zero, frE_var, frE_slot, frE_non, frE_bl, frE_int, frE_str, frE_bin, frE_neg, frE_cmp, frE_chn, frE_and, frE_or, frE_not, frE_ite, frE_call, frE_mk, frE_fld, frE_nfl, frE_idx, frE_slc, frE_rev, frE_tup, frE_lst, frE_b1, frE_b2, frE_isi, frE_lc, frE_lc2, frE_dic, frE_lrg, frE_pget, frA_nil, frA_cons, frO_no, frO_yes, frI_r1, frI_r2, frI_sq, frR_lc, frR_call, frR_ite, frR_var, List.append_nil, List.cons_append, List.nil_append, frz_cons, frz_nil, frz1, E_var, E_slot, E_non, E_bl, E_int, E_str, E_bin, E_neg, E_cmp, E_chn, E_and, E_or, E_not, E_ite, E_call, E_mk, E_fld, E_nfl, E_idx, E_slc, E_rev, E_tup, E_lst, E_b1, E_b2, E_isi, E_dic, E_lrg, A_nil, A_cons, O_no, O_yes, I_r1, I_r2, I_sq, getSh, getAny, List.getElem?_cons_zero, List.getElem?_cons_succ, bnd_ret, bnd_bnd, neg_int, cmp_eq_int, cmp_ne_int, cmp_lt_int, cmp_le_int, cmp_gt_int, cmp_ge_int, bin_add_int, bin_sub_int, b1_int, b1_len_l, b1_len_t, b1_tuple_l, b1_tuple_t, b1_list_l, b1_list_t, thenD_bl, elseD_bl, iffD_bl, notD_bl, slc_lst, slc_tup, part_none, part_int, List.length_cons, List.length_nil, List.length_map, hnf, row_at h hi, hla, show idxD (.tup ((rows.getD i []).map .int)) (natD (lot.getD a 0)) = _ from sign_at h hi hin]) ?_
    refine Rl.st (p := [.sh (webD (rowsR rows)), .sh (.int m), .sh (.int i), .sh (.tup (t.map .int)), .sh (.tup (lot.map natD)), .sh (.int ((m : Int) + 1)), .sh (natD a), .sh (.int (signAt rows i (lot.getD a 0))), .sh (.int (((m + 1) ^ a : Nat) : Int)), .un]) (by
      simp only [X_ev, S_set, S_own, S_exp, S_app, S_par, S_rws, slD_lst, slD_sh, ownD_lst, seqD_nx, List.set_cons_succ, List.set_cons_zero, frE_var, frE_slot, frE_non, frE_bl, frE_int, frE_str, frE_bin, frE_neg, frE_cmp, frE_chn, frE_and, frE_or, frE_not, frE_ite, frE_call, frE_mk, frE_fld, frE_nfl, frE_idx, frE_slc, frE_rev, frE_tup, frE_lst, frE_b1, frE_b2, frE_isi, frE_lc, frE_lc2, frE_dic, frE_lrg, frE_pget, frA_nil, frA_cons, frO_no, frO_yes, frI_r1, frI_r2, frI_sq, frR_lc, frR_call, frR_ite, frR_var, List.append_nil, List.cons_append, List.nil_append, frz_cons, frz_nil, frz1, E_var, E_slot, E_non, E_bl, E_int, E_str, E_bin, E_neg, E_cmp, E_chn, E_and, E_or, E_not, E_ite, E_call, E_mk, E_fld, E_nfl, E_idx, E_slc, E_rev, E_tup, E_lst, E_b1, E_b2, E_isi, E_dic, E_lrg, A_nil, A_cons, O_no, O_yes, I_r1, I_r2, I_sq, getSh, getAny, List.getElem?_cons_zero, List.getElem?_cons_succ, bnd_ret, bnd_bnd, neg_int, cmp_eq_int, cmp_ne_int, cmp_lt_int, cmp_le_int, cmp_gt_int, cmp_ge_int, bin_add_int, bin_sub_int, b1_int, b1_len_l, b1_len_t, b1_tuple_l, b1_tuple_t, b1_list_l, b1_list_t, thenD_bl, elseD_bl, iffD_bl, notD_bl, slc_lst, slc_tup, part_none, part_int, List.length_cons, List.length_nil, List.length_map, natD, hpa]
      first | done | rfl) ?_
    refine Rl.weak (Q := fun f p => f = .nx ∧ p = [.sh (webD (rowsR rows)), .sh (.int m), .sh (.int i), .sh (.tup (t.map .int)), .sh (.tup (lot.map natD)), .sh (.int ((m : Int) + 1)), .sh (natD a), .sh (.int (signAt rows i (lot.getD a 0))), .sh (.int (((m + 1) ^ a : Nat) : Int)), .un]) (Rl.for (xs := (List.range t.length).map natD) (fun j p => p = [.sh (webD (rowsR rows)), .sh (.int m), .sh (.int i), .sh (.tup (t.map .int)), .sh (.tup (lot.map natD)), .sh (.int ((m : Int) + 1)), .sh (natD a), .sh (.int (signAt rows i (lot.getD a 0))), .sh (.int (((m + 1) ^ a : Nat) : Int)), .un]) (by
      simp only [X_ev, S_set, S_own, S_exp, S_app, S_par, S_rws, slD_lst, slD_sh, ownD_lst, seqD_nx, List.set_cons_succ, List.set_cons_zero, frE_var, frE_slot, frE_non, frE_bl, frE_int, frE_str, frE_bin, frE_neg, frE_cmp, frE_chn, frE_and, frE_or, frE_not, frE_ite, frE_call, frE_mk, frE_fld, frE_nfl, frE_idx, frE_slc, frE_rev, frE_tup, frE_lst, frE_b1, frE_b2, frE_isi, frE_lc, frE_lc2, frE_dic, frE_lrg, frE_pget, frA_nil, frA_cons, frO_no, frO_yes, frI_r1, frI_r2, frI_sq, frR_lc, frR_call, frR_ite, frR_var, List.append_nil, List.cons_append, List.nil_append, frz_cons, frz_nil, frz1, E_var, E_slot, E_non, E_bl, E_int, E_str, E_bin, E_neg, E_cmp, E_chn, E_and, E_or, E_not, E_ite, E_call, E_mk, E_fld, E_nfl, E_idx, E_slc, E_rev, E_tup, E_lst, E_b1, E_b2, E_isi, E_dic, E_lrg, A_nil, A_cons, O_no, O_yes, I_r1, I_r2, I_sq, getSh, getAny, List.getElem?_cons_zero, List.getElem?_cons_succ, bnd_ret, bnd_bnd, neg_int, cmp_eq_int, cmp_ne_int, cmp_lt_int, cmp_le_int, cmp_gt_int, cmp_ge_int, bin_add_int, bin_sub_int, b1_int, b1_len_l, b1_len_t, b1_tuple_l, b1_tuple_t, b1_list_l, b1_list_t, thenD_bl, elseD_bl, iffD_bl, notD_bl, slc_lst, slc_tup, part_none, part_int, List.length_cons, List.length_nil, List.length_map]
      rw [r1_nat (by omega)]) _ (EnvLe.refl _) rfl ?_ (fun _ h => ⟨rfl, h⟩)) ?_
    · rintro k x p hx rfl
      obtain ⟨k', hk, rfl⟩ := map_at hx
      obtain ⟨hk', rfl⟩ := range_at hk
      refine ⟨_, rfl, ?_⟩
      have hsm := hsg a hi'
      have hs2 := hso.2 _ (getD_mem 0 (show a < sg.length by omega))
      rw [hsm] at hs2
      have ht3 := t3 a k hi' (by omega)
      rw [hsm] at ht3
      generalize signAt rows i (lot.getD a 0) = s at hs2 ht3
      refine Rl.iteF (p := [.sh (webD (rowsR rows)), .sh (.int m), .sh (.int i), .sh (.tup (t.map .int)), .sh (.tup (lot.map natD)), .sh (.int ((m : Int) + 1)), .sh (natD a), .sh (.int s), .sh (.int (((m + 1) ^ a : Nat) : Int)), .sh (natD k)]) ?_ (Rl.up rfl (p := [.sh (webD (rowsR rows)), .sh (.int m), .sh (.int i), .sh (.tup (t.map .int)), .sh (.tup (lot.map natD)), .sh (.int ((m : Int) + 1)), .sh (natD a), .sh (.int s), .sh (.int (((m + 1) ^ a : Nat) : Int)), .un]) (by repeat (first | exact EnvLe.refl _ | apply EnvLe.same | apply EnvLe.un)) rfl)
      simp only [X_ev, S_set, S_own, S_exp, S_app, S_par, S_rws, slD_lst, slD_sh, ownD_lst, seqD_nx, List.set_cons_succ, List.set_cons_zero, frE_var, frE_slot, frE_non, frE_bl, frE_int, frE_str, frE_bin, frE_neg, frE_cmp, frE_chn, frE_and, frE_or, frE_not, frE_ite, frE_call, frE_mk, frE_fld, frE_nfl, frE_idx, frE_slc, frE_rev, frE_tup, frE_lst, frE_b1, frE_b2, frE_isi, frE_lc, frE_lc2, frE_dic, frE_lrg, frE_pget, frA_nil, frA_cons, frO_no, frO_yes, frI_r1, frI_r2, frI_sq, frR_lc, frR_call, frR_ite, frR_var, List.append_nil, List.cons_append, List.nil_append, frz_cons, frz_nil, frz1, E_var, E_slot, E_non, E_bl, E_int, E_str, E_bin, E_neg, E_cmp, E_chn, E_and, E_or, E_not, E_ite, E_call, E_mk, E_fld, E_nfl, E_idx, E_slc, E_rev, E_tup, E_lst, E_b1, E_b2, E_isi, E_dic, E_lrg, A_nil, A_cons, O_no, O_yes, I_r1, I_r2, I_sq, getSh, getAny, List.getElem?_cons_zero, List.getElem?_cons_succ, bnd_ret, bnd_bnd, neg_int, cmp_eq_int, cmp_ne_int, cmp_lt_int, cmp_le_int, cmp_gt_int, cmp_ge_int, bin_add_int, bin_sub_int, b1_int, b1_len_l, b1_len_t, b1_tuple_l, b1_tuple_t, b1_list_l, b1_list_t, thenD_bl, elseD_bl, iffD_bl, notD_bl, slc_lst, slc_tup, part_none, part_int, List.length_cons, List.length_nil, List.length_map, natD]
      by_cases z : s = 2
      · rw [if_neg (by simpa using z)]
        rfl
      · rw [if_pos (by simpa using z)]
        have ed : (k : Int) / (((m + 1) ^ a : Nat) : Int) % ((m : Int) + 1) = (dig (m + 1) a k : Nat) := by
          rw [← dig_int, Int.natCast_pow]
          rfl
        rw [bin_fdiv_int (by omega) (by omega), bnd_ret, bin_mod_int (by omega), bnd_ret, ed, cmp_lt_int, bnd_ret, thenD_bl]
        by_cases hd : dig (m + 1) a k < m
        · rw [if_pos (by simpa using hd)]
          have hk2 := step_lt (b := m + 1) (at_ := a) (m := lot.length) (k := k) hi' (by omega) (by omega)
          have i1 : idxD (.tup (t.map .int)) (.int ((k : Int) + (((m + 1) ^ a : Nat) : Int))) = ret (.int (t.getD (k + (m + 1) ^ a) 0)) := by
            rw [show (k : Int) + (((m + 1) ^ a : Nat) : Int) = ((k + (m + 1) ^ a : Nat) : Int) by omega]
            exact idx_tmap 0 (by omega)
          have i2 : idxD (.tup (t.map .int)) (.int k) = ret (.int (t.getD k 0)) := idx_tmap 0 hk'
          rw [i1, bnd_ret, i2, bnd_ret, bin_sub_int, bnd_ret, bin_mul_int (by rw [small64_of (a := s) (by omega) (by omega)]; rfl), bnd_ret, cmp_lt_int]
          have := ht3 z hd
          rw [decide_eq_false (by omega)]
          rfl
        · rw [if_neg (by simpa using hd)]
          rfl
    · rintro f p ⟨rfl, rfl⟩
      exact ⟨_, .same (.same (.same (.same (.same (.same (.un (.un (.un (EnvLe.refl _))))))))), rfl⟩
  · intro p _
    exact Rl.ret (p := p) (by simp only [X_ev, S_set, S_own, S_exp, S_app, S_par, S_rws, slD_lst, slD_sh, ownD_lst, seqD_nx, List.set_cons_succ, List.set_cons_zero, frE_var, frE_slot, frE_non, frE_bl, frE_int, frE_str, frE_bin, frE_neg, frE_cmp, frE_chn, frE_and, frE_or, frE_not, frE_ite, frE_call, frE_mk, frE_fld, frE_nfl, frE_idx, frE_slc, frE_rev, frE_tup, frE_lst, frE_b1, frE_b2, frE_isi, frE_lc, frE_lc2, frE_dic, frE_lrg, frE_pget, frA_nil, frA_cons, frO_no, frO_yes, frI_r1, frI_r2, frI_sq, frR_lc, frR_call, frR_ite, frR_var, List.append_nil, List.cons_append, List.nil_append, frz_cons, frz_nil, frz1, E_var, E_slot, E_non, E_bl, E_int, E_str, E_bin, E_neg, E_cmp, E_chn, E_and, E_or, E_not, E_ite, E_call, E_mk, E_fld, E_nfl, E_idx, E_slc, E_rev, E_tup, E_lst, E_b1, E_b2, E_isi, E_dic, E_lrg, A_nil, A_cons, O_no, O_yes, I_r1, I_r2, I_sq, getSh, getAny, List.getElem?_cons_zero, List.getElem?_cons_succ, bnd_ret, bnd_bnd, neg_int, cmp_eq_int, cmp_ne_int, cmp_lt_int, cmp_le_int, cmp_gt_int, cmp_ge_int, bin_add_int, bin_sub_int, b1_int, b1_len_l, b1_len_t, b1_tuple_l, b1_tuple_t, b1_list_l, b1_list_t, thenD_bl, elseD_bl, iffD_bl, notD_bl, slc_lst, slc_tup, part_none, part_int, List.length_cons, List.length_nil, List.length_map]) rfl
end UK

set_option Elab.async false
set_option linter.all false
set_option maxRecDepth 100000
set_option maxHeartbeats 400000
namespace UK
open PySem PySem.Spec PyProof.Rows L2
theorem runI_of {T : Tabs} {φ ψ : Fns} {s : Sm} {N c : Nat} {ds : List D} {fs : List (Str × D)} (h : Rl (evS T φ ψ s (.se c [] :: startE (N - 1) ds)) fun f p => f = .nx ∧ p[(0 : Nat)]? = some (.se c fs)) (hc : T.CT[c]?.map (·.2) = some (fs.map (·.1))) : runI T φ ψ s N c ds = ret (.ins c (fs.map (·.2))) := by
  funext π
  obtain ⟨⟨f, e⟩, h1, p, l, rfl, h2⟩ := h π
  unfold runI
  rw [bnd_at, h1]
  have h3 : e[(0 : Nat)]? = some (.se c fs) := by
    rcases l.get 0 with q | q
    · rw [h2] at q; cases q
    · rw [← q, h2]
  show endI T c (e[(0 : Nat)]? : Option Slot) π = _
  rw [h3]
  show (if (c = c ∧ (T.CT[c]?.map (·.2)) = some (fs.map (·.1))) then ret (.ins c (fs.map (·.2))) else stuck : M D) π = _
  rw [if_pos ⟨rfl, hc⟩]
def TabsOk (m : Nat) (rows : List (List Int)) (tables : List (List Int)) : Prop := tables.length = rows.length ∧ ∀ i, i < rows.length → TabOk m (signsOf rows i) (tables.getD i [])
theorem n_most_web : ¬ ("most" : Str) = "web" := by decide +kernel
theorem n_tables_web : ¬ ("tables" : Str) = "web" := by decide +kernel
theorem n_tables_most : ¬ ("tables" : Str) = "most" := by decide +kernel
theorem rules_ini (n : Nat) {size : Nat} {rows : List (List Int)} (h : IRow size rows) (h3 : size ≤ 3) {m : Nat} (m1 : 1 ≤ m) (m4 : m ≤ 4) {tables : List (List Int)} (ht : TabsOk m rows tables) : (B0.lev (n + 4)).2 1 [webD (rowsR rows), .int m, tabsD tables] = ret (rulesD rows m tables) := by
  rw [st_LevelRules___init__]
  have hsz : ((rowsR rows).length : Int) = size := by unfold rowsR; rw [List.length_map, h.1]
  have htl : tables.length = size := by rw [ht.1, h.1]
  refine runI_of (fs := [("web", webD (rowsR rows)), ("most", .int m), ("tables", tabsD tables)]) ?_ (show (TT.CT[1]?.map (·.2)) = some [("web" : Str), "most", "tables"] by decide +kernel)
  unfold ir_LevelRules___init__
  have hW : ∀ s0 s4 s5, nflD TT.CT "size" [s0, Slot.sh (webD (rowsR rows)), .sh (.int m), .sh (tabsD tables), s4, s5] 1 = ret (.int size) := fun _ _ _ => by rw [nfl_sh rfl, web_size_f, hsz]
  refine Rl.st (p := [.se 1 [], .sh (webD (rowsR rows)), .sh (.int m), .sh (tabsD tables), .un, .un]) (by
    simp only [S_ite, S_nop, startE, List.map_cons, List.map_nil, List.replicate, X_ev, S_set, S_own, S_exp, S_app, S_par, S_rws, slD_lst, slD_sh, ownD_lst, seqD_nx, List.set_cons_succ, List.set_cons_zero, frE_var, frE_slot, frE_non, frE_bl, frE_int, frE_str, frE_bin, frE_neg, frE_cmp, frE_chn, frE_and, frE_or, frE_not, frE_ite, frE_call, frE_mk, frE_fld, frE_nfl, frE_idx, frE_slc, frE_rev, frE_tup, frE_lst, frE_b1, frE_b2, frE_isi, frE_lc, frE_lc2, frE_dic, frE_lrg, frE_pget, frA_nil, frA_cons, frO_no, frO_yes, frI_r1, frI_r2, frI_sq, frR_lc, frR_call, frR_ite, frR_var, List.append_nil, List.cons_append, List.nil_append, frz_cons, frz_nil, frz1, E_var, E_slot, E_non, E_bl, E_int, E_str, E_bin, E_neg, E_cmp, E_chn, E_and, E_or, E_not, E_ite, E_call, E_mk, E_fld, E_nfl, E_idx, E_slc, E_rev, E_tup, E_lst, E_b1, E_b2, E_isi, E_dic, E_lrg, A_nil, A_cons, O_no, O_yes, I_r1, I_r2, I_sq, getSh, getAny, List.getElem?_cons_zero, List.getElem?_cons_succ, bnd_ret, bnd_bnd, neg_int, cmp_eq_int, cmp_ne_int, cmp_lt_int, cmp_le_int, cmp_gt_int, cmp_ge_int, bin_add_int, bin_sub_int, b1_int, b1_len_l, b1_len_t, b1_tuple_l, b1_tuple_t, b1_list_l, b1_list_t, thenD_bl, elseD_bl, iffD_bl, notD_bl, slc_lst, slc_tup, part_none, part_int, List.length_cons, List.length_nil, List.length_map, is_whole_ev]
    rw [show wholeB (.int m) = true from rfl, Bool.not_true, if_neg Bool.false_ne_true]
    rw [decide_eq_false (by omega), bnd_ret]
    rfl) ?_
  refine Rl.st (p := [.se 1 [], .sh (webD (rowsR rows)), .sh (.int m), .sh (tabsD tables), .un, .un]) (by
    simp only [S_ite, S_nop, X_ev, S_set, S_own, S_exp, S_app, S_par, S_rws, slD_lst, slD_sh, ownD_lst, seqD_nx, List.set_cons_succ, List.set_cons_zero, frE_var, frE_slot, frE_non, frE_bl, frE_int, frE_str, frE_bin, frE_neg, frE_cmp, frE_chn, frE_and, frE_or, frE_not, frE_ite, frE_call, frE_mk, frE_fld, frE_nfl, frE_idx, frE_slc, frE_rev, frE_tup, frE_lst, frE_b1, frE_b2, frE_isi, frE_lc, frE_lc2, frE_dic, frE_lrg, frE_pget, frA_nil, frA_cons, frO_no, frO_yes, frI_r1, frI_r2, frI_sq, frR_lc, frR_call, frR_ite, frR_var, List.append_nil, List.cons_append, List.nil_append, frz_cons, frz_nil, frz1, E_var, E_slot, E_non, E_bl, E_int, E_str, E_bin, E_neg, E_cmp, E_chn, E_and, E_or, E_not, E_ite, E_call, E_mk, E_fld, E_nfl, E_idx, E_slc, E_rev, E_tup, E_lst, E_b1, E_b2, E_isi, E_dic, E_lrg, A_nil, A_cons, O_no, O_yes, I_r1, I_r2, I_sq, getSh, getAny, List.getElem?_cons_zero, List.getElem?_cons_succ, bnd_ret, bnd_bnd, neg_int, cmp_eq_int, cmp_ne_int, cmp_lt_int, cmp_le_int, cmp_gt_int, cmp_ge_int, bin_add_int, bin_sub_int, b1_int, b1_len_l, b1_len_t, b1_tuple_l, b1_tuple_t, b1_list_l, b1_list_t, thenD_bl, elseD_bl, iffD_bl, notD_bl, slc_lst, slc_tup, part_none, part_int, List.length_cons, List.length_nil, List.length_map, is_list_ev, hW]
    rw [show listB (tabsD tables) = true from rfl, Bool.not_true, if_neg Bool.false_ne_true]
    rw [show b1D .len (tabsD tables) = ret (.int size) by unfold tabsD; rw [b1_len_t, List.length_map, htl], bnd_ret, cmp_ne_int, bnd_ret, decide_eq_true rfl]
    rfl) ?_
  refine Rl.seq (Q1 := fun f p => f = .nx ∧ p = [.se 1 [], .sh (webD (rowsR rows)), .sh (.int m), .sh (tabsD tables), .un, .un]) (Rl.for (xs := (List.range size).map natD) (fun j p => p = [.se 1 [], .sh (webD (rowsR rows)), .sh (.int m), .sh (tabsD tables), .un, .un]) (by
    simp only [X_ev, S_set, S_own, S_exp, S_app, S_par, S_rws, slD_lst, slD_sh, ownD_lst, seqD_nx, List.set_cons_succ, List.set_cons_zero, frE_var, frE_slot, frE_non, frE_bl, frE_int, frE_str, frE_bin, frE_neg, frE_cmp, frE_chn, frE_and, frE_or, frE_not, frE_ite, frE_call, frE_mk, frE_fld, frE_nfl, frE_idx, frE_slc, frE_rev, frE_tup, frE_lst, frE_b1, frE_b2, frE_isi, frE_lc, frE_lc2, frE_dic, frE_lrg, frE_pget, frA_nil, frA_cons, frO_no, frO_yes, frI_r1, frI_r2, frI_sq, frR_lc, frR_call, frR_ite, frR_var, List.append_nil, List.cons_append, List.nil_append, frz_cons, frz_nil, frz1, E_var, E_slot, E_non, E_bl, E_int, E_str, E_bin, E_neg, E_cmp, E_chn, E_and, E_or, E_not, E_ite, E_call, E_mk, E_fld, E_nfl, E_idx, E_slc, E_rev, E_tup, E_lst, E_b1, E_b2, E_isi, E_dic, E_lrg, A_nil, A_cons, O_no, O_yes, I_r1, I_r2, I_sq, getSh, getAny, List.getElem?_cons_zero, List.getElem?_cons_succ, bnd_ret, bnd_bnd, neg_int, cmp_eq_int, cmp_ne_int, cmp_lt_int, cmp_le_int, cmp_gt_int, cmp_ge_int, bin_add_int, bin_sub_int, b1_int, b1_len_l, b1_len_t, b1_tuple_l, b1_tuple_t, b1_list_l, b1_list_t, thenD_bl, elseD_bl, iffD_bl, notD_bl, slc_lst, slc_tup, part_none, part_int, List.length_cons, List.length_nil, List.length_map, hW]
    rw [r1_nat (by omega)]) _ (EnvLe.refl _) rfl ?_ (fun _ h => ⟨rfl, h⟩)) ?_ (fun f p hf hq => absurd hq.1 hf)
  · rintro a x p hx rfl
    obtain ⟨a', ha, rfl⟩ := map_at hx
    obtain ⟨hi', rfl⟩ := range_at ha
    refine ⟨_, rfl, ?_⟩
    have hf := fits_ev n h h3 hi' m1 m4 (ht.2 a (by rw [h.1]; exact hi'))
    have hix : idxD (tabsD tables) (natD a) = ret (.tup ((tables.getD a []).map .int)) := idx_tmap (xs := tables) (f := fun t => D.tup (t.map .int)) (i := a) [] (by omega)
    refine Rl.iteF (p := [.se 1 [], .sh (webD (rowsR rows)), .sh (.int m), .sh (tabsD tables), .sh (natD a), .un]) (by
      simp only [X_ev, S_set, S_own, S_exp, S_app, S_par, S_rws, slD_lst, slD_sh, ownD_lst, seqD_nx, List.set_cons_succ, List.set_cons_zero, frE_var, frE_slot, frE_non, frE_bl, frE_int, frE_str, frE_bin, frE_neg, frE_cmp, frE_chn, frE_and, frE_or, frE_not, frE_ite, frE_call, frE_mk, frE_fld, frE_nfl, frE_idx, frE_slc, frE_rev, frE_tup, frE_lst, frE_b1, frE_b2, frE_isi, frE_lc, frE_lc2, frE_dic, frE_lrg, frE_pget, frA_nil, frA_cons, frO_no, frO_yes, frI_r1, frI_r2, frI_sq, frR_lc, frR_call, frR_ite, frR_var, List.append_nil, List.cons_append, List.nil_append, frz_cons, frz_nil, frz1, E_var, E_slot, E_non, E_bl, E_int, E_str, E_bin, E_neg, E_cmp, E_chn, E_and, E_or, E_not, E_ite, E_call, E_mk, E_fld, E_nfl, E_idx, E_slc, E_rev, E_tup, E_lst, E_b1, E_b2, E_isi, E_dic, E_lrg, A_nil, A_cons, O_no, O_yes, I_r1, I_r2, I_sq, getSh, getAny, List.getElem?_cons_zero, List.getElem?_cons_succ, bnd_ret, bnd_bnd, neg_int, cmp_eq_int, cmp_ne_int, cmp_lt_int, cmp_le_int, cmp_gt_int, cmp_ge_int, bin_add_int, bin_sub_int, b1_int, b1_len_l, b1_len_t, b1_tuple_l, b1_tuple_t, b1_list_l, b1_list_t, thenD_bl, elseD_bl, iffD_bl, notD_bl, slc_lst, slc_tup, part_none, part_int, List.length_cons, List.length_nil, List.length_map, hix, show (B0.lev (n + 3)).1 11 [webD (rowsR rows), .int m, natD a, .tup ((tables.getD a []).map .int)] = _ from hf]
      rfl) (Rl.up rfl (p := [.se 1 [], .sh (webD (rowsR rows)), .sh (.int m), .sh (tabsD tables), .un, .un]) (by repeat (first | exact EnvLe.refl _ | apply EnvLe.same | apply EnvLe.un)) rfl)
  · rintro p ⟨_, rfl⟩
    refine Rl.st (p := [.se 1 [("web", webD (rowsR rows))], .sh (webD (rowsR rows)), .sh (.int m), .sh (tabsD tables), .un, .un]) (by
      simp only [S_fld, X_ev, S_set, S_own, S_exp, S_app, S_par, S_rws, slD_lst, slD_sh, ownD_lst, seqD_nx, List.set_cons_succ, List.set_cons_zero, frE_var, frE_slot, frE_non, frE_bl, frE_int, frE_str, frE_bin, frE_neg, frE_cmp, frE_chn, frE_and, frE_or, frE_not, frE_ite, frE_call, frE_mk, frE_fld, frE_nfl, frE_idx, frE_slc, frE_rev, frE_tup, frE_lst, frE_b1, frE_b2, frE_isi, frE_lc, frE_lc2, frE_dic, frE_lrg, frE_pget, frA_nil, frA_cons, frO_no, frO_yes, frI_r1, frI_r2, frI_sq, frR_lc, frR_call, frR_ite, frR_var, List.append_nil, List.cons_append, List.nil_append, frz_cons, frz_nil, frz1, E_var, E_slot, E_non, E_bl, E_int, E_str, E_bin, E_neg, E_cmp, E_chn, E_and, E_or, E_not, E_ite, E_call, E_mk, E_fld, E_nfl, E_idx, E_slc, E_rev, E_tup, E_lst, E_b1, E_b2, E_isi, E_dic, E_lrg, A_nil, A_cons, O_no, O_yes, I_r1, I_r2, I_sq, getSh, getAny, List.getElem?_cons_zero, List.getElem?_cons_succ, bnd_ret, bnd_bnd, neg_int, cmp_eq_int, cmp_ne_int, cmp_lt_int, cmp_le_int, cmp_gt_int, cmp_ge_int, bin_add_int, bin_sub_int, b1_int, b1_len_l, b1_len_t, b1_tuple_l, b1_tuple_t, b1_list_l, b1_list_t, thenD_bl, elseD_bl, iffD_bl, notD_bl, slc_lst, slc_tup, part_none, part_int, List.length_cons, List.length_nil, List.length_map]
      rw [fld_ok (x := "web") (c := 1) (fs := []) rfl (by decide +kernel) rfl (by decide)]
      rfl) ?_
    refine Rl.st (p := [.se 1 [("web", webD (rowsR rows)), ("most", .int m)], .sh (webD (rowsR rows)), .sh (.int m), .sh (tabsD tables), .un, .un]) (by
      simp only [S_fld, X_ev, S_set, S_own, S_exp, S_app, S_par, S_rws, slD_lst, slD_sh, ownD_lst, seqD_nx, List.set_cons_succ, List.set_cons_zero, frE_var, frE_slot, frE_non, frE_bl, frE_int, frE_str, frE_bin, frE_neg, frE_cmp, frE_chn, frE_and, frE_or, frE_not, frE_ite, frE_call, frE_mk, frE_fld, frE_nfl, frE_idx, frE_slc, frE_rev, frE_tup, frE_lst, frE_b1, frE_b2, frE_isi, frE_lc, frE_lc2, frE_dic, frE_lrg, frE_pget, frA_nil, frA_cons, frO_no, frO_yes, frI_r1, frI_r2, frI_sq, frR_lc, frR_call, frR_ite, frR_var, List.append_nil, List.cons_append, List.nil_append, frz_cons, frz_nil, frz1, E_var, E_slot, E_non, E_bl, E_int, E_str, E_bin, E_neg, E_cmp, E_chn, E_and, E_or, E_not, E_ite, E_call, E_mk, E_fld, E_nfl, E_idx, E_slc, E_rev, E_tup, E_lst, E_b1, E_b2, E_isi, E_dic, E_lrg, A_nil, A_cons, O_no, O_yes, I_r1, I_r2, I_sq, getSh, getAny, List.getElem?_cons_zero, List.getElem?_cons_succ, bnd_ret, bnd_bnd, neg_int, cmp_eq_int, cmp_ne_int, cmp_lt_int, cmp_le_int, cmp_gt_int, cmp_ge_int, bin_add_int, bin_sub_int, b1_int, b1_len_l, b1_len_t, b1_tuple_l, b1_tuple_t, b1_list_l, b1_list_t, thenD_bl, elseD_bl, iffD_bl, notD_bl, slc_lst, slc_tup, part_none, part_int, List.length_cons, List.length_nil, List.length_map]
      rw [fld_ok (x := "most") (c := 1) (fs := [("web", webD (rowsR rows))]) rfl (show (TT.CT[1]?.bind fun q => q.2[1]?) = some ("most" : Str) by decide +kernel) (by rw [lk_miss n_most_web]; rfl) (show (1 : Nat) < 100 by decide)]
      rfl) ?_
    refine Rl.of (e := [.se 1 [("web", webD (rowsR rows)), ("most", .int m), ("tables", tabsD tables)], .sh (webD (rowsR rows)), .sh (.int m), .sh (tabsD tables), .un, .un]) (by
      rw [S_fld, X_ev]
      refine (show bnd (bnd (evE TT (B0.lev (n + 3)).1 (B0.lev (n + 3)).2 (.b1 .tuple (.lc [5] (.b1 .tuple (.slot 5)) [5] (.sq (.slot 3)) .no)) [.se 1 [("web", webD (rowsR rows)), ("most", .int m)], .sh (webD (rowsR rows)), .sh (.int m), .sh (tabsD tables), .un, .un]) _) _ = _ from ?_)
      rw [E_b1, lc_all tables (fun t => .tup (t.map .int)) (fun t => .tup (t.map .int)) rfl (by omega) fun t _ => rfl]
      rw [bnd_ret, b1_tuple_l, bnd_ret, bnd_ret]
      rw [fld_ok (x := "tables") (c := 1) (fs := [("web", webD (rowsR rows)), ("most", .int m)]) rfl (show (TT.CT[1]?.bind fun q => q.2[2]?) = some ("tables" : Str) by decide +kernel) (by rw [lk_miss n_tables_web, lk_miss n_tables_most]; rfl) (show (2 : Nat) < 100 by decide)]
      rfl) ⟨rfl, rfl⟩
end UK

set_option Elab.async false
set_option linter.all false
set_option maxRecDepth 100000
set_option maxHeartbeats 400000
namespace UK
open PySem PySem.Spec PyProof.Rows L2
theorem cut_to {α : Type} (xs : List α) (k : Nat) : cutD xs none (some (k : Int)) = xs.take k := by
  unfold cutD
  rw [HT.sIx_none, HT.sIx_nat, List.drop_zero, Nat.sub_zero, ← List.take_eq_take_min]
theorem cut_from {α : Type} (xs : List α) (k : Nat) : cutD xs (some (k : Int)) none = xs.drop k := by
  unfold cutD
  rw [HT.sIx_none, HT.sIx_nat]
  by_cases h : k ≤ xs.length
  · rw [Nat.min_eq_left h, List.take_of_length_le (by rw [List.length_drop]; omega)]
  · rw [Nat.min_eq_right (by omega), List.drop_length, List.take_nil, List.drop_of_length_le (by omega)]
theorem cut_all {α : Type} (xs : List α) : cutD xs none none = xs := by
  unfold cutD
  rw [HT.sIx_none, HT.sIx_none, List.drop_zero, Nat.sub_zero, List.take_length]
theorem choose_list {α : Type} (d : α) {F : α → D} : ∀ (ys : List D) (Q : Nat → α → Prop), (∀ i y, ys[i]? = some y → ∃ t, y = F t ∧ Q i t) → ∃ ts : List α, ys = ts.map F ∧ ∀ i, i < ts.length → Q i (ts.getD i d)
  | [], _, _ => ⟨[], rfl, fun i h => by cases h⟩
  | y :: ys, Q, h => by
    obtain ⟨t, rfl, q⟩ := h 0 y rfl
    obtain ⟨ts, rfl, hq⟩ := choose_list d ys (fun i => Q (i + 1)) fun i y hy => h (i + 1) y (by simpa using hy)
    refine ⟨t :: ts, rfl, fun i hi => ?_⟩
    cases i with
    | zero => exact q
    | succ i => exact hq i (by simpa using hi)
theorem filter_range (r : List Int) : r.filter (fun s => decide (¬ s = 0)) = ((List.range r.length).filter fun j => decide (¬ r.getD j 0 = 0)).map fun j => r.getD j 0 := by
  have e : r = (List.range r.length).map fun j => r.getD j 0 := by
    refine List.ext_getElem? fun i => ?_
    rw [List.getElem?_map]
    by_cases h : i < r.length
    · rw [List.getElem?_range h]
      simp [List.getElem?_eq_getElem h]
    · rw [List.getElem?_eq_none (by omega), List.getElem?_eq_none (by simpa using h)]
      rfl
  conv => lhs; rw [e]
  rw [List.filter_map]
  rfl
theorem signs_filter {size : Nat} {rows : List (List Int)} (h : IRow size rows) {i : Nat} (hi : i < size) : (rows.getD i []).filter (fun s => decide (¬ s = 0)) = signsOf rows i := by
  have hi' : i < rows.length := by rw [h.1]; exact hi
  have hl : (rows.getD i []).length = rows.length := by
    have := (h.2 _ (getD_mem [] hi')).1
    rw [this, h.1]
  rw [filter_range, hl]
  rfl
theorem tables_dr (n : Nat) {size : Nat} {rows : List (List Int)} (h : IRow size rows) (h3 : size ≤ 3) {m : Nat} (m1 : 1 ≤ m) (m4 : m ≤ 4) :
    Dr 150 ((B0.lev (n + 4)).1 33 [.pen, rowsT rows, .int m]) (fun d => ∃ tables, d = tabsD tables ∧ TabsOk m rows tables) := by
  rw [st__law_level_tables]
  refine runDr_of ?_
  unfold ir__law_level_tables
  rw [S_ret, X_ev]
  have hl : ((rowsR rows).map D.tup).length = size := by unfold rowsR; rw [List.length_map, List.length_map]; exact h.1
  rw [show frz (frE (.b1 .tuple (.lc [3] (.call 32 (.cons (.var 0) (.cons (.lc [4] (.var 4) [4] (.sq (.slot 3)) (.yes (.cmp .ne (.slot 4) (.int 0)))) (.cons (.var 2) .nil)))) [3] (.sq (.slot 1)) .no))) (startE 5 [D.pen, rowsT rows, .int m]) = [.sh .pen, .sh (rowsT rows), .sh (.int m), .un, .un] from rfl]
  rw [E_b1, lc_any (xs := (rowsR rows).map .tup) rfl (by omega)]
  simp only [bnd_bnd, bnd_ret, b1_tuple_l]
  refine Dr.bnd (k1 := 150) (k2 := 0) ((mapM_dr (k := 50) (by decide) _ (fun i y => ∃ t : List Int, y = .tup (t.map .int) ∧ TabOk m (signsOf rows i) t) fun i x hx => ?_).mono (by rw [hl]; show (50 : Int) * size ≤ 150; omega) fun _ h => h) (by decide) (by decide) fun ys hys => ?_
  · obtain ⟨r, hr, rfl⟩ := map_at hx
    unfold rowsR at hr
    obtain ⟨r', hr', rfl⟩ : ∃ r', rows[i]? = some r' ∧ r = r'.map D.int := by
      rw [List.getElem?_map] at hr
      cases q : rows[i]? with
      | none => rw [q] at hr; cases hr
      | some a => rw [q] at hr; cases hr; exact ⟨a, rfl, rfl⟩
    have hi : i < size := by
      rw [← h.1]
      exact (List.getElem?_eq_some_iff.mp hr').1
    have hrl : r'.length = size := (h.2 _ (List.mem_of_getElem? hr')).1
    have hg : rows.getD i [] = r' := by simp [hr']
    have hso := signs_ok h (by omega) hi
    rw [elM_one, ifM_no]
    have hlc : evE TT (B0.lev (n + 3)).1 (B0.lev (n + 3)).2 (.lc [4] (.var 4) [4] (.sq (.slot 3)) (.yes (.cmp .ne (.slot 4) (.int 0)))) [.sh .pen, .sh (rowsT rows), .sh (.int m), .sh (.tup (r'.map .int)), .un] = ret (.lst ((signsOf rows i).map .int)) := by
      rw [lc_fil r' .int (fun s => decide (¬ s = 0)) .int rfl (by omega) fun s hs => ?_]
      · rw [← hg, signs_filter h hi]
      · simp only [elM_one, ifM_no, ifM_yes, wipeE_nil, wipeE_cons, X_ev, S_set, S_own, S_exp, S_app, S_par, S_rws, slD_lst, slD_sh, ownD_lst, seqD_nx, List.set_cons_succ, List.set_cons_zero, E_var, E_slot, E_non, E_bl, E_int, E_str, E_bin, E_neg, E_cmp, E_chn, E_and, E_or, E_not, E_ite, E_call, E_mk, E_fld, E_nfl, E_idx, E_slc, E_rev, E_tup, E_lst, E_b1, E_b2, E_isi, E_dic, E_lrg, A_nil, A_cons, O_no, O_yes, I_r1, I_r2, I_sq, getSh, getAny, List.getElem?_cons_zero, List.getElem?_cons_succ, bnd_ret, bnd_bnd, neg_int, cmp_eq_int, cmp_ne_int, cmp_lt_int, cmp_le_int, cmp_gt_int, cmp_ge_int, bin_add_int, bin_sub_int, b1_int, b1_len_l, b1_len_t, b1_tuple_l, b1_tuple_t, b1_list_l, b1_list_t, thenD_bl, elseD_bl, iffD_bl, notD_bl, slc_lst, slc_tup, part_none, part_int, List.length_cons, List.length_nil, List.length_map]
        by_cases z : s = 0 <;> simp [z]
    show Dr 50 (bnd (evE TT (B0.lev (n + 3)).1 (B0.lev (n + 3)).2 (.call 32 (.cons (.var 0) (.cons (.lc [4] (.var 4) [4] (.sq (.slot 3)) (.yes (.cmp .ne (.slot 4) (.int 0)))) (.cons (.var 2) .nil)))) [.sh .pen, .sh (rowsT rows), .sh (.int m), .sh (.tup (r'.map .int)), .un]) fun y => ret (some y)) _
    simp only [E_var, E_slot, E_non, E_bl, E_int, E_str, E_bin, E_neg, E_cmp, E_chn, E_and, E_or, E_not, E_ite, E_call, E_mk, E_fld, E_nfl, E_idx, E_slc, E_rev, E_tup, E_lst, E_b1, E_b2, E_isi, E_dic, E_lrg, A_nil, A_cons, O_no, O_yes, I_r1, I_r2, I_sq, getSh, getAny, List.getElem?_cons_zero, List.getElem?_cons_succ, bnd_ret, bnd_bnd, neg_int, cmp_eq_int, cmp_ne_int, cmp_lt_int, cmp_le_int, cmp_gt_int, cmp_ge_int, bin_add_int, bin_sub_int, b1_int, b1_len_l, b1_len_t, b1_tuple_l, b1_tuple_t, b1_list_l, b1_list_t, thenD_bl, elseD_bl, iffD_bl, notD_bl, slc_lst, slc_tup, part_none, part_int, List.length_cons, List.length_nil, List.length_map, hlc]
    refine Dr.bnd (k1 := 50) (k2 := 0) (table_dr n hso (most := m) (by omega) (by omega)) (by decide) (by decide) fun d hd => ?_
    obtain ⟨ts, ht, rfl⟩ := hd
    exact Dr.ret (by decide) ⟨_, rfl, _, rfl, table_ok hso ht⟩
  · obtain ⟨h1, h2⟩ := hys
    obtain ⟨ts, rfl, hq⟩ := choose_list [] ys _ h2
    rw [List.length_map, hl] at h1
    exact DrS.up (by decide) rfl (EnvLe.refl _) ⟨_, rfl, ts, rfl, by rw [h1, h.1], fun i hi => hq i (by rw [h1, ← h.1]; exact hi)⟩
end UK

set_option Elab.async false
set_option linter.all false
set_option maxRecDepth 100000
set_option maxHeartbeats 400000
namespace UK
open PySem PySem.Spec PyProof.Rows L2
theorem draw_nat (n : Nat) (many : Nat) (h : 0 < many) (h2 : many < 1000000) : Dr 1 ((B0.lev (n + 1)).1 27 [.pen, .int many]) (fun d => ∃ r : Nat, d = .int r ∧ r < many) := (draw_dr n many (by omega) (by omega)).mono (Int.le_refl 1) fun d hd => by
  obtain ⟨r, rfl, r0, r1⟩ := hd
  exact ⟨r.toNat, by rw [show ((r.toNat : Nat) : Int) = r by omega], by omega⟩
theorem set_cut {α : Type} {xs : List α} {i : Nat} (x : α) (h : i < xs.length) : xs.take i ++ [x] ++ xs.drop (i + 1) = xs.set i x := by
  rw [List.set_eq_take_append_cons_drop, if_pos h, List.append_assoc]
  rfl
theorem IRow.put {size : Nat} {rows : List (List Int)} (h : IRow size rows) {i j : Nat} (hi : i < size) {v : Int} (h1 : -1 ≤ v) (h2 : v ≤ 2) : IRow size (rows.set i ((rows.getD i []).set j v)) := by
  have hi' : i < rows.length := by rw [h.1]; exact hi
  refine ⟨by rw [List.length_set]; exact h.1, fun r hr => ?_⟩
  rcases List.mem_or_eq_of_mem_set hr with hr | rfl
  · exact h.2 r hr
  · have q := h.2 _ (getD_mem [] hi')
    refine ⟨by rw [List.length_set]; exact q.1, fun x hx => ?_⟩
    rcases List.mem_or_eq_of_mem_set hx with hx | rfl
    · exact q.2 x hx
    · exact ⟨h1, h2⟩
theorem some_rules_dr (n : Nat) {size : Nat} {rows : List (List Int)} (h : IRow size rows) (h0 : 0 < size) (h3 : size ≤ 3) {m : Nat} (m1 : 1 ≤ m) (m4 : m ≤ 4) :
    Dr 160 ((B0.lev (n + 5)).1 41 [.pen, rowsT rows, .int m]) (fun d => ∃ rows' m' tables, d = rulesD rows' (m' : Nat) tables ∧ IRow size rows' ∧ 1 ≤ m' ∧ m' ≤ 4 ∧ TabsOk m' rows' tables) := by
  rw [st__law_some_rules]
  refine runDr_of ?_
  unfold ir__law_some_rules
  have hl : ((rowsR rows).map D.tup).length = size := by unfold rowsR; rw [List.length_map, List.length_map]; exact h.1
  refine DrS.seq (k1 := 1) (k2 := 159) (Q1 := fun f p => f = .nx ∧ ∃ w : Nat, p = [.sh .pen, .sh (rowsT rows), .sh (.int m), .sh (.int w), .sh (.int size), .un, .un]) ?_ (by decide) (by decide) ?_ (fun f p hf hq => absurd hq.1 hf)
  · simp only [startE, List.map_cons, List.map_nil, List.replicate, X_ev, S_set, S_own, S_exp, S_app, S_par, S_rws, slD_lst, slD_sh, ownD_lst, seqD_nx, List.set_cons_succ, List.set_cons_zero, frE_var, frE_slot, frE_non, frE_bl, frE_int, frE_str, frE_bin, frE_neg, frE_cmp, frE_chn, frE_and, frE_or, frE_not, frE_ite, frE_call, frE_mk, frE_fld, frE_nfl, frE_idx, frE_slc, frE_rev, frE_tup, frE_lst, frE_b1, frE_b2, frE_isi, frE_lc, frE_lc2, frE_dic, frE_lrg, frE_pget, frA_nil, frA_cons, frO_no, frO_yes, frI_r1, frI_r2, frI_sq, frR_lc, frR_call, frR_ite, frR_var, List.append_nil, List.cons_append, List.nil_append, frz_cons, frz_nil, frz1, E_var, E_slot, E_non, E_bl, E_int, E_str, E_bin, E_neg, E_cmp, E_chn, E_and, E_or, E_not, E_ite, E_call, E_mk, E_fld, E_nfl, E_idx, E_slc, E_rev, E_tup, E_lst, E_b1, E_b2, E_isi, E_dic, E_lrg, A_nil, A_cons, O_no, O_yes, I_r1, I_r2, I_sq, getSh, getAny, List.getElem?_cons_zero, List.getElem?_cons_succ, bnd_ret, bnd_bnd, neg_int, cmp_eq_int, cmp_ne_int, cmp_lt_int, cmp_le_int, cmp_gt_int, cmp_ge_int, bin_add_int, bin_sub_int, b1_int, b1_len_l, b1_len_t, b1_tuple_l, b1_tuple_t, b1_list_l, b1_list_t, thenD_bl, elseD_bl, iffD_bl, notD_bl, slc_lst, slc_tup, part_none, part_int, List.length_cons, List.length_nil, List.length_map]
    refine Dr.bnd (k1 := 1) (k2 := 0) (draw_nat (n + 3) 8 (by decide) (by decide)) (by decide) (by decide) fun d hd => ?_
    obtain ⟨w, rfl, _⟩ := hd
    rw [show b1D .len (rowsT rows) = ret (.int size) by unfold rowsT; rw [b1_len_t, hl]]
    exact DrS.up (by decide) rfl (EnvLe.refl _) ⟨rfl, w, rfl⟩
  rintro p ⟨_, w, rfl⟩
  refine DrS.seq (k1 := 0) (k2 := 159) (Q1 := fun f p => f = .nx ∧ ∃ m' : Nat, p = [.sh .pen, .sh (rowsT rows), .sh (.int m'), .sh (.int w), .sh (.int size), .un, .un] ∧ 1 ≤ m' ∧ m' ≤ 4) ?_ (by decide) (by decide) ?_ (fun f p hf hq => absurd hq.1 hf)
  · refine DrS.ite (t := decide ((w : Int) = 0)) (p := [.sh .pen, .sh (rowsT rows), .sh (.int m), .sh (.int w), .sh (.int size), .un, .un]) (by simp only [X_ev, S_set, S_own, S_exp, S_app, S_par, S_rws, slD_lst, slD_sh, ownD_lst, seqD_nx, List.set_cons_succ, List.set_cons_zero, frE_var, frE_slot, frE_non, frE_bl, frE_int, frE_str, frE_bin, frE_neg, frE_cmp, frE_chn, frE_and, frE_or, frE_not, frE_ite, frE_call, frE_mk, frE_fld, frE_nfl, frE_idx, frE_slc, frE_rev, frE_tup, frE_lst, frE_b1, frE_b2, frE_isi, frE_lc, frE_lc2, frE_dic, frE_lrg, frE_pget, frA_nil, frA_cons, frO_no, frO_yes, frI_r1, frI_r2, frI_sq, frR_lc, frR_call, frR_ite, frR_var, List.append_nil, List.cons_append, List.nil_append, frz_cons, frz_nil, frz1, E_var, E_slot, E_non, E_bl, E_int, E_str, E_bin, E_neg, E_cmp, E_chn, E_and, E_or, E_not, E_ite, E_call, E_mk, E_fld, E_nfl, E_idx, E_slc, E_rev, E_tup, E_lst, E_b1, E_b2, E_isi, E_dic, E_lrg, A_nil, A_cons, O_no, O_yes, I_r1, I_r2, I_sq, getSh, getAny, List.getElem?_cons_zero, List.getElem?_cons_succ, bnd_ret, bnd_bnd, neg_int, cmp_eq_int, cmp_ne_int, cmp_lt_int, cmp_le_int, cmp_gt_int, cmp_ge_int, bin_add_int, bin_sub_int, b1_int, b1_len_l, b1_len_t, b1_tuple_l, b1_tuple_t, b1_list_l, b1_list_t, thenD_bl, elseD_bl, iffD_bl, notD_bl, slc_lst, slc_tup, part_none, part_int, List.length_cons, List.length_nil, List.length_map]) (fun _ => ?_) (fun _ => (Rl.nop ⟨rfl, m, rfl, m1, m4⟩).dr (by decide))
    refine DrS.up (by decide) (f := .nx) (e := [.sh .pen, .sh (rowsT rows), .sh (.int ((m % 4 + 1 : Nat) : Int)), .sh (.int w), .sh (.int size), .un, .un]) ?_ (EnvLe.refl _) ⟨rfl, m % 4 + 1, rfl, by omega, by omega⟩
    simp only [X_ev, S_set, S_own, S_exp, S_app, S_par, S_rws, slD_lst, slD_sh, ownD_lst, seqD_nx, List.set_cons_succ, List.set_cons_zero, frE_var, frE_slot, frE_non, frE_bl, frE_int, frE_str, frE_bin, frE_neg, frE_cmp, frE_chn, frE_and, frE_or, frE_not, frE_ite, frE_call, frE_mk, frE_fld, frE_nfl, frE_idx, frE_slc, frE_rev, frE_tup, frE_lst, frE_b1, frE_b2, frE_isi, frE_lc, frE_lc2, frE_dic, frE_lrg, frE_pget, frA_nil, frA_cons, frO_no, frO_yes, frI_r1, frI_r2, frI_sq, frR_lc, frR_call, frR_ite, frR_var, List.append_nil, List.cons_append, List.nil_append, frz_cons, frz_nil, frz1, E_var, E_slot, E_non, E_bl, E_int, E_str, E_bin, E_neg, E_cmp, E_chn, E_and, E_or, E_not, E_ite, E_call, E_mk, E_fld, E_nfl, E_idx, E_slc, E_rev, E_tup, E_lst, E_b1, E_b2, E_isi, E_dic, E_lrg, A_nil, A_cons, O_no, O_yes, I_r1, I_r2, I_sq, getSh, getAny, List.getElem?_cons_zero, List.getElem?_cons_succ, bnd_ret, bnd_bnd, neg_int, cmp_eq_int, cmp_ne_int, cmp_lt_int, cmp_le_int, cmp_gt_int, cmp_ge_int, bin_add_int, bin_sub_int, b1_int, b1_len_l, b1_len_t, b1_tuple_l, b1_tuple_t, b1_list_l, b1_list_t, thenD_bl, elseD_bl, iffD_bl, notD_bl, slc_lst, slc_tup, part_none, part_int, List.length_cons, List.length_nil, List.length_map]
    rw [bin_mod_int (by decide), bnd_ret, bin_add_int, bnd_ret, show (m : Int) % 4 + 1 = ((m % 4 + 1 : Nat) : Int) by omega]
  rintro p ⟨_, m', rfl, m1', m4'⟩
  refine DrS.seq (k1 := 9) (k2 := 150) (Q1 := fun f p => f = .nx ∧ ∃ rows' : List (List Int), p = [.sh .pen, .sh (rowsT rows'), .sh (.int m'), .un, .un, .un, .un] ∧ IRow size rows') ?_ (by decide) (by decide) ?_ (fun f p hf hq => absurd hq.1 hf)
  · refine DrS.ite (t := decide ((w : Int) = 1)) (p := [.sh .pen, .sh (rowsT rows), .sh (.int m'), .sh (.int w), .sh (.int size), .un, .un]) (by simp only [X_ev, S_set, S_own, S_exp, S_app, S_par, S_rws, slD_lst, slD_sh, ownD_lst, seqD_nx, List.set_cons_succ, List.set_cons_zero, frE_var, frE_slot, frE_non, frE_bl, frE_int, frE_str, frE_bin, frE_neg, frE_cmp, frE_chn, frE_and, frE_or, frE_not, frE_ite, frE_call, frE_mk, frE_fld, frE_nfl, frE_idx, frE_slc, frE_rev, frE_tup, frE_lst, frE_b1, frE_b2, frE_isi, frE_lc, frE_lc2, frE_dic, frE_lrg, frE_pget, frA_nil, frA_cons, frO_no, frO_yes, frI_r1, frI_r2, frI_sq, frR_lc, frR_call, frR_ite, frR_var, List.append_nil, List.cons_append, List.nil_append, frz_cons, frz_nil, frz1, E_var, E_slot, E_non, E_bl, E_int, E_str, E_bin, E_neg, E_cmp, E_chn, E_and, E_or, E_not, E_ite, E_call, E_mk, E_fld, E_nfl, E_idx, E_slc, E_rev, E_tup, E_lst, E_b1, E_b2, E_isi, E_dic, E_lrg, A_nil, A_cons, O_no, O_yes, I_r1, I_r2, I_sq, getSh, getAny, List.getElem?_cons_zero, List.getElem?_cons_succ, bnd_ret, bnd_bnd, neg_int, cmp_eq_int, cmp_ne_int, cmp_lt_int, cmp_le_int, cmp_gt_int, cmp_ge_int, bin_add_int, bin_sub_int, b1_int, b1_len_l, b1_len_t, b1_tuple_l, b1_tuple_t, b1_list_l, b1_list_t, thenD_bl, elseD_bl, iffD_bl, notD_bl, slc_lst, slc_tup, part_none, part_int, List.length_cons, List.length_nil, List.length_map]) (fun _ => ?_) (fun _ => DrS.up (by decide) rfl (p := [.sh .pen, .sh (rowsT rows), .sh (.int m'), .un, .un, .un, .un]) (by repeat (first | exact EnvLe.refl _ | apply EnvLe.same | apply EnvLe.un)) ⟨rfl, rows, rfl, h⟩)
    refine DrS.seq (k1 := 2) (k2 := 7) (Q1 := fun f p => f = .nx ∧ ∃ i j : Nat, p = [.sh .pen, .sh (rowsT rows), .sh (.int m'), .un, .un, .sh (.int i), .sh (.int j)] ∧ i < size ∧ j < size) ?_ (by decide) (by decide) ?_ (fun f p hf hq => absurd hq.1 hf)
    · simp only [X_ev, S_set, S_own, S_exp, S_app, S_par, S_rws, slD_lst, slD_sh, ownD_lst, seqD_nx, List.set_cons_succ, List.set_cons_zero, frE_var, frE_slot, frE_non, frE_bl, frE_int, frE_str, frE_bin, frE_neg, frE_cmp, frE_chn, frE_and, frE_or, frE_not, frE_ite, frE_call, frE_mk, frE_fld, frE_nfl, frE_idx, frE_slc, frE_rev, frE_tup, frE_lst, frE_b1, frE_b2, frE_isi, frE_lc, frE_lc2, frE_dic, frE_lrg, frE_pget, frA_nil, frA_cons, frO_no, frO_yes, frI_r1, frI_r2, frI_sq, frR_lc, frR_call, frR_ite, frR_var, List.append_nil, List.cons_append, List.nil_append, frz_cons, frz_nil, frz1, E_var, E_slot, E_non, E_bl, E_int, E_str, E_bin, E_neg, E_cmp, E_chn, E_and, E_or, E_not, E_ite, E_call, E_mk, E_fld, E_nfl, E_idx, E_slc, E_rev, E_tup, E_lst, E_b1, E_b2, E_isi, E_dic, E_lrg, A_nil, A_cons, O_no, O_yes, I_r1, I_r2, I_sq, getSh, getAny, List.getElem?_cons_zero, List.getElem?_cons_succ, bnd_ret, bnd_bnd, neg_int, cmp_eq_int, cmp_ne_int, cmp_lt_int, cmp_le_int, cmp_gt_int, cmp_ge_int, bin_add_int, bin_sub_int, b1_int, b1_len_l, b1_len_t, b1_tuple_l, b1_tuple_t, b1_list_l, b1_list_t, thenD_bl, elseD_bl, iffD_bl, notD_bl, slc_lst, slc_tup, part_none, part_int, List.length_cons, List.length_nil, List.length_map]
      refine Dr.bnd (k1 := 1) (k2 := 1) (draw_nat (n + 3) size h0 (by omega)) (by decide) (by decide) fun d hd => ?_
      obtain ⟨i, rfl, hi⟩ := hd
      refine Dr.bnd (k1 := 1) (k2 := 0) (draw_nat (n + 3) size h0 (by omega)) (by decide) (by decide) fun d hd => ?_
      obtain ⟨j, rfl, hj⟩ := hd
      exact DrS.up (by decide) rfl (p := [.sh .pen, .sh (rowsT rows), .sh (.int m'), .un, .un, .sh (.int i), .sh (.int j)]) (by repeat (first | exact EnvLe.refl _ | apply EnvLe.same | apply EnvLe.un)) ⟨rfl, i, j, rfl, hi, hj⟩
    rintro p ⟨_, i, j, rfl, hi, hj⟩
    have hrow : idxD (rowsT rows) (.int i) = ret (.tup ((rows.getD i []).map .int)) := row_at h hi
    have hrl : (rows.getD i []).length = size := (h.2 _ (getD_mem [] (by rw [h.1]; exact hi))).1
    simp only [S_set, X_ev, S_set, S_own, S_exp, S_app, S_par, S_rws, slD_lst, slD_sh, ownD_lst, seqD_nx, List.set_cons_succ, List.set_cons_zero, frE_var, frE_slot, frE_non, frE_bl, frE_int, frE_str, frE_bin, frE_neg, frE_cmp, frE_chn, frE_and, frE_or, frE_not, frE_ite, frE_call, frE_mk, frE_fld, frE_nfl, frE_idx, frE_slc, frE_rev, frE_tup, frE_lst, frE_b1, frE_b2, frE_isi, frE_lc, frE_lc2, frE_dic, frE_lrg, frE_pget, frA_nil, frA_cons, frO_no, frO_yes, frI_r1, frI_r2, frI_sq, frR_lc, frR_call, frR_ite, frR_var, List.append_nil, List.cons_append, List.nil_append, frz_cons, frz_nil, frz1, E_var, E_slot, E_non, E_bl, E_int, E_str, E_bin, E_neg, E_cmp, E_chn, E_and, E_or, E_not, E_ite, E_call, E_mk, E_fld, E_nfl, E_idx, E_slc, E_rev, E_tup, E_lst, E_b1, E_b2, E_isi, E_dic, E_lrg, A_nil, A_cons, O_no, O_yes, I_r1, I_r2, I_sq, getSh, getAny, List.getElem?_cons_zero, List.getElem?_cons_succ, bnd_ret, bnd_bnd, neg_int, cmp_eq_int, cmp_ne_int, cmp_lt_int, cmp_le_int, cmp_gt_int, cmp_ge_int, bin_add_int, bin_sub_int, b1_int, b1_len_l, b1_len_t, b1_tuple_l, b1_tuple_t, b1_list_l, b1_list_t, thenD_bl, elseD_bl, iffD_bl, notD_bl, slc_lst, slc_tup, part_none, part_int, List.length_cons, List.length_nil, List.length_map, rowsT, show (i : Int) + 1 = ((i + 1 : Nat) : Int) from rfl, show (j : Int) + 1 = ((j + 1 : Nat) : Int) from rfl, cut_to, cut_from, show idxD (.tup ((rowsR rows).map .tup)) (.int i) = _ from hrow]
    rw [guard_le (by decide), bnd_ret]
    refine Dr.bnd (k1 := 1) (k2 := 0) (sg4 (n + 2)) (by decide) (by decide) fun d hd => ?_
    obtain ⟨v, rfl, v1, v2⟩ := hd
    have t1 : ((rowsR rows).map D.tup).take i = (rows.take i).map fun r => .tup (r.map .int) := by
      unfold rowsR
      rw [List.map_map, List.map_take]
      rfl
    have t2 : ((rowsR rows).map D.tup).drop (i + 1) = (rows.drop (i + 1)).map fun r => .tup (r.map .int) := by
      unfold rowsR
      rw [List.map_map, List.map_drop]
      rfl
    rw [guard_le (by decide), bnd_ret, add_tup (by simp only [List.length_append, List.length_take, List.length_drop, List.length_map, List.length_cons, List.length_nil, hl, hrl]; omega), bnd_ret, add_tup (by simp only [List.length_append, List.length_take, List.length_drop, List.length_map, List.length_cons, List.length_nil, hl, hrl]; omega), bnd_ret, guard_le (by decide), bnd_ret, add_tup (by simp only [List.length_append, List.length_take, List.length_drop, List.length_map, List.length_cons, List.length_nil, hl, hrl]; omega), bnd_ret, add_tup (by simp only [List.length_append, List.length_take, List.length_drop, List.length_map, List.length_cons, List.length_nil, hl, hrl]; omega)]
    refine DrS.up (by decide) rfl (p := [.sh .pen, .sh (rowsT (rows.set i ((rows.getD i []).set j v))), .sh (.int m'), .un, .un, .un, .un]) ?_ ⟨rfl, _, rfl, h.put hi v1 v2⟩
    have er : rowsT (rows.set i ((rows.getD i []).set j v)) = .tup ((((rowsR rows).map D.tup).take i ++ [D.tup ((((rows.getD i []).map D.int).take j ++ [D.int v]) ++ ((rows.getD i []).map D.int).drop (j + 1))]) ++ ((rowsR rows).map D.tup).drop (i + 1)) := by
      rw [set_cut (xs := (rows.getD i []).map D.int) (.int v) (by rw [List.length_map, hrl]; exact hj), set_cut (xs := (rowsR rows).map D.tup) _ (by omega)]
      unfold rowsT rowsR
      rw [List.map_map, List.map_map, List.map_set, ← List.map_set (f := D.int)]
      rfl
    rw [er]
    exact (by repeat (first | exact EnvLe.refl _ | apply EnvLe.same | apply EnvLe.un))
  rintro p ⟨_, rows', rfl, h'⟩
  have hw := web_ini (n + 1) (rowsR rows') (by rw [show (rowsR rows').length = size by unfold rowsR; rw [List.length_map, h'.1]]; exact h0) (by rw [show (rowsR rows').length = size by unfold rowsR; rw [List.length_map, h'.1]]; exact h3) (by rw [show (rowsR rows').length = size by unfold rowsR; rw [List.length_map, h'.1]]; exact h'.ok)
  simp only [S_ret, X_ev, S_set, S_own, S_exp, S_app, S_par, S_rws, slD_lst, slD_sh, ownD_lst, seqD_nx, List.set_cons_succ, List.set_cons_zero, frE_var, frE_slot, frE_non, frE_bl, frE_int, frE_str, frE_bin, frE_neg, frE_cmp, frE_chn, frE_and, frE_or, frE_not, frE_ite, frE_call, frE_mk, frE_fld, frE_nfl, frE_idx, frE_slc, frE_rev, frE_tup, frE_lst, frE_b1, frE_b2, frE_isi, frE_lc, frE_lc2, frE_dic, frE_lrg, frE_pget, frA_nil, frA_cons, frO_no, frO_yes, frI_r1, frI_r2, frI_sq, frR_lc, frR_call, frR_ite, frR_var, List.append_nil, List.cons_append, List.nil_append, frz_cons, frz_nil, frz1, E_var, E_slot, E_non, E_bl, E_int, E_str, E_bin, E_neg, E_cmp, E_chn, E_and, E_or, E_not, E_ite, E_call, E_mk, E_fld, E_nfl, E_idx, E_slc, E_rev, E_tup, E_lst, E_b1, E_b2, E_isi, E_dic, E_lrg, A_nil, A_cons, O_no, O_yes, I_r1, I_r2, I_sq, getSh, getAny, List.getElem?_cons_zero, List.getElem?_cons_succ, bnd_ret, bnd_bnd, neg_int, cmp_eq_int, cmp_ne_int, cmp_lt_int, cmp_le_int, cmp_gt_int, cmp_ge_int, bin_add_int, bin_sub_int, b1_int, b1_len_l, b1_len_t, b1_tuple_l, b1_tuple_t, b1_list_l, b1_list_t, thenD_bl, elseD_bl, iffD_bl, notD_bl, slc_lst, slc_tup, part_none, part_int, List.length_cons, List.length_nil, List.length_map, show (B0.lev (n + 4)).2 0 [rowsT rows'] = _ from hw]
  refine Dr.bnd (k1 := 150) (k2 := 0) (tables_dr n h' h3 m1' m4') (by decide) (by decide) fun d hd => ?_
  obtain ⟨tables, rfl, ht⟩ := hd
  rw [rules_ini n h' h3 m1' m4' ht]
  exact DrS.up (by decide) rfl (EnvLe.refl _) ⟨_, rfl, rows', m', tables, rfl, h', m1', m4', ht⟩
end UK

set_option Elab.async false
set_option linter.all false
set_option maxRecDepth 100000
set_option maxHeartbeats 400000
namespace UK
open PySem PySem.Spec PyProof.Rows L2
/-! ### rests -/
def StOk (size m : Nat) (s : List Int) : Prop := s.length = size ∧ ∀ l ∈ s, 0 ≤ l ∧ l ≤ (m : Int)
theorem StOk.at {size m : Nat} {s : List Int} (h : StOk size m s) (k : Nat) : 0 ≤ s.getD k 0 ∧ s.getD k 0 ≤ (m : Int) := by
  by_cases q : k < s.length
  · exact h.2 _ (getD_mem 0 q)
  · rw [List.getD_eq_getElem?_getD, List.getElem?_eq_none (by omega)]
    exact ⟨Int.le_refl 0, by show (0 : Int) ≤ m; omega⟩
theorem get_getD {α : Type} {l : List α} {k : Nat} (h : k < l.length) (d : α) : l[k]? = some (l.getD k d) := by
  simp [List.getElem?_eq_getElem h]
def goalV (rows : List (List Int)) (m : Nat) (tables : List (List Int)) (s : List Int) (i : Nat) : Int := (tables.getD i []).getD (numAt ((m : Int) + 1) s (srcs rows i)).toNat 0
def restB (rows : List (List Int)) (m : Nat) (tables : List (List Int)) (s : List Int) : Bool := (List.range rows.length).all fun i => decide (goalV rows m tables s i = s.getD i 0)
theorem goal_in_bounds {size : Nat} {rows : List (List Int)} (h : IRow size rows) {m : Nat} {tables : List (List Int)} (ht : TabsOk m rows tables) {s : List Int} (hs : StOk size m s) {i : Nat} (hi : i < size) :
    tables[i]? = some (tables.getD i []) ∧ 0 ≤ numAt ((m : Int) + 1) s (srcs rows i) ∧ (tables.getD i [])[(numAt ((m : Int) + 1) s (srcs rows i)).toNat]? = some (goalV rows m tables s i) := by
  have hi' : i < rows.length := by rw [h.1]; exact hi
  have hit : i < tables.length := by rw [ht.1]; exact hi'
  obtain ⟨t1, t2, t3⟩ := ht.2 i hi'
  have hlen : (signsOf rows i).length = (srcs rows i).length := by unfold signsOf; rw [List.length_map]
  obtain ⟨b1, b2⟩ := num_bound (b := (m : Int) + 1) (state := s) (by omega) (fun k => by have := hs.at k; omega) (srcs rows i)
  rw [int_pow_nat] at b2
  rw [hlen] at t1
  have hn : (numAt ((m : Int) + 1) s (srcs rows i)).toNat < (tables.getD i []).length := by rw [t1]; omega
  refine ⟨by simp [List.getElem?_eq_getElem hit], b1, ?_⟩
  exact get_getD hn 0
theorem goal_ev2 (n : Nat) {size : Nat} {rows : List (List Int)} (h : IRow size rows) (h3 : size ≤ 3) {m : Nat} (m4 : m ≤ 4) {tables : List (List Int)} (ht : TabsOk m rows tables) {s : List Int} (hs : StOk size m s) {i : Nat} (hi : i < size) : (B0.lev (n + 2)).1 12 [rulesD rows m tables, stD s, natD i] = ret (.int (goalV rows m tables s i)) := by
  obtain ⟨a, b, c⟩ := goal_in_bounds h ht hs hi
  exact goal_ev n h h3 hi (small64_of (by omega) (by omega)) hs.1 a b c
theorem law_goal_ev2 (n : Nat) {size : Nat} {rows : List (List Int)} (h : IRow size rows) (h3 : size ≤ 3) {m : Nat} (m4 : m ≤ 4) {tables : List (List Int)} (ht : TabsOk m rows tables) {s : List Int} (hs : StOk size m s) {i : Nat} (hi : i < size) : (B0.lev (n + 2)).1 34 [rowsT rows, .int m, tabsD tables, stD s, natD i] = ret (.int (goalV rows m tables s i)) := by
  obtain ⟨a, b, c⟩ := goal_in_bounds h ht hs hi
  exact law_goal_ev n h h3 hi (small64_of (by omega) (by omega)) hs.1 (fun j => by have := hs.at j; exact small64_of (by omega) (by omega)) a b c
theorem rests_at_ev (n : Nat) {size : Nat} {rows : List (List Int)} (h : IRow size rows) (h3 : size ≤ 3) {m : Nat} (m4 : m ≤ 4) {tables : List (List Int)} (ht : TabsOk m rows tables) {s : List Int} (hs : StOk size m s) : (B0.lev (n + 3)).1 14 [rulesD rows m tables, stD s] = ret (.bl (restB rows m tables s)) := by
  rw [st_rests_at]
  refine runF_of ?_
  unfold ir_rests_at
  have hl : (rowsR rows).length = size := by unfold rowsR; rw [List.length_map]; exact h.1
  refine Rl.ret (d := .bl (restB rows m tables s)) (p := [.sh (rulesD rows m tables), .sh (stD s), .un]) ?_ rfl
  rw [X_ev]
  refine (show bnd (evE TT (B0.lev (n + 2)).1 (B0.lev (n + 2)).2 (.b1 .all (.lc [2] (.cmp .eq (.call 12 (.cons (.var 0) (.cons (.var 1) (.cons (.var 2) .nil)))) (.idx (.slot 1) (.var 2))) [2] (.r1 (.fld (.nfl 0 "web") "size")) .no)) [.sh (rulesD rows m tables), .sh (stD s), .un]) _ = _ from ?_)
  rw [E_b1, lc_all (List.range size) natD (fun i => .bl (decide (goalV rows m tables s i = s.getD i 0))) ?_ (by rw [List.length_range]; omega) ?_]
  · rw [bnd_ret, all_map, bnd_ret]
    unfold restB
    rw [h.1]
    rfl
  · rw [I_r1, E_fld, E_nfl, nfl_sh rfl, rules_web_f, bnd_ret, web_size_f, bnd_ret, hl, r1_nat (by omega)]
  · intro i hi
    have hi := List.mem_range.mp hi
    have e2 : idxD (stD s) (natD i) = ret (.int (s.getD i 0)) := idx_st (by rw [hs.1]; exact hi)
    simp only [elM_one, ifM_no, ifM_yes, wipeE_nil, wipeE_cons, X_ev, S_set, S_own, S_exp, S_app, S_par, S_rws, slD_lst, slD_sh, ownD_lst, seqD_nx, List.set_cons_succ, List.set_cons_zero, E_var, E_slot, E_non, E_bl, E_int, E_str, E_bin, E_neg, E_cmp, E_chn, E_and, E_or, E_not, E_ite, E_call, E_mk, E_fld, E_nfl, E_idx, E_slc, E_rev, E_tup, E_lst, E_b1, E_b2, E_isi, E_dic, E_lrg, A_nil, A_cons, O_no, O_yes, I_r1, I_r2, I_sq, getSh, getAny, List.getElem?_cons_zero, List.getElem?_cons_succ, bnd_ret, bnd_bnd, neg_int, cmp_eq_int, cmp_ne_int, cmp_lt_int, cmp_le_int, cmp_gt_int, cmp_ge_int, bin_add_int, bin_sub_int, b1_int, b1_len_l, b1_len_t, b1_tuple_l, b1_tuple_t, b1_list_l, b1_list_t, thenD_bl, elseD_bl, iffD_bl, notD_bl, slc_lst, slc_tup, part_none, part_int, List.length_cons, List.length_nil, List.length_map, goal_ev2 n h h3 m4 ht hs hi, e2]
theorem states_ok {size m : Nat} {s : List Int} (h : s ∈ states m size) : StOk size m s := by
  obtain ⟨h1, h2⟩ := states_mem h
  exact ⟨h1, fun l hl => by have := h2 l hl; omega⟩
theorem states_small2 {m size : Nat} (m4 : m ≤ 4) (h3 : size ≤ 3) : (states m size).length ≤ 1000 := by
  rw [states_len, levs_len]
  have h5 : ((m : Int) + 1).toNat ≤ 5 := by omega
  have h1 : ((m : Int) + 1).toNat ^ size ≤ 5 ^ size := Nat.pow_le_pow_left h5 size
  have h2 : 5 ^ size ≤ 5 ^ 3 := Nat.pow_le_pow_right (by decide) h3
  omega
def restsL (rows : List (List Int)) (m : Nat) (tables : List (List Int)) : List (List Int) := (states m rows.length).filter (restB rows m tables)
theorem level_rests_ev (n : Nat) {size : Nat} {rows : List (List Int)} (h : IRow size rows) (h3 : size ≤ 3) {m : Nat} (m4 : m ≤ 4) {tables : List (List Int)} (ht : TabsOk m rows tables) : (B0.lev (n + 4)).1 15 [rulesD rows m tables] = ret (.tup ((restsL rows m tables).map stD)) := by
  rw [st_level_rests]
  refine runF_of ?_
  unfold ir_level_rests
  refine Rl.ret (d := .tup ((restsL rows m tables).map stD)) (p := [.sh (rulesD rows m tables), .un]) ?_ rfl
  rw [X_ev]
  refine (show bnd (evE TT (B0.lev (n + 3)).1 (B0.lev (n + 3)).2 (.b1 .tuple (.lc [1] (.var 1) [1] (.sq (.call 13 (.cons (.var 0) .nil))) (.yes (.call 14 (.cons (.var 0) (.cons (.var 1) .nil)))))) [.sh (rulesD rows m tables), .un]) _ = _ from ?_)
  rw [E_b1, lc_fil (states m size) stD (restB rows m tables) stD ?_ (states_small2 m4 h3) ?_]
  · rw [bnd_ret, b1_tuple_l, bnd_ret]
    unfold restsL
    rw [h.1]
    rfl
  · simp only [E_var, E_slot, E_non, E_bl, E_int, E_str, E_bin, E_neg, E_cmp, E_chn, E_and, E_or, E_not, E_ite, E_call, E_mk, E_fld, E_nfl, E_idx, E_slc, E_rev, E_tup, E_lst, E_b1, E_b2, E_isi, E_dic, E_lrg, A_nil, A_cons, O_no, O_yes, I_r1, I_r2, I_sq, getSh, getAny, List.getElem?_cons_zero, List.getElem?_cons_succ, bnd_ret, bnd_bnd, neg_int, cmp_eq_int, cmp_ne_int, cmp_lt_int, cmp_le_int, cmp_gt_int, cmp_ge_int, bin_add_int, bin_sub_int, b1_int, b1_len_l, b1_len_t, b1_tuple_l, b1_tuple_t, b1_list_l, b1_list_t, thenD_bl, elseD_bl, iffD_bl, notD_bl, slc_lst, slc_tup, part_none, part_int, List.length_cons, List.length_nil, List.length_map, level_states_ev (n + 2) h h3 (most := m) (by omega) (by omega)]
    rfl
  · intro s hs
    simp only [elM_one, ifM_no, ifM_yes, wipeE_nil, wipeE_cons, X_ev, S_set, S_own, S_exp, S_app, S_par, S_rws, slD_lst, slD_sh, ownD_lst, seqD_nx, List.set_cons_succ, List.set_cons_zero, E_var, E_slot, E_non, E_bl, E_int, E_str, E_bin, E_neg, E_cmp, E_chn, E_and, E_or, E_not, E_ite, E_call, E_mk, E_fld, E_nfl, E_idx, E_slc, E_rev, E_tup, E_lst, E_b1, E_b2, E_isi, E_dic, E_lrg, A_nil, A_cons, O_no, O_yes, I_r1, I_r2, I_sq, getSh, getAny, List.getElem?_cons_zero, List.getElem?_cons_succ, bnd_ret, bnd_bnd, neg_int, cmp_eq_int, cmp_ne_int, cmp_lt_int, cmp_le_int, cmp_gt_int, cmp_ge_int, bin_add_int, bin_sub_int, b1_int, b1_len_l, b1_len_t, b1_tuple_l, b1_tuple_t, b1_list_l, b1_list_t, thenD_bl, elseD_bl, iffD_bl, notD_bl, slc_lst, slc_tup, part_none, part_int, List.length_cons, List.length_nil, List.length_map, rests_at_ev n h h3 m4 ht (states_ok hs)]
    by_cases q : restB rows m tables s = true <;> simp [q]
theorem law_level_rests_ev (n : Nat) {size : Nat} {rows : List (List Int)} (h : IRow size rows) (h3 : size ≤ 3) {m : Nat} (m4 : m ≤ 4) {tables : List (List Int)} (ht : TabsOk m rows tables) : (B0.lev (n + 3)).1 36 [rowsT rows, .int m, tabsD tables] = ret (.lst ((restsL rows m tables).map stD)) := by
  rw [st__law_level_rests]
  refine runF_of ?_
  unfold ir__law_level_rests
  have hl : ((rowsR rows).map D.tup).length = size := by unfold rowsR; rw [List.length_map, List.length_map]; exact h.1
  have hlen : b1D .len (rowsT rows) = ret (.int size) := by unfold rowsT; rw [b1_len_t, hl]
  refine Rl.ret (d := .lst ((restsL rows m tables).map stD)) (p := [.sh (rowsT rows), .sh (.int m), .sh (tabsD tables), .un, .un]) ?_ rfl
  rw [X_ev]
  refine (show bnd (evE TT (B0.lev (n + 2)).1 (B0.lev (n + 2)).2 (.lc [3] (.var 3) [3] (.sq (.call 35 (.cons (.b1 .len (.slot 0)) (.cons (.var 1) .nil)))) (.yes (.b1 .all (.lc [4] (.cmp .eq (.call 34 (.cons (.var 0) (.cons (.var 1) (.cons (.var 2) (.cons (.var 3) (.cons (.var 4) .nil)))))) (.idx (.slot 3) (.var 4))) [4] (.r1 (.b1 .len (.slot 0))) .no)))) [.sh (rowsT rows), .sh (.int m), .sh (tabsD tables), .un, .un]) _ = _ from ?_)
  rw [lc_fil (states m size) stD (restB rows m tables) stD ?_ (states_small2 m4 h3) ?_]
  · rw [bnd_ret]
    unfold restsL
    rw [h.1]
    rfl
  · simp only [E_var, E_slot, E_non, E_bl, E_int, E_str, E_bin, E_neg, E_cmp, E_chn, E_and, E_or, E_not, E_ite, E_call, E_mk, E_fld, E_nfl, E_idx, E_slc, E_rev, E_tup, E_lst, E_b1, E_b2, E_isi, E_dic, E_lrg, A_nil, A_cons, O_no, O_yes, I_r1, I_r2, I_sq, getSh, getAny, List.getElem?_cons_zero, List.getElem?_cons_succ, bnd_ret, bnd_bnd, neg_int, cmp_eq_int, cmp_ne_int, cmp_lt_int, cmp_le_int, cmp_gt_int, cmp_ge_int, bin_add_int, bin_sub_int, b1_int, b1_len_l, b1_len_t, b1_tuple_l, b1_tuple_t, b1_list_l, b1_list_t, thenD_bl, elseD_bl, iffD_bl, notD_bl, slc_lst, slc_tup, part_none, part_int, List.length_cons, List.length_nil, List.length_map, hlen, law_states_ev (n + 1) size h3 m (by omega) (by omega)]
    rfl
  · intro s hs
    have hs := states_ok hs
    rw [elM_one, ifM_yes]
    refine (show bnd (evE TT (B0.lev (n + 2)).1 (B0.lev (n + 2)).2 (.b1 .all (.lc [4] (.cmp .eq (.call 34 (.cons (.var 0) (.cons (.var 1) (.cons (.var 2) (.cons (.var 3) (.cons (.var 4) .nil)))))) (.idx (.slot 3) (.var 4))) [4] (.r1 (.b1 .len (.slot 0))) .no)) [.sh (rowsT rows), .sh (.int m), .sh (tabsD tables), .sh (stD s), .un]) _ = _ from ?_)
    rw [E_b1, lc_all (List.range size) natD (fun i => .bl (decide (goalV rows m tables s i = s.getD i 0))) ?_ (by rw [List.length_range]; omega) ?_]
    · rw [bnd_ret, all_map, bnd_ret]
      show iffD _ _ (.bl ((List.range size).all fun i => decide (goalV rows m tables s i = s.getD i 0))) = _
      rw [← h.1]
      show iffD _ _ (.bl (restB rows m tables s)) = _
      simp only [X_ev, S_set, S_own, S_exp, S_app, S_par, S_rws, slD_lst, slD_sh, ownD_lst, seqD_nx, List.set_cons_succ, List.set_cons_zero, E_var, E_slot, E_non, E_bl, E_int, E_str, E_bin, E_neg, E_cmp, E_chn, E_and, E_or, E_not, E_ite, E_call, E_mk, E_fld, E_nfl, E_idx, E_slc, E_rev, E_tup, E_lst, E_b1, E_b2, E_isi, E_dic, E_lrg, A_nil, A_cons, O_no, O_yes, I_r1, I_r2, I_sq, getSh, getAny, List.getElem?_cons_zero, List.getElem?_cons_succ, bnd_ret, bnd_bnd, neg_int, cmp_eq_int, cmp_ne_int, cmp_lt_int, cmp_le_int, cmp_gt_int, cmp_ge_int, bin_add_int, bin_sub_int, b1_int, b1_len_l, b1_len_t, b1_tuple_l, b1_tuple_t, b1_list_l, b1_list_t, thenD_bl, elseD_bl, iffD_bl, notD_bl, slc_lst, slc_tup, part_none, part_int, List.length_cons, List.length_nil, List.length_map, wipeE_cons, wipeE_nil]
      by_cases q : restB rows m tables s = true <;> simp [q]
    · simp only [E_var, E_slot, E_non, E_bl, E_int, E_str, E_bin, E_neg, E_cmp, E_chn, E_and, E_or, E_not, E_ite, E_call, E_mk, E_fld, E_nfl, E_idx, E_slc, E_rev, E_tup, E_lst, E_b1, E_b2, E_isi, E_dic, E_lrg, A_nil, A_cons, O_no, O_yes, I_r1, I_r2, I_sq, getSh, getAny, List.getElem?_cons_zero, List.getElem?_cons_succ, bnd_ret, bnd_bnd, neg_int, cmp_eq_int, cmp_ne_int, cmp_lt_int, cmp_le_int, cmp_gt_int, cmp_ge_int, bin_add_int, bin_sub_int, b1_int, b1_len_l, b1_len_t, b1_tuple_l, b1_tuple_t, b1_list_l, b1_list_t, thenD_bl, elseD_bl, iffD_bl, notD_bl, slc_lst, slc_tup, part_none, part_int, List.length_cons, List.length_nil, List.length_map, hlen]
      rw [r1_nat (by omega)]
    · intro i hi
      have hi := List.mem_range.mp hi
      have e2 : idxD (stD s) (natD i) = ret (.int (s.getD i 0)) := idx_st (by rw [hs.1]; exact hi)
      simp only [elM_one, ifM_no, ifM_yes, wipeE_nil, wipeE_cons, X_ev, S_set, S_own, S_exp, S_app, S_par, S_rws, slD_lst, slD_sh, ownD_lst, seqD_nx, List.set_cons_succ, List.set_cons_zero, E_var, E_slot, E_non, E_bl, E_int, E_str, E_bin, E_neg, E_cmp, E_chn, E_and, E_or, E_not, E_ite, E_call, E_mk, E_fld, E_nfl, E_idx, E_slc, E_rev, E_tup, E_lst, E_b1, E_b2, E_isi, E_dic, E_lrg, A_nil, A_cons, O_no, O_yes, I_r1, I_r2, I_sq, getSh, getAny, List.getElem?_cons_zero, List.getElem?_cons_succ, bnd_ret, bnd_bnd, neg_int, cmp_eq_int, cmp_ne_int, cmp_lt_int, cmp_le_int, cmp_gt_int, cmp_ge_int, bin_add_int, bin_sub_int, b1_int, b1_len_l, b1_len_t, b1_tuple_l, b1_tuple_t, b1_list_l, b1_list_t, thenD_bl, elseD_bl, iffD_bl, notD_bl, slc_lst, slc_tup, part_none, part_int, List.length_cons, List.length_nil, List.length_map, law_goal_ev2 n h h3 m4 ht hs hi, e2]
end UK

set_option Elab.async false
set_option linter.all false
set_option maxRecDepth 100000
set_option maxHeartbeats 400000
namespace UK
open PySem PySem.Spec PyProof.Rows L2
theorem nfl_0 {CT : CTab} {x : Str} {d : D} {r : Env'} : nflD CT x (.sh d :: r) 0 = fldD CT x d := rfl
theorem nfl_s {CT : CTab} {x : Str} {s : Slot} {r : Env'} {i : Nat} : nflD CT x (s :: r) (i + 1) = nflD CT x r i := by
  unfold nflD
  rw [List.getElem?_cons_succ]
theorem runF_at {T : Tabs} {φ ψ : Fns} {s : Sm} {N : Nat} {ds : List D} {d : D} (e : Env') (h0 : startE N ds = e) (h : Rl (evS T φ ψ s e) fun f _ => f = .ret d) : runF T φ ψ false s N ds = ret d := runF_of (h0 ▸ h)
theorem runDr_at {T : Tabs} {φ ψ : Fns} {s : Sm} {N : Nat} {ds : List D} {k : Int} {P : D → Prop} (e : Env') (h0 : startE N ds = e) (h : DrS k (evS T φ ψ s e) fun f _ => ∃ d, f = .ret d ∧ P d) : Dr k (runF T φ ψ false s N ds) P := runDr_of (h0 ▸ h)
/-! ### equality by value -/
mutual
def deq : D → D → Bool
  | .non, .non => true
  | .bl a, .bl b => a == b
  | .bl a, .int j => (if a then 1 else 0) == j
  | .int i, .bl b => i == (if b then 1 else 0)
  | .int i, .int j => i == j
  | .str x, .str y => x == y
  | .lst xs, .lst ys => deqs xs ys
  | .tup xs, .tup ys => deqs xs ys
  | _, _ => false
def deqs : List D → List D → Bool
  | [], [] => true
  | x :: xs, y :: ys => deq x y && deqs xs ys
  | [], _ :: _ => false
  | _ :: _, [] => false
end
/-- plain to a depth -/
def plk : Nat → D → Bool
  | _, .non => true
  | _, .bl _ => true
  | _, .int _ => true
  | _, .str x => PyData.strOk x
  | k + 1, .tup xs => xs.all (plk k)
  | k + 1, .lst xs => xs.all (plk k)
  | _, _ => false
theorem toPys_of {k : Nat} (ih : ∀ d, plk k d = true → ∃ x, toPy d = some x ∧ x.canLay0 = true ∧ x.depth ≤ k) : ∀ xs : List D, xs.all (plk k) = true → ∃ zs, toPys xs = some zs ∧ PyData.canLayAll0 zs = true ∧ PyData.depthAll zs ≤ k
  | [], _ => ⟨[], rfl, rfl, Nat.zero_le _⟩
  | d :: xs, h => by
    rw [List.all_cons, Bool.and_eq_true] at h
    obtain ⟨x, e1, c1, d1⟩ := ih d h.1
    obtain ⟨zs, e2, c2, d2⟩ := toPys_of ih xs h.2
    refine ⟨x :: zs, ?_, ?_, ?_⟩
    · unfold toPys
      rw [e1, e2]
    · rw [PyData.canLayAll0, c1, c2]
      rfl
    · rw [PyData.depthAll]
      omega
theorem toPy_of : ∀ (k : Nat) (d : D), plk k d = true → ∃ x, toPy d = some x ∧ x.canLay0 = true ∧ x.depth ≤ k
  | k, .non, _ => ⟨.none, rfl, rfl, Nat.zero_le _⟩
  | k, .bl b, _ => ⟨.bool b, rfl, rfl, Nat.zero_le _⟩
  | k, .int i, _ => ⟨.int i, rfl, rfl, Nat.zero_le _⟩
  | k, .str x, h => ⟨.str x, rfl, by
      have : PyData.strOk x = true := by cases k <;> exact h
      rw [PyData.canLay0, this], Nat.zero_le _⟩
  | k + 1, .tup xs, h => by
    obtain ⟨zs, e, c, d⟩ := toPys_of (toPy_of k) xs h
    refine ⟨.tuple zs, ?_, by rw [PyData.canLay0]; exact c, by rw [PyData.depth]; omega⟩
    unfold toPy
    rw [e]
    rfl
  | k + 1, .lst xs, h => by
    obtain ⟨zs, e, c, d⟩ := toPys_of (toPy_of k) xs h
    refine ⟨.list zs, ?_, by rw [PyData.canLay0]; exact c, by rw [PyData.depth]; omega⟩
    unfold toPy
    rw [e]
    rfl
  | 0, .tup xs, h => by cases h
  | 0, .lst xs, h => by cases h
  | 0, .ins _ _, h => by cases h
  | 0, .dic _ _, h => by cases h
  | 0, .pen, h => by cases h
  | k + 1, .ins _ _, h => by cases h
  | k + 1, .dic _ _, h => by cases h
  | k + 1, .pen, h => by cases h
mutual
theorem eqv_deq : ∀ (a b : D) {x y : PyData}, toPy a = some x → toPy b = some y → PyData.eqv x y = deq a b
  | .non, b, x, y, ha, hb => by
    cases ha
    cases b <;> first | (cases hb; done) | (cases hb; simp only [PyData.eqv, deq]; done) | (obtain ⟨zs, _, rfl⟩ := Option.map_eq_some_iff.mp hb; simp only [PyData.eqv, deq])
  | .bl _, b, x, y, ha, hb => by
    cases ha
    cases b <;> first | (cases hb; done) | (cases hb; simp only [PyData.eqv, deq]; done) | (obtain ⟨zs, _, rfl⟩ := Option.map_eq_some_iff.mp hb; simp only [PyData.eqv, deq])
  | .int _, b, x, y, ha, hb => by
    cases ha
    cases b <;> first | (cases hb; done) | (cases hb; simp only [PyData.eqv, deq]; done) | (obtain ⟨zs, _, rfl⟩ := Option.map_eq_some_iff.mp hb; simp only [PyData.eqv, deq])
  | .str _, b, x, y, ha, hb => by
    cases ha
    cases b <;> first | (cases hb; done) | (cases hb; simp only [PyData.eqv, deq]; done) | (obtain ⟨zs, _, rfl⟩ := Option.map_eq_some_iff.mp hb; simp only [PyData.eqv, deq])
  | .tup xs, b, x, y, ha, hb => by
    obtain ⟨zs, e1, rfl⟩ := Option.map_eq_some_iff.mp ha
    cases b with
    | tup ys =>
      obtain ⟨ws, e2, rfl⟩ := Option.map_eq_some_iff.mp hb
      rw [PyData.eqv, deq]
      exact eqvs_deqs xs ys e1 e2
    | lst ys =>
      obtain ⟨ws, e2, rfl⟩ := Option.map_eq_some_iff.mp hb
      simp only [PyData.eqv, deq]
    | non => cases hb; simp only [PyData.eqv, deq]
    | bl _ => cases hb; simp only [PyData.eqv, deq]
    | int _ => cases hb; simp only [PyData.eqv, deq]
    | str _ => cases hb; simp only [PyData.eqv, deq]
    | ins _ _ => cases hb
    | dic _ _ => cases hb
    | pen => cases hb
  | .lst xs, b, x, y, ha, hb => by
    obtain ⟨zs, e1, rfl⟩ := Option.map_eq_some_iff.mp ha
    cases b with
    | lst ys =>
      obtain ⟨ws, e2, rfl⟩ := Option.map_eq_some_iff.mp hb
      rw [PyData.eqv, deq]
      exact eqvs_deqs xs ys e1 e2
    | tup ys =>
      obtain ⟨ws, e2, rfl⟩ := Option.map_eq_some_iff.mp hb
      simp only [PyData.eqv, deq]
    | non => cases hb; simp only [PyData.eqv, deq]
    | bl _ => cases hb; simp only [PyData.eqv, deq]
    | int _ => cases hb; simp only [PyData.eqv, deq]
    | str _ => cases hb; simp only [PyData.eqv, deq]
    | ins _ _ => cases hb
    | dic _ _ => cases hb
    | pen => cases hb
  | .ins _ _, _, _, _, ha, _ => by cases ha
  | .dic _ _, _, _, _, ha, _ => by cases ha
  | .pen, _, _, _, ha, _ => by cases ha
theorem eqvs_deqs : ∀ (as bs : List D) {xs ys : List PyData}, toPys as = some xs → toPys bs = some ys → PyData.eqvAll xs ys = deqs as bs
  | [], [], _, _, ha, hb => by cases ha; cases hb; simp only [PyData.eqvAll, deqs]
  | [], b :: bs, _, ys, ha, hb => by
    cases ha
    unfold toPys at hb
    cases e1 : toPy b with
    | none => rw [e1] at hb; cases hb
    | some y =>
      cases e2 : toPys bs with
      | none => rw [e1, e2] at hb; cases hb
      | some ys' => rw [e1, e2] at hb; cases hb; simp only [PyData.eqvAll, deqs]
  | a :: as, [], xs, _, ha, hb => by
    cases hb
    unfold toPys at ha
    cases e1 : toPy a with
    | none => rw [e1] at ha; cases ha
    | some y =>
      cases e2 : toPys as with
      | none => rw [e1, e2] at ha; cases ha
      | some ys' => rw [e1, e2] at ha; cases ha; simp only [PyData.eqvAll, deqs]
  | a :: as, b :: bs, xs, ys, ha, hb => by
    unfold toPys at ha hb
    cases e1 : toPy a with
    | none => rw [e1] at ha; cases ha
    | some x =>
      cases e2 : toPys as with
      | none => rw [e1, e2] at ha; cases ha
      | some xs' =>
        rw [e1, e2] at ha
        cases ha
        cases e3 : toPy b with
        | none => rw [e3] at hb; cases hb
        | some y =>
          cases e4 : toPys bs with
          | none => rw [e3, e4] at hb; cases hb
          | some ys' =>
            rw [e3, e4] at hb
            cases hb
            rw [PyData.eqvAll, deqs, eqv_deq a b e1 e3, eqvs_deqs as bs e2 e4]
end
theorem eqD_plk {k : Nat} (hk : k ≤ 64) {a b : D} (ha : plk k a = true) (hb : plk k b = true) : eqD a b = some (deq a b) := by
  obtain ⟨x, e1, c1, d1⟩ := toPy_of k a ha
  obtain ⟨y, e2, c2, d2⟩ := toPy_of k b hb
  unfold eqD
  rw [e1, e2]
  dsimp only
  have s1 : SeqAt.shaped x = true := by unfold SeqAt.shaped; rw [c1, decide_eq_true (by omega)]; rfl
  have s2 : SeqAt.shaped y = true := by unfold SeqAt.shaped; rw [c2, decide_eq_true (by omega)]; rfl
  rw [s1, s2, eqv_deq a b e1 e2]
  rfl
theorem cmp_eq_plk {k : Nat} (hk : k ≤ 64) {φ : Fns} {eqt : EqT} {a b : D} (ha : plk k a = true) (hb : plk k b = true) : cmpM φ eqt .eq a b = ret (.bl (deq a b)) := by
  have q := eqD_plk hk ha hb
  show eqM φ eqt a b = _
  unfold eqM
  split
  · cases k <;> cases ha
  · rw [q]
theorem cmp_ne_plk {k : Nat} (hk : k ≤ 64) {φ : Fns} {eqt : EqT} {a b : D} (ha : plk k a = true) (hb : plk k b = true) : cmpM φ eqt .ne a b = ret (.bl (!deq a b)) := by
  have q := cmp_eq_plk hk (φ := φ) (eqt := eqt) ha hb
  show bnd (cmpM φ eqt .eq a b) notD = _
  rw [q]
  rfl
theorem any_eqv {k : Nat} (a : D) {x : PyData} (hx : toPy a = some x) : ∀ (ys : List D) (zs : List PyData), toPys ys = some zs → zs.any (fun z => PyData.eqv z x) = ys.any fun y => deq y a
  | [], _, h => by cases h; rfl
  | y :: ys, _, h => by
    unfold toPys at h
    cases e1 : toPy y with
    | none => rw [e1] at h; cases h
    | some z =>
      cases e2 : toPys ys with
      | none => rw [e1, e2] at h; cases h
      | some zs =>
        rw [e1, e2] at h
        cases h
        rw [List.any_cons, List.any_cons, eqv_deq y a e1 hx, any_eqv (k := k) a hx ys zs e2]
theorem cmp_in_plk {k : Nat} (hk : k ≤ 60) {φ : Fns} {eqt : EqT} {a : D} {ys : List D} (ha : plk k a = true) (hb : ys.all (plk k) = true) : cmpM φ eqt .isin a (.lst ys) = ret (.bl (ys.any fun y => deq y a)) := by
  obtain ⟨x, e1, c1, d1⟩ := toPy_of k a ha
  obtain ⟨zs, e2, c2, d2⟩ := toPys_of (toPy_of k) ys hb
  have s1 : SeqAt.shaped x = true := by unfold SeqAt.shaped; rw [c1, decide_eq_true (by omega)]; rfl
  have s2 : SeqAt.shaped (.list zs) = true := by
    unfold SeqAt.shaped
    rw [PyData.canLay0, c2, PyData.depth, decide_eq_true (by omega)]
    rfl
  have e : inD a (.lst ys) = some (ys.any fun y => deq y a) := by
    show (match toPy a, toPys ys with
      | some x, some zs => if SeqAt.shaped x && SeqAt.shaped (.list zs) then some (zs.any fun z => PyData.eqv z x) else none
      | _, _ => none) = _
    rw [e1, e2]
    dsimp only
    rw [s1, s2, any_eqv (k := k) a e1 ys zs e2]
    rfl
  show (match inD a (.lst ys) with
    | some r => ret (D.bl r)
    | none => stuck) = _
  rw [e]
/-! ### equality of typed data -/
theorem deqs_map {α : Type} [DecidableEq α] {f : α → D} (hf : ∀ x y, deq (f x) (f y) = decide (x = y)) : ∀ xs ys : List α, deqs (xs.map f) (ys.map f) = decide (xs = ys)
  | [], [] => by simp [deqs]
  | [], _ :: _ => by simp [deqs]
  | _ :: _, [] => by simp [deqs]
  | x :: xs, y :: ys => by
    rw [List.map_cons, List.map_cons, deqs, hf, deqs_map hf xs ys]
    by_cases h1 : x = y <;> by_cases h2 : xs = ys <;> simp [h1, h2]
theorem deq_int (i j : Int) : deq (.int i) (.int j) = decide (i = j) := by
  rw [deq]
  exact Bool.beq_eq_decide_eq i j
theorem deq_tints (s t : List Int) : deq (.tup (s.map .int)) (.tup (t.map .int)) = decide (s = t) := by
  rw [deq]
  exact deqs_map deq_int s t
theorem deq_trows (s t : List (List Int)) : deq (.tup (s.map fun r => .tup (r.map .int))) (.tup (t.map fun r => .tup (r.map .int))) = decide (s = t) := by
  rw [deq]
  exact deqs_map (f := fun r : List Int => D.tup (r.map .int)) deq_tints s t
theorem plk_int (k : Nat) (i : Int) : plk k (.int i) = true := by cases k <;> rfl
theorem plk_tints (k : Nat) (s : List Int) : plk (k + 1) (.tup (s.map .int)) = true := by
  show (s.map D.int).all (plk k) = true
  rw [List.all_map]
  exact List.all_eq_true.mpr fun i _ => plk_int k i
theorem plk_trows (k : Nat) (s : List (List Int)) : plk (k + 2) (.tup (s.map fun r => .tup (r.map .int))) = true := by
  show (s.map fun r => D.tup (r.map .int)).all (plk (k + 1)) = true
  rw [List.all_map]
  exact List.all_eq_true.mpr fun r _ => plk_tints k r
end UK

set_option Elab.async false
set_option linter.all false
set_option maxRecDepth 100000
set_option maxHeartbeats 400000
namespace UK
open PySem PySem.Spec PyProof.Rows L2
/-! ### equality of webs and rules -/
theorem rowsT_eq (rows : List (List Int)) : (D.tup ((rowsR rows).map .tup)) = .tup (rows.map fun r => .tup (r.map .int)) := by
  unfold rowsR
  rw [List.map_map]
  rfl
theorem cmp_eq_ins {φ : Fns} {eqt : EqT} {c f : Nat} {xs ys : List D} (h : eqt.lookup c = some f) : cmpM φ eqt .eq (.ins c xs) (.ins c ys) = φ f [.ins c xs, .ins c ys] := by
  show eqM φ eqt (.ins c xs) (.ins c ys) = _
  unfold eqM
  dsimp only
  rw [decide_eq_true rfl, h]
theorem cmp_ne_ins {φ : Fns} {eqt : EqT} {c f : Nat} {xs ys : List D} (h : eqt.lookup c = some f) : cmpM φ eqt .ne (.ins c xs) (.ins c ys) = bnd (φ f [.ins c xs, .ins c ys]) notD := by
  show bnd (cmpM φ eqt .eq (.ins c xs) (.ins c ys)) notD = _
  rw [cmp_eq_ins h]
theorem web_eq_ev (n : Nat) (r1 r2 : List (List Int)) : (B0.lev (n + 1)).1 4 [webD (rowsR r1), webD (rowsR r2)] = ret (.bl (decide (r1 = r2))) := by
  rw [st_Web___eq__]
  refine runF_at [.sh (webD (rowsR r1)), .sh (webD (rowsR r2))] rfl ?_
  unfold ir_Web___eq__
  refine Rl.ret (d := .bl (decide (r1 = r2))) (p := [.sh (webD (rowsR r1)), .sh (webD (rowsR r2))]) ?_ rfl
  simp only [X_ev, S_set, S_own, S_exp, S_app, S_par, S_rws, slD_lst, slD_sh, ownD_lst, seqD_nx, List.set_cons_succ, List.set_cons_zero, frE_var, frE_slot, frE_non, frE_bl, frE_int, frE_str, frE_bin, frE_neg, frE_cmp, frE_chn, frE_and, frE_or, frE_not, frE_ite, frE_call, frE_mk, frE_fld, frE_nfl, frE_idx, frE_slc, frE_rev, frE_tup, frE_lst, frE_b1, frE_b2, frE_isi, frE_lc, frE_lc2, frE_dic, frE_lrg, frE_pget, frA_nil, frA_cons, frO_no, frO_yes, frI_r1, frI_r2, frI_sq, frR_lc, frR_call, frR_ite, frR_var, List.append_nil, List.cons_append, List.nil_append, frz_cons, frz_nil, frz1, E_var, E_slot, E_non, E_bl, E_int, E_str, E_bin, E_neg, E_cmp, E_chn, E_and, E_or, E_not, E_ite, E_call, E_mk, E_fld, E_nfl, E_idx, E_slc, E_rev, E_tup, E_lst, E_b1, E_b2, E_isi, E_dic, E_lrg, A_nil, A_cons, O_no, O_yes, I_r1, I_r2, I_sq, getSh, getAny, List.getElem?_cons_zero, List.getElem?_cons_succ, bnd_ret, bnd_bnd, neg_int, cmp_eq_int, cmp_ne_int, cmp_lt_int, cmp_le_int, cmp_gt_int, cmp_ge_int, bin_add_int, bin_sub_int, b1_int, b1_len_l, b1_len_t, b1_tuple_l, b1_tuple_t, b1_list_l, b1_list_t, thenD_bl, elseD_bl, iffD_bl, notD_bl, slc_lst, slc_tup, part_none, part_int, List.length_cons, List.length_nil, List.length_map, nfl_0, nfl_s, web_rows_f, rowsT_eq, cmp_eq_plk (k := 2) (by decide) (plk_trows 0 r1) (plk_trows 0 r2), deq_trows]
  rfl
theorem cmp_web (n : Nat) (r1 r2 : List (List Int)) (ψ : Fns) : cmpM (B0.lev (n + 1)).1 TT.eqt .eq (webD (rowsR r1)) (webD (rowsR r2)) = ret (.bl (decide (r1 = r2))) := by
  rw [← web_eq_ev n]
  exact cmp_eq_ins rfl
theorem cmp_web_ne (n : Nat) (r1 r2 : List (List Int)) : cmpM (B0.lev (n + 1)).1 TT.eqt .ne (webD (rowsR r1)) (webD (rowsR r2)) = ret (.bl (!decide (r1 = r2))) := by
  show bnd (cmpM (B0.lev (n + 1)).1 TT.eqt .eq (webD (rowsR r1)) (webD (rowsR r2))) notD = _
  rw [cmp_web n r1 r2 (fun _ _ => stuck)]
  rfl
/-! ### levels told -/
def lvD (m : Nat) : D → Bool
  | .int i => inLv m i
  | _ => false
def told (size m : Nat) : D → Bool
  | .tup xs => decide (xs.length = size) && xs.all (lvD m)
  | _ => false
def unI : D → Int
  | .int i => i
  | _ => 0
def unS : D → List Int
  | .tup xs => xs.map unI
  | _ => []
theorem lv_unI {m : Nat} : ∀ {d : D}, lvD m d = true → d = .int (unI d) ∧ 0 ≤ unI d ∧ unI d ≤ (m : Int)
  | .int i, h => by
    unfold lvD inLv at h
    rw [Bool.and_eq_true] at h
    exact ⟨rfl, of_decide_eq_true h.1, of_decide_eq_true h.2⟩
  | .non, h | .bl _, h | .str _, h | .tup _, h | .lst _, h | .ins _ _, h | .dic _ _, h | .pen, h => by cases h
theorem told_un {size m : Nat} {d : D} (h : told size m d = true) : d = stD (unS d) ∧ StOk size m (unS d) := by
  cases d with
  | tup xs =>
    unfold told at h
    rw [Bool.and_eq_true] at h
    obtain ⟨h1, h2⟩ := h
    have h1 := of_decide_eq_true h1
    have h2 := List.all_eq_true.mp h2
    unfold unS stD
    refine ⟨?_, by rw [List.length_map, h1], fun l hl => ?_⟩
    · rw [List.map_map]
      congr 1
      have : ∀ l : List D, (∀ x ∈ l, lvD m x = true) → l = l.map (D.int ∘ unI) := fun l => by
        induction l with
        | nil => exact fun _ => rfl
        | cons a l ih =>
          intro h
          rw [List.map_cons, ← ih fun x hx => h x (List.mem_cons_of_mem _ hx)]
          congr 1
          exact (lv_unI (h a (List.mem_cons_self ..))).1
      exact this xs h2
    · obtain ⟨x, hx, rfl⟩ := List.mem_map.mp hl
      exact (lv_unI (h2 x hx)).2
  | _ => cases h
theorem level_row_ev2 (n : Nat) (m many : Nat) (xs : List D) (hl : xs.length ≤ 1000) : (B0.lev (n + 2)).1 10 [.int m, .int many, .tup xs] = ret (.bl (told many m (.tup xs))) := by
  rw [st_is_level_row]
  refine runF_at [.sh (.int m), .sh (.int many), .sh (.tup xs), .un] rfl ?_
  unfold ir_is_level_row
  refine Rl.ret (d := .bl (told many m (.tup xs))) (p := [.sh (.int m), .sh (.int many), .sh (.tup xs), .un]) ?_ rfl
  have hlc : evE TT (B0.lev (n + 1)).1 (B0.lev (n + 1)).2 (.lc [3] (.and (.call 1 (.cons (.var 3) .nil)) (.chn .le .le (.int 0) (.slot 3) (.slot 0))) [3] (.sq (.slot 2)) .no) [.sh (.int m), .sh (.int many), .sh (.tup xs), .un] = ret (.lst (xs.map fun d => .bl (lvD m d))) := by
    refine lc_all xs (fun d => d) _ (by rw [List.map_id']; rfl) hl fun d _ => ?_
    simp only [elM_one, ifM_no, ifM_yes, wipeE_nil, wipeE_cons, X_ev, S_set, S_own, S_exp, S_app, S_par, S_rws, slD_lst, slD_sh, ownD_lst, seqD_nx, List.set_cons_succ, List.set_cons_zero, E_var, E_slot, E_non, E_bl, E_int, E_str, E_bin, E_neg, E_cmp, E_chn, E_and, E_or, E_not, E_ite, E_call, E_mk, E_fld, E_nfl, E_idx, E_slc, E_rev, E_tup, E_lst, E_b1, E_b2, E_isi, E_dic, E_lrg, A_nil, A_cons, O_no, O_yes, I_r1, I_r2, I_sq, getSh, getAny, List.getElem?_cons_zero, List.getElem?_cons_succ, bnd_ret, bnd_bnd, neg_int, cmp_eq_int, cmp_ne_int, cmp_lt_int, cmp_le_int, cmp_gt_int, cmp_ge_int, bin_add_int, bin_sub_int, b1_int, b1_len_l, b1_len_t, b1_tuple_l, b1_tuple_t, b1_list_l, b1_list_t, thenD_bl, elseD_bl, iffD_bl, notD_bl, slc_lst, slc_tup, part_none, part_int, List.length_cons, List.length_nil, List.length_map, nfl_0, nfl_s, is_whole_ev]
    cases d with
    | int i =>
      rw [show wholeB (.int i) = true from rfl, if_pos rfl]
      simp only [E_var, E_slot, E_non, E_bl, E_int, E_str, E_bin, E_neg, E_cmp, E_chn, E_and, E_or, E_not, E_ite, E_call, E_mk, E_fld, E_nfl, E_idx, E_slc, E_rev, E_tup, E_lst, E_b1, E_b2, E_isi, E_dic, E_lrg, A_nil, A_cons, O_no, O_yes, I_r1, I_r2, I_sq, getSh, getAny, List.getElem?_cons_zero, List.getElem?_cons_succ, bnd_ret, bnd_bnd, neg_int, cmp_eq_int, cmp_ne_int, cmp_lt_int, cmp_le_int, cmp_gt_int, cmp_ge_int, bin_add_int, bin_sub_int, b1_int, b1_len_l, b1_len_t, b1_tuple_l, b1_tuple_t, b1_list_l, b1_list_t, thenD_bl, elseD_bl, iffD_bl, notD_bl, slc_lst, slc_tup, part_none, part_int, List.length_cons, List.length_nil, List.length_map, nfl_0, nfl_s]
      rw [show lvD m (.int i) = (decide (0 ≤ i) && decide (i ≤ (m : Int))) from rfl]
      by_cases z : 0 ≤ i
      · rw [if_pos (decide_eq_true z), decide_eq_true z, bnd_ret, Bool.true_and]
      · rw [if_neg (by simpa using z), decide_eq_false z, bnd_ret, Bool.false_and]
    | _ => rfl
  simp only [X_ev, S_set, S_own, S_exp, S_app, S_par, S_rws, slD_lst, slD_sh, ownD_lst, seqD_nx, List.set_cons_succ, List.set_cons_zero, frE_var, frE_slot, frE_non, frE_bl, frE_int, frE_str, frE_bin, frE_neg, frE_cmp, frE_chn, frE_and, frE_or, frE_not, frE_ite, frE_call, frE_mk, frE_fld, frE_nfl, frE_idx, frE_slc, frE_rev, frE_tup, frE_lst, frE_b1, frE_b2, frE_isi, frE_lc, frE_lc2, frE_dic, frE_lrg, frE_pget, frA_nil, frA_cons, frO_no, frO_yes, frI_r1, frI_r2, frI_sq, frR_lc, frR_call, frR_ite, frR_var, List.append_nil, List.cons_append, List.nil_append, frz_cons, frz_nil, frz1, E_var, E_slot, E_non, E_bl, E_int, E_str, E_bin, E_neg, E_cmp, E_chn, E_and, E_or, E_not, E_ite, E_call, E_mk, E_fld, E_nfl, E_idx, E_slc, E_rev, E_tup, E_lst, E_b1, E_b2, E_isi, E_dic, E_lrg, A_nil, A_cons, O_no, O_yes, I_r1, I_r2, I_sq, getSh, getAny, List.getElem?_cons_zero, List.getElem?_cons_succ, bnd_ret, bnd_bnd, neg_int, cmp_eq_int, cmp_ne_int, cmp_lt_int, cmp_le_int, cmp_gt_int, cmp_ge_int, bin_add_int, bin_sub_int, b1_int, b1_len_l, b1_len_t, b1_tuple_l, b1_tuple_t, b1_list_l, b1_list_t, thenD_bl, elseD_bl, iffD_bl, notD_bl, slc_lst, slc_tup, part_none, part_int, List.length_cons, List.length_nil, List.length_map, nfl_0, nfl_s, is_list_ev, hlc, all_map, frE_lc, frI_sq]
  rw [show listB (.tup xs) = true from rfl, if_pos rfl]
  rw [show told many m (.tup xs) = (decide (xs.length = many) && xs.all (lvD m)) from rfl]
  by_cases z : xs.length = many
  · rw [if_pos (decide_eq_true (by omega)), decide_eq_true z, Bool.true_and]
    rfl
  · rw [if_neg (by simp; omega), decide_eq_false z, Bool.false_and]
    rfl
theorem is_told_ev (n : Nat) {size : Nat} {rows : List (List Int)} (h : IRow size rows) (m : Nat) (tables : List (List Int)) (d : D) (hd : ∀ xs, d = .tup xs → xs.length ≤ 1000) : (B0.lev (n + 3)).1 17 [rulesD rows m tables, d] = ret (.bl (told size m d)) := by
  rw [st_is_told_levels]
  refine runF_at [.sh (rulesD rows m tables), .sh d] rfl ?_
  unfold ir_is_told_levels
  have hl : (rowsR rows).length = size := by unfold rowsR; rw [List.length_map]; exact h.1
  have key : ∀ xs, xs.length ≤ 1000 → told size m (.tup xs) = told size m (.tup xs) := fun _ _ => rfl
  by_cases q : ∃ xs, d = .tup xs
  · obtain ⟨xs, rfl⟩ := q
    refine Rl.ret (d := .bl (told size m (.tup xs))) (p := [.sh (rulesD rows m tables), .sh (.tup xs)]) ?_ rfl
    simp only [X_ev, S_set, S_own, S_exp, S_app, S_par, S_rws, slD_lst, slD_sh, ownD_lst, seqD_nx, List.set_cons_succ, List.set_cons_zero, frE_var, frE_slot, frE_non, frE_bl, frE_int, frE_str, frE_bin, frE_neg, frE_cmp, frE_chn, frE_and, frE_or, frE_not, frE_ite, frE_call, frE_mk, frE_fld, frE_nfl, frE_idx, frE_slc, frE_rev, frE_tup, frE_lst, frE_b1, frE_b2, frE_isi, frE_lc, frE_lc2, frE_dic, frE_lrg, frE_pget, frA_nil, frA_cons, frO_no, frO_yes, frI_r1, frI_r2, frI_sq, frR_lc, frR_call, frR_ite, frR_var, List.append_nil, List.cons_append, List.nil_append, frz_cons, frz_nil, frz1, E_var, E_slot, E_non, E_bl, E_int, E_str, E_bin, E_neg, E_cmp, E_chn, E_and, E_or, E_not, E_ite, E_call, E_mk, E_fld, E_nfl, E_idx, E_slc, E_rev, E_tup, E_lst, E_b1, E_b2, E_isi, E_dic, E_lrg, A_nil, A_cons, O_no, O_yes, I_r1, I_r2, I_sq, getSh, getAny, List.getElem?_cons_zero, List.getElem?_cons_succ, bnd_ret, bnd_bnd, neg_int, cmp_eq_int, cmp_ne_int, cmp_lt_int, cmp_le_int, cmp_gt_int, cmp_ge_int, bin_add_int, bin_sub_int, b1_int, b1_len_l, b1_len_t, b1_tuple_l, b1_tuple_t, b1_list_l, b1_list_t, thenD_bl, elseD_bl, iffD_bl, notD_bl, slc_lst, slc_tup, part_none, part_int, List.length_cons, List.length_nil, List.length_map, nfl_0, nfl_s, rules_web_f, rules_most_f, web_size_f, hl, level_row_ev2 n m size xs (hd xs rfl)]
    rfl
  · refine Rl.ret (d := .bl (told size m d)) (p := [.sh (rulesD rows m tables), .sh d]) ?_ rfl
    have e1 : ([Ty.tuple].any (isT d)) = false := by
      cases d with
      | tup xs => exact absurd ⟨xs, rfl⟩ q
      | _ => rfl
    have e2 : told size m d = false := by
      cases d with
      | tup xs => exact absurd ⟨xs, rfl⟩ q
      | _ => rfl
    simp only [X_ev, S_set, S_own, S_exp, S_app, S_par, S_rws, slD_lst, slD_sh, ownD_lst, seqD_nx, List.set_cons_succ, List.set_cons_zero, frE_var, frE_slot, frE_non, frE_bl, frE_int, frE_str, frE_bin, frE_neg, frE_cmp, frE_chn, frE_and, frE_or, frE_not, frE_ite, frE_call, frE_mk, frE_fld, frE_nfl, frE_idx, frE_slc, frE_rev, frE_tup, frE_lst, frE_b1, frE_b2, frE_isi, frE_lc, frE_lc2, frE_dic, frE_lrg, frE_pget, frA_nil, frA_cons, frO_no, frO_yes, frI_r1, frI_r2, frI_sq, frR_lc, frR_call, frR_ite, frR_var, List.append_nil, List.cons_append, List.nil_append, frz_cons, frz_nil, frz1, E_var, E_slot, E_non, E_bl, E_int, E_str, E_bin, E_neg, E_cmp, E_chn, E_and, E_or, E_not, E_ite, E_call, E_mk, E_fld, E_nfl, E_idx, E_slc, E_rev, E_tup, E_lst, E_b1, E_b2, E_isi, E_dic, E_lrg, A_nil, A_cons, O_no, O_yes, I_r1, I_r2, I_sq, getSh, getAny, List.getElem?_cons_zero, List.getElem?_cons_succ, bnd_ret, bnd_bnd, neg_int, cmp_eq_int, cmp_ne_int, cmp_lt_int, cmp_le_int, cmp_gt_int, cmp_ge_int, bin_add_int, bin_sub_int, b1_int, b1_len_l, b1_len_t, b1_tuple_l, b1_tuple_t, b1_list_l, b1_list_t, thenD_bl, elseD_bl, iffD_bl, notD_bl, slc_lst, slc_tup, part_none, part_int, List.length_cons, List.length_nil, List.length_map, nfl_0, nfl_s, e1, e2]
    rfl
theorem most_told_ev (n : Nat) {m : Nat} (m1 : 1 ≤ m) : (B0.lev (n + 2)).1 16 [.int m] = ret (.int m) := by
  rw [st_most_told]
  refine runF_at [.sh (.int m)] rfl ?_
  unfold ir_most_told
  refine Rl.st (p := [.sh (.int m)]) (by
    simp only [S_ite, S_nop, X_ev, S_set, S_own, S_exp, S_app, S_par, S_rws, slD_lst, slD_sh, ownD_lst, seqD_nx, List.set_cons_succ, List.set_cons_zero, frE_var, frE_slot, frE_non, frE_bl, frE_int, frE_str, frE_bin, frE_neg, frE_cmp, frE_chn, frE_and, frE_or, frE_not, frE_ite, frE_call, frE_mk, frE_fld, frE_nfl, frE_idx, frE_slc, frE_rev, frE_tup, frE_lst, frE_b1, frE_b2, frE_isi, frE_lc, frE_lc2, frE_dic, frE_lrg, frE_pget, frA_nil, frA_cons, frO_no, frO_yes, frI_r1, frI_r2, frI_sq, frR_lc, frR_call, frR_ite, frR_var, List.append_nil, List.cons_append, List.nil_append, frz_cons, frz_nil, frz1, E_var, E_slot, E_non, E_bl, E_int, E_str, E_bin, E_neg, E_cmp, E_chn, E_and, E_or, E_not, E_ite, E_call, E_mk, E_fld, E_nfl, E_idx, E_slc, E_rev, E_tup, E_lst, E_b1, E_b2, E_isi, E_dic, E_lrg, A_nil, A_cons, O_no, O_yes, I_r1, I_r2, I_sq, getSh, getAny, List.getElem?_cons_zero, List.getElem?_cons_succ, bnd_ret, bnd_bnd, neg_int, cmp_eq_int, cmp_ne_int, cmp_lt_int, cmp_le_int, cmp_gt_int, cmp_ge_int, bin_add_int, bin_sub_int, b1_int, b1_len_l, b1_len_t, b1_tuple_l, b1_tuple_t, b1_list_l, b1_list_t, thenD_bl, elseD_bl, iffD_bl, notD_bl, slc_lst, slc_tup, part_none, part_int, List.length_cons, List.length_nil, List.length_map, nfl_0, nfl_s, is_whole_ev]
    rw [show wholeB (.int m) = true from rfl, Bool.not_true, if_neg Bool.false_ne_true, decide_eq_false (by omega), bnd_ret]
    rfl) (Rl.ret (p := [.sh (.int m)]) (by simp only [X_ev, S_set, S_own, S_exp, S_app, S_par, S_rws, slD_lst, slD_sh, ownD_lst, seqD_nx, List.set_cons_succ, List.set_cons_zero, frE_var, frE_slot, frE_non, frE_bl, frE_int, frE_str, frE_bin, frE_neg, frE_cmp, frE_chn, frE_and, frE_or, frE_not, frE_ite, frE_call, frE_mk, frE_fld, frE_nfl, frE_idx, frE_slc, frE_rev, frE_tup, frE_lst, frE_b1, frE_b2, frE_isi, frE_lc, frE_lc2, frE_dic, frE_lrg, frE_pget, frA_nil, frA_cons, frO_no, frO_yes, frI_r1, frI_r2, frI_sq, frR_lc, frR_call, frR_ite, frR_var, List.append_nil, List.cons_append, List.nil_append, frz_cons, frz_nil, frz1, E_var, E_slot, E_non, E_bl, E_int, E_str, E_bin, E_neg, E_cmp, E_chn, E_and, E_or, E_not, E_ite, E_call, E_mk, E_fld, E_nfl, E_idx, E_slc, E_rev, E_tup, E_lst, E_b1, E_b2, E_isi, E_dic, E_lrg, A_nil, A_cons, O_no, O_yes, I_r1, I_r2, I_sq, getSh, getAny, List.getElem?_cons_zero, List.getElem?_cons_succ, bnd_ret, bnd_bnd, neg_int, cmp_eq_int, cmp_ne_int, cmp_lt_int, cmp_le_int, cmp_gt_int, cmp_ge_int, bin_add_int, bin_sub_int, b1_int, b1_len_l, b1_len_t, b1_tuple_l, b1_tuple_t, b1_list_l, b1_list_t, thenD_bl, elseD_bl, iffD_bl, notD_bl, slc_lst, slc_tup, part_none, part_int, List.length_cons, List.length_nil, List.length_map, nfl_0, nfl_s]) rfl)
theorem levels_of_ev (n : Nat) (rows rows' : List (List Int)) (m m' : Nat) (tables : List (List Int)) : (B0.lev (n + 2)).1 18 [webD (rowsR rows), .int m, rulesD rows' m' tables] = ret (.bl (decide (rows' = rows) && decide (m' = m))) := by
  rw [st_levels_of]
  refine runF_at [.sh (webD (rowsR rows)), .sh (.int m), .sh (rulesD rows' m' tables)] rfl ?_
  unfold ir_levels_of
  refine Rl.ret (d := .bl (decide (rows' = rows) && decide (m' = m))) (p := [.sh (webD (rowsR rows)), .sh (.int m), .sh (rulesD rows' m' tables)]) ?_ rfl
  simp only [X_ev, S_set, S_own, S_exp, S_app, S_par, S_rws, slD_lst, slD_sh, ownD_lst, seqD_nx, List.set_cons_succ, List.set_cons_zero, frE_var, frE_slot, frE_non, frE_bl, frE_int, frE_str, frE_bin, frE_neg, frE_cmp, frE_chn, frE_and, frE_or, frE_not, frE_ite, frE_call, frE_mk, frE_fld, frE_nfl, frE_idx, frE_slc, frE_rev, frE_tup, frE_lst, frE_b1, frE_b2, frE_isi, frE_lc, frE_lc2, frE_dic, frE_lrg, frE_pget, frA_nil, frA_cons, frO_no, frO_yes, frI_r1, frI_r2, frI_sq, frR_lc, frR_call, frR_ite, frR_var, List.append_nil, List.cons_append, List.nil_append, frz_cons, frz_nil, frz1, E_var, E_slot, E_non, E_bl, E_int, E_str, E_bin, E_neg, E_cmp, E_chn, E_and, E_or, E_not, E_ite, E_call, E_mk, E_fld, E_nfl, E_idx, E_slc, E_rev, E_tup, E_lst, E_b1, E_b2, E_isi, E_dic, E_lrg, A_nil, A_cons, O_no, O_yes, I_r1, I_r2, I_sq, getSh, getAny, List.getElem?_cons_zero, List.getElem?_cons_succ, bnd_ret, bnd_bnd, neg_int, cmp_eq_int, cmp_ne_int, cmp_lt_int, cmp_le_int, cmp_gt_int, cmp_ge_int, bin_add_int, bin_sub_int, b1_int, b1_len_l, b1_len_t, b1_tuple_l, b1_tuple_t, b1_list_l, b1_list_t, thenD_bl, elseD_bl, iffD_bl, notD_bl, slc_lst, slc_tup, part_none, part_int, List.length_cons, List.length_nil, List.length_map, nfl_0, nfl_s, rules_web_f, rules_most_f, cmp_web n rows' rows (fun _ _ => stuck)]
  rw [show ([Ty.cls 1].any (isT (rulesD rows' m' tables))) = true from rfl, if_pos rfl]
  by_cases z : rows' = rows
  · rw [if_pos (decide_eq_true z), decide_eq_true z, Bool.true_and, bnd_ret, show decide ((m' : Int) = m) = decide (m' = m) from by rw [decide_eq_decide]; omega]
  · rw [if_neg (by simpa using z), decide_eq_false z, Bool.false_and]
    rfl
theorem levels_of_no (n : Nat) (rows : List (List Int)) (m : Nat) (d : D) (hd : isT d (.cls 1) = false) : (B0.lev (n + 1)).1 18 [webD (rowsR rows), .int m, d] = ret (.bl false) := by
  rw [st_levels_of]
  refine runF_at [.sh (webD (rowsR rows)), .sh (.int m), .sh d] rfl ?_
  unfold ir_levels_of
  refine Rl.ret (d := .bl false) (p := [.sh (webD (rowsR rows)), .sh (.int m), .sh d]) ?_ rfl
  simp only [X_ev, S_set, S_own, S_exp, S_app, S_par, S_rws, slD_lst, slD_sh, ownD_lst, seqD_nx, List.set_cons_succ, List.set_cons_zero, frE_var, frE_slot, frE_non, frE_bl, frE_int, frE_str, frE_bin, frE_neg, frE_cmp, frE_chn, frE_and, frE_or, frE_not, frE_ite, frE_call, frE_mk, frE_fld, frE_nfl, frE_idx, frE_slc, frE_rev, frE_tup, frE_lst, frE_b1, frE_b2, frE_isi, frE_lc, frE_lc2, frE_dic, frE_lrg, frE_pget, frA_nil, frA_cons, frO_no, frO_yes, frI_r1, frI_r2, frI_sq, frR_lc, frR_call, frR_ite, frR_var, List.append_nil, List.cons_append, List.nil_append, frz_cons, frz_nil, frz1, E_var, E_slot, E_non, E_bl, E_int, E_str, E_bin, E_neg, E_cmp, E_chn, E_and, E_or, E_not, E_ite, E_call, E_mk, E_fld, E_nfl, E_idx, E_slc, E_rev, E_tup, E_lst, E_b1, E_b2, E_isi, E_dic, E_lrg, A_nil, A_cons, O_no, O_yes, I_r1, I_r2, I_sq, getSh, getAny, List.getElem?_cons_zero, List.getElem?_cons_succ, bnd_ret, bnd_bnd, neg_int, cmp_eq_int, cmp_ne_int, cmp_lt_int, cmp_le_int, cmp_gt_int, cmp_ge_int, bin_add_int, bin_sub_int, b1_int, b1_len_l, b1_len_t, b1_tuple_l, b1_tuple_t, b1_list_l, b1_list_t, thenD_bl, elseD_bl, iffD_bl, notD_bl, slc_lst, slc_tup, part_none, part_int, List.length_cons, List.length_nil, List.length_map, nfl_0, nfl_s, List.any_cons, List.any_nil, hd]
  rfl
end UK

set_option Elab.async false
set_option linter.all false
set_option maxRecDepth 100000
set_option maxHeartbeats 400000
namespace UK
open PySem PySem.Spec PyProof.Rows L2
theorem Rl.if_ret {T : Tabs} {φ ψ : Fns} {c e : E} {b : Sm} {env p p2 : Env'} {t : Bool} {d : D} {Q : Flw → Env' → Prop} (h1 : evX T φ ψ c env = UK.ret (.bl t, p)) (h2 : t = true → evX T φ ψ e p = UK.ret (d, p2) ∧ Q (.ret d) p2) (h3 : t = false → Rl (evS T φ ψ b p) Q) : Rl (evS T φ ψ (.seq (.ite c (.ret e) .nop) b) env) Q := by
  rw [S_seq, S_ite, h1]
  cases t with
  | true =>
    obtain ⟨q1, q2⟩ := h2 rfl
    rw [bnd_ret]
    show Rl (UK.bnd (evS T φ ψ (.ret e) p) (seqD' (evS T φ ψ b))) Q
    rw [S_ret, q1]
    exact Rl.of rfl q2
  | false => exact h3 rfl
theorem not_t {b : Bool} (h : (!b) = true) : b = false := by cases b <;> first | rfl | cases h
theorem not_f {b : Bool} (h : (!b) = false) : b = true := by cases b <;> first | rfl | cases h
def twoD (a b c : D) : D := .ins 2 [a, b, c]
def noneD (a : D) : D := .ins 3 [a]
theorem two_rules_f (a b c : D) : fldD TT.CT "rules" (twoD a b c) = ret a := fld_at ct2 (show List.idxOf ("rules" : Str) [("rules" : Str), ("one" : Str), ("other" : Str)] = 0 by decide +kernel) rfl
theorem two_one_f (a b c : D) : fldD TT.CT "one" (twoD a b c) = ret b := fld_at ct2 (show List.idxOf ("one" : Str) [("rules" : Str), ("one" : Str), ("other" : Str)] = 1 by decide +kernel) rfl
theorem two_other_f (a b c : D) : fldD TT.CT "other" (twoD a b c) = ret c := fld_at ct2 (show List.idxOf ("other" : Str) [("rules" : Str), ("one" : Str), ("other" : Str)] = 2 by decide +kernel) rfl
theorem none_rules_f (a : D) : fldD TT.CT "rules" (noneD a) = ret a := fld_at ct3 (show List.idxOf ("rules" : Str) [("rules" : Str)] = 0 by decide +kernel) rfl
def Sm1000 (d : D) : Prop := ∀ xs, d = .tup xs → xs.length ≤ 1000
def twoS (size : Nat) (rows : List (List Int)) (m : Nat) (rows' : List (List Int)) (m' : Nat) (tables : List (List Int)) (b c : D) : Bool := (decide (rows' = rows) && decide (m' = m)) && ((told size m' b && told size m' c) && (!deq b c && (restB rows' m' tables (unS b) && restB rows' m' tables (unS c))))
theorem two_hold_ev (n : Nat) {size : Nat} {rows rows' : List (List Int)} (h : IRow size rows) (h' : IRow size rows') (h3 : size ≤ 3) {m m' : Nat} (m1 : 1 ≤ m) (m4 : m' ≤ 4) {tables : List (List Int)} (ht : TabsOk m' rows' tables) {b c : D} (hb : Sm1000 b) (hc : Sm1000 c) (pb : plk 5 b = true) (pc : plk 5 c = true) :
    (B0.lev (n + 5)).1 19 [webD (rowsR rows), .int m, twoD (rulesD rows' m' tables) b c] = ret (.bl (twoS size rows m rows' m' tables b c)) := by
  rw [st_two_levels_hold]
  refine runF_at [.sh (webD (rowsR rows)), .sh (.int m), .sh (twoD (rulesD rows' m' tables) b c)] rfl ?_
  unfold ir_two_levels_hold
  refine Rl.st (p := [.sh (webD (rowsR rows)), .sh (.int m), .sh (twoD (rulesD rows' m' tables) b c)]) (by
    simp only [X_ev, S_set, S_own, S_exp, S_app, S_par, S_rws, slD_lst, slD_sh, ownD_lst, seqD_nx, List.set_cons_succ, List.set_cons_zero, frE_var, frE_slot, frE_non, frE_bl, frE_int, frE_str, frE_bin, frE_neg, frE_cmp, frE_chn, frE_and, frE_or, frE_not, frE_ite, frE_call, frE_mk, frE_fld, frE_nfl, frE_idx, frE_slc, frE_rev, frE_tup, frE_lst, frE_b1, frE_b2, frE_isi, frE_lc, frE_lc2, frE_dic, frE_lrg, frE_pget, frA_nil, frA_cons, frO_no, frO_yes, frI_r1, frI_r2, frI_sq, frR_lc, frR_call, frR_ite, frR_var, List.append_nil, List.cons_append, List.nil_append, frz_cons, frz_nil, frz1, E_var, E_slot, E_non, E_bl, E_int, E_str, E_bin, E_neg, E_cmp, E_chn, E_and, E_or, E_not, E_ite, E_call, E_mk, E_fld, E_nfl, E_idx, E_slc, E_rev, E_tup, E_lst, E_b1, E_b2, E_isi, E_dic, E_lrg, A_nil, A_cons, O_no, O_yes, I_r1, I_r2, I_sq, getSh, getAny, List.getElem?_cons_zero, List.getElem?_cons_succ, bnd_ret, bnd_bnd, neg_int, cmp_eq_int, cmp_ne_int, cmp_lt_int, cmp_le_int, cmp_gt_int, cmp_ge_int, bin_add_int, bin_sub_int, b1_int, b1_len_l, b1_len_t, b1_tuple_l, b1_tuple_t, b1_list_l, b1_list_t, thenD_bl, elseD_bl, iffD_bl, notD_bl, slc_lst, slc_tup, part_none, part_int, List.length_cons, List.length_nil, List.length_map, nfl_0, nfl_s, most_told_ev (n + 2) m1]) ?_
  have e1 : ([Ty.cls 2].any (isT (twoD (rulesD rows' m' tables) b c))) = true := rfl
  refine Rl.if_ret (t := !(decide (rows' = rows) && decide (m' = m))) (d := .bl false) (p := [.sh (webD (rowsR rows)), .sh (.int m), .sh (twoD (rulesD rows' m' tables) b c)]) (by
    simp only [X_ev, S_set, S_own, S_exp, S_app, S_par, S_rws, slD_lst, slD_sh, ownD_lst, seqD_nx, List.set_cons_succ, List.set_cons_zero, frE_var, frE_slot, frE_non, frE_bl, frE_int, frE_str, frE_bin, frE_neg, frE_cmp, frE_chn, frE_and, frE_or, frE_not, frE_ite, frE_call, frE_mk, frE_fld, frE_nfl, frE_idx, frE_slc, frE_rev, frE_tup, frE_lst, frE_b1, frE_b2, frE_isi, frE_lc, frE_lc2, frE_dic, frE_lrg, frE_pget, frA_nil, frA_cons, frO_no, frO_yes, frI_r1, frI_r2, frI_sq, frR_lc, frR_call, frR_ite, frR_var, List.append_nil, List.cons_append, List.nil_append, frz_cons, frz_nil, frz1, E_var, E_slot, E_non, E_bl, E_int, E_str, E_bin, E_neg, E_cmp, E_chn, E_and, E_or, E_not, E_ite, E_call, E_mk, E_fld, E_nfl, E_idx, E_slc, E_rev, E_tup, E_lst, E_b1, E_b2, E_isi, E_dic, E_lrg, A_nil, A_cons, O_no, O_yes, I_r1, I_r2, I_sq, getSh, getAny, List.getElem?_cons_zero, List.getElem?_cons_succ, bnd_ret, bnd_bnd, neg_int, cmp_eq_int, cmp_ne_int, cmp_lt_int, cmp_le_int, cmp_gt_int, cmp_ge_int, bin_add_int, bin_sub_int, b1_int, b1_len_l, b1_len_t, b1_tuple_l, b1_tuple_t, b1_list_l, b1_list_t, thenD_bl, elseD_bl, iffD_bl, notD_bl, slc_lst, slc_tup, part_none, part_int, List.length_cons, List.length_nil, List.length_map, nfl_0, nfl_s, e1, Bool.not_true, two_rules_f, levels_of_ev (n + 2)]
    rw [if_neg Bool.false_ne_true, bnd_ret]) (fun q => ⟨by simp only [X_ev, S_set, S_own, S_exp, S_app, S_par, S_rws, slD_lst, slD_sh, ownD_lst, seqD_nx, List.set_cons_succ, List.set_cons_zero, frE_var, frE_slot, frE_non, frE_bl, frE_int, frE_str, frE_bin, frE_neg, frE_cmp, frE_chn, frE_and, frE_or, frE_not, frE_ite, frE_call, frE_mk, frE_fld, frE_nfl, frE_idx, frE_slc, frE_rev, frE_tup, frE_lst, frE_b1, frE_b2, frE_isi, frE_lc, frE_lc2, frE_dic, frE_lrg, frE_pget, frA_nil, frA_cons, frO_no, frO_yes, frI_r1, frI_r2, frI_sq, frR_lc, frR_call, frR_ite, frR_var, List.append_nil, List.cons_append, List.nil_append, frz_cons, frz_nil, frz1, E_var, E_slot, E_non, E_bl, E_int, E_str, E_bin, E_neg, E_cmp, E_chn, E_and, E_or, E_not, E_ite, E_call, E_mk, E_fld, E_nfl, E_idx, E_slc, E_rev, E_tup, E_lst, E_b1, E_b2, E_isi, E_dic, E_lrg, A_nil, A_cons, O_no, O_yes, I_r1, I_r2, I_sq, getSh, getAny, List.getElem?_cons_zero, List.getElem?_cons_succ, bnd_ret, bnd_bnd, neg_int, cmp_eq_int, cmp_ne_int, cmp_lt_int, cmp_le_int, cmp_gt_int, cmp_ge_int, bin_add_int, bin_sub_int, b1_int, b1_len_l, b1_len_t, b1_tuple_l, b1_tuple_t, b1_list_l, b1_list_t, thenD_bl, elseD_bl, iffD_bl, notD_bl, slc_lst, slc_tup, part_none, part_int, List.length_cons, List.length_nil, List.length_map, nfl_0, nfl_s]; rfl, ?_⟩) (fun q => ?_)
  · unfold twoS
    have : (decide (rows' = rows) && decide (m' = m)) = false := not_t q
    rw [this, Bool.false_and]
  have q1 : (decide (rows' = rows) && decide (m' = m)) = true := not_f q
  refine Rl.if_ret (t := !(told size m' b && told size m' c)) (d := .bl false) (p := [.sh (webD (rowsR rows)), .sh (.int m), .sh (twoD (rulesD rows' m' tables) b c)]) (by
    simp only [X_ev, S_set, S_own, S_exp, S_app, S_par, S_rws, slD_lst, slD_sh, ownD_lst, seqD_nx, List.set_cons_succ, List.set_cons_zero, frE_var, frE_slot, frE_non, frE_bl, frE_int, frE_str, frE_bin, frE_neg, frE_cmp, frE_chn, frE_and, frE_or, frE_not, frE_ite, frE_call, frE_mk, frE_fld, frE_nfl, frE_idx, frE_slc, frE_rev, frE_tup, frE_lst, frE_b1, frE_b2, frE_isi, frE_lc, frE_lc2, frE_dic, frE_lrg, frE_pget, frA_nil, frA_cons, frO_no, frO_yes, frI_r1, frI_r2, frI_sq, frR_lc, frR_call, frR_ite, frR_var, List.append_nil, List.cons_append, List.nil_append, frz_cons, frz_nil, frz1, E_var, E_slot, E_non, E_bl, E_int, E_str, E_bin, E_neg, E_cmp, E_chn, E_and, E_or, E_not, E_ite, E_call, E_mk, E_fld, E_nfl, E_idx, E_slc, E_rev, E_tup, E_lst, E_b1, E_b2, E_isi, E_dic, E_lrg, A_nil, A_cons, O_no, O_yes, I_r1, I_r2, I_sq, getSh, getAny, List.getElem?_cons_zero, List.getElem?_cons_succ, bnd_ret, bnd_bnd, neg_int, cmp_eq_int, cmp_ne_int, cmp_lt_int, cmp_le_int, cmp_gt_int, cmp_ge_int, bin_add_int, bin_sub_int, b1_int, b1_len_l, b1_len_t, b1_tuple_l, b1_tuple_t, b1_list_l, b1_list_t, thenD_bl, elseD_bl, iffD_bl, notD_bl, slc_lst, slc_tup, part_none, part_int, List.length_cons, List.length_nil, List.length_map, nfl_0, nfl_s, two_rules_f, two_one_f, two_other_f, is_told_ev (n + 1) h' m' tables b hb, is_told_ev (n + 1) h' m' tables c hc]
    cases told size m' b <;> simp) (fun q => ⟨by simp only [X_ev, S_set, S_own, S_exp, S_app, S_par, S_rws, slD_lst, slD_sh, ownD_lst, seqD_nx, List.set_cons_succ, List.set_cons_zero, frE_var, frE_slot, frE_non, frE_bl, frE_int, frE_str, frE_bin, frE_neg, frE_cmp, frE_chn, frE_and, frE_or, frE_not, frE_ite, frE_call, frE_mk, frE_fld, frE_nfl, frE_idx, frE_slc, frE_rev, frE_tup, frE_lst, frE_b1, frE_b2, frE_isi, frE_lc, frE_lc2, frE_dic, frE_lrg, frE_pget, frA_nil, frA_cons, frO_no, frO_yes, frI_r1, frI_r2, frI_sq, frR_lc, frR_call, frR_ite, frR_var, List.append_nil, List.cons_append, List.nil_append, frz_cons, frz_nil, frz1, E_var, E_slot, E_non, E_bl, E_int, E_str, E_bin, E_neg, E_cmp, E_chn, E_and, E_or, E_not, E_ite, E_call, E_mk, E_fld, E_nfl, E_idx, E_slc, E_rev, E_tup, E_lst, E_b1, E_b2, E_isi, E_dic, E_lrg, A_nil, A_cons, O_no, O_yes, I_r1, I_r2, I_sq, getSh, getAny, List.getElem?_cons_zero, List.getElem?_cons_succ, bnd_ret, bnd_bnd, neg_int, cmp_eq_int, cmp_ne_int, cmp_lt_int, cmp_le_int, cmp_gt_int, cmp_ge_int, bin_add_int, bin_sub_int, b1_int, b1_len_l, b1_len_t, b1_tuple_l, b1_tuple_t, b1_list_l, b1_list_t, thenD_bl, elseD_bl, iffD_bl, notD_bl, slc_lst, slc_tup, part_none, part_int, List.length_cons, List.length_nil, List.length_map, nfl_0, nfl_s]; rfl, ?_⟩) (fun q => ?_)
  · unfold twoS
    have : (told size m' b && told size m' c) = false := not_t q
    rw [this, Bool.false_and, Bool.and_false]
  have q2 : (told size m' b && told size m' c) = true := not_f q
  rw [Bool.and_eq_true] at q2
  obtain ⟨ub, sb⟩ := told_un q2.1
  obtain ⟨uc, sc⟩ := told_un q2.2
  have rb := rests_at_ev (n + 1) h' h3 m4 ht sb
  have rc := rests_at_ev (n + 1) h' h3 m4 ht sc
  rw [← ub] at rb
  rw [← uc] at rc
  refine Rl.ret (d := .bl (twoS size rows m rows' m' tables b c)) (p := [.sh (webD (rowsR rows)), .sh (.int m), .sh (twoD (rulesD rows' m' tables) b c)]) ?_ rfl
  unfold twoS
  rw [q1, q2.1, q2.2]
  simp only [X_ev, S_set, S_own, S_exp, S_app, S_par, S_rws, slD_lst, slD_sh, ownD_lst, seqD_nx, List.set_cons_succ, List.set_cons_zero, frE_var, frE_slot, frE_non, frE_bl, frE_int, frE_str, frE_bin, frE_neg, frE_cmp, frE_chn, frE_and, frE_or, frE_not, frE_ite, frE_call, frE_mk, frE_fld, frE_nfl, frE_idx, frE_slc, frE_rev, frE_tup, frE_lst, frE_b1, frE_b2, frE_isi, frE_lc, frE_lc2, frE_dic, frE_lrg, frE_pget, frA_nil, frA_cons, frO_no, frO_yes, frI_r1, frI_r2, frI_sq, frR_lc, frR_call, frR_ite, frR_var, List.append_nil, List.cons_append, List.nil_append, frz_cons, frz_nil, frz1, E_var, E_slot, E_non, E_bl, E_int, E_str, E_bin, E_neg, E_cmp, E_chn, E_and, E_or, E_not, E_ite, E_call, E_mk, E_fld, E_nfl, E_idx, E_slc, E_rev, E_tup, E_lst, E_b1, E_b2, E_isi, E_dic, E_lrg, A_nil, A_cons, O_no, O_yes, I_r1, I_r2, I_sq, getSh, getAny, List.getElem?_cons_zero, List.getElem?_cons_succ, bnd_ret, bnd_bnd, neg_int, cmp_eq_int, cmp_ne_int, cmp_lt_int, cmp_le_int, cmp_gt_int, cmp_ge_int, bin_add_int, bin_sub_int, b1_int, b1_len_l, b1_len_t, b1_tuple_l, b1_tuple_t, b1_list_l, b1_list_t, thenD_bl, elseD_bl, iffD_bl, notD_bl, slc_lst, slc_tup, part_none, part_int, List.length_cons, List.length_nil, List.length_map, nfl_0, nfl_s, two_rules_f, two_one_f, two_other_f, cmp_ne_plk (k := 5) (by decide) pb pc, rb, rc, Bool.true_and, Bool.and_self]
  cases deq b c
  · simp only [Bool.not_false, Bool.true_and]
    rw [if_pos trivial]
    cases restB rows' m' tables (unS b) <;> rfl
  · rfl
theorem two_hold_no (n : Nat) (rows : List (List Int)) {m : Nat} (m1 : 1 ≤ m) (a b c : D) (ha : isT a (.cls 1) = false) :
    (B0.lev (n + 3)).1 19 [webD (rowsR rows), .int m, twoD a b c] = ret (.bl false) := by
  rw [st_two_levels_hold]
  refine runF_at [.sh (webD (rowsR rows)), .sh (.int m), .sh (twoD a b c)] rfl ?_
  unfold ir_two_levels_hold
  refine Rl.st (p := [.sh (webD (rowsR rows)), .sh (.int m), .sh (twoD a b c)]) (by
    simp only [X_ev, S_set, S_own, S_exp, S_app, S_par, S_rws, slD_lst, slD_sh, ownD_lst, seqD_nx, List.set_cons_succ, List.set_cons_zero, frE_var, frE_slot, frE_non, frE_bl, frE_int, frE_str, frE_bin, frE_neg, frE_cmp, frE_chn, frE_and, frE_or, frE_not, frE_ite, frE_call, frE_mk, frE_fld, frE_nfl, frE_idx, frE_slc, frE_rev, frE_tup, frE_lst, frE_b1, frE_b2, frE_isi, frE_lc, frE_lc2, frE_dic, frE_lrg, frE_pget, frA_nil, frA_cons, frO_no, frO_yes, frI_r1, frI_r2, frI_sq, frR_lc, frR_call, frR_ite, frR_var, List.append_nil, List.cons_append, List.nil_append, frz_cons, frz_nil, frz1, E_var, E_slot, E_non, E_bl, E_int, E_str, E_bin, E_neg, E_cmp, E_chn, E_and, E_or, E_not, E_ite, E_call, E_mk, E_fld, E_nfl, E_idx, E_slc, E_rev, E_tup, E_lst, E_b1, E_b2, E_isi, E_dic, E_lrg, A_nil, A_cons, O_no, O_yes, I_r1, I_r2, I_sq, getSh, getAny, List.getElem?_cons_zero, List.getElem?_cons_succ, bnd_ret, bnd_bnd, neg_int, cmp_eq_int, cmp_ne_int, cmp_lt_int, cmp_le_int, cmp_gt_int, cmp_ge_int, bin_add_int, bin_sub_int, b1_int, b1_len_l, b1_len_t, b1_tuple_l, b1_tuple_t, b1_list_l, b1_list_t, thenD_bl, elseD_bl, iffD_bl, notD_bl, slc_lst, slc_tup, part_none, part_int, List.length_cons, List.length_nil, List.length_map, nfl_0, nfl_s, most_told_ev n m1]) ?_
  have e1 : ([Ty.cls 2].any (isT (twoD a b c))) = true := rfl
  refine Rl.if_ret (t := true) (d := .bl false) (p := [.sh (webD (rowsR rows)), .sh (.int m), .sh (twoD a b c)]) (by
    simp only [X_ev, S_set, S_own, S_exp, S_app, S_par, S_rws, slD_lst, slD_sh, ownD_lst, seqD_nx, List.set_cons_succ, List.set_cons_zero, frE_var, frE_slot, frE_non, frE_bl, frE_int, frE_str, frE_bin, frE_neg, frE_cmp, frE_chn, frE_and, frE_or, frE_not, frE_ite, frE_call, frE_mk, frE_fld, frE_nfl, frE_idx, frE_slc, frE_rev, frE_tup, frE_lst, frE_b1, frE_b2, frE_isi, frE_lc, frE_lc2, frE_dic, frE_lrg, frE_pget, frA_nil, frA_cons, frO_no, frO_yes, frI_r1, frI_r2, frI_sq, frR_lc, frR_call, frR_ite, frR_var, List.append_nil, List.cons_append, List.nil_append, frz_cons, frz_nil, frz1, E_var, E_slot, E_non, E_bl, E_int, E_str, E_bin, E_neg, E_cmp, E_chn, E_and, E_or, E_not, E_ite, E_call, E_mk, E_fld, E_nfl, E_idx, E_slc, E_rev, E_tup, E_lst, E_b1, E_b2, E_isi, E_dic, E_lrg, A_nil, A_cons, O_no, O_yes, I_r1, I_r2, I_sq, getSh, getAny, List.getElem?_cons_zero, List.getElem?_cons_succ, bnd_ret, bnd_bnd, neg_int, cmp_eq_int, cmp_ne_int, cmp_lt_int, cmp_le_int, cmp_gt_int, cmp_ge_int, bin_add_int, bin_sub_int, b1_int, b1_len_l, b1_len_t, b1_tuple_l, b1_tuple_t, b1_list_l, b1_list_t, thenD_bl, elseD_bl, iffD_bl, notD_bl, slc_lst, slc_tup, part_none, part_int, List.length_cons, List.length_nil, List.length_map, nfl_0, nfl_s, e1, Bool.not_true, two_rules_f, levels_of_no (n + 1) rows m a ha]
    rfl) (fun q => ⟨by simp only [X_ev, S_set, S_own, S_exp, S_app, S_par, S_rws, slD_lst, slD_sh, ownD_lst, seqD_nx, List.set_cons_succ, List.set_cons_zero, frE_var, frE_slot, frE_non, frE_bl, frE_int, frE_str, frE_bin, frE_neg, frE_cmp, frE_chn, frE_and, frE_or, frE_not, frE_ite, frE_call, frE_mk, frE_fld, frE_nfl, frE_idx, frE_slc, frE_rev, frE_tup, frE_lst, frE_b1, frE_b2, frE_isi, frE_lc, frE_lc2, frE_dic, frE_lrg, frE_pget, frA_nil, frA_cons, frO_no, frO_yes, frI_r1, frI_r2, frI_sq, frR_lc, frR_call, frR_ite, frR_var, List.append_nil, List.cons_append, List.nil_append, frz_cons, frz_nil, frz1, E_var, E_slot, E_non, E_bl, E_int, E_str, E_bin, E_neg, E_cmp, E_chn, E_and, E_or, E_not, E_ite, E_call, E_mk, E_fld, E_nfl, E_idx, E_slc, E_rev, E_tup, E_lst, E_b1, E_b2, E_isi, E_dic, E_lrg, A_nil, A_cons, O_no, O_yes, I_r1, I_r2, I_sq, getSh, getAny, List.getElem?_cons_zero, List.getElem?_cons_succ, bnd_ret, bnd_bnd, neg_int, cmp_eq_int, cmp_ne_int, cmp_lt_int, cmp_le_int, cmp_gt_int, cmp_ge_int, bin_add_int, bin_sub_int, b1_int, b1_len_l, b1_len_t, b1_tuple_l, b1_tuple_t, b1_list_l, b1_list_t, thenD_bl, elseD_bl, iffD_bl, notD_bl, slc_lst, slc_tup, part_none, part_int, List.length_cons, List.length_nil, List.length_map, nfl_0, nfl_s]; rfl, rfl⟩) (fun q => by cases q)
theorem two_hold_no2 (n : Nat) (rows : List (List Int)) {m : Nat} (m1 : 1 ≤ m) (v : D) (hv : isT v (.cls 2) = false) :
    (B0.lev (n + 3)).1 19 [webD (rowsR rows), .int m, v] = ret (.bl false) := by
  rw [st_two_levels_hold]
  refine runF_at [.sh (webD (rowsR rows)), .sh (.int m), .sh v] rfl ?_
  unfold ir_two_levels_hold
  refine Rl.st (p := [.sh (webD (rowsR rows)), .sh (.int m), .sh v]) (by
    simp only [X_ev, S_set, S_own, S_exp, S_app, S_par, S_rws, slD_lst, slD_sh, ownD_lst, seqD_nx, List.set_cons_succ, List.set_cons_zero, frE_var, frE_slot, frE_non, frE_bl, frE_int, frE_str, frE_bin, frE_neg, frE_cmp, frE_chn, frE_and, frE_or, frE_not, frE_ite, frE_call, frE_mk, frE_fld, frE_nfl, frE_idx, frE_slc, frE_rev, frE_tup, frE_lst, frE_b1, frE_b2, frE_isi, frE_lc, frE_lc2, frE_dic, frE_lrg, frE_pget, frA_nil, frA_cons, frO_no, frO_yes, frI_r1, frI_r2, frI_sq, frR_lc, frR_call, frR_ite, frR_var, List.append_nil, List.cons_append, List.nil_append, frz_cons, frz_nil, frz1, E_var, E_slot, E_non, E_bl, E_int, E_str, E_bin, E_neg, E_cmp, E_chn, E_and, E_or, E_not, E_ite, E_call, E_mk, E_fld, E_nfl, E_idx, E_slc, E_rev, E_tup, E_lst, E_b1, E_b2, E_isi, E_dic, E_lrg, A_nil, A_cons, O_no, O_yes, I_r1, I_r2, I_sq, getSh, getAny, List.getElem?_cons_zero, List.getElem?_cons_succ, bnd_ret, bnd_bnd, neg_int, cmp_eq_int, cmp_ne_int, cmp_lt_int, cmp_le_int, cmp_gt_int, cmp_ge_int, bin_add_int, bin_sub_int, b1_int, b1_len_l, b1_len_t, b1_tuple_l, b1_tuple_t, b1_list_l, b1_list_t, thenD_bl, elseD_bl, iffD_bl, notD_bl, slc_lst, slc_tup, part_none, part_int, List.length_cons, List.length_nil, List.length_map, nfl_0, nfl_s, most_told_ev n m1]) ?_
  have e1 : ([Ty.cls 2].any (isT v)) = false := by simp only [List.any_cons, List.any_nil, hv]; rfl
  refine Rl.if_ret (t := true) (d := .bl false) (p := [.sh (webD (rowsR rows)), .sh (.int m), .sh v]) (by
    simp only [X_ev, S_set, S_own, S_exp, S_app, S_par, S_rws, slD_lst, slD_sh, ownD_lst, seqD_nx, List.set_cons_succ, List.set_cons_zero, frE_var, frE_slot, frE_non, frE_bl, frE_int, frE_str, frE_bin, frE_neg, frE_cmp, frE_chn, frE_and, frE_or, frE_not, frE_ite, frE_call, frE_mk, frE_fld, frE_nfl, frE_idx, frE_slc, frE_rev, frE_tup, frE_lst, frE_b1, frE_b2, frE_isi, frE_lc, frE_lc2, frE_dic, frE_lrg, frE_pget, frA_nil, frA_cons, frO_no, frO_yes, frI_r1, frI_r2, frI_sq, frR_lc, frR_call, frR_ite, frR_var, List.append_nil, List.cons_append, List.nil_append, frz_cons, frz_nil, frz1, E_var, E_slot, E_non, E_bl, E_int, E_str, E_bin, E_neg, E_cmp, E_chn, E_and, E_or, E_not, E_ite, E_call, E_mk, E_fld, E_nfl, E_idx, E_slc, E_rev, E_tup, E_lst, E_b1, E_b2, E_isi, E_dic, E_lrg, A_nil, A_cons, O_no, O_yes, I_r1, I_r2, I_sq, getSh, getAny, List.getElem?_cons_zero, List.getElem?_cons_succ, bnd_ret, bnd_bnd, neg_int, cmp_eq_int, cmp_ne_int, cmp_lt_int, cmp_le_int, cmp_gt_int, cmp_ge_int, bin_add_int, bin_sub_int, b1_int, b1_len_l, b1_len_t, b1_tuple_l, b1_tuple_t, b1_list_l, b1_list_t, thenD_bl, elseD_bl, iffD_bl, notD_bl, slc_lst, slc_tup, part_none, part_int, List.length_cons, List.length_nil, List.length_map, nfl_0, nfl_s, e1, Bool.not_false]
    rfl) (fun q => ⟨by simp only [X_ev, S_set, S_own, S_exp, S_app, S_par, S_rws, slD_lst, slD_sh, ownD_lst, seqD_nx, List.set_cons_succ, List.set_cons_zero, frE_var, frE_slot, frE_non, frE_bl, frE_int, frE_str, frE_bin, frE_neg, frE_cmp, frE_chn, frE_and, frE_or, frE_not, frE_ite, frE_call, frE_mk, frE_fld, frE_nfl, frE_idx, frE_slc, frE_rev, frE_tup, frE_lst, frE_b1, frE_b2, frE_isi, frE_lc, frE_lc2, frE_dic, frE_lrg, frE_pget, frA_nil, frA_cons, frO_no, frO_yes, frI_r1, frI_r2, frI_sq, frR_lc, frR_call, frR_ite, frR_var, List.append_nil, List.cons_append, List.nil_append, frz_cons, frz_nil, frz1, E_var, E_slot, E_non, E_bl, E_int, E_str, E_bin, E_neg, E_cmp, E_chn, E_and, E_or, E_not, E_ite, E_call, E_mk, E_fld, E_nfl, E_idx, E_slc, E_rev, E_tup, E_lst, E_b1, E_b2, E_isi, E_dic, E_lrg, A_nil, A_cons, O_no, O_yes, I_r1, I_r2, I_sq, getSh, getAny, List.getElem?_cons_zero, List.getElem?_cons_succ, bnd_ret, bnd_bnd, neg_int, cmp_eq_int, cmp_ne_int, cmp_lt_int, cmp_le_int, cmp_gt_int, cmp_ge_int, bin_add_int, bin_sub_int, b1_int, b1_len_l, b1_len_t, b1_tuple_l, b1_tuple_t, b1_list_l, b1_list_t, thenD_bl, elseD_bl, iffD_bl, notD_bl, slc_lst, slc_tup, part_none, part_int, List.length_cons, List.length_nil, List.length_map, nfl_0, nfl_s]; rfl, rfl⟩) (fun q => by cases q)
def noneS (rows : List (List Int)) (m : Nat) (rows' : List (List Int)) (m' : Nat) (tables : List (List Int)) : Bool := (decide (rows' = rows) && decide (m' = m)) && decide (restsL rows' m' tables = [])
theorem none_hold_ev (n : Nat) {size : Nat} {rows rows' : List (List Int)} (h' : IRow size rows') (h3 : size ≤ 3) {m m' : Nat} (m1 : 1 ≤ m) (m4 : m' ≤ 4) {tables : List (List Int)} (ht : TabsOk m' rows' tables) :
    (B0.lev (n + 5)).1 20 [webD (rowsR rows), .int m, noneD (rulesD rows' m' tables)] = ret (.bl (noneS rows m rows' m' tables)) := by
  rw [st_no_levels_hold]
  refine runF_at [.sh (webD (rowsR rows)), .sh (.int m), .sh (noneD (rulesD rows' m' tables))] rfl ?_
  unfold ir_no_levels_hold
  refine Rl.st (p := [.sh (webD (rowsR rows)), .sh (.int m), .sh (noneD (rulesD rows' m' tables))]) (by
    simp only [X_ev, S_set, S_own, S_exp, S_app, S_par, S_rws, slD_lst, slD_sh, ownD_lst, seqD_nx, List.set_cons_succ, List.set_cons_zero, frE_var, frE_slot, frE_non, frE_bl, frE_int, frE_str, frE_bin, frE_neg, frE_cmp, frE_chn, frE_and, frE_or, frE_not, frE_ite, frE_call, frE_mk, frE_fld, frE_nfl, frE_idx, frE_slc, frE_rev, frE_tup, frE_lst, frE_b1, frE_b2, frE_isi, frE_lc, frE_lc2, frE_dic, frE_lrg, frE_pget, frA_nil, frA_cons, frO_no, frO_yes, frI_r1, frI_r2, frI_sq, frR_lc, frR_call, frR_ite, frR_var, List.append_nil, List.cons_append, List.nil_append, frz_cons, frz_nil, frz1, E_var, E_slot, E_non, E_bl, E_int, E_str, E_bin, E_neg, E_cmp, E_chn, E_and, E_or, E_not, E_ite, E_call, E_mk, E_fld, E_nfl, E_idx, E_slc, E_rev, E_tup, E_lst, E_b1, E_b2, E_isi, E_dic, E_lrg, A_nil, A_cons, O_no, O_yes, I_r1, I_r2, I_sq, getSh, getAny, List.getElem?_cons_zero, List.getElem?_cons_succ, bnd_ret, bnd_bnd, neg_int, cmp_eq_int, cmp_ne_int, cmp_lt_int, cmp_le_int, cmp_gt_int, cmp_ge_int, bin_add_int, bin_sub_int, b1_int, b1_len_l, b1_len_t, b1_tuple_l, b1_tuple_t, b1_list_l, b1_list_t, thenD_bl, elseD_bl, iffD_bl, notD_bl, slc_lst, slc_tup, part_none, part_int, List.length_cons, List.length_nil, List.length_map, nfl_0, nfl_s, most_told_ev (n + 2) m1]) ?_
  have e1 : ([Ty.cls 3].any (isT (noneD (rulesD rows' m' tables)))) = true := rfl
  refine Rl.ret (d := .bl (noneS rows m rows' m' tables)) (p := [.sh (webD (rowsR rows)), .sh (.int m), .sh (noneD (rulesD rows' m' tables))]) ?_ rfl
  unfold noneS
  simp only [X_ev, S_set, S_own, S_exp, S_app, S_par, S_rws, slD_lst, slD_sh, ownD_lst, seqD_nx, List.set_cons_succ, List.set_cons_zero, frE_var, frE_slot, frE_non, frE_bl, frE_int, frE_str, frE_bin, frE_neg, frE_cmp, frE_chn, frE_and, frE_or, frE_not, frE_ite, frE_call, frE_mk, frE_fld, frE_nfl, frE_idx, frE_slc, frE_rev, frE_tup, frE_lst, frE_b1, frE_b2, frE_isi, frE_lc, frE_lc2, frE_dic, frE_lrg, frE_pget, frA_nil, frA_cons, frO_no, frO_yes, frI_r1, frI_r2, frI_sq, frR_lc, frR_call, frR_ite, frR_var, List.append_nil, List.cons_append, List.nil_append, frz_cons, frz_nil, frz1, E_var, E_slot, E_non, E_bl, E_int, E_str, E_bin, E_neg, E_cmp, E_chn, E_and, E_or, E_not, E_ite, E_call, E_mk, E_fld, E_nfl, E_idx, E_slc, E_rev, E_tup, E_lst, E_b1, E_b2, E_isi, E_dic, E_lrg, A_nil, A_cons, O_no, O_yes, I_r1, I_r2, I_sq, getSh, getAny, List.getElem?_cons_zero, List.getElem?_cons_succ, bnd_ret, bnd_bnd, neg_int, cmp_eq_int, cmp_ne_int, cmp_lt_int, cmp_le_int, cmp_gt_int, cmp_ge_int, bin_add_int, bin_sub_int, b1_int, b1_len_l, b1_len_t, b1_tuple_l, b1_tuple_t, b1_list_l, b1_list_t, thenD_bl, elseD_bl, iffD_bl, notD_bl, slc_lst, slc_tup, part_none, part_int, List.length_cons, List.length_nil, List.length_map, nfl_0, nfl_s, e1, none_rules_f, levels_of_ev (n + 2), level_rests_ev n h' h3 m4 ht]
  rw [if_pos trivial]
  by_cases q : (decide (rows' = rows) && decide (m' = m)) = true
  · rw [if_pos q, q, bnd_ret, Bool.true_and]
    have : decide (((restsL rows' m' tables).length : Int) = 0) = decide (restsL rows' m' tables = []) := by
      rw [decide_eq_decide, ← List.length_eq_zero_iff]
      omega
    rw [this]
  · rw [if_neg q, bnd_ret]
    have : (decide (rows' = rows) && decide (m' = m)) = false := by simpa using q
    rw [this, Bool.false_and]
theorem none_hold_no (n : Nat) (rows : List (List Int)) {m : Nat} (m1 : 1 ≤ m) (a : D) (ha : isT a (.cls 1) = false) :
    (B0.lev (n + 3)).1 20 [webD (rowsR rows), .int m, noneD a] = ret (.bl false) := by
  rw [st_no_levels_hold]
  refine runF_at [.sh (webD (rowsR rows)), .sh (.int m), .sh (noneD a)] rfl ?_
  unfold ir_no_levels_hold
  refine Rl.st (p := [.sh (webD (rowsR rows)), .sh (.int m), .sh (noneD a)]) (by
    simp only [X_ev, S_set, S_own, S_exp, S_app, S_par, S_rws, slD_lst, slD_sh, ownD_lst, seqD_nx, List.set_cons_succ, List.set_cons_zero, frE_var, frE_slot, frE_non, frE_bl, frE_int, frE_str, frE_bin, frE_neg, frE_cmp, frE_chn, frE_and, frE_or, frE_not, frE_ite, frE_call, frE_mk, frE_fld, frE_nfl, frE_idx, frE_slc, frE_rev, frE_tup, frE_lst, frE_b1, frE_b2, frE_isi, frE_lc, frE_lc2, frE_dic, frE_lrg, frE_pget, frA_nil, frA_cons, frO_no, frO_yes, frI_r1, frI_r2, frI_sq, frR_lc, frR_call, frR_ite, frR_var, List.append_nil, List.cons_append, List.nil_append, frz_cons, frz_nil, frz1, E_var, E_slot, E_non, E_bl, E_int, E_str, E_bin, E_neg, E_cmp, E_chn, E_and, E_or, E_not, E_ite, E_call, E_mk, E_fld, E_nfl, E_idx, E_slc, E_rev, E_tup, E_lst, E_b1, E_b2, E_isi, E_dic, E_lrg, A_nil, A_cons, O_no, O_yes, I_r1, I_r2, I_sq, getSh, getAny, List.getElem?_cons_zero, List.getElem?_cons_succ, bnd_ret, bnd_bnd, neg_int, cmp_eq_int, cmp_ne_int, cmp_lt_int, cmp_le_int, cmp_gt_int, cmp_ge_int, bin_add_int, bin_sub_int, b1_int, b1_len_l, b1_len_t, b1_tuple_l, b1_tuple_t, b1_list_l, b1_list_t, thenD_bl, elseD_bl, iffD_bl, notD_bl, slc_lst, slc_tup, part_none, part_int, List.length_cons, List.length_nil, List.length_map, nfl_0, nfl_s, most_told_ev n m1]) ?_
  have e1 : ([Ty.cls 3].any (isT (noneD a))) = true := rfl
  refine Rl.ret (d := .bl false) (p := [.sh (webD (rowsR rows)), .sh (.int m), .sh (noneD a)]) ?_ rfl
  simp only [X_ev, S_set, S_own, S_exp, S_app, S_par, S_rws, slD_lst, slD_sh, ownD_lst, seqD_nx, List.set_cons_succ, List.set_cons_zero, frE_var, frE_slot, frE_non, frE_bl, frE_int, frE_str, frE_bin, frE_neg, frE_cmp, frE_chn, frE_and, frE_or, frE_not, frE_ite, frE_call, frE_mk, frE_fld, frE_nfl, frE_idx, frE_slc, frE_rev, frE_tup, frE_lst, frE_b1, frE_b2, frE_isi, frE_lc, frE_lc2, frE_dic, frE_lrg, frE_pget, frA_nil, frA_cons, frO_no, frO_yes, frI_r1, frI_r2, frI_sq, frR_lc, frR_call, frR_ite, frR_var, List.append_nil, List.cons_append, List.nil_append, frz_cons, frz_nil, frz1, E_var, E_slot, E_non, E_bl, E_int, E_str, E_bin, E_neg, E_cmp, E_chn, E_and, E_or, E_not, E_ite, E_call, E_mk, E_fld, E_nfl, E_idx, E_slc, E_rev, E_tup, E_lst, E_b1, E_b2, E_isi, E_dic, E_lrg, A_nil, A_cons, O_no, O_yes, I_r1, I_r2, I_sq, getSh, getAny, List.getElem?_cons_zero, List.getElem?_cons_succ, bnd_ret, bnd_bnd, neg_int, cmp_eq_int, cmp_ne_int, cmp_lt_int, cmp_le_int, cmp_gt_int, cmp_ge_int, bin_add_int, bin_sub_int, b1_int, b1_len_l, b1_len_t, b1_tuple_l, b1_tuple_t, b1_list_l, b1_list_t, thenD_bl, elseD_bl, iffD_bl, notD_bl, slc_lst, slc_tup, part_none, part_int, List.length_cons, List.length_nil, List.length_map, nfl_0, nfl_s, e1, none_rules_f, levels_of_no (n + 1) rows m a ha]
  rfl
theorem none_hold_no2 (n : Nat) (rows : List (List Int)) {m : Nat} (m1 : 1 ≤ m) (v : D) (hv : isT v (.cls 3) = false) :
    (B0.lev (n + 3)).1 20 [webD (rowsR rows), .int m, v] = ret (.bl false) := by
  rw [st_no_levels_hold]
  refine runF_at [.sh (webD (rowsR rows)), .sh (.int m), .sh v] rfl ?_
  unfold ir_no_levels_hold
  refine Rl.st (p := [.sh (webD (rowsR rows)), .sh (.int m), .sh v]) (by
    simp only [X_ev, S_set, S_own, S_exp, S_app, S_par, S_rws, slD_lst, slD_sh, ownD_lst, seqD_nx, List.set_cons_succ, List.set_cons_zero, frE_var, frE_slot, frE_non, frE_bl, frE_int, frE_str, frE_bin, frE_neg, frE_cmp, frE_chn, frE_and, frE_or, frE_not, frE_ite, frE_call, frE_mk, frE_fld, frE_nfl, frE_idx, frE_slc, frE_rev, frE_tup, frE_lst, frE_b1, frE_b2, frE_isi, frE_lc, frE_lc2, frE_dic, frE_lrg, frE_pget, frA_nil, frA_cons, frO_no, frO_yes, frI_r1, frI_r2, frI_sq, frR_lc, frR_call, frR_ite, frR_var, List.append_nil, List.cons_append, List.nil_append, frz_cons, frz_nil, frz1, E_var, E_slot, E_non, E_bl, E_int, E_str, E_bin, E_neg, E_cmp, E_chn, E_and, E_or, E_not, E_ite, E_call, E_mk, E_fld, E_nfl, E_idx, E_slc, E_rev, E_tup, E_lst, E_b1, E_b2, E_isi, E_dic, E_lrg, A_nil, A_cons, O_no, O_yes, I_r1, I_r2, I_sq, getSh, getAny, List.getElem?_cons_zero, List.getElem?_cons_succ, bnd_ret, bnd_bnd, neg_int, cmp_eq_int, cmp_ne_int, cmp_lt_int, cmp_le_int, cmp_gt_int, cmp_ge_int, bin_add_int, bin_sub_int, b1_int, b1_len_l, b1_len_t, b1_tuple_l, b1_tuple_t, b1_list_l, b1_list_t, thenD_bl, elseD_bl, iffD_bl, notD_bl, slc_lst, slc_tup, part_none, part_int, List.length_cons, List.length_nil, List.length_map, nfl_0, nfl_s, most_told_ev n m1]) ?_
  have e1 : ([Ty.cls 3].any (isT v)) = false := by simp only [List.any_cons, List.any_nil, hv]; rfl
  refine Rl.ret (d := .bl false) (p := [.sh (webD (rowsR rows)), .sh (.int m), .sh v]) ?_ rfl
  simp only [X_ev, S_set, S_own, S_exp, S_app, S_par, S_rws, slD_lst, slD_sh, ownD_lst, seqD_nx, List.set_cons_succ, List.set_cons_zero, frE_var, frE_slot, frE_non, frE_bl, frE_int, frE_str, frE_bin, frE_neg, frE_cmp, frE_chn, frE_and, frE_or, frE_not, frE_ite, frE_call, frE_mk, frE_fld, frE_nfl, frE_idx, frE_slc, frE_rev, frE_tup, frE_lst, frE_b1, frE_b2, frE_isi, frE_lc, frE_lc2, frE_dic, frE_lrg, frE_pget, frA_nil, frA_cons, frO_no, frO_yes, frI_r1, frI_r2, frI_sq, frR_lc, frR_call, frR_ite, frR_var, List.append_nil, List.cons_append, List.nil_append, frz_cons, frz_nil, frz1, E_var, E_slot, E_non, E_bl, E_int, E_str, E_bin, E_neg, E_cmp, E_chn, E_and, E_or, E_not, E_ite, E_call, E_mk, E_fld, E_nfl, E_idx, E_slc, E_rev, E_tup, E_lst, E_b1, E_b2, E_isi, E_dic, E_lrg, A_nil, A_cons, O_no, O_yes, I_r1, I_r2, I_sq, getSh, getAny, List.getElem?_cons_zero, List.getElem?_cons_succ, bnd_ret, bnd_bnd, neg_int, cmp_eq_int, cmp_ne_int, cmp_lt_int, cmp_le_int, cmp_gt_int, cmp_ge_int, bin_add_int, bin_sub_int, b1_int, b1_len_l, b1_len_t, b1_tuple_l, b1_tuple_t, b1_list_l, b1_list_t, thenD_bl, elseD_bl, iffD_bl, notD_bl, slc_lst, slc_tup, part_none, part_int, List.length_cons, List.length_nil, List.length_map, nfl_0, nfl_s, e1]
  rfl
end UK

set_option Elab.async false
set_option linter.all false
set_option maxRecDepth 100000
set_option maxHeartbeats 400000
namespace UK
open PySem PySem.Spec PyProof.Rows L2
theorem states_complete {size m : Nat} : ∀ {n : Nat} {s : List Int}, s.length = n → (∀ l ∈ s, 0 ≤ l ∧ l ≤ (m : Int)) → s ∈ states m n
  | 0, s, h, _ => by
    have : s = [] := List.length_eq_zero_iff.mp h
    subst this
    exact List.mem_singleton.mpr rfl
  | n + 1, s, h, hs => by
    have hne : s ≠ [] := by intro e; subst e; cases h
    have e := List.dropLast_concat_getLast hne
    have h1 : s.dropLast ∈ states m n := states_complete (size := size) (by rw [List.length_dropLast, h]; rfl) fun l hl => hs l (List.dropLast_subset _ hl)
    have h2 := hs _ (List.getLast_mem hne)
    refine List.mem_flatMap.mpr ⟨s.dropLast, h1, List.mem_map.mpr ⟨s.getLast hne, ?_, e⟩⟩
    unfold levs
    exact List.mem_map.mpr ⟨(s.getLast hne).toNat, List.mem_range.mpr (by omega), by show (((s.getLast hne).toNat : Nat) : Int) = _; omega⟩
theorem rests_any {size m : Nat} {rows : List (List Int)} (h : IRow size rows) {tables : List (List Int)} {s : List Int} (hs : StOk size m s) : (((restsL rows m tables).map stD).any fun y => deq y (stD s)) = restB rows m tables s := by
  rw [List.any_map]
  have e : ((fun y => deq y (stD s)) ∘ stD) = fun t : List Int => decide (t = s) := by
    funext t
    exact deq_tints t s
  rw [e]
  by_cases q : restB rows m tables s = true
  · rw [q]
    refine List.any_eq_true.mpr ⟨s, ?_, decide_eq_true rfl⟩
    unfold restsL
    refine List.mem_filter.mpr ⟨?_, q⟩
    rw [h.1]
    exact states_complete (size := size) hs.1 hs.2
  · have q' : restB rows m tables s = false := by simpa using q
    rw [q']
    refine List.any_eq_false.mpr fun t ht hd => ?_
    have := of_decide_eq_true hd
    subst this
    exact q (List.mem_filter.mp ht).2
theorem law_is_int_ev (n : Nat) (d : D) : (B0.lev (n + 1)).1 30 [d] = ret (.bl (wholeB d)) := by
  rw [st__law_is_int]
  cases d <;> rfl
theorem law_is_levels_ev (n : Nat) (m many : Nat) (d : D) (hd : Sm1000 d) : (B0.lev (n + 2)).1 37 [.int many, .int m, d] = ret (.bl (told many m d)) := by
  rw [st__law_is_levels]
  refine runF_at [.sh (.int many), .sh (.int m), .sh d, .un] rfl ?_
  unfold ir__law_is_levels
  refine Rl.ret (d := .bl (told many m d)) (p := [.sh (.int many), .sh (.int m), .sh d, .un]) ?_ rfl
  by_cases q : ∃ xs, d = .tup xs
  · obtain ⟨xs, rfl⟩ := q
    have hl := hd xs rfl
    have hlc : evE TT (B0.lev (n + 1)).1 (B0.lev (n + 1)).2 (.lc [3] (.and (.call 30 (.cons (.var 3) .nil)) (.chn .le .le (.int 0) (.slot 3) (.slot 1))) [3] (.sq (.slot 2)) .no) [.sh (.int many), .sh (.int m), .sh (.tup xs), .un] = ret (.lst (xs.map fun d => .bl (lvD m d))) := by
      refine lc_all xs (fun d => d) _ (by rw [List.map_id']; rfl) hl fun d _ => ?_
      simp only [elM_one, ifM_no, ifM_yes, wipeE_nil, wipeE_cons, X_ev, S_set, S_own, S_exp, S_app, S_par, S_rws, slD_lst, slD_sh, ownD_lst, seqD_nx, List.set_cons_succ, List.set_cons_zero, E_var, E_slot, E_non, E_bl, E_int, E_str, E_bin, E_neg, E_cmp, E_chn, E_and, E_or, E_not, E_ite, E_call, E_mk, E_fld, E_nfl, E_idx, E_slc, E_rev, E_tup, E_lst, E_b1, E_b2, E_isi, E_dic, E_lrg, A_nil, A_cons, O_no, O_yes, I_r1, I_r2, I_sq, getSh, getAny, List.getElem?_cons_zero, List.getElem?_cons_succ, bnd_ret, bnd_bnd, neg_int, cmp_eq_int, cmp_ne_int, cmp_lt_int, cmp_le_int, cmp_gt_int, cmp_ge_int, bin_add_int, bin_sub_int, b1_int, b1_len_l, b1_len_t, b1_tuple_l, b1_tuple_t, b1_list_l, b1_list_t, thenD_bl, elseD_bl, iffD_bl, notD_bl, slc_lst, slc_tup, part_none, part_int, List.length_cons, List.length_nil, List.length_map, law_is_int_ev]
      cases d with
      | int i =>
        rw [show wholeB (.int i) = true from rfl, if_pos rfl]
        simp only [E_var, E_slot, E_non, E_bl, E_int, E_str, E_bin, E_neg, E_cmp, E_chn, E_and, E_or, E_not, E_ite, E_call, E_mk, E_fld, E_nfl, E_idx, E_slc, E_rev, E_tup, E_lst, E_b1, E_b2, E_isi, E_dic, E_lrg, A_nil, A_cons, O_no, O_yes, I_r1, I_r2, I_sq, getSh, getAny, List.getElem?_cons_zero, List.getElem?_cons_succ, bnd_ret, bnd_bnd, neg_int, cmp_eq_int, cmp_ne_int, cmp_lt_int, cmp_le_int, cmp_gt_int, cmp_ge_int, bin_add_int, bin_sub_int, b1_int, b1_len_l, b1_len_t, b1_tuple_l, b1_tuple_t, b1_list_l, b1_list_t, thenD_bl, elseD_bl, iffD_bl, notD_bl, slc_lst, slc_tup, part_none, part_int, List.length_cons, List.length_nil, List.length_map]
        rw [show lvD m (.int i) = (decide (0 ≤ i) && decide (i ≤ (m : Int))) from rfl]
        by_cases z : 0 ≤ i
        · rw [if_pos (decide_eq_true z), decide_eq_true z, bnd_ret, Bool.true_and]
        · rw [if_neg (by simpa using z), decide_eq_false z, Bool.false_and]
          rfl
      | _ => rfl
    simp only [X_ev, S_set, S_own, S_exp, S_app, S_par, S_rws, slD_lst, slD_sh, ownD_lst, seqD_nx, List.set_cons_succ, List.set_cons_zero, frE_var, frE_slot, frE_non, frE_bl, frE_int, frE_str, frE_bin, frE_neg, frE_cmp, frE_chn, frE_and, frE_or, frE_not, frE_ite, frE_call, frE_mk, frE_fld, frE_nfl, frE_idx, frE_slc, frE_rev, frE_tup, frE_lst, frE_b1, frE_b2, frE_isi, frE_lc, frE_lc2, frE_dic, frE_lrg, frE_pget, frA_nil, frA_cons, frO_no, frO_yes, frI_r1, frI_r2, frI_sq, frR_lc, frR_call, frR_ite, frR_var, List.append_nil, List.cons_append, List.nil_append, frz_cons, frz_nil, frz1, E_var, E_slot, E_non, E_bl, E_int, E_str, E_bin, E_neg, E_cmp, E_chn, E_and, E_or, E_not, E_ite, E_call, E_mk, E_fld, E_nfl, E_idx, E_slc, E_rev, E_tup, E_lst, E_b1, E_b2, E_isi, E_dic, E_lrg, A_nil, A_cons, O_no, O_yes, I_r1, I_r2, I_sq, getSh, getAny, List.getElem?_cons_zero, List.getElem?_cons_succ, bnd_ret, bnd_bnd, neg_int, cmp_eq_int, cmp_ne_int, cmp_lt_int, cmp_le_int, cmp_gt_int, cmp_ge_int, bin_add_int, bin_sub_int, b1_int, b1_len_l, b1_len_t, b1_tuple_l, b1_tuple_t, b1_list_l, b1_list_t, thenD_bl, elseD_bl, iffD_bl, notD_bl, slc_lst, slc_tup, part_none, part_int, List.length_cons, List.length_nil, List.length_map, nfl_0, nfl_s, hlc, all_map, frE_lc, frI_sq]
    rw [show [Ty.tuple].any (isT (.tup xs)) = true from rfl, if_pos rfl]
    rw [show told many m (.tup xs) = (decide (xs.length = many) && xs.all (lvD m)) from rfl]
    by_cases z : xs.length = many
    · rw [if_pos (decide_eq_true (by omega)), decide_eq_true z, Bool.true_and]
      rfl
    · rw [if_neg (by simp; omega), decide_eq_false z, Bool.false_and]
      rfl
  · have e1 : ([Ty.tuple].any (isT d)) = false := by
      cases d with
      | tup xs => exact absurd ⟨xs, rfl⟩ q
      | _ => rfl
    have e2 : told many m d = false := by
      cases d with
      | tup xs => exact absurd ⟨xs, rfl⟩ q
      | _ => rfl
    simp only [X_ev, S_set, S_own, S_exp, S_app, S_par, S_rws, slD_lst, slD_sh, ownD_lst, seqD_nx, List.set_cons_succ, List.set_cons_zero, frE_var, frE_slot, frE_non, frE_bl, frE_int, frE_str, frE_bin, frE_neg, frE_cmp, frE_chn, frE_and, frE_or, frE_not, frE_ite, frE_call, frE_mk, frE_fld, frE_nfl, frE_idx, frE_slc, frE_rev, frE_tup, frE_lst, frE_b1, frE_b2, frE_isi, frE_lc, frE_lc2, frE_dic, frE_lrg, frE_pget, frA_nil, frA_cons, frO_no, frO_yes, frI_r1, frI_r2, frI_sq, frR_lc, frR_call, frR_ite, frR_var, List.append_nil, List.cons_append, List.nil_append, frz_cons, frz_nil, frz1, E_var, E_slot, E_non, E_bl, E_int, E_str, E_bin, E_neg, E_cmp, E_chn, E_and, E_or, E_not, E_ite, E_call, E_mk, E_fld, E_nfl, E_idx, E_slc, E_rev, E_tup, E_lst, E_b1, E_b2, E_isi, E_dic, E_lrg, A_nil, A_cons, O_no, O_yes, I_r1, I_r2, I_sq, getSh, getAny, List.getElem?_cons_zero, List.getElem?_cons_succ, bnd_ret, bnd_bnd, neg_int, cmp_eq_int, cmp_ne_int, cmp_lt_int, cmp_le_int, cmp_gt_int, cmp_ge_int, bin_add_int, bin_sub_int, b1_int, b1_len_l, b1_len_t, b1_tuple_l, b1_tuple_t, b1_list_l, b1_list_t, thenD_bl, elseD_bl, iffD_bl, notD_bl, slc_lst, slc_tup, part_none, part_int, List.length_cons, List.length_nil, List.length_map, nfl_0, nfl_s, e1, e2, frE_lc, frI_sq]
    rfl
theorem two_right_ev (n : Nat) {size : Nat} {rows rows' : List (List Int)} (h : IRow size rows) (h' : IRow size rows') (h0 : 0 < size) (h3 : size ≤ 3) {m m' : Nat} (m1 : 1 ≤ m) (m4 : m' ≤ 4) {tables : List (List Int)} (ht : TabsOk m' rows' tables) {b c : D} (hb : Sm1000 b) (hc : Sm1000 c) (pb : plk 5 b = true) (pc : plk 5 c = true) :
    (B0.lev (n + 5)).1 39 [rowsT rows, .int m, twoD (rulesD rows' m' tables) b c] = ret (.bl (twoS size rows m rows' m' tables b c)) := by
  rw [st__law_two_right]
  refine runF_at [.sh (rowsT rows), .sh (.int m), .sh (twoD (rulesD rows' m' tables) b c), .un, .un] rfl ?_
  unfold ir__law_two_right
  have hl : ((rowsR rows).map D.tup).length = size := by unfold rowsR; rw [List.length_map, List.length_map]; exact h.1
  have hlen : b1D .len (rowsT rows) = ret (.int size) := by unfold rowsT; rw [b1_len_t, hl]
  have hl2 : (rowsR rows).length = size := by unfold rowsR; rw [List.length_map, h.1]
  have hw : (B0.lev (n + 4)).2 0 [rowsT rows] = ret (webD (rowsR rows)) := web_ini (n + 1) (rowsR rows) (by omega) (by omega) (by rw [hl2]; exact h.ok)
  have e1 : ([Ty.cls 1].any (isT (rulesD rows' m' tables))) = true := rfl
  refine Rl.st (p := [.sh (rowsT rows), .sh (.int m), .sh (twoD (rulesD rows' m' tables) b c), .sh (rulesD rows' m' tables), .un]) (by
    simp only [X_ev, S_set, S_own, S_exp, S_app, S_par, S_rws, slD_lst, slD_sh, ownD_lst, seqD_nx, List.set_cons_succ, List.set_cons_zero, frE_var, frE_slot, frE_non, frE_bl, frE_int, frE_str, frE_bin, frE_neg, frE_cmp, frE_chn, frE_and, frE_or, frE_not, frE_ite, frE_call, frE_mk, frE_fld, frE_nfl, frE_idx, frE_slc, frE_rev, frE_tup, frE_lst, frE_b1, frE_b2, frE_isi, frE_lc, frE_lc2, frE_dic, frE_lrg, frE_pget, frA_nil, frA_cons, frO_no, frO_yes, frI_r1, frI_r2, frI_sq, frR_lc, frR_call, frR_ite, frR_var, List.append_nil, List.cons_append, List.nil_append, frz_cons, frz_nil, frz1, E_var, E_slot, E_non, E_bl, E_int, E_str, E_bin, E_neg, E_cmp, E_chn, E_and, E_or, E_not, E_ite, E_call, E_mk, E_fld, E_nfl, E_idx, E_slc, E_rev, E_tup, E_lst, E_b1, E_b2, E_isi, E_dic, E_lrg, A_nil, A_cons, O_no, O_yes, I_r1, I_r2, I_sq, getSh, getAny, List.getElem?_cons_zero, List.getElem?_cons_succ, bnd_ret, bnd_bnd, neg_int, cmp_eq_int, cmp_ne_int, cmp_lt_int, cmp_le_int, cmp_gt_int, cmp_ge_int, bin_add_int, bin_sub_int, b1_int, b1_len_l, b1_len_t, b1_tuple_l, b1_tuple_t, b1_list_l, b1_list_t, thenD_bl, elseD_bl, iffD_bl, notD_bl, slc_lst, slc_tup, part_none, part_int, List.length_cons, List.length_nil, List.length_map, nfl_0, nfl_s, two_rules_f]) ?_
  refine Rl.if_ret (t := !((decide (rows' = rows) && decide (m' = m)) && !deq b c)) (d := .bl false) (p := [.sh (rowsT rows), .sh (.int m), .sh (twoD (rulesD rows' m' tables) b c), .sh (rulesD rows' m' tables), .un]) (by
    simp only [X_ev, S_set, S_own, S_exp, S_app, S_par, S_rws, slD_lst, slD_sh, ownD_lst, seqD_nx, List.set_cons_succ, List.set_cons_zero, frE_var, frE_slot, frE_non, frE_bl, frE_int, frE_str, frE_bin, frE_neg, frE_cmp, frE_chn, frE_and, frE_or, frE_not, frE_ite, frE_call, frE_mk, frE_fld, frE_nfl, frE_idx, frE_slc, frE_rev, frE_tup, frE_lst, frE_b1, frE_b2, frE_isi, frE_lc, frE_lc2, frE_dic, frE_lrg, frE_pget, frA_nil, frA_cons, frO_no, frO_yes, frI_r1, frI_r2, frI_sq, frR_lc, frR_call, frR_ite, frR_var, List.append_nil, List.cons_append, List.nil_append, frz_cons, frz_nil, frz1, E_var, E_slot, E_non, E_bl, E_int, E_str, E_bin, E_neg, E_cmp, E_chn, E_and, E_or, E_not, E_ite, E_call, E_mk, E_fld, E_nfl, E_idx, E_slc, E_rev, E_tup, E_lst, E_b1, E_b2, E_isi, E_dic, E_lrg, A_nil, A_cons, O_no, O_yes, I_r1, I_r2, I_sq, getSh, getAny, List.getElem?_cons_zero, List.getElem?_cons_succ, bnd_ret, bnd_bnd, neg_int, cmp_eq_int, cmp_ne_int, cmp_lt_int, cmp_le_int, cmp_gt_int, cmp_ge_int, bin_add_int, bin_sub_int, b1_int, b1_len_l, b1_len_t, b1_tuple_l, b1_tuple_t, b1_list_l, b1_list_t, thenD_bl, elseD_bl, iffD_bl, notD_bl, slc_lst, slc_tup, part_none, part_int, List.length_cons, List.length_nil, List.length_map, nfl_0, nfl_s, e1, Bool.not_true, rules_web_f, rules_most_f, two_one_f, two_other_f, hw, cmp_web_ne (n + 3), cmp_eq_plk (k := 5) (by decide) pb pc]
    rw [if_neg Bool.false_ne_true]
    by_cases z : rows' = rows
    · rw [decide_eq_true z, Bool.not_true, if_neg Bool.false_ne_true]
      by_cases y : m' = m
      · rw [decide_eq_true (show (m' : Int) = m by omega), decide_eq_true y, Bool.not_true, if_neg Bool.false_ne_true, bnd_ret]
        simp only [Bool.and_self, Bool.true_and, Bool.not_not]
      · rw [decide_eq_false (show ¬ (m' : Int) = m by omega), decide_eq_false y]
        rfl
    · rw [decide_eq_false z]
      rfl) (fun q => ⟨by simp only [X_ev, S_set, S_own, S_exp, S_app, S_par, S_rws, slD_lst, slD_sh, ownD_lst, seqD_nx, List.set_cons_succ, List.set_cons_zero, frE_var, frE_slot, frE_non, frE_bl, frE_int, frE_str, frE_bin, frE_neg, frE_cmp, frE_chn, frE_and, frE_or, frE_not, frE_ite, frE_call, frE_mk, frE_fld, frE_nfl, frE_idx, frE_slc, frE_rev, frE_tup, frE_lst, frE_b1, frE_b2, frE_isi, frE_lc, frE_lc2, frE_dic, frE_lrg, frE_pget, frA_nil, frA_cons, frO_no, frO_yes, frI_r1, frI_r2, frI_sq, frR_lc, frR_call, frR_ite, frR_var, List.append_nil, List.cons_append, List.nil_append, frz_cons, frz_nil, frz1, E_var, E_slot, E_non, E_bl, E_int, E_str, E_bin, E_neg, E_cmp, E_chn, E_and, E_or, E_not, E_ite, E_call, E_mk, E_fld, E_nfl, E_idx, E_slc, E_rev, E_tup, E_lst, E_b1, E_b2, E_isi, E_dic, E_lrg, A_nil, A_cons, O_no, O_yes, I_r1, I_r2, I_sq, getSh, getAny, List.getElem?_cons_zero, List.getElem?_cons_succ, bnd_ret, bnd_bnd, neg_int, cmp_eq_int, cmp_ne_int, cmp_lt_int, cmp_le_int, cmp_gt_int, cmp_ge_int, bin_add_int, bin_sub_int, b1_int, b1_len_l, b1_len_t, b1_tuple_l, b1_tuple_t, b1_list_l, b1_list_t, thenD_bl, elseD_bl, iffD_bl, notD_bl, slc_lst, slc_tup, part_none, part_int, List.length_cons, List.length_nil, List.length_map, nfl_0, nfl_s]; rfl, ?_⟩) (fun q => ?_)
  · have q := not_t q
    unfold twoS
    revert q
    cases (decide (rows' = rows) && decide (m' = m)) <;> cases deq b c <;> simp
  have q1 := not_f q
  refine Rl.if_ret (t := !(told size m' b && told size m' c)) (d := .bl false) (p := [.sh (rowsT rows), .sh (.int m), .sh (twoD (rulesD rows' m' tables) b c), .sh (rulesD rows' m' tables), .un]) (by
    have em : m' = m := by
      rw [Bool.and_eq_true, Bool.and_eq_true] at q1
      exact of_decide_eq_true q1.1.2
    rw [← em]
    simp only [X_ev, S_set, S_own, S_exp, S_app, S_par, S_rws, slD_lst, slD_sh, ownD_lst, seqD_nx, List.set_cons_succ, List.set_cons_zero, frE_var, frE_slot, frE_non, frE_bl, frE_int, frE_str, frE_bin, frE_neg, frE_cmp, frE_chn, frE_and, frE_or, frE_not, frE_ite, frE_call, frE_mk, frE_fld, frE_nfl, frE_idx, frE_slc, frE_rev, frE_tup, frE_lst, frE_b1, frE_b2, frE_isi, frE_lc, frE_lc2, frE_dic, frE_lrg, frE_pget, frA_nil, frA_cons, frO_no, frO_yes, frI_r1, frI_r2, frI_sq, frR_lc, frR_call, frR_ite, frR_var, List.append_nil, List.cons_append, List.nil_append, frz_cons, frz_nil, frz1, E_var, E_slot, E_non, E_bl, E_int, E_str, E_bin, E_neg, E_cmp, E_chn, E_and, E_or, E_not, E_ite, E_call, E_mk, E_fld, E_nfl, E_idx, E_slc, E_rev, E_tup, E_lst, E_b1, E_b2, E_isi, E_dic, E_lrg, A_nil, A_cons, O_no, O_yes, I_r1, I_r2, I_sq, getSh, getAny, List.getElem?_cons_zero, List.getElem?_cons_succ, bnd_ret, bnd_bnd, neg_int, cmp_eq_int, cmp_ne_int, cmp_lt_int, cmp_le_int, cmp_gt_int, cmp_ge_int, bin_add_int, bin_sub_int, b1_int, b1_len_l, b1_len_t, b1_tuple_l, b1_tuple_t, b1_list_l, b1_list_t, thenD_bl, elseD_bl, iffD_bl, notD_bl, slc_lst, slc_tup, part_none, part_int, List.length_cons, List.length_nil, List.length_map, nfl_0, nfl_s, two_rules_f, two_one_f, two_other_f, hlen, law_is_levels_ev (n + 2) m' size b hb, law_is_levels_ev (n + 2) m' size c hc]
    cases told size m' b <;> simp) (fun q => ⟨by simp only [X_ev, S_set, S_own, S_exp, S_app, S_par, S_rws, slD_lst, slD_sh, ownD_lst, seqD_nx, List.set_cons_succ, List.set_cons_zero, frE_var, frE_slot, frE_non, frE_bl, frE_int, frE_str, frE_bin, frE_neg, frE_cmp, frE_chn, frE_and, frE_or, frE_not, frE_ite, frE_call, frE_mk, frE_fld, frE_nfl, frE_idx, frE_slc, frE_rev, frE_tup, frE_lst, frE_b1, frE_b2, frE_isi, frE_lc, frE_lc2, frE_dic, frE_lrg, frE_pget, frA_nil, frA_cons, frO_no, frO_yes, frI_r1, frI_r2, frI_sq, frR_lc, frR_call, frR_ite, frR_var, List.append_nil, List.cons_append, List.nil_append, frz_cons, frz_nil, frz1, E_var, E_slot, E_non, E_bl, E_int, E_str, E_bin, E_neg, E_cmp, E_chn, E_and, E_or, E_not, E_ite, E_call, E_mk, E_fld, E_nfl, E_idx, E_slc, E_rev, E_tup, E_lst, E_b1, E_b2, E_isi, E_dic, E_lrg, A_nil, A_cons, O_no, O_yes, I_r1, I_r2, I_sq, getSh, getAny, List.getElem?_cons_zero, List.getElem?_cons_succ, bnd_ret, bnd_bnd, neg_int, cmp_eq_int, cmp_ne_int, cmp_lt_int, cmp_le_int, cmp_gt_int, cmp_ge_int, bin_add_int, bin_sub_int, b1_int, b1_len_l, b1_len_t, b1_tuple_l, b1_tuple_t, b1_list_l, b1_list_t, thenD_bl, elseD_bl, iffD_bl, notD_bl, slc_lst, slc_tup, part_none, part_int, List.length_cons, List.length_nil, List.length_map, nfl_0, nfl_s]; rfl, ?_⟩) (fun q => ?_)
  · unfold twoS
    have : (told size m' b && told size m' c) = false := not_t q
    rw [this, Bool.false_and, Bool.and_false]
  have q2 : (told size m' b && told size m' c) = true := not_f q
  rw [Bool.and_eq_true] at q2
  obtain ⟨ub, sb⟩ := told_un q2.1
  obtain ⟨uc, sc⟩ := told_un q2.2
  rw [Bool.and_eq_true, Bool.and_eq_true] at q1
  have er := of_decide_eq_true q1.1.1
  have em := of_decide_eq_true q1.1.2
  subst er em
  have hr := law_level_rests_ev (n + 1) h' h3 m4 ht
  have tf : fldD TT.CT "tables" (rulesD rows' m' tables) = ret (tabsD tables) := rules_tabs_f _ _ _
  refine Rl.st (p := [.sh (rowsT rows'), .sh (.int m'), .sh (twoD (rulesD rows' m' tables) b c), .sh (rulesD rows' m' tables), .sh (.lst ((restsL rows' m' tables).map stD))]) (by
    simp only [X_ev, S_set, S_own, S_exp, S_app, S_par, S_rws, slD_lst, slD_sh, ownD_lst, seqD_nx, List.set_cons_succ, List.set_cons_zero, frE_var, frE_slot, frE_non, frE_bl, frE_int, frE_str, frE_bin, frE_neg, frE_cmp, frE_chn, frE_and, frE_or, frE_not, frE_ite, frE_call, frE_mk, frE_fld, frE_nfl, frE_idx, frE_slc, frE_rev, frE_tup, frE_lst, frE_b1, frE_b2, frE_isi, frE_lc, frE_lc2, frE_dic, frE_lrg, frE_pget, frA_nil, frA_cons, frO_no, frO_yes, frI_r1, frI_r2, frI_sq, frR_lc, frR_call, frR_ite, frR_var, List.append_nil, List.cons_append, List.nil_append, frz_cons, frz_nil, frz1, E_var, E_slot, E_non, E_bl, E_int, E_str, E_bin, E_neg, E_cmp, E_chn, E_and, E_or, E_not, E_ite, E_call, E_mk, E_fld, E_nfl, E_idx, E_slc, E_rev, E_tup, E_lst, E_b1, E_b2, E_isi, E_dic, E_lrg, A_nil, A_cons, O_no, O_yes, I_r1, I_r2, I_sq, getSh, getAny, List.getElem?_cons_zero, List.getElem?_cons_succ, bnd_ret, bnd_bnd, neg_int, cmp_eq_int, cmp_ne_int, cmp_lt_int, cmp_le_int, cmp_gt_int, cmp_ge_int, bin_add_int, bin_sub_int, b1_int, b1_len_l, b1_len_t, b1_tuple_l, b1_tuple_t, b1_list_l, b1_list_t, thenD_bl, elseD_bl, iffD_bl, notD_bl, slc_lst, slc_tup, part_none, part_int, List.length_cons, List.length_nil, List.length_map, nfl_0, nfl_s, tf, hr]) ?_
  refine Rl.ret (d := .bl (twoS size rows' m' rows' m' tables b c)) (p := [.sh (rowsT rows'), .sh (.int m'), .sh (twoD (rulesD rows' m' tables) b c), .sh (rulesD rows' m' tables), .sh (.lst ((restsL rows' m' tables).map stD))]) ?_ rfl
  have pl : ((restsL rows' m' tables).map stD).all (plk 5) = true := by
    rw [List.all_map]
    exact List.all_eq_true.mpr fun s _ => plk_tints 4 s
  have ab := rests_any h' (tables := tables) sb
  have ac := rests_any h' (tables := tables) sc
  rw [← ub] at ab
  rw [← uc] at ac
  unfold twoS
  rw [q2.1, q2.2, decide_eq_true rfl, decide_eq_true rfl, q1.2]
  simp only [X_ev, S_set, S_own, S_exp, S_app, S_par, S_rws, slD_lst, slD_sh, ownD_lst, seqD_nx, List.set_cons_succ, List.set_cons_zero, frE_var, frE_slot, frE_non, frE_bl, frE_int, frE_str, frE_bin, frE_neg, frE_cmp, frE_chn, frE_and, frE_or, frE_not, frE_ite, frE_call, frE_mk, frE_fld, frE_nfl, frE_idx, frE_slc, frE_rev, frE_tup, frE_lst, frE_b1, frE_b2, frE_isi, frE_lc, frE_lc2, frE_dic, frE_lrg, frE_pget, frA_nil, frA_cons, frO_no, frO_yes, frI_r1, frI_r2, frI_sq, frR_lc, frR_call, frR_ite, frR_var, List.append_nil, List.cons_append, List.nil_append, frz_cons, frz_nil, frz1, E_var, E_slot, E_non, E_bl, E_int, E_str, E_bin, E_neg, E_cmp, E_chn, E_and, E_or, E_not, E_ite, E_call, E_mk, E_fld, E_nfl, E_idx, E_slc, E_rev, E_tup, E_lst, E_b1, E_b2, E_isi, E_dic, E_lrg, A_nil, A_cons, O_no, O_yes, I_r1, I_r2, I_sq, getSh, getAny, List.getElem?_cons_zero, List.getElem?_cons_succ, bnd_ret, bnd_bnd, neg_int, cmp_eq_int, cmp_ne_int, cmp_lt_int, cmp_le_int, cmp_gt_int, cmp_ge_int, bin_add_int, bin_sub_int, b1_int, b1_len_l, b1_len_t, b1_tuple_l, b1_tuple_t, b1_list_l, b1_list_t, thenD_bl, elseD_bl, iffD_bl, notD_bl, slc_lst, slc_tup, part_none, part_int, List.length_cons, List.length_nil, List.length_map, nfl_0, nfl_s, two_one_f, two_other_f, cmp_in_plk (k := 5) (by decide) pb pl, cmp_in_plk (k := 5) (by decide) pc pl, ab, ac, Bool.true_and, Bool.and_self]
  cases restB rows' m' tables (unS b) <;> rfl
theorem two_right_no (n : Nat) (rows : List (List Int)) (m : Nat) (a b c : D) (ha : isT a (.cls 1) = false) :
    (B0.lev (n + 1)).1 39 [rowsT rows, .int m, twoD a b c] = ret (.bl false) := by
  rw [st__law_two_right]
  refine runF_at [.sh (rowsT rows), .sh (.int m), .sh (twoD a b c), .un, .un] rfl ?_
  unfold ir__law_two_right
  have e1 : ([Ty.cls 1].any (isT a)) = false := by simp only [List.any_cons, List.any_nil, ha]; rfl
  refine Rl.st (p := [.sh (rowsT rows), .sh (.int m), .sh (twoD a b c), .sh a, .un]) (by
    simp only [X_ev, S_set, S_own, S_exp, S_app, S_par, S_rws, slD_lst, slD_sh, ownD_lst, seqD_nx, List.set_cons_succ, List.set_cons_zero, frE_var, frE_slot, frE_non, frE_bl, frE_int, frE_str, frE_bin, frE_neg, frE_cmp, frE_chn, frE_and, frE_or, frE_not, frE_ite, frE_call, frE_mk, frE_fld, frE_nfl, frE_idx, frE_slc, frE_rev, frE_tup, frE_lst, frE_b1, frE_b2, frE_isi, frE_lc, frE_lc2, frE_dic, frE_lrg, frE_pget, frA_nil, frA_cons, frO_no, frO_yes, frI_r1, frI_r2, frI_sq, frR_lc, frR_call, frR_ite, frR_var, List.append_nil, List.cons_append, List.nil_append, frz_cons, frz_nil, frz1, E_var, E_slot, E_non, E_bl, E_int, E_str, E_bin, E_neg, E_cmp, E_chn, E_and, E_or, E_not, E_ite, E_call, E_mk, E_fld, E_nfl, E_idx, E_slc, E_rev, E_tup, E_lst, E_b1, E_b2, E_isi, E_dic, E_lrg, A_nil, A_cons, O_no, O_yes, I_r1, I_r2, I_sq, getSh, getAny, List.getElem?_cons_zero, List.getElem?_cons_succ, bnd_ret, bnd_bnd, neg_int, cmp_eq_int, cmp_ne_int, cmp_lt_int, cmp_le_int, cmp_gt_int, cmp_ge_int, bin_add_int, bin_sub_int, b1_int, b1_len_l, b1_len_t, b1_tuple_l, b1_tuple_t, b1_list_l, b1_list_t, thenD_bl, elseD_bl, iffD_bl, notD_bl, slc_lst, slc_tup, part_none, part_int, List.length_cons, List.length_nil, List.length_map, nfl_0, nfl_s, two_rules_f]) ?_
  have hz : frz1 [.sh (rowsT rows), .sh (.int m), .sh (twoD a b c), .sh a, .un] 0 = [.sh (rowsT rows), .sh (.int m), .sh (twoD a b c), .sh a, .un] := rfl
  refine Rl.if_ret (t := true) (d := .bl false) (p := [.sh (rowsT rows), .sh (.int m), .sh (twoD a b c), .sh a, .un]) (by
    simp only [X_ev, S_set, S_own, S_exp, S_app, S_par, S_rws, slD_lst, slD_sh, ownD_lst, seqD_nx, List.set_cons_succ, List.set_cons_zero, frE_var, frE_slot, frE_non, frE_bl, frE_int, frE_str, frE_bin, frE_neg, frE_cmp, frE_chn, frE_and, frE_or, frE_not, frE_ite, frE_call, frE_mk, frE_fld, frE_nfl, frE_idx, frE_slc, frE_rev, frE_tup, frE_lst, frE_b1, frE_b2, frE_isi, frE_lc, frE_lc2, frE_dic, frE_lrg, frE_pget, frA_nil, frA_cons, frO_no, frO_yes, frI_r1, frI_r2, frI_sq, frR_lc, frR_call, frR_ite, frR_var, List.append_nil, List.cons_append, List.nil_append, frz_cons, frz_nil, frz1, E_var, E_slot, E_non, E_bl, E_int, E_str, E_bin, E_neg, E_cmp, E_chn, E_and, E_or, E_not, E_ite, E_call, E_mk, E_fld, E_nfl, E_idx, E_slc, E_rev, E_tup, E_lst, E_b1, E_b2, E_isi, E_dic, E_lrg, A_nil, A_cons, O_no, O_yes, I_r1, I_r2, I_sq, getSh, getAny, List.getElem?_cons_zero, List.getElem?_cons_succ, bnd_ret, bnd_bnd, neg_int, cmp_eq_int, cmp_ne_int, cmp_lt_int, cmp_le_int, cmp_gt_int, cmp_ge_int, bin_add_int, bin_sub_int, b1_int, b1_len_l, b1_len_t, b1_tuple_l, b1_tuple_t, b1_list_l, b1_list_t, thenD_bl, elseD_bl, iffD_bl, notD_bl, slc_lst, slc_tup, part_none, part_int, List.length_cons, List.length_nil, List.length_map, nfl_0, nfl_s, e1, Bool.not_false]
    rfl) (fun q => ⟨by simp only [X_ev, S_set, S_own, S_exp, S_app, S_par, S_rws, slD_lst, slD_sh, ownD_lst, seqD_nx, List.set_cons_succ, List.set_cons_zero, frE_var, frE_slot, frE_non, frE_bl, frE_int, frE_str, frE_bin, frE_neg, frE_cmp, frE_chn, frE_and, frE_or, frE_not, frE_ite, frE_call, frE_mk, frE_fld, frE_nfl, frE_idx, frE_slc, frE_rev, frE_tup, frE_lst, frE_b1, frE_b2, frE_isi, frE_lc, frE_lc2, frE_dic, frE_lrg, frE_pget, frA_nil, frA_cons, frO_no, frO_yes, frI_r1, frI_r2, frI_sq, frR_lc, frR_call, frR_ite, frR_var, List.append_nil, List.cons_append, List.nil_append, frz_cons, frz_nil, frz1, E_var, E_slot, E_non, E_bl, E_int, E_str, E_bin, E_neg, E_cmp, E_chn, E_and, E_or, E_not, E_ite, E_call, E_mk, E_fld, E_nfl, E_idx, E_slc, E_rev, E_tup, E_lst, E_b1, E_b2, E_isi, E_dic, E_lrg, A_nil, A_cons, O_no, O_yes, I_r1, I_r2, I_sq, getSh, getAny, List.getElem?_cons_zero, List.getElem?_cons_succ, bnd_ret, bnd_bnd, neg_int, cmp_eq_int, cmp_ne_int, cmp_lt_int, cmp_le_int, cmp_gt_int, cmp_ge_int, bin_add_int, bin_sub_int, b1_int, b1_len_l, b1_len_t, b1_tuple_l, b1_tuple_t, b1_list_l, b1_list_t, thenD_bl, elseD_bl, iffD_bl, notD_bl, slc_lst, slc_tup, part_none, part_int, List.length_cons, List.length_nil, List.length_map, nfl_0, nfl_s]; rfl, rfl⟩) (fun q => by cases q)
theorem none_right_ev (n : Nat) {size : Nat} {rows rows' : List (List Int)} (h : IRow size rows) (h' : IRow size rows') (h0 : 0 < size) (h3 : size ≤ 3) {m m' : Nat} (m1 : 1 ≤ m) (m4 : m' ≤ 4) {tables : List (List Int)} (ht : TabsOk m' rows' tables) :
    (B0.lev (n + 5)).1 40 [rowsT rows, .int m, noneD (rulesD rows' m' tables)] = ret (.bl (noneS rows m rows' m' tables)) := by
  rw [st__law_none_right]
  refine runF_at [.sh (rowsT rows), .sh (.int m), .sh (noneD (rulesD rows' m' tables)), .un] rfl ?_
  unfold ir__law_none_right
  have hl2 : (rowsR rows).length = size := by unfold rowsR; rw [List.length_map, h.1]
  have hw : (B0.lev (n + 4)).2 0 [rowsT rows] = ret (webD (rowsR rows)) := web_ini (n + 1) (rowsR rows) (by omega) (by omega) (by rw [hl2]; exact h.ok)
  have e1 : ([Ty.cls 1].any (isT (rulesD rows' m' tables))) = true := rfl
  refine Rl.st (p := [.sh (rowsT rows), .sh (.int m), .sh (noneD (rulesD rows' m' tables)), .sh (rulesD rows' m' tables)]) (by
    simp only [X_ev, S_set, S_own, S_exp, S_app, S_par, S_rws, slD_lst, slD_sh, ownD_lst, seqD_nx, List.set_cons_succ, List.set_cons_zero, frE_var, frE_slot, frE_non, frE_bl, frE_int, frE_str, frE_bin, frE_neg, frE_cmp, frE_chn, frE_and, frE_or, frE_not, frE_ite, frE_call, frE_mk, frE_fld, frE_nfl, frE_idx, frE_slc, frE_rev, frE_tup, frE_lst, frE_b1, frE_b2, frE_isi, frE_lc, frE_lc2, frE_dic, frE_lrg, frE_pget, frA_nil, frA_cons, frO_no, frO_yes, frI_r1, frI_r2, frI_sq, frR_lc, frR_call, frR_ite, frR_var, List.append_nil, List.cons_append, List.nil_append, frz_cons, frz_nil, frz1, E_var, E_slot, E_non, E_bl, E_int, E_str, E_bin, E_neg, E_cmp, E_chn, E_and, E_or, E_not, E_ite, E_call, E_mk, E_fld, E_nfl, E_idx, E_slc, E_rev, E_tup, E_lst, E_b1, E_b2, E_isi, E_dic, E_lrg, A_nil, A_cons, O_no, O_yes, I_r1, I_r2, I_sq, getSh, getAny, List.getElem?_cons_zero, List.getElem?_cons_succ, bnd_ret, bnd_bnd, neg_int, cmp_eq_int, cmp_ne_int, cmp_lt_int, cmp_le_int, cmp_gt_int, cmp_ge_int, bin_add_int, bin_sub_int, b1_int, b1_len_l, b1_len_t, b1_tuple_l, b1_tuple_t, b1_list_l, b1_list_t, thenD_bl, elseD_bl, iffD_bl, notD_bl, slc_lst, slc_tup, part_none, part_int, List.length_cons, List.length_nil, List.length_map, nfl_0, nfl_s, none_rules_f]) ?_
  refine Rl.if_ret (t := !(decide (rows' = rows) && decide (m' = m))) (d := .bl false) (p := [.sh (rowsT rows), .sh (.int m), .sh (noneD (rulesD rows' m' tables)), .sh (rulesD rows' m' tables)]) (by
    simp only [X_ev, S_set, S_own, S_exp, S_app, S_par, S_rws, slD_lst, slD_sh, ownD_lst, seqD_nx, List.set_cons_succ, List.set_cons_zero, frE_var, frE_slot, frE_non, frE_bl, frE_int, frE_str, frE_bin, frE_neg, frE_cmp, frE_chn, frE_and, frE_or, frE_not, frE_ite, frE_call, frE_mk, frE_fld, frE_nfl, frE_idx, frE_slc, frE_rev, frE_tup, frE_lst, frE_b1, frE_b2, frE_isi, frE_lc, frE_lc2, frE_dic, frE_lrg, frE_pget, frA_nil, frA_cons, frO_no, frO_yes, frI_r1, frI_r2, frI_sq, frR_lc, frR_call, frR_ite, frR_var, List.append_nil, List.cons_append, List.nil_append, frz_cons, frz_nil, frz1, E_var, E_slot, E_non, E_bl, E_int, E_str, E_bin, E_neg, E_cmp, E_chn, E_and, E_or, E_not, E_ite, E_call, E_mk, E_fld, E_nfl, E_idx, E_slc, E_rev, E_tup, E_lst, E_b1, E_b2, E_isi, E_dic, E_lrg, A_nil, A_cons, O_no, O_yes, I_r1, I_r2, I_sq, getSh, getAny, List.getElem?_cons_zero, List.getElem?_cons_succ, bnd_ret, bnd_bnd, neg_int, cmp_eq_int, cmp_ne_int, cmp_lt_int, cmp_le_int, cmp_gt_int, cmp_ge_int, bin_add_int, bin_sub_int, b1_int, b1_len_l, b1_len_t, b1_tuple_l, b1_tuple_t, b1_list_l, b1_list_t, thenD_bl, elseD_bl, iffD_bl, notD_bl, slc_lst, slc_tup, part_none, part_int, List.length_cons, List.length_nil, List.length_map, nfl_0, nfl_s, e1, Bool.not_true, rules_web_f, rules_most_f, hw, cmp_web_ne (n + 3)]
    rw [if_neg Bool.false_ne_true]
    by_cases z : rows' = rows
    · rw [decide_eq_true z, Bool.not_true, if_neg Bool.false_ne_true]
      by_cases y : m' = m
      · rw [decide_eq_true (show (m' : Int) = m by omega), decide_eq_true y, bnd_ret]
        rfl
      · rw [decide_eq_false (show ¬ (m' : Int) = m by omega), decide_eq_false y]
        rfl
    · rw [decide_eq_false z]
      rfl) (fun q => ⟨by simp only [X_ev, S_set, S_own, S_exp, S_app, S_par, S_rws, slD_lst, slD_sh, ownD_lst, seqD_nx, List.set_cons_succ, List.set_cons_zero, frE_var, frE_slot, frE_non, frE_bl, frE_int, frE_str, frE_bin, frE_neg, frE_cmp, frE_chn, frE_and, frE_or, frE_not, frE_ite, frE_call, frE_mk, frE_fld, frE_nfl, frE_idx, frE_slc, frE_rev, frE_tup, frE_lst, frE_b1, frE_b2, frE_isi, frE_lc, frE_lc2, frE_dic, frE_lrg, frE_pget, frA_nil, frA_cons, frO_no, frO_yes, frI_r1, frI_r2, frI_sq, frR_lc, frR_call, frR_ite, frR_var, List.append_nil, List.cons_append, List.nil_append, frz_cons, frz_nil, frz1, E_var, E_slot, E_non, E_bl, E_int, E_str, E_bin, E_neg, E_cmp, E_chn, E_and, E_or, E_not, E_ite, E_call, E_mk, E_fld, E_nfl, E_idx, E_slc, E_rev, E_tup, E_lst, E_b1, E_b2, E_isi, E_dic, E_lrg, A_nil, A_cons, O_no, O_yes, I_r1, I_r2, I_sq, getSh, getAny, List.getElem?_cons_zero, List.getElem?_cons_succ, bnd_ret, bnd_bnd, neg_int, cmp_eq_int, cmp_ne_int, cmp_lt_int, cmp_le_int, cmp_gt_int, cmp_ge_int, bin_add_int, bin_sub_int, b1_int, b1_len_l, b1_len_t, b1_tuple_l, b1_tuple_t, b1_list_l, b1_list_t, thenD_bl, elseD_bl, iffD_bl, notD_bl, slc_lst, slc_tup, part_none, part_int, List.length_cons, List.length_nil, List.length_map, nfl_0, nfl_s]; rfl, ?_⟩) (fun q => ?_)
  · unfold noneS
    rw [not_t q, Bool.false_and]
  have q1 := not_f q
  rw [Bool.and_eq_true] at q1
  have er := of_decide_eq_true q1.1
  have em := of_decide_eq_true q1.2
  subst er em
  have hr := law_level_rests_ev (n + 1) h' h3 m4 ht
  have tf : fldD TT.CT "tables" (rulesD rows' m' tables) = ret (tabsD tables) := rules_tabs_f _ _ _
  have pl : plk 6 (.lst ((restsL rows' m' tables).map stD)) = true := by
    show ((restsL rows' m' tables).map stD).all (plk 5) = true
    rw [List.all_map]
    exact List.all_eq_true.mpr fun s _ => plk_tints 4 s
  refine Rl.ret (d := .bl (noneS rows' m' rows' m' tables)) (p := [.sh (rowsT rows'), .sh (.int m'), .sh (noneD (rulesD rows' m' tables)), .sh (rulesD rows' m' tables)]) ?_ rfl
  simp only [X_ev, S_set, S_own, S_exp, S_app, S_par, S_rws, slD_lst, slD_sh, ownD_lst, seqD_nx, List.set_cons_succ, List.set_cons_zero, frE_var, frE_slot, frE_non, frE_bl, frE_int, frE_str, frE_bin, frE_neg, frE_cmp, frE_chn, frE_and, frE_or, frE_not, frE_ite, frE_call, frE_mk, frE_fld, frE_nfl, frE_idx, frE_slc, frE_rev, frE_tup, frE_lst, frE_b1, frE_b2, frE_isi, frE_lc, frE_lc2, frE_dic, frE_lrg, frE_pget, frA_nil, frA_cons, frO_no, frO_yes, frI_r1, frI_r2, frI_sq, frR_lc, frR_call, frR_ite, frR_var, List.append_nil, List.cons_append, List.nil_append, frz_cons, frz_nil, frz1, E_var, E_slot, E_non, E_bl, E_int, E_str, E_bin, E_neg, E_cmp, E_chn, E_and, E_or, E_not, E_ite, E_call, E_mk, E_fld, E_nfl, E_idx, E_slc, E_rev, E_tup, E_lst, E_b1, E_b2, E_isi, E_dic, E_lrg, A_nil, A_cons, O_no, O_yes, I_r1, I_r2, I_sq, getSh, getAny, List.getElem?_cons_zero, List.getElem?_cons_succ, bnd_ret, bnd_bnd, neg_int, cmp_eq_int, cmp_ne_int, cmp_lt_int, cmp_le_int, cmp_gt_int, cmp_ge_int, bin_add_int, bin_sub_int, b1_int, b1_len_l, b1_len_t, b1_tuple_l, b1_tuple_t, b1_list_l, b1_list_t, thenD_bl, elseD_bl, iffD_bl, notD_bl, slc_lst, slc_tup, part_none, part_int, List.length_cons, List.length_nil, List.length_map, nfl_0, nfl_s, tf, hr]
  rw [guard_le (by decide), bnd_ret, cmp_eq_plk (k := 6) (by decide) pl rfl, bnd_ret]
  unfold noneS
  rw [decide_eq_true rfl, decide_eq_true rfl, deq]
  cases restsL rows' m' tables <;> simp [deqs]
theorem none_right_no (n : Nat) (rows : List (List Int)) (m : Nat) (a : D) (ha : isT a (.cls 1) = false) :
    (B0.lev (n + 1)).1 40 [rowsT rows, .int m, noneD a] = ret (.bl false) := by
  rw [st__law_none_right]
  refine runF_at [.sh (rowsT rows), .sh (.int m), .sh (noneD a), .un] rfl ?_
  unfold ir__law_none_right
  have e1 : ([Ty.cls 1].any (isT a)) = false := by simp only [List.any_cons, List.any_nil, ha]; rfl
  refine Rl.st (p := [.sh (rowsT rows), .sh (.int m), .sh (noneD a), .sh a]) (by
    simp only [X_ev, S_set, S_own, S_exp, S_app, S_par, S_rws, slD_lst, slD_sh, ownD_lst, seqD_nx, List.set_cons_succ, List.set_cons_zero, frE_var, frE_slot, frE_non, frE_bl, frE_int, frE_str, frE_bin, frE_neg, frE_cmp, frE_chn, frE_and, frE_or, frE_not, frE_ite, frE_call, frE_mk, frE_fld, frE_nfl, frE_idx, frE_slc, frE_rev, frE_tup, frE_lst, frE_b1, frE_b2, frE_isi, frE_lc, frE_lc2, frE_dic, frE_lrg, frE_pget, frA_nil, frA_cons, frO_no, frO_yes, frI_r1, frI_r2, frI_sq, frR_lc, frR_call, frR_ite, frR_var, List.append_nil, List.cons_append, List.nil_append, frz_cons, frz_nil, frz1, E_var, E_slot, E_non, E_bl, E_int, E_str, E_bin, E_neg, E_cmp, E_chn, E_and, E_or, E_not, E_ite, E_call, E_mk, E_fld, E_nfl, E_idx, E_slc, E_rev, E_tup, E_lst, E_b1, E_b2, E_isi, E_dic, E_lrg, A_nil, A_cons, O_no, O_yes, I_r1, I_r2, I_sq, getSh, getAny, List.getElem?_cons_zero, List.getElem?_cons_succ, bnd_ret, bnd_bnd, neg_int, cmp_eq_int, cmp_ne_int, cmp_lt_int, cmp_le_int, cmp_gt_int, cmp_ge_int, bin_add_int, bin_sub_int, b1_int, b1_len_l, b1_len_t, b1_tuple_l, b1_tuple_t, b1_list_l, b1_list_t, thenD_bl, elseD_bl, iffD_bl, notD_bl, slc_lst, slc_tup, part_none, part_int, List.length_cons, List.length_nil, List.length_map, nfl_0, nfl_s, none_rules_f]) ?_
  refine Rl.if_ret (t := true) (d := .bl false) (p := [.sh (rowsT rows), .sh (.int m), .sh (noneD a), .sh a]) (by
    simp only [X_ev, S_set, S_own, S_exp, S_app, S_par, S_rws, slD_lst, slD_sh, ownD_lst, seqD_nx, List.set_cons_succ, List.set_cons_zero, frE_var, frE_slot, frE_non, frE_bl, frE_int, frE_str, frE_bin, frE_neg, frE_cmp, frE_chn, frE_and, frE_or, frE_not, frE_ite, frE_call, frE_mk, frE_fld, frE_nfl, frE_idx, frE_slc, frE_rev, frE_tup, frE_lst, frE_b1, frE_b2, frE_isi, frE_lc, frE_lc2, frE_dic, frE_lrg, frE_pget, frA_nil, frA_cons, frO_no, frO_yes, frI_r1, frI_r2, frI_sq, frR_lc, frR_call, frR_ite, frR_var, List.append_nil, List.cons_append, List.nil_append, frz_cons, frz_nil, frz1, E_var, E_slot, E_non, E_bl, E_int, E_str, E_bin, E_neg, E_cmp, E_chn, E_and, E_or, E_not, E_ite, E_call, E_mk, E_fld, E_nfl, E_idx, E_slc, E_rev, E_tup, E_lst, E_b1, E_b2, E_isi, E_dic, E_lrg, A_nil, A_cons, O_no, O_yes, I_r1, I_r2, I_sq, getSh, getAny, List.getElem?_cons_zero, List.getElem?_cons_succ, bnd_ret, bnd_bnd, neg_int, cmp_eq_int, cmp_ne_int, cmp_lt_int, cmp_le_int, cmp_gt_int, cmp_ge_int, bin_add_int, bin_sub_int, b1_int, b1_len_l, b1_len_t, b1_tuple_l, b1_tuple_t, b1_list_l, b1_list_t, thenD_bl, elseD_bl, iffD_bl, notD_bl, slc_lst, slc_tup, part_none, part_int, List.length_cons, List.length_nil, List.length_map, nfl_0, nfl_s, e1, Bool.not_false]
    rfl) (fun q => ⟨by simp only [X_ev, S_set, S_own, S_exp, S_app, S_par, S_rws, slD_lst, slD_sh, ownD_lst, seqD_nx, List.set_cons_succ, List.set_cons_zero, frE_var, frE_slot, frE_non, frE_bl, frE_int, frE_str, frE_bin, frE_neg, frE_cmp, frE_chn, frE_and, frE_or, frE_not, frE_ite, frE_call, frE_mk, frE_fld, frE_nfl, frE_idx, frE_slc, frE_rev, frE_tup, frE_lst, frE_b1, frE_b2, frE_isi, frE_lc, frE_lc2, frE_dic, frE_lrg, frE_pget, frA_nil, frA_cons, frO_no, frO_yes, frI_r1, frI_r2, frI_sq, frR_lc, frR_call, frR_ite, frR_var, List.append_nil, List.cons_append, List.nil_append, frz_cons, frz_nil, frz1, E_var, E_slot, E_non, E_bl, E_int, E_str, E_bin, E_neg, E_cmp, E_chn, E_and, E_or, E_not, E_ite, E_call, E_mk, E_fld, E_nfl, E_idx, E_slc, E_rev, E_tup, E_lst, E_b1, E_b2, E_isi, E_dic, E_lrg, A_nil, A_cons, O_no, O_yes, I_r1, I_r2, I_sq, getSh, getAny, List.getElem?_cons_zero, List.getElem?_cons_succ, bnd_ret, bnd_bnd, neg_int, cmp_eq_int, cmp_ne_int, cmp_lt_int, cmp_le_int, cmp_gt_int, cmp_ge_int, bin_add_int, bin_sub_int, b1_int, b1_len_l, b1_len_t, b1_tuple_l, b1_tuple_t, b1_list_l, b1_list_t, thenD_bl, elseD_bl, iffD_bl, notD_bl, slc_lst, slc_tup, part_none, part_int, List.length_cons, List.length_nil, List.length_map, nfl_0, nfl_s]; rfl, rfl⟩) (fun q => by cases q)
theorem says_not_ev (n : Nat) (a b : Bool) : (B0.lev (n + 1)).1 38 [.bl a, .bl b] = ret (.bl (!(a == b))) := by
  rw [st__law_says_not]
  cases a <;> cases b <;> rfl
end UK

set_option Elab.async false
set_option linter.all false
set_option maxRecDepth 100000
set_option maxHeartbeats 400000
namespace UK
open PySem PySem.Spec PyProof.Rows L2
/-! ### frozen, papers made -/
theorem frozen_t1 (n : Nat) (xs : List D) (h : ∀ x ∈ xs, listB x = false) (hl : xs.length ≤ 1000) : (B0.lev (n + 2)).1 0 [.tup xs] = ret (.tup xs) := by
  rw [st_frozen]
  refine runF_at [.sh (.tup xs), .un] rfl ?_
  unfold ir_frozen
  have hlc : evE TT (B0.lev (n + 1)).1 (B0.lev (n + 1)).2 (.lc [1] (.call 0 (.cons (.var 1) .nil)) [1] (.sq (.slot 0)) .no) [.sh (.tup xs), .un] = ret (.lst xs) := by
    rw [lc_all xs (fun d => d) (fun d => d) (by rw [List.map_id']; rfl) hl fun d hd => ?_]
    · rw [List.map_id']
    · simp only [elM_one, ifM_no, ifM_yes, wipeE_nil, wipeE_cons, X_ev, S_set, S_own, S_exp, S_app, S_par, S_rws, slD_lst, slD_sh, ownD_lst, seqD_nx, List.set_cons_succ, List.set_cons_zero, E_var, E_slot, E_non, E_bl, E_int, E_str, E_bin, E_neg, E_cmp, E_chn, E_and, E_or, E_not, E_ite, E_call, E_mk, E_fld, E_nfl, E_idx, E_slc, E_rev, E_tup, E_lst, E_b1, E_b2, E_isi, E_dic, E_lrg, A_nil, A_cons, O_no, O_yes, I_r1, I_r2, I_sq, getSh, getAny, List.getElem?_cons_zero, List.getElem?_cons_succ, bnd_ret, bnd_bnd, neg_int, cmp_eq_int, cmp_ne_int, cmp_lt_int, cmp_le_int, cmp_gt_int, cmp_ge_int, bin_add_int, bin_sub_int, b1_int, b1_len_l, b1_len_t, b1_tuple_l, b1_tuple_t, b1_list_l, b1_list_t, thenD_bl, elseD_bl, iffD_bl, notD_bl, slc_lst, slc_tup, part_none, part_int, List.length_cons, List.length_nil, List.length_map, frozen_ev0 n d (h d hd)]
  refine Rl.if_ret (t := true) (d := .tup xs) (p := [.sh (.tup xs), .un]) (by
    simp only [X_ev, S_set, S_own, S_exp, S_app, S_par, S_rws, slD_lst, slD_sh, ownD_lst, seqD_nx, List.set_cons_succ, List.set_cons_zero, frE_var, frE_slot, frE_non, frE_bl, frE_int, frE_str, frE_bin, frE_neg, frE_cmp, frE_chn, frE_and, frE_or, frE_not, frE_ite, frE_call, frE_mk, frE_fld, frE_nfl, frE_idx, frE_slc, frE_rev, frE_tup, frE_lst, frE_b1, frE_b2, frE_isi, frE_lc, frE_lc2, frE_dic, frE_lrg, frE_pget, frA_nil, frA_cons, frO_no, frO_yes, frI_r1, frI_r2, frI_sq, frR_lc, frR_call, frR_ite, frR_var, List.append_nil, List.cons_append, List.nil_append, frz_cons, frz_nil, frz1, E_var, E_slot, E_non, E_bl, E_int, E_str, E_bin, E_neg, E_cmp, E_chn, E_and, E_or, E_not, E_ite, E_call, E_mk, E_fld, E_nfl, E_idx, E_slc, E_rev, E_tup, E_lst, E_b1, E_b2, E_isi, E_dic, E_lrg, A_nil, A_cons, O_no, O_yes, I_r1, I_r2, I_sq, getSh, getAny, List.getElem?_cons_zero, List.getElem?_cons_succ, bnd_ret, bnd_bnd, neg_int, cmp_eq_int, cmp_ne_int, cmp_lt_int, cmp_le_int, cmp_gt_int, cmp_ge_int, bin_add_int, bin_sub_int, b1_int, b1_len_l, b1_len_t, b1_tuple_l, b1_tuple_t, b1_list_l, b1_list_t, thenD_bl, elseD_bl, iffD_bl, notD_bl, slc_lst, slc_tup, part_none, part_int, List.length_cons, List.length_nil, List.length_map, nfl_0, nfl_s]
    rfl) (fun q => ⟨by
      simp only [X_ev, S_set, S_own, S_exp, S_app, S_par, S_rws, slD_lst, slD_sh, ownD_lst, seqD_nx, List.set_cons_succ, List.set_cons_zero, frE_var, frE_slot, frE_non, frE_bl, frE_int, frE_str, frE_bin, frE_neg, frE_cmp, frE_chn, frE_and, frE_or, frE_not, frE_ite, frE_call, frE_mk, frE_fld, frE_nfl, frE_idx, frE_slc, frE_rev, frE_tup, frE_lst, frE_b1, frE_b2, frE_isi, frE_lc, frE_lc2, frE_dic, frE_lrg, frE_pget, frA_nil, frA_cons, frO_no, frO_yes, frI_r1, frI_r2, frI_sq, frR_lc, frR_call, frR_ite, frR_var, List.append_nil, List.cons_append, List.nil_append, frz_cons, frz_nil, frz1, E_var, E_slot, E_non, E_bl, E_int, E_str, E_bin, E_neg, E_cmp, E_chn, E_and, E_or, E_not, E_ite, E_call, E_mk, E_fld, E_nfl, E_idx, E_slc, E_rev, E_tup, E_lst, E_b1, E_b2, E_isi, E_dic, E_lrg, A_nil, A_cons, O_no, O_yes, I_r1, I_r2, I_sq, getSh, getAny, List.getElem?_cons_zero, List.getElem?_cons_succ, bnd_ret, bnd_bnd, neg_int, cmp_eq_int, cmp_ne_int, cmp_lt_int, cmp_le_int, cmp_gt_int, cmp_ge_int, bin_add_int, bin_sub_int, b1_int, b1_len_l, b1_len_t, b1_tuple_l, b1_tuple_t, b1_list_l, b1_list_t, thenD_bl, elseD_bl, iffD_bl, notD_bl, slc_lst, slc_tup, part_none, part_int, List.length_cons, List.length_nil, List.length_map, nfl_0, nfl_s, hlc, frE_lc, frI_sq]
      rfl, rfl⟩) (fun q => by cases q)
theorem frozen_l1 (n : Nat) (xs : List D) (h : ∀ x ∈ xs, listB x = false) (hl : xs.length ≤ 1000) : (B0.lev (n + 2)).1 0 [.lst xs] = ret (.tup xs) := by
  rw [st_frozen]
  refine runF_at [.sh (.lst xs), .un] rfl ?_
  unfold ir_frozen
  have hlc : evE TT (B0.lev (n + 1)).1 (B0.lev (n + 1)).2 (.lc [1] (.call 0 (.cons (.var 1) .nil)) [1] (.sq (.slot 0)) .no) [.sh (.lst xs), .un] = ret (.lst xs) := by
    rw [lc_all xs (fun d => d) (fun d => d) (by rw [List.map_id']; rfl) hl fun d hd => ?_]
    · rw [List.map_id']
    · simp only [elM_one, ifM_no, ifM_yes, wipeE_nil, wipeE_cons, X_ev, S_set, S_own, S_exp, S_app, S_par, S_rws, slD_lst, slD_sh, ownD_lst, seqD_nx, List.set_cons_succ, List.set_cons_zero, E_var, E_slot, E_non, E_bl, E_int, E_str, E_bin, E_neg, E_cmp, E_chn, E_and, E_or, E_not, E_ite, E_call, E_mk, E_fld, E_nfl, E_idx, E_slc, E_rev, E_tup, E_lst, E_b1, E_b2, E_isi, E_dic, E_lrg, A_nil, A_cons, O_no, O_yes, I_r1, I_r2, I_sq, getSh, getAny, List.getElem?_cons_zero, List.getElem?_cons_succ, bnd_ret, bnd_bnd, neg_int, cmp_eq_int, cmp_ne_int, cmp_lt_int, cmp_le_int, cmp_gt_int, cmp_ge_int, bin_add_int, bin_sub_int, b1_int, b1_len_l, b1_len_t, b1_tuple_l, b1_tuple_t, b1_list_l, b1_list_t, thenD_bl, elseD_bl, iffD_bl, notD_bl, slc_lst, slc_tup, part_none, part_int, List.length_cons, List.length_nil, List.length_map, frozen_ev0 n d (h d hd)]
  refine Rl.if_ret (t := true) (d := .tup xs) (p := [.sh (.lst xs), .un]) (by
    simp only [X_ev, S_set, S_own, S_exp, S_app, S_par, S_rws, slD_lst, slD_sh, ownD_lst, seqD_nx, List.set_cons_succ, List.set_cons_zero, frE_var, frE_slot, frE_non, frE_bl, frE_int, frE_str, frE_bin, frE_neg, frE_cmp, frE_chn, frE_and, frE_or, frE_not, frE_ite, frE_call, frE_mk, frE_fld, frE_nfl, frE_idx, frE_slc, frE_rev, frE_tup, frE_lst, frE_b1, frE_b2, frE_isi, frE_lc, frE_lc2, frE_dic, frE_lrg, frE_pget, frA_nil, frA_cons, frO_no, frO_yes, frI_r1, frI_r2, frI_sq, frR_lc, frR_call, frR_ite, frR_var, List.append_nil, List.cons_append, List.nil_append, frz_cons, frz_nil, frz1, E_var, E_slot, E_non, E_bl, E_int, E_str, E_bin, E_neg, E_cmp, E_chn, E_and, E_or, E_not, E_ite, E_call, E_mk, E_fld, E_nfl, E_idx, E_slc, E_rev, E_tup, E_lst, E_b1, E_b2, E_isi, E_dic, E_lrg, A_nil, A_cons, O_no, O_yes, I_r1, I_r2, I_sq, getSh, getAny, List.getElem?_cons_zero, List.getElem?_cons_succ, bnd_ret, bnd_bnd, neg_int, cmp_eq_int, cmp_ne_int, cmp_lt_int, cmp_le_int, cmp_gt_int, cmp_ge_int, bin_add_int, bin_sub_int, b1_int, b1_len_l, b1_len_t, b1_tuple_l, b1_tuple_t, b1_list_l, b1_list_t, thenD_bl, elseD_bl, iffD_bl, notD_bl, slc_lst, slc_tup, part_none, part_int, List.length_cons, List.length_nil, List.length_map, nfl_0, nfl_s]
    rfl) (fun q => ⟨by
      simp only [X_ev, S_set, S_own, S_exp, S_app, S_par, S_rws, slD_lst, slD_sh, ownD_lst, seqD_nx, List.set_cons_succ, List.set_cons_zero, frE_var, frE_slot, frE_non, frE_bl, frE_int, frE_str, frE_bin, frE_neg, frE_cmp, frE_chn, frE_and, frE_or, frE_not, frE_ite, frE_call, frE_mk, frE_fld, frE_nfl, frE_idx, frE_slc, frE_rev, frE_tup, frE_lst, frE_b1, frE_b2, frE_isi, frE_lc, frE_lc2, frE_dic, frE_lrg, frE_pget, frA_nil, frA_cons, frO_no, frO_yes, frI_r1, frI_r2, frI_sq, frR_lc, frR_call, frR_ite, frR_var, List.append_nil, List.cons_append, List.nil_append, frz_cons, frz_nil, frz1, E_var, E_slot, E_non, E_bl, E_int, E_str, E_bin, E_neg, E_cmp, E_chn, E_and, E_or, E_not, E_ite, E_call, E_mk, E_fld, E_nfl, E_idx, E_slc, E_rev, E_tup, E_lst, E_b1, E_b2, E_isi, E_dic, E_lrg, A_nil, A_cons, O_no, O_yes, I_r1, I_r2, I_sq, getSh, getAny, List.getElem?_cons_zero, List.getElem?_cons_succ, bnd_ret, bnd_bnd, neg_int, cmp_eq_int, cmp_ne_int, cmp_lt_int, cmp_le_int, cmp_gt_int, cmp_ge_int, bin_add_int, bin_sub_int, b1_int, b1_len_l, b1_len_t, b1_tuple_l, b1_tuple_t, b1_list_l, b1_list_t, thenD_bl, elseD_bl, iffD_bl, notD_bl, slc_lst, slc_tup, part_none, part_int, List.length_cons, List.length_nil, List.length_map, nfl_0, nfl_s, hlc, frE_lc, frI_sq]
      rfl, rfl⟩) (fun q => by cases q)
theorem frozen_st (n : Nat) (s : List Int) (hl : s.length ≤ 1000) : (B0.lev (n + 2)).1 0 [stD s] = ret (stD s) := frozen_t1 n _ (fun x hx => by
  obtain ⟨i, _, rfl⟩ := List.mem_map.mp hx
  rfl) (by rw [List.length_map]; exact hl)
theorem frozen_tabs (n : Nat) (tables : List (List Int)) (hl : tables.length ≤ 1000) (h : ∀ t ∈ tables, t.length ≤ 1000) : (B0.lev (n + 3)).1 0 [tabsD tables] = ret (tabsD tables) := by
  rw [st_frozen]
  refine runF_at [.sh (tabsD tables), .un] rfl ?_
  unfold ir_frozen
  have hlc : evE TT (B0.lev (n + 2)).1 (B0.lev (n + 2)).2 (.lc [1] (.call 0 (.cons (.var 1) .nil)) [1] (.sq (.slot 0)) .no) [.sh (tabsD tables), .un] = ret (.lst (tables.map fun t => .tup (t.map .int))) := by
    refine lc_all tables (fun t => .tup (t.map .int)) _ rfl hl fun t ht => ?_
    simp only [elM_one, ifM_no, ifM_yes, wipeE_nil, wipeE_cons, X_ev, S_set, S_own, S_exp, S_app, S_par, S_rws, slD_lst, slD_sh, ownD_lst, seqD_nx, List.set_cons_succ, List.set_cons_zero, E_var, E_slot, E_non, E_bl, E_int, E_str, E_bin, E_neg, E_cmp, E_chn, E_and, E_or, E_not, E_ite, E_call, E_mk, E_fld, E_nfl, E_idx, E_slc, E_rev, E_tup, E_lst, E_b1, E_b2, E_isi, E_dic, E_lrg, A_nil, A_cons, O_no, O_yes, I_r1, I_r2, I_sq, getSh, getAny, List.getElem?_cons_zero, List.getElem?_cons_succ, bnd_ret, bnd_bnd, neg_int, cmp_eq_int, cmp_ne_int, cmp_lt_int, cmp_le_int, cmp_gt_int, cmp_ge_int, bin_add_int, bin_sub_int, b1_int, b1_len_l, b1_len_t, b1_tuple_l, b1_tuple_t, b1_list_l, b1_list_t, thenD_bl, elseD_bl, iffD_bl, notD_bl, slc_lst, slc_tup, part_none, part_int, List.length_cons, List.length_nil, List.length_map, show (B0.lev (n + 2)).1 0 [.tup (t.map .int)] = ret (.tup (t.map .int)) from frozen_st n t (h t ht)]
  refine Rl.if_ret (t := true) (d := tabsD tables) (p := [.sh (tabsD tables), .un]) (by
    simp only [X_ev, S_set, S_own, S_exp, S_app, S_par, S_rws, slD_lst, slD_sh, ownD_lst, seqD_nx, List.set_cons_succ, List.set_cons_zero, frE_var, frE_slot, frE_non, frE_bl, frE_int, frE_str, frE_bin, frE_neg, frE_cmp, frE_chn, frE_and, frE_or, frE_not, frE_ite, frE_call, frE_mk, frE_fld, frE_nfl, frE_idx, frE_slc, frE_rev, frE_tup, frE_lst, frE_b1, frE_b2, frE_isi, frE_lc, frE_lc2, frE_dic, frE_lrg, frE_pget, frA_nil, frA_cons, frO_no, frO_yes, frI_r1, frI_r2, frI_sq, frR_lc, frR_call, frR_ite, frR_var, List.append_nil, List.cons_append, List.nil_append, frz_cons, frz_nil, frz1, E_var, E_slot, E_non, E_bl, E_int, E_str, E_bin, E_neg, E_cmp, E_chn, E_and, E_or, E_not, E_ite, E_call, E_mk, E_fld, E_nfl, E_idx, E_slc, E_rev, E_tup, E_lst, E_b1, E_b2, E_isi, E_dic, E_lrg, A_nil, A_cons, O_no, O_yes, I_r1, I_r2, I_sq, getSh, getAny, List.getElem?_cons_zero, List.getElem?_cons_succ, bnd_ret, bnd_bnd, neg_int, cmp_eq_int, cmp_ne_int, cmp_lt_int, cmp_le_int, cmp_gt_int, cmp_ge_int, bin_add_int, bin_sub_int, b1_int, b1_len_l, b1_len_t, b1_tuple_l, b1_tuple_t, b1_list_l, b1_list_t, thenD_bl, elseD_bl, iffD_bl, notD_bl, slc_lst, slc_tup, part_none, part_int, List.length_cons, List.length_nil, List.length_map, nfl_0, nfl_s]
    rfl) (fun q => ⟨by
      simp only [X_ev, S_set, S_own, S_exp, S_app, S_par, S_rws, slD_lst, slD_sh, ownD_lst, seqD_nx, List.set_cons_succ, List.set_cons_zero, frE_var, frE_slot, frE_non, frE_bl, frE_int, frE_str, frE_bin, frE_neg, frE_cmp, frE_chn, frE_and, frE_or, frE_not, frE_ite, frE_call, frE_mk, frE_fld, frE_nfl, frE_idx, frE_slc, frE_rev, frE_tup, frE_lst, frE_b1, frE_b2, frE_isi, frE_lc, frE_lc2, frE_dic, frE_lrg, frE_pget, frA_nil, frA_cons, frO_no, frO_yes, frI_r1, frI_r2, frI_sq, frR_lc, frR_call, frR_ite, frR_var, List.append_nil, List.cons_append, List.nil_append, frz_cons, frz_nil, frz1, E_var, E_slot, E_non, E_bl, E_int, E_str, E_bin, E_neg, E_cmp, E_chn, E_and, E_or, E_not, E_ite, E_call, E_mk, E_fld, E_nfl, E_idx, E_slc, E_rev, E_tup, E_lst, E_b1, E_b2, E_isi, E_dic, E_lrg, A_nil, A_cons, O_no, O_yes, I_r1, I_r2, I_sq, getSh, getAny, List.getElem?_cons_zero, List.getElem?_cons_succ, bnd_ret, bnd_bnd, neg_int, cmp_eq_int, cmp_ne_int, cmp_lt_int, cmp_le_int, cmp_gt_int, cmp_ge_int, bin_add_int, bin_sub_int, b1_int, b1_len_l, b1_len_t, b1_tuple_l, b1_tuple_t, b1_list_l, b1_list_t, thenD_bl, elseD_bl, iffD_bl, notD_bl, slc_lst, slc_tup, part_none, part_int, List.length_cons, List.length_nil, List.length_map, nfl_0, nfl_s, hlc, frE_lc, frI_sq]
      rfl, rfl⟩) (fun q => by cases q)
theorem n_one_rules : ¬ ("one" : Str) = "rules" := by decide +kernel
theorem n_other_rules : ¬ ("other" : Str) = "rules" := by decide +kernel
theorem n_other_one : ¬ ("other" : Str) = "one" := by decide +kernel
theorem two_ini (n : Nat) {a b c a' b' c' : D} (ha : (B0.lev n).1 0 [a] = ret a') (hb : (B0.lev n).1 0 [b] = ret b') (hc : (B0.lev n).1 0 [c] = ret c') : (B0.lev (n + 1)).2 2 [a, b, c] = ret (twoD a' b' c') := by
  rw [st_TwoLevels___init__]
  refine runI_of (fs := [("rules", a'), ("one", b'), ("other", c')]) ?_ (show (TT.CT[2]?.map (·.2)) = some [("rules" : Str), "one", "other"] by decide +kernel)
  unfold ir_TwoLevels___init__
  refine Rl.st (p := [.se 2 [("rules", a')], .sh a, .sh b, .sh c]) (by
    simp only [S_fld, startE, List.map_cons, List.map_nil, List.replicate, X_ev, S_set, S_own, S_exp, S_app, S_par, S_rws, slD_lst, slD_sh, ownD_lst, seqD_nx, List.set_cons_succ, List.set_cons_zero, frE_var, frE_slot, frE_non, frE_bl, frE_int, frE_str, frE_bin, frE_neg, frE_cmp, frE_chn, frE_and, frE_or, frE_not, frE_ite, frE_call, frE_mk, frE_fld, frE_nfl, frE_idx, frE_slc, frE_rev, frE_tup, frE_lst, frE_b1, frE_b2, frE_isi, frE_lc, frE_lc2, frE_dic, frE_lrg, frE_pget, frA_nil, frA_cons, frO_no, frO_yes, frI_r1, frI_r2, frI_sq, frR_lc, frR_call, frR_ite, frR_var, List.append_nil, List.cons_append, List.nil_append, frz_cons, frz_nil, frz1, E_var, E_slot, E_non, E_bl, E_int, E_str, E_bin, E_neg, E_cmp, E_chn, E_and, E_or, E_not, E_ite, E_call, E_mk, E_fld, E_nfl, E_idx, E_slc, E_rev, E_tup, E_lst, E_b1, E_b2, E_isi, E_dic, E_lrg, A_nil, A_cons, O_no, O_yes, I_r1, I_r2, I_sq, getSh, getAny, List.getElem?_cons_zero, List.getElem?_cons_succ, bnd_ret, bnd_bnd, neg_int, cmp_eq_int, cmp_ne_int, cmp_lt_int, cmp_le_int, cmp_gt_int, cmp_ge_int, bin_add_int, bin_sub_int, b1_int, b1_len_l, b1_len_t, b1_tuple_l, b1_tuple_t, b1_list_l, b1_list_t, thenD_bl, elseD_bl, iffD_bl, notD_bl, slc_lst, slc_tup, part_none, part_int, List.length_cons, List.length_nil, List.length_map, ha]
    rw [fld_ok (x := "rules") (c := 2) (fs := []) rfl (by decide +kernel) rfl (by decide)]
    rfl) ?_
  refine Rl.st (p := [.se 2 [("rules", a'), ("one", b')], .sh a, .sh b, .sh c]) (by
    simp only [S_fld, X_ev, S_set, S_own, S_exp, S_app, S_par, S_rws, slD_lst, slD_sh, ownD_lst, seqD_nx, List.set_cons_succ, List.set_cons_zero, frE_var, frE_slot, frE_non, frE_bl, frE_int, frE_str, frE_bin, frE_neg, frE_cmp, frE_chn, frE_and, frE_or, frE_not, frE_ite, frE_call, frE_mk, frE_fld, frE_nfl, frE_idx, frE_slc, frE_rev, frE_tup, frE_lst, frE_b1, frE_b2, frE_isi, frE_lc, frE_lc2, frE_dic, frE_lrg, frE_pget, frA_nil, frA_cons, frO_no, frO_yes, frI_r1, frI_r2, frI_sq, frR_lc, frR_call, frR_ite, frR_var, List.append_nil, List.cons_append, List.nil_append, frz_cons, frz_nil, frz1, E_var, E_slot, E_non, E_bl, E_int, E_str, E_bin, E_neg, E_cmp, E_chn, E_and, E_or, E_not, E_ite, E_call, E_mk, E_fld, E_nfl, E_idx, E_slc, E_rev, E_tup, E_lst, E_b1, E_b2, E_isi, E_dic, E_lrg, A_nil, A_cons, O_no, O_yes, I_r1, I_r2, I_sq, getSh, getAny, List.getElem?_cons_zero, List.getElem?_cons_succ, bnd_ret, bnd_bnd, neg_int, cmp_eq_int, cmp_ne_int, cmp_lt_int, cmp_le_int, cmp_gt_int, cmp_ge_int, bin_add_int, bin_sub_int, b1_int, b1_len_l, b1_len_t, b1_tuple_l, b1_tuple_t, b1_list_l, b1_list_t, thenD_bl, elseD_bl, iffD_bl, notD_bl, slc_lst, slc_tup, part_none, part_int, List.length_cons, List.length_nil, List.length_map, hb]
    rw [fld_ok (x := "one") (c := 2) (fs := [("rules", a')]) rfl (show (TT.CT[2]?.bind fun q => q.2[1]?) = some ("one" : Str) by decide +kernel) (by rw [lk_miss n_one_rules]; rfl) (show (1 : Nat) < 100 by decide)]
    rfl) ?_
  refine Rl.of (e := [.se 2 [("rules", a'), ("one", b'), ("other", c')], .sh a, .sh b, .sh c]) (by
    simp only [S_fld, X_ev, S_set, S_own, S_exp, S_app, S_par, S_rws, slD_lst, slD_sh, ownD_lst, seqD_nx, List.set_cons_succ, List.set_cons_zero, frE_var, frE_slot, frE_non, frE_bl, frE_int, frE_str, frE_bin, frE_neg, frE_cmp, frE_chn, frE_and, frE_or, frE_not, frE_ite, frE_call, frE_mk, frE_fld, frE_nfl, frE_idx, frE_slc, frE_rev, frE_tup, frE_lst, frE_b1, frE_b2, frE_isi, frE_lc, frE_lc2, frE_dic, frE_lrg, frE_pget, frA_nil, frA_cons, frO_no, frO_yes, frI_r1, frI_r2, frI_sq, frR_lc, frR_call, frR_ite, frR_var, List.append_nil, List.cons_append, List.nil_append, frz_cons, frz_nil, frz1, E_var, E_slot, E_non, E_bl, E_int, E_str, E_bin, E_neg, E_cmp, E_chn, E_and, E_or, E_not, E_ite, E_call, E_mk, E_fld, E_nfl, E_idx, E_slc, E_rev, E_tup, E_lst, E_b1, E_b2, E_isi, E_dic, E_lrg, A_nil, A_cons, O_no, O_yes, I_r1, I_r2, I_sq, getSh, getAny, List.getElem?_cons_zero, List.getElem?_cons_succ, bnd_ret, bnd_bnd, neg_int, cmp_eq_int, cmp_ne_int, cmp_lt_int, cmp_le_int, cmp_gt_int, cmp_ge_int, bin_add_int, bin_sub_int, b1_int, b1_len_l, b1_len_t, b1_tuple_l, b1_tuple_t, b1_list_l, b1_list_t, thenD_bl, elseD_bl, iffD_bl, notD_bl, slc_lst, slc_tup, part_none, part_int, List.length_cons, List.length_nil, List.length_map, hc]
    rw [fld_ok (x := "other") (c := 2) (fs := [("rules", a'), ("one", b')]) rfl (show (TT.CT[2]?.bind fun q => q.2[2]?) = some ("other" : Str) by decide +kernel) (by rw [lk_miss n_other_rules, lk_miss n_other_one]; rfl) (show (2 : Nat) < 100 by decide)]
    rfl) ⟨rfl, rfl⟩
theorem none_ini (n : Nat) {a a' : D} (ha : (B0.lev n).1 0 [a] = ret a') : (B0.lev (n + 1)).2 3 [a] = ret (noneD a') := by
  rw [st_NoLevels___init__]
  refine runI_of (fs := [("rules", a')]) ?_ (show (TT.CT[3]?.map (·.2)) = some [("rules" : Str)] by decide +kernel)
  unfold ir_NoLevels___init__
  refine Rl.of (e := [.se 3 [("rules", a')], .sh a]) (by
    simp only [S_fld, startE, List.map_cons, List.map_nil, List.replicate, X_ev, S_set, S_own, S_exp, S_app, S_par, S_rws, slD_lst, slD_sh, ownD_lst, seqD_nx, List.set_cons_succ, List.set_cons_zero, frE_var, frE_slot, frE_non, frE_bl, frE_int, frE_str, frE_bin, frE_neg, frE_cmp, frE_chn, frE_and, frE_or, frE_not, frE_ite, frE_call, frE_mk, frE_fld, frE_nfl, frE_idx, frE_slc, frE_rev, frE_tup, frE_lst, frE_b1, frE_b2, frE_isi, frE_lc, frE_lc2, frE_dic, frE_lrg, frE_pget, frA_nil, frA_cons, frO_no, frO_yes, frI_r1, frI_r2, frI_sq, frR_lc, frR_call, frR_ite, frR_var, List.append_nil, List.cons_append, List.nil_append, frz_cons, frz_nil, frz1, E_var, E_slot, E_non, E_bl, E_int, E_str, E_bin, E_neg, E_cmp, E_chn, E_and, E_or, E_not, E_ite, E_call, E_mk, E_fld, E_nfl, E_idx, E_slc, E_rev, E_tup, E_lst, E_b1, E_b2, E_isi, E_dic, E_lrg, A_nil, A_cons, O_no, O_yes, I_r1, I_r2, I_sq, getSh, getAny, List.getElem?_cons_zero, List.getElem?_cons_succ, bnd_ret, bnd_bnd, neg_int, cmp_eq_int, cmp_ne_int, cmp_lt_int, cmp_le_int, cmp_gt_int, cmp_ge_int, bin_add_int, bin_sub_int, b1_int, b1_len_l, b1_len_t, b1_tuple_l, b1_tuple_t, b1_list_l, b1_list_t, thenD_bl, elseD_bl, iffD_bl, notD_bl, slc_lst, slc_tup, part_none, part_int, List.length_cons, List.length_nil, List.length_map, ha]
    rw [fld_ok (x := "rules") (c := 3) (fs := []) rfl (by decide +kernel) rfl (by decide)]
    rfl) ⟨rfl, rfl⟩
theorem two_eq (n : Nat) {a b c a' b' c' : D} (pa : plk 5 a = true) (pb : plk 5 b = true) (pc : plk 5 c = true) (pa' : plk 5 a' = true) (pb' : plk 5 b' = true) (pc' : plk 5 c' = true) : (B0.lev (n + 1)).1 7 [twoD a b c, twoD a' b' c'] = ret (.bl (deq a a' && (deq b b' && deq c c'))) := by
  rw [st_TwoLevels___eq__]
  refine runF_at [.sh (twoD a b c), .sh (twoD a' b' c')] rfl ?_
  unfold ir_TwoLevels___eq__
  refine Rl.ret (d := .bl (deq a a' && (deq b b' && deq c c'))) (p := [.sh (twoD a b c), .sh (twoD a' b' c')]) ?_ rfl
  simp only [X_ev, S_set, S_own, S_exp, S_app, S_par, S_rws, slD_lst, slD_sh, ownD_lst, seqD_nx, List.set_cons_succ, List.set_cons_zero, frE_var, frE_slot, frE_non, frE_bl, frE_int, frE_str, frE_bin, frE_neg, frE_cmp, frE_chn, frE_and, frE_or, frE_not, frE_ite, frE_call, frE_mk, frE_fld, frE_nfl, frE_idx, frE_slc, frE_rev, frE_tup, frE_lst, frE_b1, frE_b2, frE_isi, frE_lc, frE_lc2, frE_dic, frE_lrg, frE_pget, frA_nil, frA_cons, frO_no, frO_yes, frI_r1, frI_r2, frI_sq, frR_lc, frR_call, frR_ite, frR_var, List.append_nil, List.cons_append, List.nil_append, frz_cons, frz_nil, frz1, E_var, E_slot, E_non, E_bl, E_int, E_str, E_bin, E_neg, E_cmp, E_chn, E_and, E_or, E_not, E_ite, E_call, E_mk, E_fld, E_nfl, E_idx, E_slc, E_rev, E_tup, E_lst, E_b1, E_b2, E_isi, E_dic, E_lrg, A_nil, A_cons, O_no, O_yes, I_r1, I_r2, I_sq, getSh, getAny, List.getElem?_cons_zero, List.getElem?_cons_succ, bnd_ret, bnd_bnd, neg_int, cmp_eq_int, cmp_ne_int, cmp_lt_int, cmp_le_int, cmp_gt_int, cmp_ge_int, bin_add_int, bin_sub_int, b1_int, b1_len_l, b1_len_t, b1_tuple_l, b1_tuple_t, b1_list_l, b1_list_t, thenD_bl, elseD_bl, iffD_bl, notD_bl, slc_lst, slc_tup, part_none, part_int, List.length_cons, List.length_nil, List.length_map, nfl_0, nfl_s, two_rules_f, two_one_f, two_other_f, cmp_eq_plk (k := 5) (by decide) pa pa', cmp_eq_plk (k := 5) (by decide) pb pb', cmp_eq_plk (k := 5) (by decide) pc pc']
  rw [show ([Ty.cls 2].any (isT (twoD a' b' c'))) = true from rfl, if_pos rfl]
  cases deq a a' <;> cases deq b b' <;> rfl
theorem none_eq (n : Nat) {a a' : D} (pa : plk 5 a = true) (pa' : plk 5 a' = true) : (B0.lev (n + 1)).1 8 [noneD a, noneD a'] = ret (.bl (deq a a')) := by
  rw [st_NoLevels___eq__]
  refine runF_at [.sh (noneD a), .sh (noneD a')] rfl ?_
  unfold ir_NoLevels___eq__
  refine Rl.ret (d := .bl (deq a a')) (p := [.sh (noneD a), .sh (noneD a')]) ?_ rfl
  simp only [X_ev, S_set, S_own, S_exp, S_app, S_par, S_rws, slD_lst, slD_sh, ownD_lst, seqD_nx, List.set_cons_succ, List.set_cons_zero, frE_var, frE_slot, frE_non, frE_bl, frE_int, frE_str, frE_bin, frE_neg, frE_cmp, frE_chn, frE_and, frE_or, frE_not, frE_ite, frE_call, frE_mk, frE_fld, frE_nfl, frE_idx, frE_slc, frE_rev, frE_tup, frE_lst, frE_b1, frE_b2, frE_isi, frE_lc, frE_lc2, frE_dic, frE_lrg, frE_pget, frA_nil, frA_cons, frO_no, frO_yes, frI_r1, frI_r2, frI_sq, frR_lc, frR_call, frR_ite, frR_var, List.append_nil, List.cons_append, List.nil_append, frz_cons, frz_nil, frz1, E_var, E_slot, E_non, E_bl, E_int, E_str, E_bin, E_neg, E_cmp, E_chn, E_and, E_or, E_not, E_ite, E_call, E_mk, E_fld, E_nfl, E_idx, E_slc, E_rev, E_tup, E_lst, E_b1, E_b2, E_isi, E_dic, E_lrg, A_nil, A_cons, O_no, O_yes, I_r1, I_r2, I_sq, getSh, getAny, List.getElem?_cons_zero, List.getElem?_cons_succ, bnd_ret, bnd_bnd, neg_int, cmp_eq_int, cmp_ne_int, cmp_lt_int, cmp_le_int, cmp_gt_int, cmp_ge_int, bin_add_int, bin_sub_int, b1_int, b1_len_l, b1_len_t, b1_tuple_l, b1_tuple_t, b1_list_l, b1_list_t, thenD_bl, elseD_bl, iffD_bl, notD_bl, slc_lst, slc_tup, part_none, part_int, List.length_cons, List.length_nil, List.length_map, nfl_0, nfl_s, none_rules_f, cmp_eq_plk (k := 5) (by decide) pa pa']
  rfl
end UK

set_option Elab.async false
set_option linter.all false
set_option maxRecDepth 100000
set_option maxHeartbeats 400000
namespace UK
open PySem PySem.Spec PyProof.Rows L2
/-! ### one lap of the law: what is drawn -/
abbrev lE (size m : Nat) (rows : List (List Int)) (s5 s8 s9 s10 s11 s12 : Slot) : Env' := [.un, .sh .pen, .sh (rowsT rows), .sh (webD (rowsR rows)), .un, s5, .sh (.int size), .sh (.int m), s8, s9, s10, s11, s12, .un, .un, .un, .un]
structure OddOk (d e : D) : Prop where
  fr : ∀ n, (B0.lev (n + 2)).1 0 [d] = ret e
  pl : plk 5 e = true
  sm : Sm1000 e
  no : isT d (.cls 1) = false
  no' : isT e (.cls 1) = false
theorem scal_list {d : D} (h : plk 0 d = true) : listB d = false := by cases d <;> first | rfl | cases h
theorem scal_plk {d : D} (h : plk 0 d = true) (k : Nat) : plk k d = true := by
  cases d <;> first | (cases h; done) | (cases k <;> exact h)
theorem odd_tup {xs : List D} (h : ∀ x ∈ xs, plk 0 x = true) (hl : xs.length ≤ 100) : OddOk (.tup xs) (.tup xs) :=
  ⟨fun n => frozen_t1 n xs (fun x hx => scal_list (h x hx)) (by omega), List.all_eq_true.mpr fun x hx => scal_plk (h x hx) 4, fun ys e => by cases e; omega, rfl, rfl⟩
theorem odd_lst {xs : List D} (h : ∀ x ∈ xs, plk 0 x = true) (hl : xs.length ≤ 100) : OddOk (.lst xs) (.tup xs) :=
  ⟨fun n => frozen_l1 n xs (fun x hx => scal_list (h x hx)) (by omega), List.all_eq_true.mpr fun x hx => scal_plk (h x hx) 4, fun ys e => by cases e; omega, rfl, rfl⟩
theorem odd_non : OddOk .non .non := ⟨fun n => frozen_ev0 (n + 1) .non rfl, rfl, (fun ys e => by cases e), rfl, rfl⟩
theorem odd_st {s : List Int} (hl : s.length ≤ 100) : OddOk (stD s) (stD s) := odd_tup (fun x hx => by
  obtain ⟨i, _, rfl⟩ := List.mem_map.mp hx
  rfl) (by rw [List.length_map]; exact hl)
theorem mul_tup1 {d : D} {k : Nat} (hk : k ≤ 1000) : binD .mul (.tup [d]) (.int k) = ret (.tup (List.replicate k d)) := by
  show guardM (decide ([d].length = 1) && (decide ((0 : Int) ≤ k) && decide ((k : Int) ≤ 1000))) (ret (D.tup (List.replicate (k : Int).toNat [d]).flatten)) = _
  rw [guard_t (by rw [decide_eq_true (show [d].length = 1 from rfl), decide_eq_true (show (0 : Int) ≤ k by omega), decide_eq_true (show (k : Int) ≤ 1000 by omega)]; rfl)]
  have : ∀ j : Nat, (List.replicate j [d]).flatten = List.replicate j d := fun j => by
    induction j with
    | zero => rfl
    | succ j ih => rw [List.replicate_succ, List.flatten_cons, ih]; rfl
  rw [show (k : Int).toNat = k from rfl, this]
theorem repl_int (k : Nat) (i : Int) : D.tup (List.replicate k (.int i)) = stD (List.replicate k i) := by
  unfold stD
  rw [List.map_replicate]
abbrev a1S : Sm := .set 8 (.call 41 (.cons (.var 1) (.cons (.var 2) (.cons (.var 7) .nil))))
theorem a1_dr (n : Nat) {size m : Nat} {rows : List (List Int)} (h : IRow size rows) (h0 : 0 < size) (h3 : size ≤ 3) (m1 : 1 ≤ m) (m4 : m ≤ 4) (s5 s8 s9 s10 s11 s12 : Slot) :
    DrS 160 (evS TT (B0.lev (n + 5)).1 (B0.lev (n + 5)).2 a1S (lE size m rows s5 s8 s9 s10 s11 s12)) (fun f p => f = .nx ∧ ∃ rows' m' tables, p = lE size m rows s5 (.sh (rulesD rows' (m' : Nat) tables)) s9 s10 s11 s12 ∧ IRow size rows' ∧ 1 ≤ m' ∧ m' ≤ 4 ∧ TabsOk m' rows' tables) := by
  simp only [X_ev, S_set, S_own, S_exp, S_app, S_par, S_rws, slD_lst, slD_sh, ownD_lst, seqD_nx, List.set_cons_succ, List.set_cons_zero, frE_var, frE_slot, frE_non, frE_bl, frE_int, frE_str, frE_bin, frE_neg, frE_cmp, frE_chn, frE_and, frE_or, frE_not, frE_ite, frE_call, frE_mk, frE_fld, frE_nfl, frE_idx, frE_slc, frE_rev, frE_tup, frE_lst, frE_b1, frE_b2, frE_isi, frE_lc, frE_lc2, frE_dic, frE_lrg, frE_pget, frA_nil, frA_cons, frO_no, frO_yes, frI_r1, frI_r2, frI_sq, frR_lc, frR_call, frR_ite, frR_var, List.append_nil, List.cons_append, List.nil_append, frz_cons, frz_nil, frz1, E_var, E_slot, E_non, E_bl, E_int, E_str, E_bin, E_neg, E_cmp, E_chn, E_and, E_or, E_not, E_ite, E_call, E_mk, E_fld, E_nfl, E_idx, E_slc, E_rev, E_tup, E_lst, E_b1, E_b2, E_isi, E_dic, E_lrg, A_nil, A_cons, O_no, O_yes, I_r1, I_r2, I_sq, getSh, getAny, List.getElem?_cons_zero, List.getElem?_cons_succ, bnd_ret, bnd_bnd, neg_int, cmp_eq_int, cmp_ne_int, cmp_lt_int, cmp_le_int, cmp_gt_int, cmp_ge_int, bin_add_int, bin_sub_int, b1_int, b1_len_l, b1_len_t, b1_tuple_l, b1_tuple_t, b1_list_l, b1_list_t, thenD_bl, elseD_bl, iffD_bl, notD_bl, slc_lst, slc_tup, part_none, part_int, List.length_cons, List.length_nil, List.length_map, nfl_0, nfl_s]
  refine Dr.bnd (k1 := 160) (k2 := 0) (some_rules_dr n h h0 h3 m1 m4) (by decide) (by decide) fun d hd => ?_
  obtain ⟨rows', m', tables, rfl, r1, r2, r3, r4⟩ := hd
  exact DrS.up (by decide) rfl (EnvLe.refl _) ⟨rfl, rows', m', tables, rfl, r1, r2, r3, r4⟩
theorem rests_mem {size m : Nat} {rows : List (List Int)} (h : IRow size rows) {tables : List (List Int)} {s : List Int} (hs : s ∈ restsL rows m tables) : StOk size m s := by
  have := states_ok (List.mem_filter.mp hs).1
  rw [h.1] at this
  exact this
theorem rests_len {size m : Nat} {rows : List (List Int)} (h : IRow size rows) (h3 : size ≤ 3) (m4 : m ≤ 4) {tables : List (List Int)} : (restsL rows m tables).length ≤ 1000 := by
  have := List.length_filter_le (restB rows m tables) (states m rows.length)
  have := states_small2 m4 (size := rows.length) (by rw [h.1]; exact h3)
  unfold restsL
  omega
theorem found_ne (n : Nat) {φ : Fns} {eqt : EqT} (L : List (List Int)) : cmpM φ eqt .ne (.lst (L.map stD)) (.lst []) = ret (.bl (!decide (L = []))) := by
  have pl : plk 6 (.lst (L.map stD)) = true := by
    show (L.map stD).all (plk 5) = true
    rw [List.all_map]
    exact List.all_eq_true.mpr fun s _ => plk_tints 4 s
  rw [cmp_ne_plk (k := 6) (by decide) pl rfl, deq]
  cases L <;> simp [deqs]
abbrev a3S : Sm := .set 10 (.ite (.cmp .ne (.slot 9) (.lst .nil)) (.call 28 (.cons (.var 1) (.cons (.var 9) .nil))) (.bin .mul (.tup (.cons (.int 0) .nil)) (.slot 6)))
theorem a3_dr (n : Nat) {size m : Nat} {rows : List (List Int)} (h3 : size ≤ 3) (L : List (List Int)) (hL : ∀ s ∈ L, s.length = size) (hl : L.length ≤ 1000) (s5 s8 s10 s11 s12 : Slot) :
    DrS 1 (evS TT (B0.lev (n + 2)).1 (B0.lev (n + 2)).2 a3S (lE size m rows s5 s8 (.sh (.lst (L.map stD))) s10 s11 s12)) (fun f p => f = .nx ∧ ∃ s : List Int, p = lE size m rows s5 s8 (.sh (.lst (L.map stD))) (.sh (stD s)) s11 s12 ∧ s.length = size) := by
  simp only [X_ev, S_set, S_own, S_exp, S_app, S_par, S_rws, slD_lst, slD_sh, ownD_lst, seqD_nx, List.set_cons_succ, List.set_cons_zero, frE_var, frE_slot, frE_non, frE_bl, frE_int, frE_str, frE_bin, frE_neg, frE_cmp, frE_chn, frE_and, frE_or, frE_not, frE_ite, frE_call, frE_mk, frE_fld, frE_nfl, frE_idx, frE_slc, frE_rev, frE_tup, frE_lst, frE_b1, frE_b2, frE_isi, frE_lc, frE_lc2, frE_dic, frE_lrg, frE_pget, frA_nil, frA_cons, frO_no, frO_yes, frI_r1, frI_r2, frI_sq, frR_lc, frR_call, frR_ite, frR_var, List.append_nil, List.cons_append, List.nil_append, frz_cons, frz_nil, frz1, E_var, E_slot, E_non, E_bl, E_int, E_str, E_bin, E_neg, E_cmp, E_chn, E_and, E_or, E_not, E_ite, E_call, E_mk, E_fld, E_nfl, E_idx, E_slc, E_rev, E_tup, E_lst, E_b1, E_b2, E_isi, E_dic, E_lrg, A_nil, A_cons, O_no, O_yes, I_r1, I_r2, I_sq, getSh, getAny, List.getElem?_cons_zero, List.getElem?_cons_succ, bnd_ret, bnd_bnd, neg_int, cmp_eq_int, cmp_ne_int, cmp_lt_int, cmp_le_int, cmp_gt_int, cmp_ge_int, bin_add_int, bin_sub_int, b1_int, b1_len_l, b1_len_t, b1_tuple_l, b1_tuple_t, b1_list_l, b1_list_t, thenD_bl, elseD_bl, iffD_bl, notD_bl, slc_lst, slc_tup, part_none, part_int, List.length_cons, List.length_nil, List.length_map, nfl_0, nfl_s]
  rw [guard_le (by decide), guard_le (by decide), bnd_ret, bnd_ret, found_ne n, bnd_ret, iffD_bl]
  by_cases q : L = []
  · rw [decide_eq_true q, if_neg (by decide), mul_tup1 (by omega), repl_int, bnd_ret]
    exact DrS.up (by decide) rfl (EnvLe.refl _) ⟨rfl, _, rfl, List.length_replicate ..⟩
  · rw [decide_eq_false q, if_pos (by decide)]
    refine Dr.bnd (k1 := 1) (k2 := 0) (pick_l n (L.map stD) (by rw [List.length_map]; exact List.length_pos_iff.mpr q) (by rw [List.length_map]; omega)) (by decide) (by decide) fun d hd => ?_
    obtain ⟨s, hs, rfl⟩ := List.mem_map.mp hd
    exact DrS.up (by decide) rfl (EnvLe.refl _) ⟨rfl, s, rfl, hL s hs⟩
abbrev a4S : Sm := .set 11 (.ite (.and (.cmp .ne (.slot 9) (.lst .nil)) (.cmp .gt (.call 27 (.cons (.var 1) (.cons (.int 3) .nil))) (.int 0))) (.call 28 (.cons (.var 1) (.cons (.var 9) .nil))) (.b1 .tuple (.lc [16] (.call 27 (.cons (.var 1) (.cons (.bin .add (.slot 7) (.int 1)) .nil))) [16] (.r1 (.var 6)) .no)))
theorem a4_dr (n : Nat) {size m : Nat} {rows : List (List Int)} (h3 : size ≤ 3) (m4 : m ≤ 4) (L : List (List Int)) (hL : ∀ s ∈ L, s.length = size) (hl : L.length ≤ 1000) (s5 s8 s11 s12 : Slot) (o : D) :
    DrS 5 (evS TT (B0.lev (n + 2)).1 (B0.lev (n + 2)).2 a4S (lE size m rows s5 s8 (.sh (.lst (L.map stD))) (.sh o) s11 s12)) (fun f p => f = .nx ∧ ∃ s : List Int, p = lE size m rows s5 s8 (.sh (.lst (L.map stD))) (.sh o) (.sh (stD s)) s12 ∧ s.length = size) := by
  have tail : Dr 3 (bnd (evE TT (B0.lev (n + 2)).1 (B0.lev (n + 2)).2 (.b1 .tuple (.lc [16] (.call 27 (.cons (.var 1) (.cons (.bin .add (.slot 7) (.int 1)) .nil))) [16] (.r1 (.var 6)) .no)) (lE size m rows s5 s8 (.sh (.lst (L.map stD))) (.sh o) s11 s12)) fun d => ret (d, lE size m rows s5 s8 (.sh (.lst (L.map stD))) (.sh o) s11 s12)) (fun r => ∃ s : List Int, r = (stD s, lE size m rows s5 s8 (.sh (.lst (L.map stD))) (.sh o) s11 s12) ∧ s.length = size) := by
    rw [E_b1, lc_any (xs := (List.range size).map natD) (by
      simp only [E_var, E_slot, E_non, E_bl, E_int, E_str, E_bin, E_neg, E_cmp, E_chn, E_and, E_or, E_not, E_ite, E_call, E_mk, E_fld, E_nfl, E_idx, E_slc, E_rev, E_tup, E_lst, E_b1, E_b2, E_isi, E_dic, E_lrg, A_nil, A_cons, O_no, O_yes, I_r1, I_r2, I_sq, getSh, getAny, List.getElem?_cons_zero, List.getElem?_cons_succ, bnd_ret, bnd_bnd, neg_int, cmp_eq_int, cmp_ne_int, cmp_lt_int, cmp_le_int, cmp_gt_int, cmp_ge_int, bin_add_int, bin_sub_int, b1_int, b1_len_l, b1_len_t, b1_tuple_l, b1_tuple_t, b1_list_l, b1_list_t, thenD_bl, elseD_bl, iffD_bl, notD_bl, slc_lst, slc_tup, part_none, part_int, List.length_cons, List.length_nil, List.length_map, nfl_0, nfl_s]
      rw [r1_nat (by omega)]) (by rw [List.length_map, List.length_range]; omega)]
    simp only [bnd_bnd, bnd_ret, b1_tuple_l]
    refine Dr.bnd (k1 := 3) (k2 := 0) ((mapM_dr (k := 1) (by decide) _ (fun _ y => ∃ i : Int, y = .int i ∧ True) fun i x hx => ?_).mono (by rw [List.length_map, List.length_range]; omega) fun _ h => h) (by decide) (by decide) fun ys hys => ?_
    · simp only [elM_one, ifM_no, ifM_yes, wipeE_nil, wipeE_cons, X_ev, S_set, S_own, S_exp, S_app, S_par, S_rws, slD_lst, slD_sh, ownD_lst, seqD_nx, List.set_cons_succ, List.set_cons_zero, E_var, E_slot, E_non, E_bl, E_int, E_str, E_bin, E_neg, E_cmp, E_chn, E_and, E_or, E_not, E_ite, E_call, E_mk, E_fld, E_nfl, E_idx, E_slc, E_rev, E_tup, E_lst, E_b1, E_b2, E_isi, E_dic, E_lrg, A_nil, A_cons, O_no, O_yes, I_r1, I_r2, I_sq, getSh, getAny, List.getElem?_cons_zero, List.getElem?_cons_succ, bnd_ret, bnd_bnd, neg_int, cmp_eq_int, cmp_ne_int, cmp_lt_int, cmp_le_int, cmp_gt_int, cmp_ge_int, bin_add_int, bin_sub_int, b1_int, b1_len_l, b1_len_t, b1_tuple_l, b1_tuple_t, b1_list_l, b1_list_t, thenD_bl, elseD_bl, iffD_bl, notD_bl, slc_lst, slc_tup, part_none, part_int, List.length_cons, List.length_nil, List.length_map, nfl_0, nfl_s]
      refine Dr.bnd (k1 := 1) (k2 := 0) (draw_dr (n + 1) ((m : Int) + 1) (by omega) (by omega)) (by decide) (by decide) fun d hd => ?_
      obtain ⟨r, rfl, _⟩ := hd
      exact Dr.ret (by decide) ⟨_, rfl, r, rfl, trivial⟩
    · obtain ⟨h1, h2⟩ := hys
      obtain ⟨s, rfl, _⟩ := choose_list (F := D.int) 0 ys _ h2
      rw [List.length_map, List.length_map, List.length_range] at h1
      exact Dr.ret (by decide) ⟨s, rfl, h1⟩
  have fin : ∀ r : D × Env', (∃ s : List Int, r = (stD s, lE size m rows s5 s8 (.sh (.lst (L.map stD))) (.sh o) s11 s12) ∧ s.length = size) → DrS 0 (ret (.nx, r.2.set 11 (.sh r.1))) (fun f p => f = .nx ∧ ∃ s : List Int, p = lE size m rows s5 s8 (.sh (.lst (L.map stD))) (.sh o) (.sh (stD s)) s12 ∧ s.length = size) := by
    rintro r ⟨s, rfl, hs⟩
    exact DrS.up (by decide) rfl (EnvLe.refl _) ⟨rfl, s, rfl, hs⟩
  rw [S_set, X_ev]
  rw [show frz (frE (.ite (.and (.cmp .ne (.slot 9) (.lst .nil)) (.cmp .gt (.call 27 (.cons (.var 1) (.cons (.int 3) .nil))) (.int 0))) (.call 28 (.cons (.var 1) (.cons (.var 9) .nil))) (.b1 .tuple (.lc [16] (.call 27 (.cons (.var 1) (.cons (.bin .add (.slot 7) (.int 1)) .nil))) [16] (.r1 (.var 6)) .no)))) (lE size m rows s5 s8 (.sh (.lst (L.map stD))) (.sh o) s11 s12) = lE size m rows s5 s8 (.sh (.lst (L.map stD))) (.sh o) s11 s12 from rfl]
  rw [E_ite]
  simp only [bnd_bnd]
  refine Dr.bnd (k1 := 2) (k2 := 3) (P := fun d => ∃ b, d = .bl b ∧ (b = true → L ≠ [])) ?_ (by decide) (by decide) fun d hd => ?_
  · simp only [E_var, E_slot, E_non, E_bl, E_int, E_str, E_bin, E_neg, E_cmp, E_chn, E_and, E_or, E_not, E_ite, E_call, E_mk, E_fld, E_nfl, E_idx, E_slc, E_rev, E_tup, E_lst, E_b1, E_b2, E_isi, E_dic, E_lrg, A_nil, A_cons, O_no, O_yes, I_r1, I_r2, I_sq, getSh, getAny, List.getElem?_cons_zero, List.getElem?_cons_succ, bnd_ret, bnd_bnd, neg_int, cmp_eq_int, cmp_ne_int, cmp_lt_int, cmp_le_int, cmp_gt_int, cmp_ge_int, bin_add_int, bin_sub_int, b1_int, b1_len_l, b1_len_t, b1_tuple_l, b1_tuple_t, b1_list_l, b1_list_t, thenD_bl, elseD_bl, iffD_bl, notD_bl, slc_lst, slc_tup, part_none, part_int, List.length_cons, List.length_nil, List.length_map, nfl_0, nfl_s]
    rw [guard_le (by decide), bnd_ret, found_ne n, bnd_ret, thenD_bl]
    by_cases q : L = []
    · rw [decide_eq_true q, if_neg (by decide)]
      exact Dr.ret (by decide) ⟨_, rfl, fun h => by cases h⟩
    · rw [decide_eq_false q, if_pos (by decide)]
      refine Dr.bnd (k1 := 1) (k2 := 0) (draw_dr (n + 1) 3 (by decide) (by decide)) (by decide) (by decide) fun d hd => ?_
      obtain ⟨r, rfl, _⟩ := hd
      exact Dr.ret (by decide) ⟨_, rfl, fun _ => q⟩
  · obtain ⟨b, rfl, hb⟩ := hd
    rw [iffD_bl]
    cases b with
    | true =>
      rw [if_pos rfl]
      simp only [E_var, E_slot, E_non, E_bl, E_int, E_str, E_bin, E_neg, E_cmp, E_chn, E_and, E_or, E_not, E_ite, E_call, E_mk, E_fld, E_nfl, E_idx, E_slc, E_rev, E_tup, E_lst, E_b1, E_b2, E_isi, E_dic, E_lrg, A_nil, A_cons, O_no, O_yes, I_r1, I_r2, I_sq, getSh, getAny, List.getElem?_cons_zero, List.getElem?_cons_succ, bnd_ret, bnd_bnd, neg_int, cmp_eq_int, cmp_ne_int, cmp_lt_int, cmp_le_int, cmp_gt_int, cmp_ge_int, bin_add_int, bin_sub_int, b1_int, b1_len_l, b1_len_t, b1_tuple_l, b1_tuple_t, b1_list_l, b1_list_t, thenD_bl, elseD_bl, iffD_bl, notD_bl, slc_lst, slc_tup, part_none, part_int, List.length_cons, List.length_nil, List.length_map, nfl_0, nfl_s]
      refine Dr.bnd (k1 := 1) (k2 := 0) (pick_l n (L.map stD) (by rw [List.length_map]; exact List.length_pos_iff.mpr (hb rfl)) (by rw [List.length_map]; omega)) (by decide) (by decide) fun d hd => ?_
      obtain ⟨s, hs, rfl⟩ := List.mem_map.mp hd
      exact fin _ ⟨s, rfl, hL s hs⟩
    | false =>
      rw [if_neg (by decide), ← bnd_bnd]
      exact Dr.bnd (k1 := 3) (k2 := 0) tail (by decide) (by decide) fin
end UK

set_option Elab.async false
set_option linter.all false
set_option maxRecDepth 100000
set_option maxHeartbeats 400000
namespace UK
open PySem PySem.Spec PyProof.Rows L2
abbrev a5S : Sm := .set 5 (.call 28 (.cons (.var 1) (.cons (.lst (.cons (.bin .add (.slot 10) (.tup (.cons (.int 0) .nil))) (.cons .non (.cons (.b1 .list (.slot 11)) (.cons (.bin .mul (.tup (.cons (.bl true) .nil)) (.slot 6)) (.cons (.var 10) (.cons (.bin .mul (.tup (.cons (.bin .add (.slot 7) (.int 1)) .nil)) (.slot 6)) (.cons (.rev (.slot 11)) .nil)))))))) .nil)))
theorem a5_dr (n : Nat) {size m : Nat} {rows : List (List Int)} (h3 : size ≤ 3) (s1 s2 : List Int) (l1 : s1.length = size) (l2 : s2.length = size) (s5 s8 s9 s12 : Slot) :
    DrS 1 (evS TT (B0.lev (n + 2)).1 (B0.lev (n + 2)).2 a5S (lE size m rows s5 s8 s9 (.sh (stD s1)) (.sh (stD s2)) s12)) (fun f p => f = .nx ∧ ∃ d e : D, p = lE size m rows (.sh d) s8 s9 (.sh (stD s1)) (.sh (stD s2)) s12 ∧ OddOk d e) := by
  have e1 : binD .add (stD s1) (.tup [.int 0]) = ret (stD (s1 ++ [0])) := by
    unfold stD
    rw [add_tup (by rw [List.length_map]; simp; omega), List.map_append]
    rfl
  have e2 : b1D .list (stD s2) = ret (.lst (s2.map .int)) := rfl
  have e3 : revD (stD s2) = ret (stD s2.reverse) := by
    unfold stD
    rw [List.map_reverse]
    rfl
  simp only [X_ev, S_set, S_own, S_exp, S_app, S_par, S_rws, slD_lst, slD_sh, ownD_lst, seqD_nx, List.set_cons_succ, List.set_cons_zero, frE_var, frE_slot, frE_non, frE_bl, frE_int, frE_str, frE_bin, frE_neg, frE_cmp, frE_chn, frE_and, frE_or, frE_not, frE_ite, frE_call, frE_mk, frE_fld, frE_nfl, frE_idx, frE_slc, frE_rev, frE_tup, frE_lst, frE_b1, frE_b2, frE_isi, frE_lc, frE_lc2, frE_dic, frE_lrg, frE_pget, frA_nil, frA_cons, frO_no, frO_yes, frI_r1, frI_r2, frI_sq, frR_lc, frR_call, frR_ite, frR_var, List.append_nil, List.cons_append, List.nil_append, frz_cons, frz_nil, frz1, E_var, E_slot, E_non, E_bl, E_int, E_str, E_bin, E_neg, E_cmp, E_chn, E_and, E_or, E_not, E_ite, E_call, E_mk, E_fld, E_nfl, E_idx, E_slc, E_rev, E_tup, E_lst, E_b1, E_b2, E_isi, E_dic, E_lrg, A_nil, A_cons, O_no, O_yes, I_r1, I_r2, I_sq, getSh, getAny, List.getElem?_cons_zero, List.getElem?_cons_succ, bnd_ret, bnd_bnd, neg_int, cmp_eq_int, cmp_ne_int, cmp_lt_int, cmp_le_int, cmp_gt_int, cmp_ge_int, bin_add_int, bin_sub_int, b1_int, b1_len_l, b1_len_t, b1_tuple_l, b1_tuple_t, b1_list_l, b1_list_t, thenD_bl, elseD_bl, iffD_bl, notD_bl, slc_lst, slc_tup, part_none, part_int, List.length_cons, List.length_nil, List.length_map, nfl_0, nfl_s]
  rw [guard_le (by decide), bnd_ret, e1, bnd_ret, e2, bnd_ret, guard_le (by decide), bnd_ret, mul_tup1 (by omega), bnd_ret, guard_le (by decide), bnd_ret, mul_tup1 (by omega), bnd_ret, e3, bnd_ret, guard_le (by decide), bnd_ret]
  refine Dr.bnd (k1 := 1) (k2 := 0) (pick_l n _ (by simp) (by simp)) (by decide) (by decide) fun d hd => ?_
  have ok : ∃ e, OddOk d e := by
    simp only [List.mem_cons, List.mem_nil_iff, or_false] at hd
    rcases hd with rfl | rfl | rfl | rfl | rfl | rfl | rfl
    · exact ⟨_, odd_st (by simp; omega)⟩
    · exact ⟨_, odd_non⟩
    · exact ⟨_, odd_lst (fun x hx => by
        obtain ⟨i, _, rfl⟩ := List.mem_map.mp hx
        rfl) (by rw [List.length_map]; omega)⟩
    · exact ⟨_, odd_tup (fun x hx => by rw [(List.mem_replicate.mp hx).2]; rfl) (by rw [List.length_replicate]; omega)⟩
    · exact ⟨_, odd_st (by omega)⟩
    · exact ⟨_, odd_tup (fun x hx => by rw [(List.mem_replicate.mp hx).2]; rfl) (by rw [List.length_replicate]; omega)⟩
    · exact ⟨_, odd_st (by rw [List.length_reverse]; omega)⟩
  obtain ⟨e, he⟩ := ok
  exact DrS.up (by decide) rfl (EnvLe.refl _) ⟨rfl, d, e, rfl, he⟩
/-- what may stand for rules -/
def RulOk (rows' : List (List Int)) (m' : Nat) (tables : List (List Int)) (a : D) : Prop := a = rulesD rows' m' tables ∨ ∃ a', (∀ n, (B0.lev (n + 3)).1 0 [a] = ret a') ∧ isT a' (.cls 1) = false
abbrev lE3 (size m : Nat) (rows : List (List Int)) (s5 s8 s9 s10 s11 s12 s13 s14 s15 : Slot) : Env' := [.un, .sh .pen, .sh (rowsT rows), .sh (webD (rowsR rows)), .un, s5, .sh (.int size), .sh (.int m), s8, s9, s10, s11, s12, s13, s14, s15, .un]
abbrev f1S : Sm := (.seq (.set 12 (.mk 2 (.cons (.var 13) (.cons (.var 14) (.cons (.var 15) .nil)))))
  (.ite (.call 38 (.cons (.call 19 (.cons (.var 3) (.cons (.var 7) (.cons (.var 12) .nil)))) (.cons (.call 39 (.cons (.var 2) (.cons (.var 7) (.cons (.var 12) .nil)))) .nil)))
  (.ret (.bl false))
  .nop))
theorem not_same (b : Bool) : (!(b == b)) = false := by cases b <;> rfl
theorem f1_rl (n : Nat) {size m m' : Nat} {rows rows' : List (List Int)} (h : IRow size rows) (h' : IRow size rows') (h0 : 0 < size) (h3 : size ≤ 3) (m1 : 1 ≤ m) (m4 : m' ≤ 4) {tables : List (List Int)} (ht : TabsOk m' rows' tables) (s5 s8 s9 s10 s11 s12 : Slot) {a b c b' c' : D} (ha : RulOk rows' m' tables a) (hb : OddOk b b') (hc : OddOk c c') :
    Rl (evS TT (B0.lev (n + 6)).1 (B0.lev (n + 6)).2 f1S (lE3 size m rows s5 s8 s9 s10 s11 s12 (.sh a) (.sh b) (.sh c))) (fun f p => f = .nx ∧ EnvLe (lE size m rows s5 s8 s9 s10 s11 .un) p) := by
  have key : ∃ a' r, (B0.lev (n + 5)).1 0 [a] = ret a' ∧ (B0.lev (n + 6)).1 19 [webD (rowsR rows), .int m, twoD a' b' c'] = ret (.bl r) ∧ (B0.lev (n + 6)).1 39 [rowsT rows, .int m, twoD a' b' c'] = ret (.bl r) := by
    rcases ha with rfl | ⟨a', h1, h2⟩
    · exact ⟨_, _, frozen_ev0 (n + 4) _ rfl, two_hold_ev (n + 1) h h' h3 m1 m4 ht hb.sm hc.sm hb.pl hc.pl, two_right_ev (n + 1) h h' h0 h3 m1 m4 ht hb.sm hc.sm hb.pl hc.pl⟩
    · exact ⟨a', false, h1 (n + 2), two_hold_no (n + 3) rows m1 a' b' c' h2, two_right_no (n + 5) rows m a' b' c' h2⟩
  obtain ⟨a', r, k1, k2, k3⟩ := key
  have hi := two_ini (n + 5) k1 (hb.fr (n + 3)) (hc.fr (n + 3))
  have hs := says_not_ev (n + 5) r r
  rw [not_same] at hs
  refine Rl.st (p := lE3 size m rows s5 s8 s9 s10 s11 (.sh (twoD a' b' c')) (.sh a) (.sh b) (.sh c)) (by
    simp only [X_ev, S_set, S_own, S_exp, S_app, S_par, S_rws, slD_lst, slD_sh, ownD_lst, seqD_nx, List.set_cons_succ, List.set_cons_zero, frE_var, frE_slot, frE_non, frE_bl, frE_int, frE_str, frE_bin, frE_neg, frE_cmp, frE_chn, frE_and, frE_or, frE_not, frE_ite, frE_call, frE_mk, frE_fld, frE_nfl, frE_idx, frE_slc, frE_rev, frE_tup, frE_lst, frE_b1, frE_b2, frE_isi, frE_lc, frE_lc2, frE_dic, frE_lrg, frE_pget, frA_nil, frA_cons, frO_no, frO_yes, frI_r1, frI_r2, frI_sq, frR_lc, frR_call, frR_ite, frR_var, List.append_nil, List.cons_append, List.nil_append, frz_cons, frz_nil, frz1, E_var, E_slot, E_non, E_bl, E_int, E_str, E_bin, E_neg, E_cmp, E_chn, E_and, E_or, E_not, E_ite, E_call, E_mk, E_fld, E_nfl, E_idx, E_slc, E_rev, E_tup, E_lst, E_b1, E_b2, E_isi, E_dic, E_lrg, A_nil, A_cons, O_no, O_yes, I_r1, I_r2, I_sq, getSh, getAny, List.getElem?_cons_zero, List.getElem?_cons_succ, bnd_ret, bnd_bnd, neg_int, cmp_eq_int, cmp_ne_int, cmp_lt_int, cmp_le_int, cmp_gt_int, cmp_ge_int, bin_add_int, bin_sub_int, b1_int, b1_len_l, b1_len_t, b1_tuple_l, b1_tuple_t, b1_list_l, b1_list_t, thenD_bl, elseD_bl, iffD_bl, notD_bl, slc_lst, slc_tup, part_none, part_int, List.length_cons, List.length_nil, List.length_map, nfl_0, nfl_s, hi]) ?_
  refine Rl.iteF (p := lE3 size m rows s5 s8 s9 s10 s11 (.sh (twoD a' b' c')) (.sh a) (.sh b) (.sh c)) (by
    simp only [X_ev, S_set, S_own, S_exp, S_app, S_par, S_rws, slD_lst, slD_sh, ownD_lst, seqD_nx, List.set_cons_succ, List.set_cons_zero, frE_var, frE_slot, frE_non, frE_bl, frE_int, frE_str, frE_bin, frE_neg, frE_cmp, frE_chn, frE_and, frE_or, frE_not, frE_ite, frE_call, frE_mk, frE_fld, frE_nfl, frE_idx, frE_slc, frE_rev, frE_tup, frE_lst, frE_b1, frE_b2, frE_isi, frE_lc, frE_lc2, frE_dic, frE_lrg, frE_pget, frA_nil, frA_cons, frO_no, frO_yes, frI_r1, frI_r2, frI_sq, frR_lc, frR_call, frR_ite, frR_var, List.append_nil, List.cons_append, List.nil_append, frz_cons, frz_nil, frz1, E_var, E_slot, E_non, E_bl, E_int, E_str, E_bin, E_neg, E_cmp, E_chn, E_and, E_or, E_not, E_ite, E_call, E_mk, E_fld, E_nfl, E_idx, E_slc, E_rev, E_tup, E_lst, E_b1, E_b2, E_isi, E_dic, E_lrg, A_nil, A_cons, O_no, O_yes, I_r1, I_r2, I_sq, getSh, getAny, List.getElem?_cons_zero, List.getElem?_cons_succ, bnd_ret, bnd_bnd, neg_int, cmp_eq_int, cmp_ne_int, cmp_lt_int, cmp_le_int, cmp_gt_int, cmp_ge_int, bin_add_int, bin_sub_int, b1_int, b1_len_l, b1_len_t, b1_tuple_l, b1_tuple_t, b1_list_l, b1_list_t, thenD_bl, elseD_bl, iffD_bl, notD_bl, slc_lst, slc_tup, part_none, part_int, List.length_cons, List.length_nil, List.length_map, nfl_0, nfl_s, k2, k3, hs]) (Rl.nop ⟨rfl, (by repeat (first | exact EnvLe.refl _ | apply EnvLe.same | apply EnvLe.un))⟩)
/-! ### the states are unlike -/
theorem nodup_map_inj {α β : Type} {f : α → β} (hf : ∀ a b, f a = f b → a = b) : ∀ {l : List α}, l.Nodup → (l.map f).Nodup
  | [], _ => List.nodup_nil
  | a :: l, h => by
    rw [List.nodup_cons] at h
    rw [List.map_cons, List.nodup_cons]
    refine ⟨fun q => ?_, nodup_map_inj hf h.2⟩
    obtain ⟨b, hb, e⟩ := List.mem_map.mp q
    exact h.1 (hf _ _ e ▸ hb)
theorem nodup_flat {α β : Type} {f : α → List β} (h1 : ∀ a, (f a).Nodup) (h2 : ∀ a b x, x ∈ f a → x ∈ f b → a = b) : ∀ {l : List α}, l.Nodup → (l.flatMap f).Nodup
  | [], _ => List.nodup_nil
  | a :: l, h => by
    rw [List.nodup_cons] at h
    rw [List.flatMap_cons, List.nodup_append]
    refine ⟨h1 a, nodup_flat h1 h2 h.2, fun x hx y hy e => ?_⟩
    subst e
    obtain ⟨b, hb, hxb⟩ := List.mem_flatMap.mp hy
    exact h.1 (h2 a b x hx hxb ▸ hb)
theorem states_nodup (most : Int) : ∀ n, (states most n).Nodup
  | 0 => by simp [states]
  | n + 1 => by
    refine nodup_flat (fun s => nodup_map_inj (fun a b e => ?_) ?_) (fun a b x ha hb => ?_) (states_nodup most n)
    · exact List.singleton_inj.mp (List.append_cancel_left e)
    · exact nodup_map_inj (fun a b e => by omega) List.nodup_range
    · obtain ⟨i, _, rfl⟩ := List.mem_map.mp ha
      obtain ⟨j, _, e⟩ := List.mem_map.mp hb
      exact ((List.append_inj' e rfl).1).symm
end UK

set_option Elab.async false
set_option linter.all false
set_option maxRecDepth 100000
set_option maxHeartbeats 400000
namespace UK
open PySem PySem.Spec PyProof.Rows L2
theorem told_st {size m : Nat} {s : List Int} (h : StOk size m s) : told size m (stD s) = true := by
  show (decide ((s.map D.int).length = size) && (s.map D.int).all (lvD m)) = true
  rw [List.length_map, decide_eq_true h.1, Bool.true_and, List.all_map]
  refine List.all_eq_true.mpr fun i hi => ?_
  obtain ⟨h1, h2⟩ := h.2 i hi
  show (decide (0 ≤ i) && decide (i ≤ (m : Int))) = true
  rw [decide_eq_true h1, decide_eq_true h2]
  rfl
theorem unS_st (s : List Int) : unS (stD s) = s := by
  show (s.map D.int).map unI = s
  rw [List.map_map]
  exact List.map_id' s
abbrev gS : Sm := (.ite (.and (.cmp .gt (.b1 .len (.slot 9)) (.int 1)) (.cmp .notN (.call 19 (.cons (.nfl 8 "web") (.cons (.nfl 8 "most") (.cons (.mk 2 (.cons (.var 8) (.cons (.b1 .list (.idx (.slot 9) (.int 0))) (.cons (.idx (.slot 9) (.neg (.int 1))) .nil)))) .nil)))) (.bl true)))
  (.ret (.bl false))
  .nop)
theorem g_rl (n : Nat) {size m m' : Nat} {rows rows' : List (List Int)} (h' : IRow size rows') (h3 : size ≤ 3) (m1 : 1 ≤ m') (m4 : m' ≤ 4) {tables : List (List Int)} (ht : TabsOk m' rows' tables) (s5 s10 s11 s12 : Slot) :
    Rl (evS TT (B0.lev (n + 6)).1 (B0.lev (n + 6)).2 gS (lE size m rows s5 (.sh (rulesD rows' m' tables)) (.sh (.lst ((restsL rows' m' tables).map stD))) s10 s11 s12)) (fun f p => f = .nx ∧ p = lE size m rows s5 (.sh (rulesD rows' m' tables)) (.sh (.lst ((restsL rows' m' tables).map stD))) s10 s11 s12) := by
  have nd : (restsL rows' m' tables).Nodup := (states_nodup (m' : Int) rows'.length).filter _
  have hm : ∀ s ∈ restsL rows' m' tables, StOk size m' s ∧ restB rows' m' tables s = true := fun s hs => ⟨rests_mem h' hs, (List.mem_filter.mp hs).2⟩
  generalize restsL rows' m' tables = L at nd hm ⊢
  refine Rl.iteF (p := lE size m rows s5 (.sh (rulesD rows' m' tables)) (.sh (.lst (L.map stD))) s10 s11 s12) ?_ (Rl.nop ⟨rfl, rfl⟩)
  simp only [X_ev, S_set, S_own, S_exp, S_app, S_par, S_rws, slD_lst, slD_sh, ownD_lst, seqD_nx, List.set_cons_succ, List.set_cons_zero, frE_var, frE_slot, frE_non, frE_bl, frE_int, frE_str, frE_bin, frE_neg, frE_cmp, frE_chn, frE_and, frE_or, frE_not, frE_ite, frE_call, frE_mk, frE_fld, frE_nfl, frE_idx, frE_slc, frE_rev, frE_tup, frE_lst, frE_b1, frE_b2, frE_isi, frE_lc, frE_lc2, frE_dic, frE_lrg, frE_pget, frA_nil, frA_cons, frO_no, frO_yes, frI_r1, frI_r2, frI_sq, frR_lc, frR_call, frR_ite, frR_var, List.append_nil, List.cons_append, List.nil_append, frz_cons, frz_nil, frz1, E_var, E_slot, E_non, E_bl, E_int, E_str, E_bin, E_neg, E_cmp, E_chn, E_and, E_or, E_not, E_ite, E_call, E_mk, E_fld, E_nfl, E_idx, E_slc, E_rev, E_tup, E_lst, E_b1, E_b2, E_isi, E_dic, E_lrg, A_nil, A_cons, O_no, O_yes, I_r1, I_r2, I_sq, getSh, getAny, List.getElem?_cons_zero, List.getElem?_cons_succ, bnd_ret, bnd_bnd, neg_int, cmp_eq_int, cmp_ne_int, cmp_lt_int, cmp_le_int, cmp_gt_int, cmp_ge_int, bin_add_int, bin_sub_int, b1_int, b1_len_l, b1_len_t, b1_tuple_l, b1_tuple_t, b1_list_l, b1_list_t, thenD_bl, elseD_bl, iffD_bl, notD_bl, slc_lst, slc_tup, part_none, part_int, List.length_cons, List.length_nil, List.length_map, nfl_0, nfl_s]
  by_cases q : 1 < L.length
  · rw [if_pos (decide_eq_true (by omega))]
    have q0 : 0 < L.length := by omega
    have qk : L.length - 1 < L.length := by omega
    have i0 : idxD (.lst (L.map stD)) (.int 0) = ret (stD L[0]) := idx_lst (atI_nat (i := 0) (by rw [List.getElem?_map, List.getElem?_eq_getElem q0]; rfl))
    have i1 : idxD (.lst (L.map stD)) (.int (-1)) = ret (stD L[L.length - 1]) := idx_lst (atI_last (k := L.length - 1) (by rw [List.length_map]; omega) (by rw [List.getElem?_map, List.getElem?_eq_getElem qk]; rfl))
    obtain ⟨o1, r1⟩ := hm _ (List.getElem_mem q0)
    obtain ⟨o2, r2⟩ := hm _ (List.getElem_mem qk)
    have hne : L[0] ≠ L[L.length - 1] := List.pairwise_iff_getElem.mp nd 0 (L.length - 1) q0 qk (by omega)
    generalize L[0] = s1 at *
    generalize L[L.length - 1] = s2 at *
    have c1 : b1D .list (stD s1) = ret (.lst (s1.map .int)) := rfl
    have w1 := o1.1
    have w2 := o2.1
    have hi := two_ini (n + 5) (frozen_ev0 (n + 4) (rulesD rows' m' tables) rfl) (frozen_l1 (n + 3) (s1.map .int) (fun x hx => by
      obtain ⟨i, _, rfl⟩ := List.mem_map.mp hx
      rfl) (by rw [List.length_map]; omega)) (frozen_st (n + 3) s2 (by omega))
    have hh := two_hold_ev (n + 1) h' h' h3 m1 m4 ht (b := stD s1) (c := stD s2) (fun xs e => by cases e; rw [List.length_map]; omega) (fun xs e => by cases e; rw [List.length_map]; omega) (plk_tints 4 s1) (plk_tints 4 s2)
    have ts : twoS size rows' m' rows' m' tables (stD s1) (stD s2) = true := by
      unfold twoS
      rw [told_st o1, told_st o2, unS_st, unS_st, r1, r2, decide_eq_true rfl, decide_eq_true rfl, show deq (stD s1) (stD s2) = decide (s1 = s2) from deq_tints s1 s2, decide_eq_false hne]
      rfl
    rw [ts] at hh
    simp only [rules_web_f, rules_most_f, E_var, E_slot, E_non, E_bl, E_int, E_str, E_bin, E_neg, E_cmp, E_chn, E_and, E_or, E_not, E_ite, E_call, E_mk, E_fld, E_nfl, E_idx, E_slc, E_rev, E_tup, E_lst, E_b1, E_b2, E_isi, E_dic, E_lrg, A_nil, A_cons, O_no, O_yes, I_r1, I_r2, I_sq, getSh, getAny, List.getElem?_cons_zero, List.getElem?_cons_succ, bnd_ret, bnd_bnd, neg_int, cmp_eq_int, cmp_ne_int, cmp_lt_int, cmp_le_int, cmp_gt_int, cmp_ge_int, bin_add_int, bin_sub_int, b1_int, b1_len_l, b1_len_t, b1_tuple_l, b1_tuple_t, b1_list_l, b1_list_t, thenD_bl, elseD_bl, iffD_bl, notD_bl, slc_lst, slc_tup, part_none, part_int, List.length_cons, List.length_nil, List.length_map, nfl_0, nfl_s, i0, i1, c1, show (B0.lev (n + 6)).2 2 [rulesD rows' m' tables, .lst (s1.map .int), stD s2] = _ from hi, show (B0.lev (n + 6)).1 19 [webD (rowsR rows'), .int m', twoD (rulesD rows' m' tables) (.tup (s1.map .int)) (stD s2)] = _ from hh]
    rfl
  · rw [if_neg (by simp; omega)]
    rfl
abbrev hS : Sm := .seq (.set 12 (.mk 3 (.cons (.var 8) .nil)))
  (.seq (.ite (.call 38 (.cons (.call 20 (.cons (.var 3) (.cons (.var 7) (.cons (.var 12) .nil)))) (.cons (.call 40 (.cons (.var 2) (.cons (.var 7) (.cons (.var 12) .nil)))) .nil)))
  (.ret (.bl false))
  .nop)
  (.ite (.or (.call 20 (.cons (.var 3) (.cons (.var 7) (.cons (.mk 3 (.cons (.var 5) .nil)) .nil)))) (.or (.call 20 (.cons (.var 3) (.cons (.var 7) (.cons (.mk 2 (.cons (.var 8) (.cons (.var 10) (.cons (.var 11) .nil)))) .nil)))) (.call 19 (.cons (.var 3) (.cons (.var 7) (.cons (.var 12) .nil))))))
  (.ret (.bl false))
  .nop))
theorem h_rl (n : Nat) {size m m' : Nat} {rows rows' : List (List Int)} (h : IRow size rows) (h' : IRow size rows') (h0 : 0 < size) (h3 : size ≤ 3) (m1 : 1 ≤ m) (m4 : m' ≤ 4) {tables : List (List Int)} (ht : TabsOk m' rows' tables) {d e : D} (hd : OddOk d e) (s1 s2 : List Int) (l1 : s1.length = size) (l2 : s2.length = size) (s9 s12 : Slot) :
    Rl (evS TT (B0.lev (n + 6)).1 (B0.lev (n + 6)).2 hS (lE size m rows (.sh d) (.sh (rulesD rows' m' tables)) s9 (.sh (stD s1)) (.sh (stD s2)) s12)) (fun f p => f = .nx ∧ EnvLe (lE size m rows .un (.sh (rulesD rows' m' tables)) .un .un .un .un) p) := by
  have hi := none_ini (n + 5) (frozen_ev0 (n + 4) (rulesD rows' m' tables) rfl)
  have hi2 := none_ini (n + 5) (hd.fr (n + 3))
  have hi3 := two_ini (n + 5) (frozen_ev0 (n + 4) (rulesD rows' m' tables) rfl) (frozen_st (n + 3) s1 (by omega)) (frozen_st (n + 3) s2 (by omega))
  have k1 := none_hold_ev (n + 1) (rows := rows) h' h3 m1 m4 ht
  have k2 := none_right_ev (n + 1) h h' h0 h3 m1 m4 ht
  have hs := says_not_ev (n + 5) (noneS rows m rows' m' tables) (noneS rows m rows' m' tables)
  rw [not_same] at hs
  have k3 := none_hold_no (n + 3) rows m1 e hd.no'
  have k4 := none_hold_no2 (n + 3) rows m1 (twoD (rulesD rows' m' tables) (stD s1) (stD s2)) rfl
  have k5 := two_hold_no2 (n + 3) rows m1 (noneD (rulesD rows' m' tables)) rfl
  refine Rl.st (p := lE size m rows (.sh d) (.sh (rulesD rows' m' tables)) s9 (.sh (stD s1)) (.sh (stD s2)) (.sh (noneD (rulesD rows' m' tables)))) (by
    simp only [X_ev, S_set, S_own, S_exp, S_app, S_par, S_rws, slD_lst, slD_sh, ownD_lst, seqD_nx, List.set_cons_succ, List.set_cons_zero, frE_var, frE_slot, frE_non, frE_bl, frE_int, frE_str, frE_bin, frE_neg, frE_cmp, frE_chn, frE_and, frE_or, frE_not, frE_ite, frE_call, frE_mk, frE_fld, frE_nfl, frE_idx, frE_slc, frE_rev, frE_tup, frE_lst, frE_b1, frE_b2, frE_isi, frE_lc, frE_lc2, frE_dic, frE_lrg, frE_pget, frA_nil, frA_cons, frO_no, frO_yes, frI_r1, frI_r2, frI_sq, frR_lc, frR_call, frR_ite, frR_var, List.append_nil, List.cons_append, List.nil_append, frz_cons, frz_nil, frz1, E_var, E_slot, E_non, E_bl, E_int, E_str, E_bin, E_neg, E_cmp, E_chn, E_and, E_or, E_not, E_ite, E_call, E_mk, E_fld, E_nfl, E_idx, E_slc, E_rev, E_tup, E_lst, E_b1, E_b2, E_isi, E_dic, E_lrg, A_nil, A_cons, O_no, O_yes, I_r1, I_r2, I_sq, getSh, getAny, List.getElem?_cons_zero, List.getElem?_cons_succ, bnd_ret, bnd_bnd, neg_int, cmp_eq_int, cmp_ne_int, cmp_lt_int, cmp_le_int, cmp_gt_int, cmp_ge_int, bin_add_int, bin_sub_int, b1_int, b1_len_l, b1_len_t, b1_tuple_l, b1_tuple_t, b1_list_l, b1_list_t, thenD_bl, elseD_bl, iffD_bl, notD_bl, slc_lst, slc_tup, part_none, part_int, List.length_cons, List.length_nil, List.length_map, nfl_0, nfl_s, hi]) ?_
  refine Rl.st (p := lE size m rows (.sh d) (.sh (rulesD rows' m' tables)) s9 (.sh (stD s1)) (.sh (stD s2)) (.sh (noneD (rulesD rows' m' tables)))) (by
    simp only [S_ite, S_nop, X_ev, S_set, S_own, S_exp, S_app, S_par, S_rws, slD_lst, slD_sh, ownD_lst, seqD_nx, List.set_cons_succ, List.set_cons_zero, frE_var, frE_slot, frE_non, frE_bl, frE_int, frE_str, frE_bin, frE_neg, frE_cmp, frE_chn, frE_and, frE_or, frE_not, frE_ite, frE_call, frE_mk, frE_fld, frE_nfl, frE_idx, frE_slc, frE_rev, frE_tup, frE_lst, frE_b1, frE_b2, frE_isi, frE_lc, frE_lc2, frE_dic, frE_lrg, frE_pget, frA_nil, frA_cons, frO_no, frO_yes, frI_r1, frI_r2, frI_sq, frR_lc, frR_call, frR_ite, frR_var, List.append_nil, List.cons_append, List.nil_append, frz_cons, frz_nil, frz1, E_var, E_slot, E_non, E_bl, E_int, E_str, E_bin, E_neg, E_cmp, E_chn, E_and, E_or, E_not, E_ite, E_call, E_mk, E_fld, E_nfl, E_idx, E_slc, E_rev, E_tup, E_lst, E_b1, E_b2, E_isi, E_dic, E_lrg, A_nil, A_cons, O_no, O_yes, I_r1, I_r2, I_sq, getSh, getAny, List.getElem?_cons_zero, List.getElem?_cons_succ, bnd_ret, bnd_bnd, neg_int, cmp_eq_int, cmp_ne_int, cmp_lt_int, cmp_le_int, cmp_gt_int, cmp_ge_int, bin_add_int, bin_sub_int, b1_int, b1_len_l, b1_len_t, b1_tuple_l, b1_tuple_t, b1_list_l, b1_list_t, thenD_bl, elseD_bl, iffD_bl, notD_bl, slc_lst, slc_tup, part_none, part_int, List.length_cons, List.length_nil, List.length_map, nfl_0, nfl_s, k1, k2, hs]
    rfl) ?_
  refine Rl.iteF (p := lE size m rows (.sh d) (.sh (rulesD rows' m' tables)) s9 (.sh (stD s1)) (.sh (stD s2)) (.sh (noneD (rulesD rows' m' tables)))) (by
    simp only [X_ev, S_set, S_own, S_exp, S_app, S_par, S_rws, slD_lst, slD_sh, ownD_lst, seqD_nx, List.set_cons_succ, List.set_cons_zero, frE_var, frE_slot, frE_non, frE_bl, frE_int, frE_str, frE_bin, frE_neg, frE_cmp, frE_chn, frE_and, frE_or, frE_not, frE_ite, frE_call, frE_mk, frE_fld, frE_nfl, frE_idx, frE_slc, frE_rev, frE_tup, frE_lst, frE_b1, frE_b2, frE_isi, frE_lc, frE_lc2, frE_dic, frE_lrg, frE_pget, frA_nil, frA_cons, frO_no, frO_yes, frI_r1, frI_r2, frI_sq, frR_lc, frR_call, frR_ite, frR_var, List.append_nil, List.cons_append, List.nil_append, frz_cons, frz_nil, frz1, E_var, E_slot, E_non, E_bl, E_int, E_str, E_bin, E_neg, E_cmp, E_chn, E_and, E_or, E_not, E_ite, E_call, E_mk, E_fld, E_nfl, E_idx, E_slc, E_rev, E_tup, E_lst, E_b1, E_b2, E_isi, E_dic, E_lrg, A_nil, A_cons, O_no, O_yes, I_r1, I_r2, I_sq, getSh, getAny, List.getElem?_cons_zero, List.getElem?_cons_succ, bnd_ret, bnd_bnd, neg_int, cmp_eq_int, cmp_ne_int, cmp_lt_int, cmp_le_int, cmp_gt_int, cmp_ge_int, bin_add_int, bin_sub_int, b1_int, b1_len_l, b1_len_t, b1_tuple_l, b1_tuple_t, b1_list_l, b1_list_t, thenD_bl, elseD_bl, iffD_bl, notD_bl, slc_lst, slc_tup, part_none, part_int, List.length_cons, List.length_nil, List.length_map, nfl_0, nfl_s, hi2, hi3, k3, k4, k5]
    rfl) (Rl.nop ⟨rfl, (by repeat (first | exact EnvLe.refl _ | apply EnvLe.same | apply EnvLe.un))⟩)
end UK

set_option Elab.async false
set_option linter.all false
set_option maxRecDepth 100000
set_option maxHeartbeats 400000
namespace UK
open PySem PySem.Spec PyProof.Rows L2
theorem sq_lst (xs : List D) : opt (seqD (.lst xs)) = ret xs := rfl
theorem sq_tup (xs : List D) : opt (seqD (.tup xs)) = ret xs := rfl
abbrev fS : Sm := (.for_ [13, 14, 15] (.sq (.lst (.cons (.tup (.cons (.var 8) (.cons (.var 10) (.cons (.var 11) .nil)))) (.cons (.tup (.cons (.var 8) (.cons (.var 11) (.cons (.var 10) .nil)))) (.cons (.tup (.cons (.var 8) (.cons (.var 10) (.cons (.var 5) .nil)))) (.cons (.tup (.cons (.call 28 (.cons (.var 1) (.cons (.lst (.cons .non (.cons (.nfl 8 "tables") (.cons (.var 3) (.cons (.int 0) .nil))))) .nil))) (.cons (.var 10) (.cons (.var 11) .nil)))) .nil)))))) f1S)
theorem tabs_small {size m : Nat} {rows : List (List Int)} (h : IRow size rows) (h3 : size ≤ 3) (m4 : m ≤ 4) {tables : List (List Int)} (ht : TabsOk m rows tables) : tables.length ≤ 1000 ∧ ∀ t ∈ tables, t.length ≤ 1000 := by
  have hl : tables.length = size := by rw [ht.1, h.1]
  refine ⟨by omega, fun t htm => ?_⟩
  obtain ⟨i, hi, e⟩ := List.mem_iff_getElem.mp htm
  have q := (ht.2 i (by rw [h.1]; omega)).1
  have e2 : tables.getD i [] = t := by simp [List.getElem?_eq_getElem hi, e]
  rw [e2] at q
  have hll := srcs_len h i
  have hlen : (signsOf rows i).length = (srcs rows i).length := by unfold signsOf; rw [List.length_map]
  have := (nat_pow_small m4 (j := (signsOf rows i).length) (by omega)).2
  omega
theorem f_dr (n : Nat) {size m m' : Nat} {rows rows' : List (List Int)} (h : IRow size rows) (h' : IRow size rows') (h0 : 0 < size) (h3 : size ≤ 3) (m1 : 1 ≤ m) (m4 : m' ≤ 4) {tables : List (List Int)} (ht : TabsOk m' rows' tables) {d e : D} (hd : OddOk d e) (s1 s2 : List Int) (l1 : s1.length = size) (l2 : s2.length = size) (s9 : Slot) :
    DrS 1 (evS TT (B0.lev (n + 6)).1 (B0.lev (n + 6)).2 fS (lE size m rows (.sh d) (.sh (rulesD rows' m' tables)) s9 (.sh (stD s1)) (.sh (stD s2)) .un)) (fun f p => f = .nx ∧ p = lE size m rows (.sh d) (.sh (rulesD rows' m' tables)) s9 (.sh (stD s1)) (.sh (stD s2)) .un) := by
  have tf : fldD TT.CT "tables" (rulesD rows' m' tables) = ret (tabsD tables) := rules_tabs_f _ _ _
  simp only [S_for, X_ev, S_set, S_own, S_exp, S_app, S_par, S_rws, slD_lst, slD_sh, ownD_lst, seqD_nx, List.set_cons_succ, List.set_cons_zero, frE_var, frE_slot, frE_non, frE_bl, frE_int, frE_str, frE_bin, frE_neg, frE_cmp, frE_chn, frE_and, frE_or, frE_not, frE_ite, frE_call, frE_mk, frE_fld, frE_nfl, frE_idx, frE_slc, frE_rev, frE_tup, frE_lst, frE_b1, frE_b2, frE_isi, frE_lc, frE_lc2, frE_dic, frE_lrg, frE_pget, frA_nil, frA_cons, frO_no, frO_yes, frI_r1, frI_r2, frI_sq, frR_lc, frR_call, frR_ite, frR_var, List.append_nil, List.cons_append, List.nil_append, frz_cons, frz_nil, frz1, E_var, E_slot, E_non, E_bl, E_int, E_str, E_bin, E_neg, E_cmp, E_chn, E_and, E_or, E_not, E_ite, E_call, E_mk, E_fld, E_nfl, E_idx, E_slc, E_rev, E_tup, E_lst, E_b1, E_b2, E_isi, E_dic, E_lrg, A_nil, A_cons, O_no, O_yes, I_r1, I_r2, I_sq, getSh, getAny, List.getElem?_cons_zero, List.getElem?_cons_succ, bnd_ret, bnd_bnd, neg_int, cmp_eq_int, cmp_ne_int, cmp_lt_int, cmp_le_int, cmp_gt_int, cmp_ge_int, bin_add_int, bin_sub_int, b1_int, b1_len_l, b1_len_t, b1_tuple_l, b1_tuple_t, b1_list_l, b1_list_t, thenD_bl, elseD_bl, iffD_bl, notD_bl, slc_lst, slc_tup, part_none, part_int, List.length_cons, List.length_nil, List.length_map, nfl_0, nfl_s, tf]
  rw [guard_le (by decide), bnd_ret, guard_le (by decide), bnd_ret, guard_le (by decide), bnd_ret, guard_le (by decide), bnd_ret]
  refine Dr.bnd (k1 := 1) (k2 := 0) (P := RulOk rows' m' tables) ((pick_l (n + 4) _ (by simp) (by simp)).mono (Int.le_refl 1) fun x hx => ?_) (by decide) (by decide) fun x hx => ?_
  · simp only [List.mem_cons, List.mem_nil_iff, or_false] at hx
    obtain ⟨t1, t2⟩ := tabs_small h' h3 m4 ht
    rcases hx with rfl | rfl | rfl | rfl
    · exact .inr ⟨.non, fun k => frozen_ev0 (k + 2) .non rfl, rfl⟩
    · exact .inr ⟨tabsD tables, fun k => frozen_tabs k tables t1 t2, rfl⟩
    · exact .inr ⟨webD (rowsR rows), fun k => frozen_ev0 (k + 2) _ rfl, rfl⟩
    · exact .inr ⟨.int 0, fun k => frozen_ev0 (k + 2) _ rfl, rfl⟩
  rw [guard_le (by decide), bnd_ret, guard_le (by decide), bnd_ret, sq_lst, bnd_ret]
  have o1 := odd_st (s := s1) (by omega)
  have o2 := odd_st (s := s2) (by omega)
  refine (forDrS (k := 0) (by decide) (fun _ p => p = lE size m rows (.sh d) (.sh (rulesD rows' m' tables)) s9 (.sh (stD s1)) (.sh (stD s2)) .un) (fun f p => f = .nx ∧ p = lE size m rows (.sh d) (.sh (rulesD rows' m' tables)) s9 (.sh (stD s1)) (.sh (stD s2)) .un) [.tup [rulesD rows' m' tables, stD s1, stD s2], .tup [rulesD rows' m' tables, stD s2, stD s1], .tup [rulesD rows' m' tables, stD s1, d], .tup [x, stD s1, stD s2]] 0 _ _ (EnvLe.refl _) rfl ?_ (fun p hp => ⟨rfl, hp⟩)).mono (by rw [Int.zero_mul]; exact Int.le_refl 0) fun _ _ h => h
  rintro i y p hy rfl
  have hy := List.mem_of_getElem? hy
  have go : ∀ a b c b' c', RulOk rows' m' tables a → OddOk b b' → OddOk c c' → ∃ e, setTg [13, 14, 15] (.tup [a, b, c]) (lE size m rows (.sh d) (.sh (rulesD rows' m' tables)) s9 (.sh (stD s1)) (.sh (stD s2)) .un) = some e ∧ DrS 0 (evS TT (B0.lev (n + 6)).1 (B0.lev (n + 6)).2 f1S e) (Turn (fun p => p = lE size m rows (.sh d) (.sh (rulesD rows' m' tables)) s9 (.sh (stD s1)) (.sh (stD s2)) .un) (fun p => Flw.nx = Flw.nx ∧ p = lE size m rows (.sh d) (.sh (rulesD rows' m' tables)) s9 (.sh (stD s1)) (.sh (stD s2)) .un) (fun f p => f = .nx ∧ p = lE size m rows (.sh d) (.sh (rulesD rows' m' tables)) s9 (.sh (stD s1)) (.sh (stD s2)) .un)) := fun a b c b' c' ha hb hc => by
    refine ⟨_, rfl, ((f1_rl n h h' h0 h3 m1 m4 ht (.sh d) (.sh (rulesD rows' m' tables)) s9 (.sh (stD s1)) (.sh (stD s2)) .un ha hb hc).weak ?_).dr (by decide)⟩
    rintro f p ⟨rfl, l⟩
    exact ⟨_, l, rfl⟩
  simp only [List.mem_cons, List.mem_nil_iff, or_false] at hy
  rcases hy with rfl | rfl | rfl | rfl
  · exact go _ _ _ _ _ (.inl rfl) o1 o2
  · exact go _ _ _ _ _ (.inl rfl) o2 o1
  · exact go _ _ _ _ _ (.inl rfl) o1 hd
  · exact go _ _ _ _ _ hx o1 o2
abbrev s9S : Sm := .set 9 (.call 36 (.cons (.fld (.nfl 8 "web") "rows") (.cons (.nfl 8 "most") (.cons (.nfl 8 "tables") .nil))))
abbrev lapL : Sm := .seq a1S (.seq s9S (.seq a3S (.seq a4S (.seq a5S (.seq fS (.seq gS hS))))))
theorem lapL_dr (n : Nat) {size m : Nat} {rows : List (List Int)} (h : IRow size rows) (h0 : 0 < size) (h3 : size ≤ 3) (m1 : 1 ≤ m) (m4 : m ≤ 4) :
    DrS 168 (evS TT (B0.lev (n + 6)).1 (B0.lev (n + 6)).2 lapL (lE size m rows .un .un .un .un .un .un)) (fun f p => f = .nx ∧ ∃ rows' m' tables, p = lE size m rows .un (.sh (rulesD rows' (m' : Nat) tables)) .un .un .un .un) := by
  refine DrS.seq (k1 := 160) (k2 := 8) (a1_dr (n + 1) h h0 h3 m1 m4 .un .un .un .un .un .un) (by decide) (by decide) ?_ (fun f p hf hq => absurd hq.1 hf)
  rintro p ⟨_, rows', m', tables, rfl, h', m1', m4', ht⟩
  have tf : fldD TT.CT "tables" (rulesD rows' m' tables) = ret (tabsD tables) := rules_tabs_f _ _ _
  have wf : fldD TT.CT "rows" (webD (rowsR rows')) = ret (rowsT rows') := web_rows_f _
  refine DrS.st (p := lE size m rows .un (.sh (rulesD rows' m' tables)) (.sh (.lst ((restsL rows' m' tables).map stD))) .un .un .un) (by
    simp only [X_ev, S_set, S_own, S_exp, S_app, S_par, S_rws, slD_lst, slD_sh, ownD_lst, seqD_nx, List.set_cons_succ, List.set_cons_zero, frE_var, frE_slot, frE_non, frE_bl, frE_int, frE_str, frE_bin, frE_neg, frE_cmp, frE_chn, frE_and, frE_or, frE_not, frE_ite, frE_call, frE_mk, frE_fld, frE_nfl, frE_idx, frE_slc, frE_rev, frE_tup, frE_lst, frE_b1, frE_b2, frE_isi, frE_lc, frE_lc2, frE_dic, frE_lrg, frE_pget, frA_nil, frA_cons, frO_no, frO_yes, frI_r1, frI_r2, frI_sq, frR_lc, frR_call, frR_ite, frR_var, List.append_nil, List.cons_append, List.nil_append, frz_cons, frz_nil, frz1, E_var, E_slot, E_non, E_bl, E_int, E_str, E_bin, E_neg, E_cmp, E_chn, E_and, E_or, E_not, E_ite, E_call, E_mk, E_fld, E_nfl, E_idx, E_slc, E_rev, E_tup, E_lst, E_b1, E_b2, E_isi, E_dic, E_lrg, A_nil, A_cons, O_no, O_yes, I_r1, I_r2, I_sq, getSh, getAny, List.getElem?_cons_zero, List.getElem?_cons_succ, bnd_ret, bnd_bnd, neg_int, cmp_eq_int, cmp_ne_int, cmp_lt_int, cmp_le_int, cmp_gt_int, cmp_ge_int, bin_add_int, bin_sub_int, b1_int, b1_len_l, b1_len_t, b1_tuple_l, b1_tuple_t, b1_list_l, b1_list_t, thenD_bl, elseD_bl, iffD_bl, notD_bl, slc_lst, slc_tup, part_none, part_int, List.length_cons, List.length_nil, List.length_map, nfl_0, nfl_s, rules_web_f, rules_most_f, tf, wf, law_level_rests_ev (n + 3) h' h3 m4' ht]) ?_
  have hL : ∀ s ∈ restsL rows' m' tables, s.length = size := fun s hs => (rests_mem h' hs).1
  have hl := rests_len h' h3 m4' (tables := tables)
  refine DrS.seq (k1 := 1) (k2 := 7) (a3_dr (n + 4) h3 _ hL hl .un _ .un .un .un) (by decide) (by decide) ?_ (fun f p hf hq => absurd hq.1 hf)
  rintro p ⟨_, s1, rfl, l1⟩
  refine DrS.seq (k1 := 5) (k2 := 2) (a4_dr (n + 4) h3 m4 _ hL hl .un _ .un .un _) (by decide) (by decide) ?_ (fun f p hf hq => absurd hq.1 hf)
  rintro p ⟨_, s2, rfl, l2⟩
  refine DrS.seq (k1 := 1) (k2 := 1) (a5_dr (n + 4) h3 s1 s2 l1 l2 .un _ _ .un) (by decide) (by decide) ?_ (fun f p hf hq => absurd hq.1 hf)
  rintro p ⟨_, d, e, rfl, hd⟩
  refine DrS.seq (k1 := 1) (k2 := 0) (f_dr n h h' h0 h3 m1 m4' ht hd s1 s2 l1 l2 _) (by decide) (by decide) ?_ (fun f p hf hq => absurd hq.1 hf)
  rintro p ⟨_, rfl⟩
  refine DrS.seq (k1 := 0) (k2 := 0) ((g_rl n h' h3 m1' m4' ht _ _ _ _).dr (by decide)) (by decide) (by decide) ?_ (fun f p hf hq => absurd hq.1 hf)
  rintro p ⟨_, rfl⟩
  refine ((h_rl n h h' h0 h3 m1 m4' ht hd s1 s2 l1 l2 _ _).weak ?_).dr (by decide)
  rintro f p ⟨rfl, l⟩
  exact ⟨_, l, rfl, rows', m', tables, rfl⟩
end UK

set_option Elab.async false
set_option linter.all false
set_option maxRecDepth 100000
set_option maxHeartbeats 400000
namespace UK
open PySem PySem.Spec PyProof.Rows L2
def unpD (is : List Nat) : D × Env' → M (Flw × Env') := fun r => match r.1 with
    | .tup ds => match setAll is ds r.2 with
      | some env' => ret (.nx, env')
      | none => stuck
    | _ => stuck
@[simp] theorem S_unp {T : Tabs} {φ ψ : Fns} {env : Env'} {is : List Nat} {e : E} : evS T φ ψ (.unp is e) env = bnd (evX T φ ψ e env) (unpD is) := rfl
theorem two_cmp_eq (n : Nat) {a b c a' b' c' : D} (pa : plk 5 a = true) (pb : plk 5 b = true) (pc : plk 5 c = true) (pa' : plk 5 a' = true) (pb' : plk 5 b' = true) (pc' : plk 5 c' = true) : cmpM (B0.lev (n + 1)).1 TT.eqt .eq (twoD a b c) (twoD a' b' c') = ret (.bl (deq a a' && (deq b b' && deq c c'))) := by
  rw [← two_eq n pa pb pc pa' pb' pc']
  exact cmp_eq_ins rfl
theorem two_cmp_ne (n : Nat) {a b c a' b' c' : D} (pa : plk 5 a = true) (pb : plk 5 b = true) (pc : plk 5 c = true) (pa' : plk 5 a' = true) (pb' : plk 5 b' = true) (pc' : plk 5 c' = true) : cmpM (B0.lev (n + 1)).1 TT.eqt .ne (twoD a b c) (twoD a' b' c') = ret (.bl (!(deq a a' && (deq b b' && deq c c')))) := by
  show bnd (cmpM (B0.lev (n + 1)).1 TT.eqt .eq (twoD a b c) (twoD a' b' c')) notD = _
  rw [two_cmp_eq n pa pb pc pa' pb' pc']
  rfl
theorem none_cmp_eq (n : Nat) {a a' : D} (pa : plk 5 a = true) (pa' : plk 5 a' = true) : cmpM (B0.lev (n + 1)).1 TT.eqt .eq (noneD a) (noneD a') = ret (.bl (deq a a')) := by
  rw [← none_eq n pa pa']
  exact cmp_eq_ins rfl
theorem none_cmp_ne (n : Nat) {a a' : D} (pa : plk 5 a = true) (pa' : plk 5 a' = true) : cmpM (B0.lev (n + 1)).1 TT.eqt .ne (noneD a) (noneD a') = ret (.bl (!deq a a')) := by
  show bnd (cmpM (B0.lev (n + 1)).1 TT.eqt .eq (noneD a) (noneD a')) notD = _
  rw [none_cmp_eq n pa pa']
  rfl
abbrev l0 : Env' := [.un, .sh .pen, .un, .un, .un, .un, .un, .un, .un, .un, .un, .un, .un, .un, .un, .un, .un]
theorem law_dr (n : Nat) : DrS 2000 (evS TT (B0.lev (n + 6)).1 (B0.lev (n + 6)).2 ir_law l0) (fun f _ => f = .ret (.bl true)) := by
  unfold ir_law
  refine DrS.seq (k1 := 1) (k2 := 1999) (Q1 := fun f p => f = .nx ∧ ∃ size m : Nat, p = [.un, .sh .pen, .un, .un, .un, .un, .sh (.int size), .sh (.int m), .un, .un, .un, .un, .un, .un, .un, .un, .un] ∧ 0 < size ∧ size ≤ 3 ∧ 1 ≤ m ∧ m ≤ 4) ?_ (by decide) (by decide) ?_ (fun f p hf hq => absurd hq.1 hf)
  · simp only [S_unp, X_ev, S_set, S_own, S_exp, S_app, S_par, S_rws, slD_lst, slD_sh, ownD_lst, seqD_nx, List.set_cons_succ, List.set_cons_zero, frE_var, frE_slot, frE_non, frE_bl, frE_int, frE_str, frE_bin, frE_neg, frE_cmp, frE_chn, frE_and, frE_or, frE_not, frE_ite, frE_call, frE_mk, frE_fld, frE_nfl, frE_idx, frE_slc, frE_rev, frE_tup, frE_lst, frE_b1, frE_b2, frE_isi, frE_lc, frE_lc2, frE_dic, frE_lrg, frE_pget, frA_nil, frA_cons, frO_no, frO_yes, frI_r1, frI_r2, frI_sq, frR_lc, frR_call, frR_ite, frR_var, List.append_nil, List.cons_append, List.nil_append, frz_cons, frz_nil, frz1, E_var, E_slot, E_non, E_bl, E_int, E_str, E_bin, E_neg, E_cmp, E_chn, E_and, E_or, E_not, E_ite, E_call, E_mk, E_fld, E_nfl, E_idx, E_slc, E_rev, E_tup, E_lst, E_b1, E_b2, E_isi, E_dic, E_lrg, A_nil, A_cons, O_no, O_yes, I_r1, I_r2, I_sq, getSh, getAny, List.getElem?_cons_zero, List.getElem?_cons_succ, bnd_ret, bnd_bnd, neg_int, cmp_eq_int, cmp_ne_int, cmp_lt_int, cmp_le_int, cmp_gt_int, cmp_ge_int, bin_add_int, bin_sub_int, b1_int, b1_len_l, b1_len_t, b1_tuple_l, b1_tuple_t, b1_list_l, b1_list_t, thenD_bl, elseD_bl, iffD_bl, notD_bl, slc_lst, slc_tup, part_none, part_int, List.length_cons, List.length_nil, List.length_map, nfl_0, nfl_s]
    rw [guard_le (by decide), bnd_ret, guard_le (by decide), bnd_ret, guard_le (by decide), bnd_ret, guard_le (by decide), bnd_ret, guard_le (by decide), bnd_ret, guard_le (by decide), bnd_ret, guard_le (by decide), bnd_ret, guard_le (by decide), bnd_ret]
    refine Dr.bnd (k1 := 1) (k2 := 0) (P := fun d => ∃ size m : Nat, d = .tup [.int size, .int m] ∧ 0 < size ∧ size ≤ 3 ∧ 1 ≤ m ∧ m ≤ 4) ((pick_l (n + 4) _ (by simp) (by simp)).mono (Int.le_refl 1) fun x hx => ?_) (by decide) (by decide) fun x hx => ?_
    · simp only [List.mem_cons, List.mem_nil_iff, or_false] at hx
      rcases hx with rfl | rfl | rfl | rfl | rfl | rfl | rfl
      · exact ⟨1, 1, rfl, by decide⟩
      · exact ⟨1, 4, rfl, by decide⟩
      · exact ⟨2, 2, rfl, by decide⟩
      · exact ⟨2, 3, rfl, by decide⟩
      · exact ⟨3, 1, rfl, by decide⟩
      · exact ⟨3, 2, rfl, by decide⟩
      · exact ⟨2, 1, rfl, by decide⟩
    · obtain ⟨size, m, rfl, h⟩ := hx
      exact DrS.up (by decide) rfl (EnvLe.refl _) ⟨rfl, size, m, rfl, h⟩
  rintro p ⟨_, size, m, rfl, h0, h3, m1, m4⟩
  refine DrS.seq (k1 := 60) (k2 := 1939) (Q1 := fun f p => f = .nx ∧ ∃ rows, IRow size rows ∧ p = [.un, .sh .pen, .sh (rowsT rows), .un, .un, .un, .sh (.int size), .sh (.int m), .un, .un, .un, .un, .un, .un, .un, .un, .un]) ?_ (by decide) (by decide) ?_ (fun f p hf hq => absurd hq.1 hf)
  · simp only [X_ev, S_set, S_own, S_exp, S_app, S_par, S_rws, slD_lst, slD_sh, ownD_lst, seqD_nx, List.set_cons_succ, List.set_cons_zero, frE_var, frE_slot, frE_non, frE_bl, frE_int, frE_str, frE_bin, frE_neg, frE_cmp, frE_chn, frE_and, frE_or, frE_not, frE_ite, frE_call, frE_mk, frE_fld, frE_nfl, frE_idx, frE_slc, frE_rev, frE_tup, frE_lst, frE_b1, frE_b2, frE_isi, frE_lc, frE_lc2, frE_dic, frE_lrg, frE_pget, frA_nil, frA_cons, frO_no, frO_yes, frI_r1, frI_r2, frI_sq, frR_lc, frR_call, frR_ite, frR_var, List.append_nil, List.cons_append, List.nil_append, frz_cons, frz_nil, frz1, E_var, E_slot, E_non, E_bl, E_int, E_str, E_bin, E_neg, E_cmp, E_chn, E_and, E_or, E_not, E_ite, E_call, E_mk, E_fld, E_nfl, E_idx, E_slc, E_rev, E_tup, E_lst, E_b1, E_b2, E_isi, E_dic, E_lrg, A_nil, A_cons, O_no, O_yes, I_r1, I_r2, I_sq, getSh, getAny, List.getElem?_cons_zero, List.getElem?_cons_succ, bnd_ret, bnd_bnd, neg_int, cmp_eq_int, cmp_ne_int, cmp_lt_int, cmp_le_int, cmp_gt_int, cmp_ge_int, bin_add_int, bin_sub_int, b1_int, b1_len_l, b1_len_t, b1_tuple_l, b1_tuple_t, b1_list_l, b1_list_t, thenD_bl, elseD_bl, iffD_bl, notD_bl, slc_lst, slc_tup, part_none, part_int, List.length_cons, List.length_nil, List.length_map, nfl_0, nfl_s]
    refine Dr.bnd (k1 := 60) (k2 := 0) (web_rows (n + 1) size h0 h3) (by decide) (by decide) fun d hd => ?_
    obtain ⟨rss, rfl, hR⟩ := hd
    obtain ⟨rows, rfl, h⟩ := rows_ints hR
    exact DrS.up (by decide) rfl (EnvLe.refl _) ⟨rfl, rows, h, rfl⟩
  rintro p ⟨_, rows, h, rfl⟩
  have hl2 : (rowsR rows).length = size := by unfold rowsR; rw [List.length_map, h.1]
  have hw : (B0.lev (n + 6)).2 0 [rowsT rows] = ret (webD (rowsR rows)) := web_ini (n + 3) (rowsR rows) (by omega) (by omega) (by rw [hl2]; exact h.ok)
  refine DrS.st (p := lE size m rows .un .un .un .un .un .un) (by
    simp only [X_ev, S_set, S_own, S_exp, S_app, S_par, S_rws, slD_lst, slD_sh, ownD_lst, seqD_nx, List.set_cons_succ, List.set_cons_zero, frE_var, frE_slot, frE_non, frE_bl, frE_int, frE_str, frE_bin, frE_neg, frE_cmp, frE_chn, frE_and, frE_or, frE_not, frE_ite, frE_call, frE_mk, frE_fld, frE_nfl, frE_idx, frE_slc, frE_rev, frE_tup, frE_lst, frE_b1, frE_b2, frE_isi, frE_lc, frE_lc2, frE_dic, frE_lrg, frE_pget, frA_nil, frA_cons, frO_no, frO_yes, frI_r1, frI_r2, frI_sq, frR_lc, frR_call, frR_ite, frR_var, List.append_nil, List.cons_append, List.nil_append, frz_cons, frz_nil, frz1, E_var, E_slot, E_non, E_bl, E_int, E_str, E_bin, E_neg, E_cmp, E_chn, E_and, E_or, E_not, E_ite, E_call, E_mk, E_fld, E_nfl, E_idx, E_slc, E_rev, E_tup, E_lst, E_b1, E_b2, E_isi, E_dic, E_lrg, A_nil, A_cons, O_no, O_yes, I_r1, I_r2, I_sq, getSh, getAny, List.getElem?_cons_zero, List.getElem?_cons_succ, bnd_ret, bnd_bnd, neg_int, cmp_eq_int, cmp_ne_int, cmp_lt_int, cmp_le_int, cmp_gt_int, cmp_ge_int, bin_add_int, bin_sub_int, b1_int, b1_len_l, b1_len_t, b1_tuple_l, b1_tuple_t, b1_list_l, b1_list_t, thenD_bl, elseD_bl, iffD_bl, notD_bl, slc_lst, slc_tup, part_none, part_int, List.length_cons, List.length_nil, List.length_map, nfl_0, nfl_s, hw]) ?_
  refine DrS.seq (k1 := 1344) (k2 := 0) (Q1 := fun f p => f = .nx ∧ ∃ rows' m' tables, p = lE size m rows .un (.sh (rulesD rows' (m' : Nat) tables)) .un .un .un .un) ?_ (by decide) (by decide) ?_ (fun f p hf hq => absurd hq.1 hf)
  · refine DrS.for (k := 168) (xs := (List.range 8).map natD) (by decide) (by decide) (fun j p => (∃ s8, p = lE size m rows .un s8 .un .un .un .un) ∧ (1 ≤ j → ∃ rows' m' tables, p = lE size m rows .un (.sh (rulesD rows' (m' : Nat) tables)) .un .un .un .un)) (by
      simp only [X_ev, S_set, S_own, S_exp, S_app, S_par, S_rws, slD_lst, slD_sh, ownD_lst, seqD_nx, List.set_cons_succ, List.set_cons_zero, frE_var, frE_slot, frE_non, frE_bl, frE_int, frE_str, frE_bin, frE_neg, frE_cmp, frE_chn, frE_and, frE_or, frE_not, frE_ite, frE_call, frE_mk, frE_fld, frE_nfl, frE_idx, frE_slc, frE_rev, frE_tup, frE_lst, frE_b1, frE_b2, frE_isi, frE_lc, frE_lc2, frE_dic, frE_lrg, frE_pget, frA_nil, frA_cons, frO_no, frO_yes, frI_r1, frI_r2, frI_sq, frR_lc, frR_call, frR_ite, frR_var, List.append_nil, List.cons_append, List.nil_append, frz_cons, frz_nil, frz1, E_var, E_slot, E_non, E_bl, E_int, E_str, E_bin, E_neg, E_cmp, E_chn, E_and, E_or, E_not, E_ite, E_call, E_mk, E_fld, E_nfl, E_idx, E_slc, E_rev, E_tup, E_lst, E_b1, E_b2, E_isi, E_dic, E_lrg, A_nil, A_cons, O_no, O_yes, I_r1, I_r2, I_sq, getSh, getAny, List.getElem?_cons_zero, List.getElem?_cons_succ, bnd_ret, bnd_bnd, neg_int, cmp_eq_int, cmp_ne_int, cmp_lt_int, cmp_le_int, cmp_gt_int, cmp_ge_int, bin_add_int, bin_sub_int, b1_int, b1_len_l, b1_len_t, b1_tuple_l, b1_tuple_t, b1_list_l, b1_list_t, thenD_bl, elseD_bl, iffD_bl, notD_bl, slc_lst, slc_tup, part_none, part_int, List.length_cons, List.length_nil, List.length_map, nfl_0, nfl_s]
      exact r1_nat (n := 8) (by decide)) _ (EnvLe.refl _) ⟨⟨.un, rfl⟩, fun h => absurd h (by decide)⟩ ?_ ?_
    · rintro i x p hx ⟨⟨s8, rfl⟩, _⟩
      refine ⟨_, rfl, DrS.le (p := lE size m rows .un .un .un .un .un .un) (by repeat (first | exact EnvLe.refl _ | apply EnvLe.same | apply EnvLe.un)) ((lapL_dr n h h0 h3 m1 m4).mono (Int.le_refl _) ?_)⟩
      rintro f p ⟨rfl, rows', m', tables, rfl⟩
      exact ⟨⟨_, rfl⟩, fun _ => ⟨rows', m', tables, rfl⟩⟩
    · rintro p ⟨_, hp⟩
      exact ⟨rfl, hp (by decide)⟩
  rintro p ⟨_, rows', m', tables, rfl⟩
  refine Rl.dr ?_ (Int.le_refl 0)
  have f0 : ∀ d, listB d = false → (B0.lev (n + 5)).1 0 [d] = ret d := fun d hd => frozen_ev0 (n + 4) d hd
  have t0 := two_ini (n + 5) (f0 .non rfl) (f0 .non rfl) (f0 .non rfl)
  have t1 := none_ini (n + 5) (f0 .non rfl)
  have t2 := none_ini (n + 5) (f0 (webD (rowsR rows)) rfl)
  refine Rl.seq (Q1 := fun f p => f = .nx ∧ p = lE size m rows .un (.sh (rulesD rows' m' tables)) .un .un .un .un) (Rl.for (xs := [.non, .int 0, .tup [], rulesD rows' m' tables, .str "x", .dic [.inl 0] [.int 1], twoD .non .non .non, noneD .non, noneD (webD (rowsR rows))]) (fun _ p => p = lE size m rows .un (.sh (rulesD rows' m' tables)) .un .un .un .un) ?_ _ (EnvLe.refl _) rfl ?_ (fun p hp => ⟨rfl, hp⟩)) ?_ (fun f p hf hq => absurd hq.1 hf)
  · simp only [X_ev, S_set, S_own, S_exp, S_app, S_par, S_rws, slD_lst, slD_sh, ownD_lst, seqD_nx, List.set_cons_succ, List.set_cons_zero, frE_var, frE_slot, frE_non, frE_bl, frE_int, frE_str, frE_bin, frE_neg, frE_cmp, frE_chn, frE_and, frE_or, frE_not, frE_ite, frE_call, frE_mk, frE_fld, frE_nfl, frE_idx, frE_slc, frE_rev, frE_tup, frE_lst, frE_b1, frE_b2, frE_isi, frE_lc, frE_lc2, frE_dic, frE_lrg, frE_pget, frA_nil, frA_cons, frO_no, frO_yes, frI_r1, frI_r2, frI_sq, frR_lc, frR_call, frR_ite, frR_var, List.append_nil, List.cons_append, List.nil_append, frz_cons, frz_nil, frz1, E_var, E_slot, E_non, E_bl, E_int, E_str, E_bin, E_neg, E_cmp, E_chn, E_and, E_or, E_not, E_ite, E_call, E_mk, E_fld, E_nfl, E_idx, E_slc, E_rev, E_tup, E_lst, E_b1, E_b2, E_isi, E_dic, E_lrg, A_nil, A_cons, O_no, O_yes, I_r1, I_r2, I_sq, getSh, getAny, List.getElem?_cons_zero, List.getElem?_cons_succ, bnd_ret, bnd_bnd, neg_int, cmp_eq_int, cmp_ne_int, cmp_lt_int, cmp_le_int, cmp_gt_int, cmp_ge_int, bin_add_int, bin_sub_int, b1_int, b1_len_l, b1_len_t, b1_tuple_l, b1_tuple_t, b1_list_l, b1_list_t, thenD_bl, elseD_bl, iffD_bl, notD_bl, slc_lst, slc_tup, part_none, part_int, List.length_cons, List.length_nil, List.length_map, nfl_0, nfl_s, t0, t1, t2]
    rw [guard_le (by decide), bnd_ret, guard_le (by decide), bnd_ret]
    rfl
  · rintro i x p hx rfl
    have hx := List.mem_of_getElem? hx
    refine ⟨_, rfl, ?_⟩
    have key : (B0.lev (n + 6)).1 19 [webD (rowsR rows), .int m, x] = ret (.bl false) ∧ (B0.lev (n + 6)).1 20 [webD (rowsR rows), .int m, x] = ret (.bl false) := by
      simp only [List.mem_cons, List.mem_nil_iff, or_false] at hx
      rcases hx with rfl | rfl | rfl | rfl | rfl | rfl | rfl | rfl | rfl
      · exact ⟨two_hold_no2 (n + 3) rows m1 _ rfl, none_hold_no2 (n + 3) rows m1 _ rfl⟩
      · exact ⟨two_hold_no2 (n + 3) rows m1 _ rfl, none_hold_no2 (n + 3) rows m1 _ rfl⟩
      · exact ⟨two_hold_no2 (n + 3) rows m1 _ rfl, none_hold_no2 (n + 3) rows m1 _ rfl⟩
      · exact ⟨two_hold_no2 (n + 3) rows m1 _ rfl, none_hold_no2 (n + 3) rows m1 _ rfl⟩
      · exact ⟨two_hold_no2 (n + 3) rows m1 _ rfl, none_hold_no2 (n + 3) rows m1 _ rfl⟩
      · exact ⟨two_hold_no2 (n + 3) rows m1 _ rfl, none_hold_no2 (n + 3) rows m1 _ rfl⟩
      · exact ⟨two_hold_no (n + 3) rows m1 _ _ _ rfl, none_hold_no2 (n + 3) rows m1 _ rfl⟩
      · exact ⟨two_hold_no2 (n + 3) rows m1 _ rfl, none_hold_no (n + 3) rows m1 _ rfl⟩
      · exact ⟨two_hold_no2 (n + 3) rows m1 _ rfl, none_hold_no (n + 3) rows m1 _ rfl⟩
    refine Rl.iteF (p := lE size m rows (.sh x) (.sh (rulesD rows' m' tables)) .un .un .un .un) (by
      simp only [X_ev, S_set, S_own, S_exp, S_app, S_par, S_rws, slD_lst, slD_sh, ownD_lst, seqD_nx, List.set_cons_succ, List.set_cons_zero, frE_var, frE_slot, frE_non, frE_bl, frE_int, frE_str, frE_bin, frE_neg, frE_cmp, frE_chn, frE_and, frE_or, frE_not, frE_ite, frE_call, frE_mk, frE_fld, frE_nfl, frE_idx, frE_slc, frE_rev, frE_tup, frE_lst, frE_b1, frE_b2, frE_isi, frE_lc, frE_lc2, frE_dic, frE_lrg, frE_pget, frA_nil, frA_cons, frO_no, frO_yes, frI_r1, frI_r2, frI_sq, frR_lc, frR_call, frR_ite, frR_var, List.append_nil, List.cons_append, List.nil_append, frz_cons, frz_nil, frz1, E_var, E_slot, E_non, E_bl, E_int, E_str, E_bin, E_neg, E_cmp, E_chn, E_and, E_or, E_not, E_ite, E_call, E_mk, E_fld, E_nfl, E_idx, E_slc, E_rev, E_tup, E_lst, E_b1, E_b2, E_isi, E_dic, E_lrg, A_nil, A_cons, O_no, O_yes, I_r1, I_r2, I_sq, getSh, getAny, List.getElem?_cons_zero, List.getElem?_cons_succ, bnd_ret, bnd_bnd, neg_int, cmp_eq_int, cmp_ne_int, cmp_lt_int, cmp_le_int, cmp_gt_int, cmp_ge_int, bin_add_int, bin_sub_int, b1_int, b1_len_l, b1_len_t, b1_tuple_l, b1_tuple_t, b1_list_l, b1_list_t, thenD_bl, elseD_bl, iffD_bl, notD_bl, slc_lst, slc_tup, part_none, part_int, List.length_cons, List.length_nil, List.length_map, nfl_0, nfl_s, key.1, key.2]
      rfl) (Rl.up rfl (p := lE size m rows .un (.sh (rulesD rows' m' tables)) .un .un .un .un) (by repeat (first | exact EnvLe.refl _ | apply EnvLe.same | apply EnvLe.un)) rfl)
  rintro p ⟨_, rfl⟩
  have l2 := frozen_l1 (n + 3) [.int 2] (by simp [listB, isT]) (by decide)
  have l3 := frozen_l1 (n + 3) [.int 3] (by simp [listB, isT]) (by decide)
  have l1 := frozen_l1 (n + 3) [.int 1] (by simp [listB, isT]) (by decide)
  have u2 := frozen_t1 (n + 3) [.int 2] (by simp [listB, isT]) (by decide)
  have u3 := frozen_t1 (n + 3) [.int 3] (by simp [listB, isT]) (by decide)
  have u1 := frozen_t1 (n + 3) [.int 1] (by simp [listB, isT]) (by decide)
  have i1 := f0 (.int 1) rfl
  have i2 := f0 (.int 2) rfl
  have i3 := f0 (.int 3) rfl
  have i9 := f0 (.int 9) rfl
  have w1 := two_ini (n + 5) i1 l2 l3
  have w2 := two_ini (n + 5) i1 u2 u3
  have w3 := two_ini (n + 5) i1 i2 i3
  have w4 := two_ini (n + 5) i9 i2 i3
  have w5 := two_ini (n + 5) i1 i9 i3
  have w6 := two_ini (n + 5) i1 i2 i9
  have v1 := none_ini (n + 5) l1
  have v2 := none_ini (n + 5) u1
  have v3 := none_ini (n + 5) i1
  have v4 := none_ini (n + 5) i2
  have c1 := two_cmp_ne (n + 5) (a := .int 1) (b := .tup [.int 2]) (c := .tup [.int 3]) (a' := .int 1) (b' := .tup [.int 2]) (c' := .tup [.int 3]) rfl rfl rfl rfl rfl rfl
  have c2 := two_cmp_eq (n + 5) (a := .int 1) (b := .int 2) (c := .int 3) (a' := .int 9) (b' := .int 2) (c' := .int 3) rfl rfl rfl rfl rfl rfl
  have c3 := two_cmp_eq (n + 5) (a := .int 1) (b := .int 2) (c := .int 3) (a' := .int 1) (b' := .int 9) (c' := .int 3) rfl rfl rfl rfl rfl rfl
  have c4 := two_cmp_ne (n + 5) (a := .int 1) (b := .int 2) (c := .int 3) (a' := .int 1) (b' := .int 2) (c' := .int 9) rfl rfl rfl rfl rfl rfl
  have c5 := none_cmp_eq (n + 5) (a := .tup [.int 1]) (a' := .tup [.int 1]) rfl rfl
  have c6 := none_cmp_ne (n + 5) (a := .int 1) (a' := .int 2) rfl rfl
  refine Rl.st (p := lE size m rows .un (.sh (rulesD rows' m' tables)) .un .un .un .un) (by
    simp only [S_ite, S_nop, X_ev, S_set, S_own, S_exp, S_app, S_par, S_rws, slD_lst, slD_sh, ownD_lst, seqD_nx, List.set_cons_succ, List.set_cons_zero, frE_var, frE_slot, frE_non, frE_bl, frE_int, frE_str, frE_bin, frE_neg, frE_cmp, frE_chn, frE_and, frE_or, frE_not, frE_ite, frE_call, frE_mk, frE_fld, frE_nfl, frE_idx, frE_slc, frE_rev, frE_tup, frE_lst, frE_b1, frE_b2, frE_isi, frE_lc, frE_lc2, frE_dic, frE_lrg, frE_pget, frA_nil, frA_cons, frO_no, frO_yes, frI_r1, frI_r2, frI_sq, frR_lc, frR_call, frR_ite, frR_var, List.append_nil, List.cons_append, List.nil_append, frz_cons, frz_nil, frz1, E_var, E_slot, E_non, E_bl, E_int, E_str, E_bin, E_neg, E_cmp, E_chn, E_and, E_or, E_not, E_ite, E_call, E_mk, E_fld, E_nfl, E_idx, E_slc, E_rev, E_tup, E_lst, E_b1, E_b2, E_isi, E_dic, E_lrg, A_nil, A_cons, O_no, O_yes, I_r1, I_r2, I_sq, getSh, getAny, List.getElem?_cons_zero, List.getElem?_cons_succ, bnd_ret, bnd_bnd, neg_int, cmp_eq_int, cmp_ne_int, cmp_lt_int, cmp_le_int, cmp_gt_int, cmp_ge_int, bin_add_int, bin_sub_int, b1_int, b1_len_l, b1_len_t, b1_tuple_l, b1_tuple_t, b1_list_l, b1_list_t, thenD_bl, elseD_bl, iffD_bl, notD_bl, slc_lst, slc_tup, part_none, part_int, List.length_cons, List.length_nil, List.length_map, nfl_0, nfl_s]
    rw [guard_le (by decide), bnd_ret, guard_le (by decide), bnd_ret, w1]
    simp only [bnd_ret]
    rw [guard_le (by decide), bnd_ret, guard_le (by decide), bnd_ret, w2]
    simp only [bnd_ret, c1, w3, w4, w5, c2, c3]
    rfl) ?_
  refine Rl.ret (p := lE size m rows .un (.sh (rulesD rows' m' tables)) .un .un .un .un) (by
    simp only [X_ev, S_set, S_own, S_exp, S_app, S_par, S_rws, slD_lst, slD_sh, ownD_lst, seqD_nx, List.set_cons_succ, List.set_cons_zero, frE_var, frE_slot, frE_non, frE_bl, frE_int, frE_str, frE_bin, frE_neg, frE_cmp, frE_chn, frE_and, frE_or, frE_not, frE_ite, frE_call, frE_mk, frE_fld, frE_nfl, frE_idx, frE_slc, frE_rev, frE_tup, frE_lst, frE_b1, frE_b2, frE_isi, frE_lc, frE_lc2, frE_dic, frE_lrg, frE_pget, frA_nil, frA_cons, frO_no, frO_yes, frI_r1, frI_r2, frI_sq, frR_lc, frR_call, frR_ite, frR_var, List.append_nil, List.cons_append, List.nil_append, frz_cons, frz_nil, frz1, E_var, E_slot, E_non, E_bl, E_int, E_str, E_bin, E_neg, E_cmp, E_chn, E_and, E_or, E_not, E_ite, E_call, E_mk, E_fld, E_nfl, E_idx, E_slc, E_rev, E_tup, E_lst, E_b1, E_b2, E_isi, E_dic, E_lrg, A_nil, A_cons, O_no, O_yes, I_r1, I_r2, I_sq, getSh, getAny, List.getElem?_cons_zero, List.getElem?_cons_succ, bnd_ret, bnd_bnd, neg_int, cmp_eq_int, cmp_ne_int, cmp_lt_int, cmp_le_int, cmp_gt_int, cmp_ge_int, bin_add_int, bin_sub_int, b1_int, b1_len_l, b1_len_t, b1_tuple_l, b1_tuple_t, b1_list_l, b1_list_t, thenD_bl, elseD_bl, iffD_bl, notD_bl, slc_lst, slc_tup, part_none, part_int, List.length_cons, List.length_nil, List.length_map, nfl_0, nfl_s, w3, w6, c4]
    rw [guard_le (by decide), bnd_ret, v1]
    simp only [bnd_ret]
    rw [guard_le (by decide), bnd_ret, v2]
    simp only [bnd_ret, c5, v3, v4, c6]
    rfl) rfl
theorem fold_ok : ∀ (ns : List Int) (f : Int), 0 ≤ f → f < 2147483648 → 0 ≤ ns.foldl foldC f ∧ ns.foldl foldC f < 2147483648
  | [], f, h0, h1 => ⟨h0, h1⟩
  | c :: ns, f, h0, h1 => by
    refine fold_ok ns _ ?_ ?_
    · exact Int.emod_nonneg _ (by decide)
    · have := Int.emod_lt_of_pos (f * 59 + c) (b := 1000000009) (by decide)
      show (f * 59 + c) % 1000000009 < _
      omega
theorem hlaw (ns : List Int) (_ : ns.length ≤ 63) : ∃ π', lawM B0 10 ir_law f_law.N.length (pen0 ns) = some (.bl true, π') := by
  have hf := fold_ok ns 0 (by decide) (by decide)
  obtain ⟨⟨f, e⟩, π', h1, _, p, _, rfl⟩ := law_dr 4 0 (pen0 ns) (Int.le_refl 0) ⟨Int.le_refl 0, Int.le_refl 0, Int.le_refl 0, by show (0 : Int) + (0 + 2000) ≤ 1000000000; decide, hf.1, hf.2⟩
  refine ⟨π', ?_⟩
  unfold lawM
  rw [bnd_at]
  have h1' : evS B0.T (B0.lev 10).1 (B0.lev 10).2 ir_law (envL f_law.N.length) (pen0 ns) = some ((.ret (.bl true), e), π') := h1
  rw [h1']
  rfl
end UK

set_option Elab.async false
set_option linter.all false
set_option maxRecDepth 100000
set_option maxHeartbeats 0
namespace UK
open PySem PySem.Spec PyProof.Rows L2
/-! ### the head -/
def moreFa : List He.Fa := [.glo "_law_pen", .glo "law"]
def moreFn : List He.DefD := [d__law_pen, d_law]
theorem chk : chkB B0 = true := by decide +kernel
theorem bd_frozen : BindF f_frozen := fun _ _ _ _ _ _ us hl => match us, hl with | [_], _ => rfl
theorem bd_is_whole : BindF f_is_whole := fun _ _ _ _ _ _ us hl => match us, hl with | [_], _ => rfl
theorem bd_is_list : BindF f_is_list := fun _ _ _ _ _ _ us hl => match us, hl with | [_], _ => rfl
theorem bd_is_signs : BindF f_is_signs := fun _ _ _ _ _ _ us hl => match us, hl with | [_], _ => rfl
theorem bd_Web___init__ : BindF f_Web___init__ := fun _ _ _ _ _ _ us hl => match us, hl with | [_, _], _ => rfl
theorem bd_Web___eq__ : BindF f_Web___eq__ := fun _ _ _ _ _ _ us hl => match us, hl with | [_, _], _ => rfl
theorem bd_sources_in : BindF f_sources_in := fun _ _ _ _ _ _ us hl => match us, hl with | [_, _], _ => rfl
theorem bd_LevelRules___init__ : BindF f_LevelRules___init__ := fun _ _ _ _ _ _ us hl => match us, hl with | [_, _, _, _], _ => rfl
theorem bd_LevelRules___eq__ : BindF f_LevelRules___eq__ := fun _ _ _ _ _ _ us hl => match us, hl with | [_, _], _ => rfl
theorem bd_TwoLevels___init__ : BindF f_TwoLevels___init__ := fun _ _ _ _ _ _ us hl => match us, hl with | [_, _, _, _], _ => rfl
theorem bd_TwoLevels___eq__ : BindF f_TwoLevels___eq__ := fun _ _ _ _ _ _ us hl => match us, hl with | [_, _], _ => rfl
theorem bd_NoLevels___init__ : BindF f_NoLevels___init__ := fun _ _ _ _ _ _ us hl => match us, hl with | [_, _], _ => rfl
theorem bd_NoLevels___eq__ : BindF f_NoLevels___eq__ := fun _ _ _ _ _ _ us hl => match us, hl with | [_, _], _ => rfl
theorem bd_power_of_whole : BindF f_power_of_whole := fun _ _ _ _ _ _ us hl => match us, hl with | [_, _], _ => rfl
theorem bd_is_level_row : BindF f_is_level_row := fun _ _ _ _ _ _ us hl => match us, hl with | [_, _, _], _ => rfl
theorem bd_fits_levels : BindF f_fits_levels := fun _ _ _ _ _ _ us hl => match us, hl with | [_, _, _, _], _ => rfl
theorem bd_goal_in : BindF f_goal_in := fun _ _ _ _ _ _ us hl => match us, hl with | [_, _, _], _ => rfl
theorem bd_level_states : BindF f_level_states := fun _ _ _ _ _ _ us hl => match us, hl with | [_], _ => rfl
theorem bd_rests_at : BindF f_rests_at := fun _ _ _ _ _ _ us hl => match us, hl with | [_, _], _ => rfl
theorem bd_level_rests : BindF f_level_rests := fun _ _ _ _ _ _ us hl => match us, hl with | [_], _ => rfl
theorem bd_most_told : BindF f_most_told := fun _ _ _ _ _ _ us hl => match us, hl with | [_], _ => rfl
theorem bd_is_told_levels : BindF f_is_told_levels := fun _ _ _ _ _ _ us hl => match us, hl with | [_, _], _ => rfl
theorem bd_levels_of : BindF f_levels_of := fun _ _ _ _ _ _ us hl => match us, hl with | [_, _, _], _ => rfl
theorem bd_two_levels_hold : BindF f_two_levels_hold := fun _ _ _ _ _ _ us hl => match us, hl with | [_, _, _], _ => rfl
theorem bd_no_levels_hold : BindF f_no_levels_hold := fun _ _ _ _ _ _ us hl => match us, hl with | [_, _, _], _ => rfl
theorem bd__law_free_rows : BindF f__law_free_rows := fun _ _ _ _ _ _ us hl => match us, hl with | [_, _], _ => rfl
theorem bd__law_ordered_rows : BindF f__law_ordered_rows := fun _ _ _ _ _ _ us hl => match us, hl with | [_, _], _ => rfl
theorem bd__law_ring_rows : BindF f__law_ring_rows := fun _ _ _ _ _ _ us hl => match us, hl with | [_, _], _ => rfl
theorem bd__law_camp_rows : BindF f__law_camp_rows := fun _ _ _ _ _ _ us hl => match us, hl with | [_, _], _ => rfl
theorem bd__law_web_rows : BindF f__law_web_rows := fun _ _ _ _ _ _ us hl => match us, hl with | [_, _], _ => rfl
theorem bd__law_sources : BindF f__law_sources := fun _ _ _ _ _ _ us hl => match us, hl with | [_, _], _ => rfl
theorem bd__law_pen : BindF f__law_pen := fun _ _ _ _ _ _ us hl => match us, hl with | [_], _ => rfl
theorem bd__law_draw : BindF f__law_draw := fun _ _ _ _ _ _ us hl => match us, hl with | [_, _], _ => rfl
theorem bd__law_pick : BindF f__law_pick := fun _ _ _ _ _ _ us hl => match us, hl with | [_, _], _ => rfl
theorem bd__law_shuffled : BindF f__law_shuffled := fun _ _ _ _ _ _ us hl => match us, hl with | [_, _], _ => rfl
theorem bd__law_is_int : BindF f__law_is_int := fun _ _ _ _ _ _ us hl => match us, hl with | [_], _ => rfl
theorem bd__law_units : BindF f__law_units := fun _ _ _ _ _ _ us hl => match us, hl with | [_, _], _ => rfl
theorem bd__law_level_table : BindF f__law_level_table := fun _ _ _ _ _ _ us hl => match us, hl with | [_, _, _], _ => rfl
theorem bd__law_level_tables : BindF f__law_level_tables := fun _ _ _ _ _ _ us hl => match us, hl with | [_, _, _], _ => rfl
theorem bd__law_goal : BindF f__law_goal := fun _ _ _ _ _ _ us hl => match us, hl with | [_, _, _, _, _], _ => rfl
theorem bd__law_level_states : BindF f__law_level_states := fun _ _ _ _ _ _ us hl => match us, hl with | [_, _], _ => rfl
theorem bd__law_level_rests : BindF f__law_level_rests := fun _ _ _ _ _ _ us hl => match us, hl with | [_, _, _], _ => rfl
theorem bd__law_is_levels : BindF f__law_is_levels := fun _ _ _ _ _ _ us hl => match us, hl with | [_, _, _], _ => rfl
theorem bd__law_says_not : BindF f__law_says_not := fun _ _ _ _ _ _ us hl => match us, hl with | [_, _], _ => rfl
theorem bd__law_two_right : BindF f__law_two_right := fun _ _ _ _ _ _ us hl => match us, hl with | [_, _, _], _ => rfl
theorem bd__law_none_right : BindF f__law_none_right := fun _ _ _ _ _ _ us hl => match us, hl with | [_, _, _], _ => rfl
theorem bd__law_some_rules : BindF f__law_some_rules := fun _ _ _ _ _ _ us hl => match us, hl with | [_, _, _], _ => rfl
theorem bd_law : BindF f_law := fun _ _ _ _ _ _ us hl => match us, hl with | [_], _ => rfl
theorem bdFs : ∀ f ∈ fs, BindF f := fun f hf => by
  rcases List.mem_cons.mp hf with rfl | hf
  · exact bd_frozen
  rcases List.mem_cons.mp hf with rfl | hf
  · exact bd_is_whole
  rcases List.mem_cons.mp hf with rfl | hf
  · exact bd_is_list
  rcases List.mem_cons.mp hf with rfl | hf
  · exact bd_is_signs
  rcases List.mem_cons.mp hf with rfl | hf
  · exact bd_Web___eq__
  rcases List.mem_cons.mp hf with rfl | hf
  · exact bd_sources_in
  rcases List.mem_cons.mp hf with rfl | hf
  · exact bd_LevelRules___eq__
  rcases List.mem_cons.mp hf with rfl | hf
  · exact bd_TwoLevels___eq__
  rcases List.mem_cons.mp hf with rfl | hf
  · exact bd_NoLevels___eq__
  rcases List.mem_cons.mp hf with rfl | hf
  · exact bd_power_of_whole
  rcases List.mem_cons.mp hf with rfl | hf
  · exact bd_is_level_row
  rcases List.mem_cons.mp hf with rfl | hf
  · exact bd_fits_levels
  rcases List.mem_cons.mp hf with rfl | hf
  · exact bd_goal_in
  rcases List.mem_cons.mp hf with rfl | hf
  · exact bd_level_states
  rcases List.mem_cons.mp hf with rfl | hf
  · exact bd_rests_at
  rcases List.mem_cons.mp hf with rfl | hf
  · exact bd_level_rests
  rcases List.mem_cons.mp hf with rfl | hf
  · exact bd_most_told
  rcases List.mem_cons.mp hf with rfl | hf
  · exact bd_is_told_levels
  rcases List.mem_cons.mp hf with rfl | hf
  · exact bd_levels_of
  rcases List.mem_cons.mp hf with rfl | hf
  · exact bd_two_levels_hold
  rcases List.mem_cons.mp hf with rfl | hf
  · exact bd_no_levels_hold
  rcases List.mem_cons.mp hf with rfl | hf
  · exact bd__law_free_rows
  rcases List.mem_cons.mp hf with rfl | hf
  · exact bd__law_ordered_rows
  rcases List.mem_cons.mp hf with rfl | hf
  · exact bd__law_ring_rows
  rcases List.mem_cons.mp hf with rfl | hf
  · exact bd__law_camp_rows
  rcases List.mem_cons.mp hf with rfl | hf
  · exact bd__law_web_rows
  rcases List.mem_cons.mp hf with rfl | hf
  · exact bd__law_sources
  rcases List.mem_cons.mp hf with rfl | hf
  · exact bd__law_draw
  rcases List.mem_cons.mp hf with rfl | hf
  · exact bd__law_pick
  rcases List.mem_cons.mp hf with rfl | hf
  · exact bd__law_shuffled
  rcases List.mem_cons.mp hf with rfl | hf
  · exact bd__law_is_int
  rcases List.mem_cons.mp hf with rfl | hf
  · exact bd__law_units
  rcases List.mem_cons.mp hf with rfl | hf
  · exact bd__law_level_table
  rcases List.mem_cons.mp hf with rfl | hf
  · exact bd__law_level_tables
  rcases List.mem_cons.mp hf with rfl | hf
  · exact bd__law_goal
  rcases List.mem_cons.mp hf with rfl | hf
  · exact bd__law_level_states
  rcases List.mem_cons.mp hf with rfl | hf
  · exact bd__law_level_rests
  rcases List.mem_cons.mp hf with rfl | hf
  · exact bd__law_is_levels
  rcases List.mem_cons.mp hf with rfl | hf
  · exact bd__law_says_not
  rcases List.mem_cons.mp hf with rfl | hf
  · exact bd__law_two_right
  rcases List.mem_cons.mp hf with rfl | hf
  · exact bd__law_none_right
  rcases List.mem_cons.mp hf with rfl | hf
  · exact bd__law_some_rules
  cases hf
theorem bdIni : ∀ f ∈ ini, BindF f := fun f hf => by
  rcases List.mem_cons.mp hf with rfl | hf
  · exact bd_Web___init__
  rcases List.mem_cons.mp hf with rfl | hf
  · exact bd_LevelRules___init__
  rcases List.mem_cons.mp hf with rfl | hf
  · exact bd_TwoLevels___init__
  rcases List.mem_cons.mp hf with rfl | hf
  · exact bd_NoLevels___init__
  cases hf
abbrev R : PySem.W.OpenRow := PySem.W.OpenLaw.row PySem.Challenge.rw_untoldrules_k76_level_papers_judged
abbrev hk : PySem.W.Hook := hookX 6 (faOf B0 moreFa) (fnOf B0 moreFn) (exOf TT)
def ob (s : PySem.W.SharedT) : He.AlD × Bool := obsX 6 (faOf B0 moreFa) (fnOf B0 moreFn) (exOf TT) (HandSHeadRun.getT s)
theorem ob_eq (s : PySem.W.SharedT) : ob s = hk.obs s.abs := obsX_eq (HandSHeadRun.getT_eq s)
def names0 : List PySem.Str := ["RuleError", "BadWeb", "BadRules", "BadNumber", "BadLine", "frozen", "SIGNS", "is_whole", "is_list", "is_signs", "Web", "signs_read", "sources_in", "LevelRules", "TwoLevels", "NoLevels", "power_of_whole", "is_level_row", "fits_levels", "goal_in", "level_states", "rests_at", "level_rests", "most_told", "is_told_levels", "levels_of", "two_levels_hold", "no_levels_hold", "_law_free_rows", "_law_ordered_rows"]
def names1 : List PySem.Str := ["_law_ring_rows", "_law_camp_rows", "_law_web_rows", "_law_sources", "_law_pen", "_law_draw", "_law_pick", "_law_shuffled", "_law_is_int", "_law_units", "_law_level_table", "_law_level_tables", "_law_goal", "_law_level_states", "_law_level_rests", "_law_is_levels", "_law_says_not", "_law_two_right", "_law_none_right", "_law_some_rules"]
def names : List PySem.Str := names0 ++ names1
theorem run (w : World) : HandSHeadRun.RunEq R (PySem.W.view R.prog [55]) hk ob 6000 names w := by
  intro os
  kernel_rfl
theorem facts {P : Program} {w : World} {K : PySem.W.Frag} {h : Heap} {mg : Str → Option Value} {f : Addr} (X : K.In h) (G : h.Ns mainGlobals mg) (hfa : mg ("law" : Str) = some (.ref f)) (c : He.SaysD (faOf B0 moreFa) (fnOf B0 moreFn) K) (e : exOf TT K = true)
    (hlaw : ∀ ns : List Int, ns.length ≤ 63 → ∃ π', lawM B0 10 ir_law f_law.N.length (pen0 ns) = some (.bl true, π')) :
    ∃ fd : FuncData, (∀ (s : Shared) (v : Value), BindsTo s fd ⟨[v], []⟩ [("script", v)]) ∧ ∀ base : Heap, K.In base → base.Ns mainGlobals mg → FnOk P w K mg base CX0 22 f fd ["script"] (spLaw K) := by
  have Z : Fax B0 K mg := fax_of X G c e chk bdFs bdIni
  obtain ⟨fdL, FL⟩ := c.defs (d := d_law) (List.mem_append_right _ (List.mem_append_right _ (List.mem_cons_of_mem _ (List.mem_cons_self ..))))
  obtain ⟨fdP, FP⟩ := c.defs (d := d__law_pen) (List.mem_append_right _ (List.mem_append_right _ (List.mem_cons_self ..)))
  have gl : ∀ g ∈ moreFa, g.ok K = true := fun g hg => c.facts (List.mem_append_right _ (List.mem_append_right _ (List.mem_append_right _ hg)))
  have e1 := hfa.symm.trans (He.glo_ok X G (gl (.glo "law") (List.mem_cons_of_mem _ (List.mem_cons_self ..))))
  cases e1
  have gp := He.glo_ok X G (gl (.glo "_law_pen") (List.mem_cons_self ..))
  have b := FunD.bindsA (ps := ["script"]) FL bd_law
  have bp : Binds K fdP ["script"] [] := FunD.bindsN FP bd__law_pen
  refine ⟨fdL, fun s v => b s [v] rfl, fun base _ _ => ?_⟩
  have Fp : FnOk P w K mg base CX0 (2 * 10) (He.fAd K ("_law_pen", none)) fdP ["script"] (spPen K) := pen_ok 19 FP (by decide +kernel) (by decide +kernel) (by decide +kernel) (by decide +kernel) (by decide +kernel) (by decide +kernel) (Z.bl _ (by decide +kernel)) (Z.bl _ (by decide +kernel))
  exact law_ok (B := B0) (f := f_law) Z 10 FL rfl (by decide +kernel) (by decide +kernel) (by decide +kernel) (by decide +kernel) gp FP.kp Fp bp (by
    intro ns hn
    have q := hlaw ns hn
    rw [← sm_law] at q
    exact q)
end UK
open PySem PySem.W PySem.Calls PyProof.Rows
theorem law_holds (hlaw : ∀ ns : List Int, ns.length ≤ 63 → ∃ π', UK.lawM UK.B0 10 UK.ir_law UK.f_law.N.length (UK.pen0 ns) = some (.bl true, π')) : PySem.Challenge.rw_untoldrules_k76_level_papers_judged.Holds := by
  w_on; o_law
  refine HandSHeadRun.head_any (r := OpenLaw.row PySem.Challenge.rw_untoldrules_k76_level_papers_judged) (q := view (OpenLaw.row PySem.Challenge.rw_untoldrules_k76_level_papers_judged).prog [55]) (H := UK.hk) (ob := UK.ob) (M := 6000) (loose := UK.names) (d := HandSHeadRun.topDef (OpenLaw.row PySem.Challenge.rw_untoldrules_k76_level_papers_judged).prog 55) (kwd := []) UK.ob_eq
    (by kernel_rfl) (fun s => by kernel_rfl) UK.run (by kernel_rfl) (by kernel_rfl) (by kernel_rfl) (by rfl) (by first | assumption | decide +kernel) (by decide +kernel) ⟨rfl, rfl, rfl, rfl, rfl, by decide +kernel⟩ ?hw ?hc
  case hw => w_witness2
  case hc =>
    refine L2.walk_ofE (l := PySem.Challenge.rw_untoldrules_k76_level_papers_judged) (n := 63) (k := 22) (x := "script") (CX := L2.CX0) rfl (by decide) (by kernel_rfl) ⟨rfl, by decide, by decide⟩ ?F (fun _ _ _ _ z => z)
    intro w mg fa h Y G hmg0
    obtain ⟨K, KX, c, e⟩ := Y
    have hmg : mg ("law" : PySem.Str) = some (.ref fa) := by
      have e : (HandSHeadRun.topDef (OpenLaw.row PySem.Challenge.rw_untoldrules_k76_level_papers_judged).prog 55).name = ("law" : PySem.Str) := by kernel_rfl
      rw [← e]
      exact hmg0
    obtain ⟨fd, hb, hF⟩ := UK.facts (P := (PySem.Challenge.rw_untoldrules_k76_level_papers_judged).prog) (w := w) KX G hmg c e hlaw
    exact ⟨K, fd, UK.spLaw K, KX, hb, fun H a ns hl _ hS => ⟨a, ns, rfl, hS, hl, fun _ => rfl⟩, hF⟩
theorem PySem.Challenge.cw_untoldrules_k76_level_papers_judged_holds : PySem.Challenge.rw_untoldrules_k76_level_papers_judged.Holds :=
  law_holds UK.hlaw
