import PyProof.Rows.All
import Wide.All
import OpenK.AllK
import Wide.FinOn
import HandS.ForMost
import HandS.ForExc
import HandS.Wide
import HandS.Flow
import HandS.HeadHook2
import HandS.IsInst
import HandS.TryMany
import HandS.Defaults
import HandS.Style
import HandS.Deep
import HandS.TupLe
import HandS.SortInts
import HandS.Conv
import HandS.WordsDict
import HandS.Head0
import HandS.Head1
import HandS.Head2
import HandS.HeadEnd
import PySem.Challenge.RW_crookroad_k03_ordered
set_option Elab.async false
set_option linter.all false
set_option maxRecDepth 100000
set_option maxHeartbeats 4000000
/-! Core1: results, heaps that only grow, values by type, the frame by slots. -/
namespace CR
open PySem L2

/-! ### results -/
inductive Exn where
  | RoadError | BadLine | BadBottom | OffRoad | BadCount | TooLong | BadRow | BadName | Taken | NoRoad | NoWalker | Stood | Apart | NothingDone | BadText
  deriving DecidableEq
/-- its class's name -/
def Exn.nm : Exn → Str
  | .RoadError => "RoadError" | .BadLine => "BadLine" | .BadBottom => "BadBottom" | .OffRoad => "OffRoad" | .BadCount => "BadCount" | .TooLong => "TooLong" | .BadRow => "BadRow" | .BadName => "BadName"
  | .Taken => "Taken" | .NoRoad => "NoRoad" | .NoWalker => "NoWalker" | .Stood => "Stood" | .Apart => "Apart" | .NothingDone => "NothingDone" | .BadText => "BadText"
/-- what an except clause of class b takes -/
def Exn.sub (a b : Exn) : Bool := decide (a = b) || decide (b = .RoadError)
inductive Res (α : Type) where
  | ok (a : α)
  | raise (e : Exn)
  | stuck
def Res.bind {α β : Type} (m : Res α) (f : α → Res β) : Res β := match m with
  | .ok a => f a
  | .raise e => .raise e
  | .stuck => .stuck
/-- where nothing may be raised -/
def Res.nr {α : Type} (m : Res α) : Res α := match m with
  | .ok a => .ok a
  | _ => .stuck
@[simp] theorem bind_ok {α β : Type} (a : α) (f : α → Res β) : (Res.ok a).bind f = f a := rfl
@[simp] theorem bind_raise {α β : Type} (e : Exn) (f : α → Res β) : (Res.raise e : Res α).bind f = .raise e := rfl
@[simp] theorem bind_stuck {α β : Type} (f : α → Res β) : (Res.stuck : Res α).bind f = .stuck := rfl
@[simp] theorem nr_ok {α : Type} (a : α) : (Res.ok a).nr = .ok a := rfl
@[simp] theorem bind_assoc {α β γ : Type} (m : Res α) (f : α → Res β) (g : β → Res γ) : (m.bind f).bind g = m.bind fun x => (f x).bind g := by
  cases m <;> rfl
theorem bind_self {α : Type} (m : Res α) : m.bind Res.ok = m := by cases m <;> rfl
/-- a test of a size: beyond it nothing is known -/
def guard {α : Type} (b : Bool) (m : Res α) : Res α := if b = true then m else .stuck
@[simp] theorem guard_true {α : Type} (m : Res α) : guard true m = m := rfl
theorem guard_of {α : Type} {b : Bool} (h : b = true) (m : Res α) : guard b m = m := by rw [h]; rfl

/-! ### operators on ints -/
def mulOk (i j : Int) : Bool := decide (i.natAbs < 2 ^ 64) || decide (j.natAbs < 2 ^ 64) || (decide (i.natAbs < 2 ^ 4000) && decide (j.natAbs < 2 ^ 4000))
def mulR (i j : Int) : Res Int := guard (mulOk i j) (.ok (i * j))
def divOk (j : Int) : Bool := decide (0 < j) && Nat.blt j.natAbs (2 ^ 8000)
def fdivR (i j : Int) : Res Int := guard (divOk j) (.ok (i / j))
def modR (i j : Int) : Res Int := guard (decide (0 < j)) (.ok (i % j))
def powR (i j : Int) : Res Int := guard (decide (0 ≤ j) && decide (j ≤ 1000000) && decide (i.natAbs < 2 ^ 64)) (.ok (i ^ j.toNat))
def absI (i : Int) : Int := if i < 0 then -i else i
def maxI (i j : Int) : Int := if j > i then j else i
def minI (i j : Int) : Int := if j < i then j else i

/-! ### loops, by what comes behind -/
def forK {α s β : Type} (step : α → s → (s → Res β) → Res β) (rest : s → Res β) : List α → s → Res β
  | [], s => rest s
  | x :: xs, s => step x s fun s' => forK step rest xs s'
def whileK {s β : Type} (step : s → (s → Res β) → Res β) : Nat → s → Res β
  | 0, _ => .stuck
  | n + 1, s => step s fun s' => whileK step n s'
/-- two ways that meet -/
def jn {s β : Type} (rest : s → Res β) (body : (s → Res β) → Res β) : Res β := body rest
def mapR {α β : Type} (f : α → Res β) : List α → Res (List β)
  | [] => .ok []
  | x :: xs => (f x).bind fun y => (mapR f xs).bind fun ys => .ok (y :: ys)
def filtR {α β : Type} (p : α → Res Bool) (f : α → Res β) : List α → Res (List β)
  | [] => .ok []
  | x :: xs => (p x).bind fun b => if b = true then (f x).bind fun y => (filtR p f xs).bind fun ys => .ok (y :: ys) else filtR p f xs
/-- lo, lo + 1, .. : n of them -/
def upFrom (lo : Int) : Nat → List Int
  | 0 => []
  | n + 1 => lo :: upFrom (lo + 1) n
def rngOk (lo hi : Int) : Bool := Nat.blt lo.natAbs (2 ^ 62) && Nat.blt hi.natAbs (2 ^ 62)
def rngR (lo hi : Int) : Res (List Int) := guard (rngOk lo hi) (.ok (upFrom lo (hi - lo).toNat))
theorem upFrom_length (lo : Int) : ∀ n : Nat, (upFrom lo n).length = n
  | 0 => rfl
  | n + 1 => by rw [upFrom, List.length_cons, upFrom_length (lo + 1) n]
theorem upFrom_get : ∀ (lo : Int) (n i : Nat), i < n → (upFrom lo n)[i]? = some (lo + i)
  | _, 0, _, h => absurd h (Nat.not_lt_zero _)
  | lo, n + 1, 0, _ => by simp [upFrom]
  | lo, n + 1, i + 1, h => by
    rw [upFrom, List.getElem?_cons_succ, upFrom_get (lo + 1) n i (Nat.lt_of_succ_lt_succ h)]
    congr 1
    omega

/-! ### heaps: what is known to stay (G), within what is there (H) -/
structure Le (G H G' H' : Hp) : Prop where
  g0 : Same G H
  g : Same G G'
  h : Same H H'
  gh : Same G' H'
  nw : ∀ a, G' a ≠ none → G a ≠ none ∨ H a = none
theorem Le.refl {G H : Hp} (e : Same G H) : Le G H G H := ⟨e, Same.refl G, Same.refl H, e, fun _ h => .inl h⟩
theorem Le.trans {G H G1 H1 G2 H2 : Hp} (a : Le G H G1 H1) (b : Le G1 H1 G2 H2) : Le G H G2 H2 :=
  ⟨a.g0, a.g.trans b.g, a.h.trans b.h, b.gh, fun x h => by
    rcases b.nw x h with h1 | h1
    · exact a.nw x h1
    · exact .inr (a.h.free h1)⟩
theorem same_new {H : Hp} {p : Addr} {o : HO} (h : H p = none) : Same H (upd H p o) := fun a u e => by
  rw [upd_ne (ne_of_none e h)]
  exact e
theorem same_upd2 {G H : Hp} {p : Addr} {o : HO} (e : Same G H) : Same (upd G p o) (upd H p o) := fun a u q => by
  by_cases ha : a = p
  · subst ha
    rw [upd_same] at q ⊢
    exact q
  · rw [upd_ne ha] at q ⊢
    exact e a u q
/-- a new thing, known to stay -/
theorem Le.new {G H : Hp} {p : Addr} (o : HO) (e : Same G H) (h : H p = none) : Le G H (upd G p o) (upd H p o) :=
  ⟨e, same_new (e.free h), same_new h, same_upd2 e, fun a q => by
    by_cases ha : a = p
    · subst ha; exact .inr h
    · rw [upd_ne ha] at q; exact .inl q⟩
/-- a new thing of which nothing is said -/
theorem Le.newH {G H : Hp} {p : Addr} (o : HO) (e : Same G H) (h : H p = none) : Le G H G (upd H p o) :=
  ⟨e, Same.refl G, same_new h, e.trans (same_new h), fun a q => .inl q⟩
/-- what is there and not yet known is known from now on -/
theorem Le.know {G H G' H' : Hp} {p : Addr} {o : HO} (l : Le G H G' H') (h0 : H p = none) (h1 : H' p = some o) : Le G H (upd G' p o) H' :=
  ⟨l.g0, fun a u e => by
    rw [upd_ne (ne_of_none e (l.g0.free h0))]
    exact l.g a u e, l.h, fun a u e => by
    by_cases ha : a = p
    · subst ha; rw [upd_same] at e; cases e; exact h1
    · rw [upd_ne ha] at e; exact l.gh a u e, fun a q => by
    by_cases ha : a = p
    · subst ha; exact .inr h0
    · rw [upd_ne ha] at q; exact l.nw a q⟩
/-- what was made here and is not known is changed -/
theorem Le.write {G H G' H' : Hp} {p : Addr} {o : HO} (l : Le G H G' H') (h0 : H p = none) (h1 : G' p = none) : Le G H G' (upd H' p o) :=
  ⟨l.g0, l.g, fun a u e => by
    rw [upd_ne (ne_of_none e h0)]
    exact l.h a u e, fun a u e => by
    rw [upd_ne (ne_of_none e h1)]
    exact l.gh a u e, l.nw⟩
/-- what is there and not known stays not known -/
theorem Le.notKnown {G H G' H' : Hp} {p : Addr} {o : HO} (l : Le G H G' H') (h0 : G p = none) (h1 : H p = some o) : G' p = none := by
  cases e : G' p with
  | none => rfl
  | some u =>
    rcases l.nw p (by rw [e]; exact fun z => nomatch z) with z | z
    · exact absurd h0 z
    · rw [h1] at z; cases z

/-! ### values by type -/
structure Cfg where
  K : PySem.W.Frag
  T : Exn → Addr
/-- classes by their names -/
def cfg (K : PySem.W.Frag) : Cfg := ⟨K, fun e => He.ga K e.nm⟩
class Py (α : Type) where
  rep : Cfg → Hp → V → α → Prop
  mono : ∀ {c : Cfg} {F F' : Hp} {v : V} {x : α}, Same F F' → rep c F v x → rep c F' v x
def Reps {α : Type} [Py α] (c : Cfg) (F : Hp) : List V → List α → Prop
  | [], [] => True
  | v :: vs, x :: xs => Py.rep c F v x ∧ Reps c F vs xs
  | [], _ :: _ => False
  | _ :: _, [] => False
section
variable {α : Type} [Py α] {c : Cfg} {F F' : Hp}
theorem Reps.mono (e : Same F F') : ∀ {vs : List V} {xs : List α}, Reps c F vs xs → Reps c F' vs xs
  | [], [], _ => trivial
  | _ :: _, _ :: _, h => ⟨Py.mono e h.1, Reps.mono e h.2⟩
  | [], _ :: _, h => h.elim
  | _ :: _, [], h => h.elim
theorem Reps.length : ∀ {vs : List V} {xs : List α}, Reps c F vs xs → vs.length = xs.length
  | [], [], _ => rfl
  | _ :: vs, _ :: xs, h => by rw [List.length_cons, List.length_cons, Reps.length h.2]
  | [], _ :: _, h => h.elim
  | _ :: _, [], h => h.elim
theorem Reps.get : ∀ {vs : List V} {xs : List α} {i : Nat} {v : V}, Reps c F vs xs → vs[i]? = some v → ∃ x, xs[i]? = some x ∧ Py.rep c F v x
  | [], _, i, v, _, e => by simp at e
  | _ :: _, x :: _, 0, v, h, e => by
    simp at e; subst e; exact ⟨x, by simp, h.1⟩
  | _ :: vs, _ :: xs, i + 1, v, h, e => by
    obtain ⟨x, h1, h2⟩ := Reps.get (i := i) h.2 (by simpa using e)
    exact ⟨x, by simpa using h1, h2⟩
  | _ :: _, [], _, _, h, _ => h.elim
theorem Reps.get' : ∀ {vs : List V} {xs : List α} {i : Nat} {x : α}, Reps c F vs xs → xs[i]? = some x → ∃ v, vs[i]? = some v ∧ Py.rep c F v x
  | _, [], i, v, _, e => by simp at e
  | v :: _, _ :: _, 0, x, h, e => by
    simp at e; subst e; exact ⟨v, by simp, h.1⟩
  | _ :: vs, _ :: xs, i + 1, v, h, e => by
    obtain ⟨x, h1, h2⟩ := Reps.get' (i := i) h.2 (by simpa using e)
    exact ⟨x, by simpa using h1, h2⟩
  | [], _ :: _, _, _, h, _ => h.elim
theorem Reps.append : ∀ {vs ws : List V} {xs ys : List α}, Reps c F vs xs → Reps c F ws ys → Reps c F (vs ++ ws) (xs ++ ys)
  | [], _, [], _, _, h => h
  | _ :: _, _, _ :: _, _, h, h' => ⟨h.1, Reps.append h.2 h'⟩
  | [], _, _ :: _, _, h, _ => h.elim
  | _ :: _, _, [], _, h, _ => h.elim
theorem Reps.snoc {vs : List V} {xs : List α} {v : V} {x : α} (h : Reps c F vs xs) (h' : Py.rep c F v x) : Reps c F (vs ++ [v]) (xs ++ [x]) := Reps.append h ⟨h', trivial⟩
theorem Reps.set : ∀ {vs : List V} {xs : List α} {v : V} {x : α} (i : Nat), Reps c F vs xs → Py.rep c F v x → Reps c F (vs.set i v) (xs.set i x)
  | [], [], _, _, _, _, _ => trivial
  | _ :: _, _ :: _, _, _, 0, h, r => ⟨r, h.2⟩
  | _ :: _, _ :: _, _, _, i + 1, h, r => ⟨h.1, Reps.set i h.2 r⟩
  | [], _ :: _, _, _, _, h, _ => h.elim
  | _ :: _, [], _, _, _, h, _ => h.elim
theorem Reps.take : ∀ {vs : List V} {xs : List α} (i : Nat), Reps c F vs xs → Reps c F (vs.take i) (xs.take i)
  | _, _, 0, _ => by simp [Reps]
  | [], [], _ + 1, _ => by simp [Reps]
  | _ :: _, _ :: _, i + 1, h => ⟨h.1, Reps.take i h.2⟩
  | [], _ :: _, _ + 1, h => h.elim
  | _ :: _, [], _ + 1, h => h.elim
theorem Reps.drop : ∀ {vs : List V} {xs : List α} (i : Nat), Reps c F vs xs → Reps c F (vs.drop i) (xs.drop i)
  | _, _, 0, h => h
  | [], [], _ + 1, _ => by simp [Reps]
  | _ :: _, _ :: _, i + 1, h => Reps.drop i h.2
  | [], _ :: _, _ + 1, h => h.elim
  | _ :: _, [], _ + 1, h => h.elim
theorem Reps.reverse {vs : List V} {xs : List α} (h : Reps c F vs xs) : Reps c F vs.reverse xs.reverse := by
  induction vs generalizing xs with
  | nil => cases xs with
    | nil => simp [Reps]
    | cons _ _ => exact h.elim
  | cons v vs ih => cases xs with
    | nil => exact h.elim
    | cons x xs =>
      rw [List.reverse_cons, List.reverse_cons]
      exact Reps.snoc (ih h.2) h.1
end
instance : Py Int := ⟨fun _ _ v x => v = .int x, fun _ h => h⟩
instance : Py Bool := ⟨fun _ _ v x => v = .bl x, fun _ h => h⟩
instance : Py Unit := ⟨fun _ _ v _ => v = .non, fun _ h => h⟩
instance : Py Str := ⟨fun _ _ v x => v = .str x, fun _ h => h⟩
instance {α : Type} [Py α] : Py (Option α) := ⟨fun c F v o => match o with
  | none => v = .non
  | some x => Py.rep c F v x, fun {c F F' v x} e h => by
    cases x with
    | none => exact h
    | some x => exact Py.mono e h⟩
theorem same_t {K : PySem.W.Frag} {F F' : Hp} {a : Addr} {xs : List V} (e : Same F F') (h : SqT K F a xs) : SqT K F' a xs := by
  rcases h with (h | ⟨o, h⟩) | h
  · exact .inl (.inl (e _ _ h))
  · exact .inl (.inr ⟨o, e _ _ h⟩)
  · exact .inr h
instance {α β : Type} [Py α] [Py β] : Py (α × β) := ⟨fun c F v x => ∃ a u w, v = .ref a ∧ F a = some (.tup [u, w]) ∧ Py.rep c F u x.1 ∧ Py.rep c F w x.2,
  fun e ⟨a, u, w, h, h1, h2, h3⟩ => ⟨a, u, w, h, e _ _ h1, Py.mono e h2, Py.mono e h3⟩⟩
/-- a tuple of three -/
structure T3 (α β γ : Type) where
  a : α
  b : β
  d : γ
instance {α β γ : Type} [Py α] [Py β] [Py γ] : Py (T3 α β γ) := ⟨fun c F v x => ∃ a u w z, v = .ref a ∧ F a = some (.tup [u, w, z]) ∧ Py.rep c F u x.a ∧ Py.rep c F w x.b ∧ Py.rep c F z x.d,
  fun e ⟨a, u, w, z, h, h1, h2, h3, h4⟩ => ⟨a, u, w, z, h, e _ _ h1, Py.mono e h2, Py.mono e h3, Py.mono e h4⟩⟩
/-- a tuple of any length -/
structure Tp (α : Type) where
  l : List α
instance {α : Type} [Py α] : Py (Tp α) := ⟨fun c F v x => ∃ a vs, v = .ref a ∧ F a = some (.tup vs) ∧ Reps c F vs x.l,
  fun e ⟨a, vs, h, h1, h2⟩ => ⟨a, vs, h, e _ _ h1, h2.mono e⟩⟩
instance {α : Type} [Py α] : Py (List α) := ⟨fun c F v x => ∃ a vs, v = .ref a ∧ F a = some (.lst vs) ∧ Reps c F vs x,
  fun e ⟨a, vs, h, h1, h2⟩ => ⟨a, vs, h, e _ _ h1, h2.mono e⟩⟩
/-- the law's own list of ints -/
structure Scr where
  l : List Int
instance : Py Scr := ⟨fun c F v x => ∃ a, v = .ref a ∧ SqL c.K F a (x.l.map V.int), fun e ⟨a, h, h1⟩ => ⟨a, h, e.seq h1⟩⟩

/-! ### the frame by slots -/
structure MP where
  p : Hp → V → Prop
  mono : ∀ {F F' : Hp} {v : V}, Same F F' → p F v → p F' v
structure ML where
  p : Hp → Addr → HO → Prop
  mono : ∀ {F F' : Hp} {a : Addr} {o : HO}, Same F F' → p F a o → p F' a o
def is {α : Type} [Py α] (c : Cfg) (x : α) : MP := ⟨fun F v => Py.rep c F v x, fun e h => Py.mono e h⟩
def isL {α : Type} [Py α] (c : Cfg) (xs : List α) : ML := ⟨fun F _ o => ∃ vs, o = .lst vs ∧ Reps c F vs xs, fun e ⟨vs, h1, h2⟩ => ⟨vs, h1, Reps.mono e h2⟩⟩
inductive Sl where
  | no
  | val (P : MP)
  | own (P : ML)
def SlOk (H0 G H : Hp) (O : Addr → Option Nat) (i : Nat) (ov : Option (Option V)) : Sl → Prop
  | .no => True
  | .val P => ∃ v, ov = some (some v) ∧ P.p G v
  | .own P => ∃ p o, ov = some (some (.ref p)) ∧ H0 p = none ∧ G p = none ∧ O p = some i ∧ H p = some o ∧ P.p G p o
structure EnvR (B G0 H0 G H : Hp) (σ : St) (ρ : List Sl) : Prop where
  b : Same B G
  le : Le G0 H0 G H
  len : σ.length = ρ.length
  ex : ∃ O : Addr → Option Nat, ∀ i s, ρ[i]? = some s → SlOk H0 G H O i σ[i]? s
section
variable {B G0 H0 G H G' H' : Hp} {σ : St} {ρ : List Sl} {i : Nat}
theorem EnvR.val (E : EnvR B G0 H0 G H σ ρ) {P : MP} (h : ρ[i]? = some (.val P)) : ∃ v, σ[i]? = some (some v) ∧ P.p G v := by
  obtain ⟨_, k⟩ := E.ex
  exact k i _ h
theorem EnvR.own (E : EnvR B G0 H0 G H σ ρ) {P : ML} (h : ρ[i]? = some (.own P)) : ∃ p o, σ[i]? = some (some (.ref p)) ∧ H0 p = none ∧ G p = none ∧ H p = some o ∧ P.p G p o := by
  obtain ⟨_, k⟩ := E.ex
  obtain ⟨p, vs, h1, h2, h3, _, h4, h5⟩ := k i _ h
  exact ⟨p, vs, h1, h2, h3, h4, h5⟩
theorem EnvR.ownL {α : Type} [Py α] {c : Cfg} {xs : List α} (E : EnvR B G0 H0 G H σ ρ) (h : ρ[i]? = some (.own (isL c xs))) : ∃ p vs, σ[i]? = some (some (.ref p)) ∧ H0 p = none ∧ G p = none ∧ H p = some (.lst vs) ∧ Reps c G vs xs := by
  obtain ⟨p, o, h1, h2, h3, h4, vs, rfl, h5⟩ := E.own h
  exact ⟨p, vs, h1, h2, h3, h4, h5⟩
theorem EnvR.mono (E : EnvR B G0 H0 G H σ ρ) (l : Le G H G' H') : EnvR B G0 H0 G' H' σ ρ := by
  obtain ⟨O, k⟩ := E.ex
  refine ⟨E.b.trans l.g, E.le.trans l, E.len, O, fun i s e => ?_⟩
  have q := k i s e
  cases s with
  | no => trivial
  | val P =>
    obtain ⟨v, h1, h2⟩ := q
    exact ⟨v, h1, P.mono l.g h2⟩
  | own P =>
    obtain ⟨p, vs, h1, h2, h3, h4, h5, h6⟩ := q
    exact ⟨p, vs, h1, h2, l.notKnown h3 h5, h4, l.h _ _ h5, P.mono l.g h6⟩
theorem get_set {α : Type} {l : List α} {i j : Nat} {x y : α} (h : (l.set i x)[j]? = some y) : (i = j ∧ x = y) ∨ (i ≠ j ∧ l[j]? = some y) := by
  by_cases e : i = j
  · subst e
    refine .inl ⟨rfl, ?_⟩
    have hl : i < l.length := by
      have := (List.getElem?_eq_some_iff.mp h).1
      simpa using this
    rw [List.getElem?_set_self hl] at h
    exact Option.some.inj h
  · rw [List.getElem?_set_ne e] at h
    exact .inr ⟨e, h⟩
theorem EnvR.setVal (E : EnvR B G0 H0 G H σ ρ) {P : MP} {v : V} (h : P.p G v) : EnvR B G0 H0 G H (σ.set i (some v)) (ρ.set i (.val P)) := by
  obtain ⟨O, k⟩ := E.ex
  refine ⟨E.b, E.le, by simp [E.len], O, fun j s e => ?_⟩
  have hj : j < σ.length := by
    have := (List.getElem?_eq_some_iff.mp e).1
    rw [E.len]
    simpa using this
  rcases get_set e with ⟨e1, e2⟩ | ⟨e1, e2⟩
  · subst e1 e2
    exact ⟨v, by rw [List.getElem?_set_self hj], h⟩
  · rw [List.getElem?_set_ne e1]
    exact k j s e2
theorem EnvR.setNo (E : EnvR B G0 H0 G H σ ρ) {ov : Option V} : EnvR B G0 H0 G H (σ.set i ov) (ρ.set i .no) := by
  obtain ⟨O, k⟩ := E.ex
  refine ⟨E.b, E.le, by simp [E.len], O, fun j s e => ?_⟩
  rcases get_set e with ⟨e1, e2⟩ | ⟨e1, e2⟩
  · subst e1 e2
    trivial
  · rw [List.getElem?_set_ne e1]
    exact k j s e2
/-- a list just made, kept apart -/
theorem EnvR.setOwn (E : EnvR B G0 H0 G H σ ρ) (l : Le G H G' H') {P : ML} {p : Addr} {vs : HO} (h0 : H p = none) (h1 : G' p = none) (h2 : H' p = some vs) (h : P.p G' p vs) :
    EnvR B G0 H0 G' H' (σ.set i (some (.ref p))) (ρ.set i (.own P)) := by
  obtain ⟨O, k⟩ := E.ex
  refine ⟨E.b.trans l.g, E.le.trans l, by simp [E.len], fun a => if a = p then some i else O a, fun j s e => ?_⟩
  have hj : j < σ.length := by
    have := (List.getElem?_eq_some_iff.mp e).1
    rw [E.len]
    simpa using this
  rcases get_set e with ⟨e1, e2⟩ | ⟨e1, e2⟩
  · subst e1 e2
    exact ⟨p, vs, by rw [List.getElem?_set_self hj], E.le.h.free h0, h1, by simp, h2, h⟩
  · rw [List.getElem?_set_ne e1]
    have q := k j s e2
    cases s with
    | no => trivial
    | val P =>
      obtain ⟨v, h1, h2⟩ := q
      exact ⟨v, h1, P.mono l.g h2⟩
    | own P =>
      obtain ⟨p', vs', h1', h2', h3', h4', h5', h6'⟩ := q
      have ne : p' ≠ p := ne_of_none h5' h0
      exact ⟨p', vs', h1', h2', l.notKnown h3' h5', by simp [ne, h4'], l.h _ _ h5', P.mono l.g h6'⟩
/-- the list of a slot is changed -/
theorem EnvR.write (E : EnvR B G0 H0 G H σ ρ) {P P' : ML} {p : Addr} {vs' : HO} (hi : ρ[i]? = some (.own P)) (hp : σ[i]? = some (some (.ref p))) (h : P'.p G p vs') :
    EnvR B G0 H0 G (upd H p vs') σ (ρ.set i (.own P')) := by
  obtain ⟨O, k⟩ := E.ex
  obtain ⟨p', vs, h1, h2, h3, h4, h5, h6⟩ := k i _ hi
  rw [hp] at h1
  cases h1
  refine ⟨E.b, E.le.write h2 h3, by simp [E.len], O, fun j s e => ?_⟩
  rcases get_set e with ⟨e1, e2⟩ | ⟨e1, e2⟩
  · subst e1 e2
    exact ⟨p, vs', hp, h2, h3, h4, upd_same, h⟩
  · have q := k j s e2
    cases s with
    | no => trivial
    | val P => exact q
    | own P =>
      obtain ⟨p', vs', h1', h2', h3', h4', h5', h6'⟩ := q
      have ne : p' ≠ p := fun z => by
        subst z
        rw [h4] at h4'
        exact e1 (Option.some.inj h4')
      exact ⟨p', vs', h1', h2', h3', h4', by rw [upd_ne ne]; exact h5', h6'⟩
/-- from now on the list is not changed any more -/
theorem EnvR.freeze (E : EnvR B G0 H0 G H σ ρ) {P : ML} {Q : MP} (hi : ρ[i]? = some (.own P)) (hq : ∀ F p o, F p = some o → P.p F p o → Q.p F (.ref p)) :
    ∃ p o, H p = some o ∧ G p = none ∧ P.p G p o ∧ EnvR B G0 H0 (upd G p o) H σ (ρ.set i (.val Q)) := by
  obtain ⟨O, k⟩ := E.ex
  obtain ⟨p, vs, h1, h2, h3, h4, h5, h6⟩ := k i _ hi
  have sg : Same G (upd G p vs) := same_new h3
  refine ⟨p, vs, h5, h3, h6, E.b.trans sg, E.le.know h2 h5, by simp [E.len], O, fun j s e => ?_⟩
  rcases get_set e with ⟨e1, e2⟩ | ⟨e1, e2⟩
  · subst e1 e2
    exact ⟨.ref p, h1, hq _ _ _ upd_same (P.mono sg h6)⟩
  · have q := k j s e2
    cases s with
    | no => trivial
    | val P =>
      obtain ⟨v, h1, h2⟩ := q
      exact ⟨v, h1, P.mono sg h2⟩
    | own P =>
      obtain ⟨p', vs', h1', h2', h3', h4', h5', h6'⟩ := q
      have ne : p' ≠ p := fun z => by
        subst z
        rw [h4] at h4'
        exact e1 (Option.some.inj h4')
      exact ⟨p', vs', h1', h2', by rw [upd_ne ne]; exact h3', h4', h5', P.mono sg h6'⟩
end
/-- forget slots -/
inductive Wk : List Sl → List Sl → Prop
  | nil : Wk [] []
  | s {a : Sl} {ρ ρ' : List Sl} : Wk ρ ρ' → Wk (a :: ρ) (a :: ρ')
  | n {a : Sl} {ρ ρ' : List Sl} : Wk ρ ρ' → Wk (a :: ρ) (.no :: ρ')
theorem Wk.refl : ∀ ρ : List Sl, Wk ρ ρ
  | [] => .nil
  | _ :: ρ => .s (Wk.refl ρ)
theorem Wk.length : ∀ {ρ ρ' : List Sl}, Wk ρ ρ' → ρ.length = ρ'.length
  | _, _, .nil => rfl
  | _, _, .s h => by simp [h.length]
  | _, _, .n h => by simp [h.length]
theorem Wk.get : ∀ {ρ ρ' : List Sl} {i : Nat} {s : Sl}, Wk ρ ρ' → ρ'[i]? = some s → s = .no ∨ ρ[i]? = some s
  | _, _, _, _, .nil, h => .inr h
  | _, _, 0, _, .s h, e => .inr (by simpa using e)
  | _, _, 0, _, .n h, e => .inl (by simpa using e.symm)
  | _, _, i + 1, u, .s h, e => by
    rcases h.get (i := i) (s := u) (by simpa using e) with z | z
    · exact .inl z
    · exact .inr (by simpa using z)
  | _, _, i + 1, u, .n h, e => by
    rcases h.get (i := i) (s := u) (by simpa using e) with z | z
    · exact .inl z
    · exact .inr (by simpa using z)
theorem EnvR.wk {B G0 H0 G H : Hp} {σ : St} {ρ ρ' : List Sl} (E : EnvR B G0 H0 G H σ ρ) (w : Wk ρ ρ') : EnvR B G0 H0 G H σ ρ' := by
  obtain ⟨O, k⟩ := E.ex
  refine ⟨E.b, E.le, by rw [E.len, w.length], O, fun i s e => ?_⟩
  rcases w.get e with z | z
  · subst z; trivial
  · exact k i s z
theorem EnvR.reb {B B' G0 H0 G H : Hp} {σ : St} {ρ : List Sl} (E : EnvR B' G0 H0 G H σ ρ) (h : Same B B') : EnvR B G0 H0 G H σ ρ := ⟨h.trans E.b, E.le, E.len, E.ex⟩
theorem EnvR.base {B G0 H0 G H : Hp} {σ : St} {ρ : List Sl} (E : EnvR B G0 H0 G H σ ρ) : EnvR G G0 H0 G H σ ρ := ⟨Same.refl G, E.le, E.len, E.ex⟩
end CR

/-! Core2: what an expression's reading gives, what a statement's reading leads to. -/
namespace CR
open PySem L2

/-! ### what is wanted of a result -/
def Post {α : Type} [Py α] (c : Cfg) (G H : Hp) (Q : VK) (E : XK) : Res α → Prop
  | .ok x => ∀ v G' H', Le G H G' H' → Py.rep c G' v x → Q v H'
  | .raise e => ∀ G' H', Le G H G' H' → E (.ref (c.T e)) none H'
  | .stuck => False
/-- a new list -/
def PostL {α : Type} [Py α] (c : Cfg) (G H : Hp) (Q : VK) (E : XK) : Res (List α) → Prop
  | .ok xs => ∀ p vs G' H', Le G H G' H' → H p = none → G' p = none → H' p = some (.lst vs) → Reps c G' vs xs → Q (.ref p) H'
  | .raise e => ∀ G' H', Le G H G' H' → E (.ref (c.T e)) none H'
  | .stuck => False
def PostT (c : Cfg) (G H : Hp) (Q : Bool → Hp → Prop) (E : XK) : Res Bool → Prop
  | .ok b => ∀ G' H', Le G H G' H' → Q b H'
  | .raise e => ∀ G' H', Le G H G' H' → E (.ref (c.T e)) none H'
  | .stuck => False
/-- packs of arguments -/
class PyA (α : Type) where
  rep : Cfg → Hp → List V → α → Prop
  mono : ∀ {c : Cfg} {F F' : Hp} {vs : List V} {x : α}, Same F F' → rep c F vs x → rep c F' vs x
  sl : Cfg → α → List Sl
  n : Nat
  len : ∀ {c : Cfg} {F : Hp} {vs : List V} {x : α}, rep c F vs x → vs.length = n
  sln : ∀ (c : Cfg) (x : α), (sl c x).length = n
  env : ∀ {c : Cfg} {G : Hp} {vs : List V} {x : α}, rep c G vs x → ∀ (i : Nat) (s : Sl), (sl c x)[i]? = some s → ∃ P v, s = .val P ∧ vs[i]? = some v ∧ P.p G v
instance : PyA Unit where
  rep := fun _ _ vs _ => vs = []
  mono := fun _ h => h
  sl := fun _ _ => []
  n := 0
  len := fun h => by rw [h]; rfl
  sln := fun _ _ => rfl
  env := fun _ i s e => by simp at e
instance {α β : Type} [Py α] [PyA β] : PyA (α × β) where
  rep := fun c F vs x => ∃ v r, vs = v :: r ∧ Py.rep c F v x.1 ∧ PyA.rep c F r x.2
  mono := fun e ⟨v, r, h, h1, h2⟩ => ⟨v, r, h, Py.mono e h1, PyA.mono e h2⟩
  sl := fun c x => .val (is c x.1) :: PyA.sl c x.2
  n := PyA.n β + 1
  len := fun ⟨v, r, h, _, h2⟩ => by rw [h, List.length_cons, PyA.len h2]
  sln := fun c x => by rw [List.length_cons, PyA.sln]
  env := fun {c G vs x} ⟨v, r, h, h1, h2⟩ i s e => by
    subst h
    cases i with
    | zero =>
      simp at e
      exact ⟨is c x.1, v, e.symm, by simp, h1⟩
    | succ i =>
      obtain ⟨P, u, a, b, d⟩ := PyA.env h2 i s (by simpa using e)
      exact ⟨P, u, a, by simpa using b, d⟩
def PostA {α : Type} [PyA α] (c : Cfg) (G H : Hp) (Q : List V → Hp → Prop) (E : XK) : Res α → Prop
  | .ok x => ∀ vs G' H', Le G H G' H' → PyA.rep c G' vs x → Q vs H'
  | .raise e => ∀ G' H', Le G H G' H' → E (.ref (c.T e)) none H'
  | .stuck => False

structure Ev {α : Type} [Py α] (c : Cfg) (W : WX) (te : TE) (ρ : List Sl) (m : Res α) : Prop where
  run : ∀ {B G0 H0 G H : Hp} {σ : St}, EnvR B G0 H0 G H σ ρ → ∀ Q : VK, Post c G H Q (WE W σ) m → te σ H Q
structure EvL {α : Type} [Py α] (c : Cfg) (W : WX) (te : TE) (ρ : List Sl) (m : Res (List α)) : Prop where
  run : ∀ {B G0 H0 G H : Hp} {σ : St}, EnvR B G0 H0 G H σ ρ → ∀ Q : VK, PostL c G H Q (WE W σ) m → te σ H Q
structure EvT (c : Cfg) (W : WX) (te : TT) (ρ : List Sl) (m : Res Bool) : Prop where
  run : ∀ {B G0 H0 G H : Hp} {σ : St}, EnvR B G0 H0 G H σ ρ → ∀ Q : Bool → Hp → Prop, PostT c G H Q (WE W σ) m → te σ H Q
structure EvA {α : Type} [PyA α] (c : Cfg) (W : WX) (te : TA) (ρ : List Sl) (m : Res α) : Prop where
  run : ∀ {B G0 H0 G H : Hp} {σ : St}, EnvR B G0 H0 G H σ ρ → ∀ Q : List V → Hp → Prop, PostA c G H Q (WE W σ) m → te σ H Q

section
variable {c : Cfg} {W : WX} {ρ : List Sl} {B G0 H0 G H G' H' : Hp} {σ : St} {α β γ : Type} [Py α] [Py β] [Py γ]
theorem Post.mono {Q : VK} {E : XK} {m : Res α} (p : Post c G H Q E m) (l : Le G H G' H') : Post c G' H' Q E m := by
  cases m with
  | ok x => exact fun v G2 H2 l2 r => p v G2 H2 (l.trans l2) r
  | raise e => exact fun G2 H2 l2 => p G2 H2 (l.trans l2)
  | stuck => exact p
theorem PostT.mono {Q : Bool → Hp → Prop} {E : XK} {m : Res Bool} (p : PostT c G H Q E m) (l : Le G H G' H') : PostT c G' H' Q E m := by
  cases m with
  | ok x => exact fun G2 H2 l2 => p G2 H2 (l.trans l2)
  | raise e => exact fun G2 H2 l2 => p G2 H2 (l.trans l2)
  | stuck => exact p
theorem PostL.mono {Q : VK} {E : XK} {m : Res (List α)} (p : PostL c G H Q E m) (l : Le G H G' H') : PostL c G' H' Q E m := by
  cases m with
  | ok x => exact fun q vs G2 H2 l2 h0 h1 h2 r => p q vs G2 H2 (l.trans l2) (l.h.free h0) h1 h2 r
  | raise e => exact fun G2 H2 l2 => p G2 H2 (l.trans l2)
  | stuck => exact p
theorem PostA.mono {δ : Type} [PyA δ] {Q : List V → Hp → Prop} {E : XK} {m : Res δ} (p : PostA c G H Q E m) (l : Le G H G' H') : PostA c G' H' Q E m := by
  cases m with
  | ok x => exact fun v G2 H2 l2 r => p v G2 H2 (l.trans l2) r
  | raise e => exact fun G2 H2 l2 => p G2 H2 (l.trans l2)
  | stuck => exact p
/-- wants that can be led through a bind -/
structure Chan (c : Cfg) (G H : Hp) (E : XK) {δ : Type} (P : Hp → Hp → Res δ → Prop) : Prop where
  mono : ∀ {G1 H1 G2 H2 : Hp} {m : Res δ}, P G1 H1 m → Le G1 H1 G2 H2 → P G2 H2 m
  raise : ∀ {G1 H1 : Hp} {e : Exn}, P G1 H1 (.raise e) → ∀ G' H', Le G1 H1 G' H' → E (.ref (c.T e)) none H'
  stuck : ∀ {G1 H1 : Hp}, ¬ P G1 H1 .stuck
theorem chanP {Q : VK} {E : XK} : Chan c G H E (fun G H m => Post (α := α) c G H Q E m) := ⟨Post.mono, fun p => p, fun p => p⟩
theorem chanL {Q : VK} {E : XK} : Chan c G H E (fun G H m => PostL (α := α) c G H Q E m) := ⟨PostL.mono, fun p => p, fun p => p⟩
theorem chanT {Q : Bool → Hp → Prop} {E : XK} : Chan c G H E (fun G H m => PostT c G H Q E m) := ⟨PostT.mono, fun p => p, fun p => p⟩
theorem chanA {δ : Type} [PyA δ] {Q : List V → Hp → Prop} {E : XK} : Chan c G H E (fun G H m => PostA (α := δ) c G H Q E m) := ⟨PostA.mono, fun p => p, fun p => p⟩
/-- an expression, then something -/
theorem Ev.seq {te : TE} {m : Res α} (h : Ev c W te ρ m) (E : EnvR B G0 H0 G H σ ρ) {δ : Type} {P : Hp → Hp → Res δ → Prop} (C : Chan c G H (WE W σ) P) {f : α → Res δ} (p : P G H (m.bind f)) {Q : VK}
    (k : ∀ x v G' H', Le G H G' H' → EnvR B G0 H0 G' H' σ ρ → Py.rep c G' v x → P G' H' (f x) → Q v H') : te σ H Q := by
  refine h.run E Q ?_
  cases m with
  | ok x => exact fun v G' H' l r => k x v G' H' l (E.mono l) r (C.mono p l)
  | raise e => exact C.raise p
  | stuck => exact (C.stuck p).elim
theorem EvL.seq {te : TE} {m : Res (List α)} (h : EvL c W te ρ m) (E : EnvR B G0 H0 G H σ ρ) {δ : Type} {P : Hp → Hp → Res δ → Prop} (C : Chan c G H (WE W σ) P) {f : List α → Res δ} (p : P G H (m.bind f)) {Q : VK}
    (k : ∀ xs q vs G' H', Le G H G' H' → EnvR B G0 H0 G' H' σ ρ → H q = none → G' q = none → H' q = some (.lst vs) → Reps c G' vs xs → P G' H' (f xs) → Q (.ref q) H') : te σ H Q := by
  refine h.run E Q ?_
  cases m with
  | ok x => exact fun q vs G' H' l h0 h1 h2 r => k x q vs G' H' l (E.mono l) h0 h1 h2 r (C.mono p l)
  | raise e => exact C.raise p
  | stuck => exact (C.stuck p).elim
theorem EvT.seq {te : TT} {m : Res Bool} (h : EvT c W te ρ m) (E : EnvR B G0 H0 G H σ ρ) {δ : Type} {P : Hp → Hp → Res δ → Prop} (C : Chan c G H (WE W σ) P) {f : Bool → Res δ} (p : P G H (m.bind f)) {Q : Bool → Hp → Prop}
    (k : ∀ b G' H', Le G H G' H' → EnvR B G0 H0 G' H' σ ρ → P G' H' (f b) → Q b H') : te σ H Q := by
  refine h.run E Q ?_
  cases m with
  | ok x => exact fun G' H' l => k x G' H' l (E.mono l) (C.mono p l)
  | raise e => exact C.raise p
  | stuck => exact (C.stuck p).elim
theorem EvA.seq {ε : Type} [PyA ε] {te : TA} {m : Res ε} (h : EvA c W te ρ m) (E : EnvR B G0 H0 G H σ ρ) {δ : Type} {P : Hp → Hp → Res δ → Prop} (C : Chan c G H (WE W σ) P) {f : ε → Res δ} (p : P G H (m.bind f)) {Q : List V → Hp → Prop}
    (k : ∀ x vs G' H', Le G H G' H' → EnvR B G0 H0 G' H' σ ρ → PyA.rep c G' vs x → P G' H' (f x) → Q vs H') : te σ H Q := by
  refine h.run E Q ?_
  cases m with
  | ok x => exact fun v G' H' l r => k x v G' H' l (E.mono l) r (C.mono p l)
  | raise e => exact C.raise p
  | stuck => exact (C.stuck p).elim
/-- a new list as a value -/
theorem Ev.ofL {te : TE} {m : Res (List α)} (h : EvL c W te ρ m) : Ev c W te ρ m := ⟨fun {B G0 H0 G H σ} E Q p => by
  refine h.run E Q ?_
  cases m with
  | ok xs => exact fun q vs G' H' l h0 h1 h2 r => p _ _ _ (l.know h0 h2) ⟨q, vs, rfl, upd_same, r.mono (same_new h1)⟩
  | raise e => exact p
  | stuck => exact p⟩

/-! ### names and constants -/
theorem ev_var (i : Nat) {x : α} (h : ρ[i]? = some (.val (is c x))) : Ev c W (tVar i) ρ (.ok x) := ⟨fun {B G0 H0 G H σ} E Q p => by
  obtain ⟨v, h1, h2⟩ := E.val h
  exact ⟨v, h1, p v G H (Le.refl E.le.gh) h2⟩⟩
theorem ev_cst {v : V} {x : α} (h : ∀ F, Py.rep c F v x) : Ev c W (tC v) ρ (.ok x) := ⟨fun {B G0 H0 G H σ} E Q p => p v G H (Le.refl E.le.gh) (h G)⟩
theorem ev_int {i : Int} : Ev c W (tC (.int i)) ρ (.ok i) := ev_cst fun _ => rfl
theorem ev_bl {b : Bool} : Ev c W (tC (.bl b)) ρ (.ok b) := ev_cst fun _ => rfl
theorem ev_non : Ev c W (tC .non) ρ (.ok ()) := ev_cst fun _ => rfl
theorem ev_str {x : Str} : Ev c W (tC (.str x)) ρ (.ok x) := ev_cst fun _ => rfl
theorem ev_nonO : Ev c W (tC .non) ρ (.ok (none : Option α)) := ev_cst fun _ => rfl
theorem ev_someO {te : TE} {m : Res α} (h : Ev c W te ρ m) : Ev c W te ρ (m.bind fun x => .ok (some x)) := ⟨fun {B G0 H0 G H σ} E Q p =>
  h.seq E chanP p fun x v G' H' l E' r p' => p' v G' H' (Le.refl E'.le.gh) r⟩

/-! ### operators by values -/
def OpS (c : Cfg) (r : R2) (f : α → β → Res γ) : Prop := ∀ (E : XK) (x : α) (y : β) (v u : V) (G H : Hp) (Q : VK), Same G H → Py.rep c G v x → Py.rep c G u y → Post c G H Q E (f x y) → r v u H Q
theorem ev_op {r : R2} {f : α → β → Res γ} (ho : OpS c r f) {ta tb : TE} {m1 : Res α} {m2 : Res β} (h1 : Ev c W ta ρ m1) (h2 : Ev c W tb ρ m2) : Ev c W (tOp r ta tb) ρ (m1.bind fun x => m2.bind fun y => f x y) := ⟨fun {B G0 H0 G H σ} E Q p =>
  h1.seq E chanP p fun x v G1 H1 l1 E1 r1 p1 => h2.seq E1 chanP p1 fun y u G2 H2 l2 E2 r2 p2 => ho _ x y v u G2 H2 Q E2.le.gh (Py.mono l2.g r1) r2 p2⟩
theorem os_I0 {g : Int → Int → V} {f : Int → Int → α} (h : ∀ c F i j, Py.rep c F (g i j) (f i j)) : OpS c (rI0 g) (fun i j => .ok (f i j)) := fun _ x y v u G H Q e hv hu p => by
  subst hv hu
  exact ⟨x, y, rfl, rfl, p _ _ _ (Le.refl e) (h _ _ _ _)⟩
theorem os_I {C : Int → Int → Prop} {g : Int → Int → V} {f : Int → Int → α} {b : Int → Int → Bool} (hb : ∀ i j, b i j = true → C i j) (h : ∀ c F i j, Py.rep c F (g i j) (f i j)) : OpS c (rI C g) (fun i j => guard (b i j) (.ok (f i j))) := fun _ x y v u G H Q e hv hu p => by
  subst hv hu
  have p := (show Post c G H Q _ (guard (b x y) (Res.ok (f x y))) from p)
  cases hc : b x y with
  | true =>
    rw [hc] at p
    exact ⟨x, y, rfl, rfl, hb _ _ hc, p _ _ _ (Le.refl e) (h _ _ _ _)⟩
  | false =>
    rw [hc] at p
    exact p.elim
theorem os_add : OpS c (rI0 fun i j => .int (i + j)) (fun i j : Int => .ok (i + j)) := os_I0 fun _ _ _ _ => rfl
theorem os_sub : OpS c (rI0 fun i j => .int (i - j)) (fun i j : Int => .ok (i - j)) := os_I0 fun _ _ _ _ => rfl
theorem os_lt : OpS c (rI0 fun i j => .bl (decide (i < j))) (fun i j : Int => .ok (decide (i < j))) := os_I0 fun _ _ _ _ => rfl
theorem os_le : OpS c (rI0 fun i j => .bl (decide (i ≤ j))) (fun i j : Int => .ok (decide (i ≤ j))) := os_I0 fun _ _ _ _ => rfl
theorem os_gt : OpS c (rI0 fun i j => .bl (decide (j < i))) (fun i j : Int => .ok (decide (j < i))) := os_I0 fun _ _ _ _ => rfl
theorem os_ge : OpS c (rI0 fun i j => .bl (decide (j ≤ i))) (fun i j : Int => .ok (decide (j ≤ i))) := os_I0 fun _ _ _ _ => rfl
end
/-- * of any two ints of which the sizes are known -/
def CMulA (i j : Int) : Prop := CMul i j ∨ CMulW i j
theorem op_mulA {X : Cx} : OpR X (binaryOp .Mult) (rI CMulA fun i j => .int (i * j)) := by
  intro pins s σ H x y v u Q I rx ry h
  obtain ⟨i, j, hx, hy, hc, q⟩ := h
  rcases hc with hc | hc
  · exact op_mul pins s σ H x y v u Q I rx ry ⟨i, j, hx, hy, hc, q⟩
  · exact op_mulW pins s σ H x y v u Q I rx ry ⟨i, j, hx, hy, hc, q⟩
theorem abs_lt_of {i : Int} {k : Nat} (h : i.natAbs < k) : -(k : Int) < i ∧ i < k := by omega
theorem mulOk_ok {i j : Int} (h : mulOk i j = true) : CMulA i j := by
  unfold mulOk at h
  rw [Bool.or_eq_true, Bool.or_eq_true, Bool.and_eq_true] at h
  rcases h with (h | h) | ⟨h1, h2⟩
  · have := abs_lt_of (of_decide_eq_true h)
    exact .inl (.inl this)
  · have := abs_lt_of (of_decide_eq_true h)
    exact .inl (.inr this)
  · exact .inr (wide_mul (of_decide_eq_true h1) (of_decide_eq_true h2) (by decide) (by decide) (by decide))
theorem blt_lt {n m : Nat} (h : Nat.blt n m = true) : n < m := Nat.le_of_ble_eq_true h
theorem lt_blt {n m : Nat} (h : n < m) : Nat.blt n m = true := Nat.ble_eq_true_of_le h
theorem divOk_ok {i j : Int} (h : divOk j = true) : CDivW i j := by
  unfold divOk at h
  rw [Bool.and_eq_true] at h
  exact wide_div (of_decide_eq_true h.1) (blt_lt h.2) (by decide) (by decide)
section
variable {c : Cfg} {W : WX} {ρ : List Sl} {α β γ : Type} [Py α] [Py β] [Py γ]
theorem os_mul : OpS c (rI CMulA fun i j => .int (i * j)) mulR := os_I (b := mulOk) (fun _ _ h => mulOk_ok h) fun _ _ _ _ => rfl
theorem os_fdiv : OpS c (rI CDivW fun i j => .int (i / j)) fdivR := os_I (b := fun _ j => divOk j) (fun _ _ h => divOk_ok h) fun _ _ _ _ => rfl
theorem os_mod : OpS c (rI (fun _ j => 0 < j) fun i j => .int (i % j)) modR := os_I (b := fun _ j => decide (0 < j)) (fun _ _ h => of_decide_eq_true h) fun _ _ _ _ => rfl
theorem os_pow : OpS c (rI CPow fun i j => .int (i ^ j.toNat)) powR := os_I (b := fun i j => decide (0 ≤ j) && decide (j ≤ 1000000) && decide (i.natAbs < 2 ^ 64)) (fun _ _ h => by
  rw [Bool.and_eq_true, Bool.and_eq_true] at h
  exact ⟨of_decide_eq_true h.1.1, of_decide_eq_true h.1.2, of_decide_eq_true h.2⟩) fun _ _ _ _ => rfl
theorem ev_neg {ta : TE} {m : Res Int} (h : Ev c W ta ρ m) : Ev c W (tUn (rU fun i => .int (-i)) ta) ρ (m.bind fun x => .ok (-x)) := ⟨fun {B G0 H0 G H σ} E Q p =>
  h.seq E chanP p fun x v G1 H1 l1 E1 r1 p1 => ⟨x, r1, p1 _ _ _ (Le.refl E1.le.gh) rfl⟩⟩

/-! ### packs -/
theorem ea_nil : EvA c W tNil ρ (.ok ()) := ⟨fun {B G0 H0 G H σ} E Q p => p [] G H (Le.refl E.le.gh) rfl⟩
theorem ea_cons {δ : Type} [PyA δ] {ta : TE} {tr : TA} {m : Res α} {mr : Res δ} (h : Ev c W ta ρ m) (hr : EvA c W tr ρ mr) : EvA c W (tCons ta tr) ρ (m.bind fun x => mr.bind fun r => .ok (x, r)) := ⟨fun {B G0 H0 G H σ} E Q p =>
  h.seq E chanA p fun x v G1 H1 l1 E1 r1 p1 => hr.seq E1 chanA p1 fun r vs G2 H2 l2 E2 r2 p2 => p2 (v :: vs) G2 H2 (Le.refl E2.le.gh) ⟨v, vs, rfl, Py.mono l2.g r1, r2⟩⟩
/-- a call by values -/
def CaS {δ : Type} [PyA δ] (c : Cfg) (r : List V → Hp → VK → Prop) (f : δ → Res γ) : Prop := ∀ (E : XK) (x : δ) (vs : List V) (G H : Hp) (Q : VK), Same G H → PyA.rep c G vs x → Post c G H Q E (f x) → r vs H Q
def CaL {δ : Type} [PyA δ] (c : Cfg) (r : List V → Hp → VK → Prop) (f : δ → Res (List γ)) : Prop := ∀ (E : XK) (x : δ) (vs : List V) (G H : Hp) (Q : VK), Same G H → PyA.rep c G vs x → PostL c G H Q E (f x) → r vs H Q
theorem ev_cb {δ : Type} [PyA δ] {r : List V → Hp → VK → Prop} {f : δ → Res γ} (ho : CaS c r f) {ta : TA} {m : Res δ} (h : EvA c W ta ρ m) : Ev c W (tCB r ta) ρ (m.bind f) := ⟨fun {B G0 H0 G H σ} E Q p =>
  h.seq E chanP p fun x vs G1 H1 l1 E1 r1 p1 => ho _ x vs G1 H1 Q E1.le.gh r1 p1⟩
theorem el_cb {δ : Type} [PyA δ] {r : List V → Hp → VK → Prop} {f : δ → Res (List γ)} (ho : CaL c r f) {ta : TA} {m : Res δ} (h : EvA c W ta ρ m) : EvL c W (tCB r ta) ρ (m.bind f) := ⟨fun {B G0 H0 G H σ} E Q p =>
  h.seq E chanL p fun x vs G1 H1 l1 E1 r1 p1 => ho _ x vs G1 H1 Q E1.le.gh r1 p1⟩
theorem cs_abs : CaS c (fun xs H Q => ∃ i, xs = [.int i] ∧ Q (.int (if i < 0 then -i else i)) H) (fun x : Int × Unit => .ok (absI x.1)) := fun _ x vs G H Q e r p => by
  obtain ⟨v, r, h, h1, h2⟩ := r
  subst h h1 h2
  exact ⟨_, rfl, p _ _ _ (Le.refl e) rfl⟩
theorem cs_max : CaS c (fun xs H Q => ∃ i j, xs = [.int i, .int j] ∧ Q (.int (if j > i then j else i)) H) (fun x : Int × Int × Unit => .ok (maxI x.1 x.2.1)) := fun _ x vs G H Q e r p => by
  obtain ⟨v, r, h, h1, u, r2, h2, h3, h4⟩ := r
  subst h h1 h2 h3 h4
  exact ⟨_, _, rfl, p _ _ _ (Le.refl e) rfl⟩
theorem cs_min : CaS c (fun xs H Q => ∃ i j, xs = [.int i, .int j] ∧ Q (.int (if j < i then j else i)) H) (fun x : Int × Int × Unit => .ok (minI x.1 x.2.1)) := fun _ x vs G H Q e r p => by
  obtain ⟨v, r, h, h1, u, r2, h2, h3, h4⟩ := r
  subst h h1 h2 h3 h4
  exact ⟨_, _, rfl, p _ _ _ (Le.refl e) rfl⟩
theorem cs_len {K : PySem.W.Frag} (hK : c.K = K) : CaS c (fun xs H Q => ∃ p ys, xs = [.ref p] ∧ (SqL K H p ys ∨ SqT K H p ys) ∧ Q (.int ys.length) H) (fun x : List α × Unit => .ok (x.1.length : Int)) := fun _ x vs G H Q e r p => by
  obtain ⟨v, r, h, ⟨a, us, h1, h2, h3⟩, h4⟩ := r
  subst h h1 h4
  refine ⟨a, us, rfl, .inl (SqL.of (e _ _ h2)), p _ _ _ (Le.refl e) ?_⟩
  rw [h3.length]
  rfl
theorem cs_lenScr {K : PySem.W.Frag} (hK : c.K = K) : CaS c (fun xs H Q => ∃ p ys, xs = [.ref p] ∧ (SqL K H p ys ∨ SqT K H p ys) ∧ Q (.int ys.length) H) (fun x : Scr × Unit => .ok (x.1.l.length : Int)) := fun _ x vs G H Q e r p => by
  obtain ⟨v, r, h, ⟨a, h1, h2⟩, h4⟩ := r
  subst h h1 h4 hK
  refine ⟨a, _, rfl, .inl (e.seq h2), p _ _ _ (Le.refl e) ?_⟩
  rw [List.length_map]
  rfl
theorem cs_lenT {K : PySem.W.Frag} (hK : c.K = K) : CaS c (fun xs H Q => ∃ p ys, xs = [.ref p] ∧ (SqL K H p ys ∨ SqT K H p ys) ∧ Q (.int ys.length) H) (fun x : Tp α × Unit => .ok (x.1.l.length : Int)) := fun _ x vs G H Q e r p => by
  obtain ⟨v, r, h, ⟨a, us, h1, h2, h3⟩, h4⟩ := r
  subst h h1 h4 hK
  refine ⟨a, us, rfl, .inr (SqT.of (e _ _ h2)), p _ _ _ (Le.refl e) ?_⟩
  rw [h3.length]
  rfl
theorem cs_len2 {K : PySem.W.Frag} (hK : c.K = K) : CaS c (fun xs H Q => ∃ p ys, xs = [.ref p] ∧ (SqL K H p ys ∨ SqT K H p ys) ∧ Q (.int ys.length) H) (fun _ : (α × β) × Unit => .ok (2 : Int)) := fun _ x vs G H Q e r p => by
  obtain ⟨v, r, h, ⟨a, u, w, h1, h2, h3⟩, h4⟩ := r
  subst h h1 h4 hK
  exact ⟨a, _, rfl, .inr (SqT.of (e _ _ h2)), p _ _ _ (Le.refl e) rfl⟩

/-! ### tests -/
def andR (m1 m2 : Res Bool) : Res Bool := m1.bind fun a => if a = true then m2 else .ok false
def orR (m1 m2 : Res Bool) : Res Bool := m1.bind fun a => if a = true then .ok true else m2
def notR (m : Res Bool) : Res Bool := m.bind fun a => .ok (!a)
theorem et_test {te : TE} {m : Res Bool} (h : Ev c W te ρ m) : EvT c W (tTest te) ρ m := ⟨fun {B G0 H0 G H σ} E Q p => by
  have p' : PostT c G H Q (WE W σ) (m.bind Res.ok) := by rw [bind_self]; exact p
  exact h.seq E chanT p' fun x v G1 H1 l1 E1 r1 p1 => ⟨x, r1, p1 _ _ (Le.refl E1.le.gh)⟩⟩
theorem et_B {te : TE} {m : Res Bool} (h : Ev c W te ρ m) : EvT c W (tB te) ρ m := ⟨fun {B G0 H0 G H σ} E Q p => by
  have p' : PostT c G H Q (WE W σ) (m.bind Res.ok) := by rw [bind_self]; exact p
  exact h.seq E chanT p' fun x v G1 H1 l1 E1 r1 p1 => ⟨x, r1, p1 _ _ (Le.refl E1.le.gh)⟩⟩
theorem et_and {t u : TT} {m1 m2 : Res Bool} (h1 : EvT c W t ρ m1) (h2 : EvT c W u ρ m2) : EvT c W (tAnd t u) ρ (andR m1 m2) := ⟨fun {B G0 H0 G H σ} E Q p =>
  h1.seq E chanT p fun b G1 H1 l1 E1 p1 => by
    cases b with
    | true => exact h2.run E1 Q p1
    | false => exact p1 _ _ (Le.refl E1.le.gh)⟩
theorem et_or {t u : TT} {m1 m2 : Res Bool} (h1 : EvT c W t ρ m1) (h2 : EvT c W u ρ m2) : EvT c W (tOr t u) ρ (orR m1 m2) := ⟨fun {B G0 H0 G H σ} E Q p =>
  h1.seq E chanT p fun b G1 H1 l1 E1 p1 => by
    cases b with
    | true => exact p1 _ _ (Le.refl E1.le.gh)
    | false => exact h2.run E1 Q p1⟩
theorem et_not {t : TT} {m : Res Bool} (h1 : EvT c W t ρ m) : EvT c W (tNot t) ρ (notR m) := ⟨fun {B G0 H0 G H σ} E Q p =>
  h1.seq E chanT p fun b G1 H1 l1 E1 p1 => p1 _ _ (Le.refl E1.le.gh)⟩
theorem ev_and {t u : TE} {m1 m2 : Res Bool} (h1 : Ev c W t ρ m1) (h2 : Ev c W u ρ m2) : Ev c W (tAndV t u) ρ (andR m1 m2) := ⟨fun {B G0 H0 G H σ} E Q p =>
  h1.seq E chanP p fun b v G1 H1 l1 E1 r1 p1 => ⟨b, r1, by
    cases b with
    | true => exact h2.run E1 Q p1
    | false => exact p1 _ _ _ (Le.refl E1.le.gh) rfl⟩⟩
theorem ev_or {t u : TE} {m1 m2 : Res Bool} (h1 : Ev c W t ρ m1) (h2 : Ev c W u ρ m2) : Ev c W (tOrV t u) ρ (orR m1 m2) := ⟨fun {B G0 H0 G H σ} E Q p =>
  h1.seq E chanP p fun b v G1 H1 l1 E1 r1 p1 => ⟨b, r1, by
    cases b with
    | true => exact p1 _ _ _ (Le.refl E1.le.gh) rfl
    | false => exact h2.run E1 Q p1⟩⟩
theorem ev_not {t : TE} {m : Res Bool} (h1 : Ev c W t ρ m) : Ev c W (tNotV t) ρ (notR m) := ⟨fun {B G0 H0 G H σ} E Q p =>
  h1.seq E chanP p fun b v G1 H1 l1 E1 r1 p1 => ⟨b, r1, p1 _ _ _ (Le.refl E1.le.gh) rfl⟩⟩
theorem ev_if {t : TT} {ta tb : TE} {mc : Res Bool} {m1 m2 : Res α} (hc : EvT c W t ρ mc) (h1 : Ev c W ta ρ m1) (h2 : Ev c W tb ρ m2) : Ev c W (tIf t ta tb) ρ (mc.bind fun b => if b = true then m1 else m2) := ⟨fun {B G0 H0 G H σ} E Q p =>
  hc.seq E chanP p fun b G1 H1 l1 E1 p1 => by
    cases b with
    | true => exact h1.run E1 Q p1
    | false => exact h2.run E1 Q p1⟩
/-- truth of a list -/
theorem et_truthL {te : TE} {m : Res (List α)} {K : PySem.W.Frag} (hK : c.K = K) (h : Ev c W te ρ m) : EvT c W (fun σ H Q => te σ H fun x H1 => ∃ k, TruV K x H1 k ∧ Q k H1) ρ (m.bind fun xs => .ok (!xs.isEmpty)) := ⟨fun {B G0 H0 G H σ} E Q p =>
  h.seq E chanT p fun x v G1 H1 l1 E1 r1 p1 => by
    obtain ⟨a, vs, rfl, h1, h2⟩ := r1
    refine ⟨!vs.isEmpty, .inl ⟨vs, SqL.of (E1.le.gh _ _ h1), rfl⟩, ?_⟩
    have e : vs.isEmpty = x.isEmpty := by
      have := h2.length
      cases vs <;> cases x <;> simp_all
    rw [e]
    exact p1 _ _ (Le.refl E1.le.gh)⟩

/-! ### tuples and lists -/
theorem ev_pair {ta : TA} {m : Res (α × β × Unit)} (h : EvA c W ta ρ m) : Ev c W (tTup ta) ρ (m.bind fun x => .ok (x.1, x.2.1)) := ⟨fun {B G0 H0 G H σ} E Q p =>
  h.seq E chanP p fun x vs G1 H1 l1 E1 r1 p1 => by
    obtain ⟨v, r, h, h1, u, r2, h2, h3, h4⟩ := r1
    subst h h2 h4
    refine ⟨(by show 2 ≤ sizeLine; decide), fun q hq => p1 _ _ _ (Le.new _ E1.le.gh hq) ?_⟩
    have z := same_new (o := .tup [v, u]) (E1.le.gh.free hq)
    exact ⟨q, v, u, rfl, upd_same, Py.mono z h1, Py.mono z h3⟩⟩
theorem ev_trip {ta : TA} {m : Res (α × β × γ × Unit)} (h : EvA c W ta ρ m) : Ev c W (tTup ta) ρ (m.bind fun x => .ok (⟨x.1, x.2.1, x.2.2.1⟩ : T3 α β γ)) := ⟨fun {B G0 H0 G H σ} E Q p =>
  h.seq E chanP p fun x vs G1 H1 l1 E1 r1 p1 => by
    obtain ⟨v, r, h, h1, u, r2, h2, h3, w, r3, h5, h6, h4⟩ := r1
    subst h h2 h5 h4
    refine ⟨(by show 3 ≤ sizeLine; decide), fun q hq => p1 _ _ _ (Le.new _ E1.le.gh hq) ?_⟩
    have z := same_new (o := .tup [v, u, w]) (E1.le.gh.free hq)
    exact ⟨q, v, u, w, rfl, upd_same, Py.mono z h1, Py.mono z h3, Py.mono z h6⟩⟩
/-- arguments that are all of one type -/
structure EvAs {α : Type} [Py α] (c : Cfg) (W : WX) (te : TA) (ρ : List Sl) (m : Res (List α)) : Prop where
  run : ∀ {B G0 H0 G H : Hp} {σ : St}, EnvR B G0 H0 G H σ ρ → ∀ Q : List V → Hp → Prop, (match m with
    | .ok xs => ∀ vs G' H', Le G H G' H' → Reps c G' vs xs → Q vs H'
    | .raise e => ∀ G' H', Le G H G' H' → W (.ref (c.T e)) none σ H'
    | .stuck => False) → te σ H Q
theorem es_nil : EvAs c W tNil ρ (.ok ([] : List α)) := ⟨fun {B G0 H0 G H σ} E Q p => p [] G H (Le.refl E.le.gh) trivial⟩
theorem es_cons {ta : TE} {tr : TA} {m : Res α} {mr : Res (List α)} (h : Ev c W ta ρ m) (hr : EvAs c W tr ρ mr) : EvAs c W (tCons ta tr) ρ (m.bind fun x => mr.bind fun r => .ok (x :: r)) := ⟨fun {B G0 H0 G H σ} E Q p => by
  refine h.run E _ ?_
  cases m with
  | raise e => exact p
  | stuck => exact p
  | ok x =>
    intro v G1 H1 l1 r1
    refine hr.run (E.mono l1) _ ?_
    cases mr with
    | raise e => exact fun G2 H2 l2 => p G2 H2 (l1.trans l2)
    | stuck => exact p
    | ok xs => exact fun vs G2 H2 l2 r2 => p (v :: vs) G2 H2 (l1.trans l2) ⟨Py.mono l2.g r1, r2⟩⟩
/-- a new list of what is written -/
theorem el_lst {ta : TA} {m : Res (List α)} (h : EvAs c W ta ρ m) (hn : ∀ xs, m = .ok xs → xs.length ≤ 1000) : EvL c W (tLst ta) ρ m := ⟨fun {B G0 H0 G H σ} E Q p => by
  refine h.run E _ ?_
  cases m with
  | raise e => exact p
  | stuck => exact p
  | ok xs =>
    intro vs G1 H1 l1 r1
    refine ⟨?_, fun q hq => p q vs G1 _ (l1.trans (Le.newH _ l1.gh hq)) (l1.h.free hq) (l1.gh.free hq) upd_same r1⟩
    rw [r1.length]
    exact Nat.le_trans (hn xs rfl) (by decide)⟩
theorem ev_tp {ta : TA} {m : Res (List α)} (h : EvAs c W ta ρ m) (hn : ∀ xs, m = .ok xs → xs.length ≤ 1000) : Ev c W (tTup ta) ρ (m.bind fun xs => .ok (⟨xs⟩ : Tp α)) := ⟨fun {B G0 H0 G H σ} E Q p => by
  refine h.run E _ ?_
  cases m with
  | raise e => exact p
  | stuck => exact p
  | ok xs =>
    intro vs G1 H1 l1 r1
    refine ⟨?_, fun q hq => p _ _ _ (l1.trans (Le.new _ l1.gh hq)) ?_⟩
    · rw [r1.length]
      exact Nat.le_trans (hn xs rfl) (by decide)
    · exact ⟨q, vs, rfl, upd_same, r1.mono (same_new (l1.gh.free hq))⟩⟩
/-- items -/
def atR (xs : List α) (i : Int) : Res α := match atI xs i with
  | some x => .ok x
  | none => .stuck
theorem atI_reps {F : Hp} {vs : List V} {xs : List α} {i : Int} {x : α} (r : Reps c F vs xs) (h : atI xs i = some x) : ∃ v, atI vs i = some v ∧ Py.rep c F v x := by
  unfold atI at h ⊢
  rw [r.length]
  cases e : ixN xs.length i with
  | none =>
    rw [e] at h
    cases h
  | some j =>
    rw [e] at h
    obtain ⟨v, h1, h2⟩ := r.get' h
    exact ⟨v, h1, h2⟩
theorem os_ixL {K : PySem.W.Frag} (hK : c.K = K) : OpS c (rIxL K) (fun (xs : List α) (i : Int) => atR xs i) := fun _ xs i v u G H Q e hv hu p => by
  obtain ⟨a, vs, rfl, h1, h2⟩ := hv
  subst hu
  have p := (show Post c G H Q _ (atR xs i) from p)
  unfold atR at p
  cases q : atI xs i with
  | none =>
    rw [q] at p
    exact p.elim
  | some x =>
    rw [q] at p
    obtain ⟨w, h3, h4⟩ := atI_reps h2 q
    exact ⟨a, vs, i, w, rfl, rfl, SqL.of (e _ _ h1), h3, p _ _ _ (Le.refl e) h4⟩
theorem atI_map {α β : Type} (f : α → β) (xs : List α) (i : Int) : atI (xs.map f) i = (atI xs i).map f := by
  unfold atI
  rw [List.length_map]
  cases ixN xs.length i with
  | none => rfl
  | some j => simp
theorem os_ixScr {K : PySem.W.Frag} (hK : c.K = K) : OpS c (rIxL K) (fun (xs : Scr) (i : Int) => atR xs.l i) := fun _ xs i v u G H Q e hv hu p => by
  obtain ⟨a, rfl, h1⟩ := hv
  subst hu hK
  have p := (show Post c G H Q _ (atR xs.l i) from p)
  unfold atR at p
  cases q : atI xs.l i with
  | none =>
    rw [q] at p
    exact p.elim
  | some x =>
    rw [q] at p
    exact ⟨a, _, i, .int x, rfl, rfl, e.seq h1, by rw [atI_map, q]; rfl, p _ _ _ (Le.refl e) rfl⟩
theorem os_ixT {K : PySem.W.Frag} (hK : c.K = K) : OpS c (rIxT K) (fun (xs : Tp α) (i : Int) => atR xs.l i) := fun _ xs i v u G H Q e hv hu p => by
  obtain ⟨a, vs, rfl, h1, h2⟩ := hv
  subst hu hK
  have p := (show Post c G H Q _ (atR xs.l i) from p)
  unfold atR at p
  cases q : atI xs.l i with
  | none =>
    rw [q] at p
    exact p.elim
  | some x =>
    rw [q] at p
    obtain ⟨w, h3, h4⟩ := atI_reps h2 q
    exact ⟨a, vs, i, w, rfl, rfl, SqT.of (e _ _ h1), h3, p _ _ _ (Le.refl e) h4⟩
/-- an item of a pair, the index written -/
theorem ev_fst {ta : TE} {m : Res (α × β)} {K : PySem.W.Frag} (hK : c.K = K) (h : Ev c W ta ρ m) : Ev c W (tOp (rIxT K) ta (tC (.int 0))) ρ (m.bind fun x => .ok x.1) := ⟨fun {B G0 H0 G H σ} E Q p =>
  h.seq E chanP p fun x v G1 H1 l1 E1 r1 p1 => by
    obtain ⟨a, u, w, rfl, h1, h2, h3⟩ := r1
    subst hK
    exact ⟨a, _, 0, u, rfl, rfl, SqT.of (E1.le.gh _ _ h1), rfl, p1 _ _ _ (Le.refl E1.le.gh) h2⟩⟩
theorem ev_snd {ta : TE} {m : Res (α × β)} {K : PySem.W.Frag} (hK : c.K = K) (h : Ev c W ta ρ m) : Ev c W (tOp (rIxT K) ta (tC (.int 1))) ρ (m.bind fun x => .ok x.2) := ⟨fun {B G0 H0 G H σ} E Q p =>
  h.seq E chanP p fun x v G1 H1 l1 E1 r1 p1 => by
    obtain ⟨a, u, w, rfl, h1, h2, h3⟩ := r1
    subst hK
    exact ⟨a, _, 1, w, rfl, rfl, SqT.of (E1.le.gh _ _ h1), rfl, p1 _ _ _ (Le.refl E1.le.gh) h3⟩⟩

/-! ### calls of own defs -/
def PromS {δ : Type} [PyA δ] (c : Cfg) (m : δ → Res γ) : Sp := fun vs H Q E => ∃ (G : Hp) (a : δ), Same G H ∧ PyA.rep c G vs a ∧ Post c G H Q E (m a)
def PromL {δ : Type} [PyA δ] (c : Cfg) (m : δ → Res (List γ)) : Sp := fun vs H Q E => ∃ (G : Hp) (a : δ), Same G H ∧ PyA.rep c G vs a ∧ PostL c G H Q E (m a)
theorem ev_call {δ : Type} [PyA δ] {f : δ → Res γ} {ta : TA} {m : Res δ} (h : EvA c W ta ρ m) : Ev c W (tCallS (PromS c f) (WE W) ta) ρ (m.bind f) := ⟨fun {B G0 H0 G H σ} E Q p =>
  h.seq E chanP p fun x vs G1 H1 l1 E1 r1 p1 => ⟨G1, x, E1.le.gh, r1, p1⟩⟩
theorem el_call {δ : Type} [PyA δ] {f : δ → Res (List γ)} {ta : TA} {m : Res δ} (h : EvA c W ta ρ m) : EvL c W (tCallS (PromL c f) (WE W) ta) ρ (m.bind f) := ⟨fun {B G0 H0 G H σ} E Q p =>
  h.seq E chanL p fun x vs G1 H1 l1 E1 r1 p1 => ⟨G1, x, E1.le.gh, r1, p1⟩⟩
end

/-! ### statements -/
/-- where a block stands: W takes what is raised; P is wanted of what is still to be reckoned; S: which frames the takers want -/
structure SC (β : Type) (c : Cfg) (B G0 H0 : Hp) (W : WX) (P : Res β → Prop) (S : List Sl → Prop) : Prop where
  stuck : ¬ P .stuck
  raise : ∀ e, P (.raise e) → ∀ ρ G H σ, S ρ → EnvR B G0 H0 G H σ ρ → W (.ref (c.T e)) none σ H
section
variable {c : Cfg} {W : WX} {ρ : List Sl} {B G0 H0 G H : Hp} {σ : St} {α β γ : Type} [Py α] [Py β] [Py γ] {P : Res β → Prop} {S : List Sl → Prop} {D : Ends}
theorem Ev.st {te : TE} {m : Res α} {f : α → Res β} (h : Ev c W te ρ m) (C : SC β c B G0 H0 W P S) (E : EnvR B G0 H0 G H σ ρ) (s : S ρ) (k : P (m.bind f)) {Q : VK}
    (q : ∀ x v G' H', Le G H G' H' → EnvR B G0 H0 G' H' σ ρ → Py.rep c G' v x → P (f x) → Q v H') : te σ H Q := by
  refine h.run E Q ?_
  cases m with
  | ok x => exact fun v G' H' l r => q x v G' H' l (E.mono l) r k
  | raise e => exact fun G' H' l => C.raise e k ρ G' H' σ s (E.mono l)
  | stuck => exact (C.stuck k).elim
theorem EvL.st {te : TE} {m : Res (List α)} {f : List α → Res β} (h : EvL c W te ρ m) (C : SC β c B G0 H0 W P S) (E : EnvR B G0 H0 G H σ ρ) (s : S ρ) (k : P (m.bind f)) {Q : VK}
    (q : ∀ xs p vs G' H', Le G H G' H' → H p = none → G' p = none → H' p = some (.lst vs) → Reps c G' vs xs → P (f xs) → Q (.ref p) H') : te σ H Q := by
  refine h.run E Q ?_
  cases m with
  | ok x => exact fun p vs G' H' l h0 h1 h2 r => q x p vs G' H' l h0 h1 h2 r k
  | raise e => exact fun G' H' l => C.raise e k ρ G' H' σ s (E.mono l)
  | stuck => exact (C.stuck k).elim
theorem EvT.st {te : TT} {m : Res Bool} {f : Bool → Res β} (h : EvT c W te ρ m) (C : SC β c B G0 H0 W P S) (E : EnvR B G0 H0 G H σ ρ) (s : S ρ) (k : P (m.bind f)) {Q : Bool → Hp → Prop}
    (q : ∀ b G' H', EnvR B G0 H0 G' H' σ ρ → P (f b) → Q b H') : te σ H Q := by
  refine h.run E Q ?_
  cases m with
  | ok x => exact fun G' H' l => q x G' H' (E.mono l) k
  | raise e => exact fun G' H' l => C.raise e k ρ G' H' σ s (E.mono l)
  | stuck => exact (C.stuck k).elim
/-- x = e -/
theorem st_asg {te : TE} {i : Nat} {m : Res α} {f : α → Res β} (C : SC β c B G0 H0 W P S) (E : EnvR B G0 H0 G H σ ρ) (s : S ρ) (ev : Ev c W te ρ m) (k : P (m.bind f))
    (nx : ∀ x G' H' σ', EnvR B G0 H0 G' H' σ' (ρ.set i (.val (is c x))) → P (f x) → D.nx σ' H') : tAsg te (gName i) D σ H :=
  ev.st C E s k fun x v G' H' _ E' r k' => nx x G' H' _ (E'.setVal r) k'
/-- x = e, a new list that is changed later -/
theorem st_asgL {te : TE} {i : Nat} {m : Res (List α)} {f : List α → Res β} (C : SC β c B G0 H0 W P S) (E : EnvR B G0 H0 G H σ ρ) (s : S ρ) (ev : EvL c W te ρ m) (k : P (m.bind f))
    (nx : ∀ x G' H' σ', EnvR B G0 H0 G' H' σ' (ρ.set i (.own (isL c x))) → P (f x) → D.nx σ' H') : tAsg te (gName i) D σ H :=
  ev.st C E s k fun x p vs G' H' l h0 h1 h2 r k' => nx x G' H' _ (E.setOwn l h0 h1 h2 ⟨_, rfl, r⟩) k'
/-- e -/
theorem st_expr {te : TE} {m : Res α} {f : α → Res β} (C : SC β c B G0 H0 W P S) (E : EnvR B G0 H0 G H σ ρ) (s : S ρ) (ev : Ev c W te ρ m) (k : P (m.bind f))
    (nx : ∀ x G' H', EnvR B G0 H0 G' H' σ ρ → P (f x) → D.nx σ H') : tDrop te D σ H :=
  ev.st C E s k fun x v G' H' _ E' r k' => nx x G' H' E' k'
/-- return e -/
theorem st_ret {te : TE} {m : Res β} (C : SC β c B G0 H0 W P S) (E : EnvR B G0 H0 G H σ ρ) (s : S ρ) (ev : Ev c W te ρ m) (k : P m)
    (hr : ∀ r, P (.ok r) → ∀ v G' H', Le G0 H0 G' H' → Py.rep c G' v r → D.rt v H') : tRet te D σ H := by
  have k' : P (m.bind Res.ok) := by rw [bind_self]; exact k
  exact ev.st C E s k' fun x v G' H' _ E' r k' => hr x k' v G' H' E'.le r
theorem st_retL {te : TE} {m : Res (List α)} {P : Res (List α) → Prop} (C : SC (List α) c B G0 H0 W P S) (E : EnvR B G0 H0 G H σ ρ) (s : S ρ) (ev : EvL c W te ρ m) (k : P m)
    (hr : ∀ r, P (.ok r) → ∀ p vs G' H', Le G0 H0 G' H' → H0 p = none → G' p = none → H' p = some (.lst vs) → Reps c G' vs r → D.rt (.ref p) H') : tRet te D σ H := by
  have k' : P (m.bind Res.ok) := by rw [bind_self]; exact k
  exact ev.st C E s k' fun x p vs G' H' l h0 h1 h2 r k' => hr x k' p vs G' H' (E.le.trans l) (E.le.h.free h0) h1 h2 r
/-- return xs, a list that was filled here -/
theorem st_retOwn {i : Nat} {xs : List α} {P : Res (List α) → Prop} (E : EnvR B G0 H0 G H σ ρ) (hi : ρ[i]? = some (.own (isL c xs))) (k : P (.ok xs))
    (hr : ∀ r, P (.ok r) → ∀ p vs G' H', Le G0 H0 G' H' → H0 p = none → G' p = none → H' p = some (.lst vs) → Reps c G' vs r → D.rt (.ref p) H') : tRet (tVar i) D σ H := by
  obtain ⟨p, vs, h1, h2, h3, h4, h5⟩ := E.ownL hi
  exact ⟨_, h1, hr xs k p vs G H E.le h2 h3 h4 h5⟩
/-- if -/
theorem st_if {t : TT} {ta tb : TS} {m : Res Bool} {a b : Res β} (C : SC β c B G0 H0 W P S) (E : EnvR B G0 H0 G H σ ρ) (s : S ρ) (ev : EvT c W t ρ m) (k : P (m.bind fun x => if x = true then a else b))
    (h1 : ∀ G' H', EnvR B G0 H0 G' H' σ ρ → P a → ta D σ H') (h2 : ∀ G' H', EnvR B G0 H0 G' H' σ ρ → P b → tb D σ H') : tIfS t ta tb D σ H :=
  ev.st C E s k fun x G' H' E' k' => by
    cases x with
    | true => exact h1 G' H' E' k'
    | false => exact h2 G' H' E' k'
/-- xs.append(e) -/
def appR (xs : List α) (x : α) : Res (List α) := guard (decide (xs.length < 16000000)) (.ok (xs ++ [x]))
theorem size_lt {n : Nat} (h : n < 16000000) : n < sizeLine := Nat.lt_of_lt_of_le h (by decide)
theorem st_append {K : PySem.W.Frag} {te : TE} {i : Nat} {m : Res α} {xs : List α} {f : List α → Res β} (C : SC β c B G0 H0 W P S) (E : EnvR B G0 H0 G H σ ρ) (s : S ρ) (hi : ρ[i]? = some (.own (isL c xs))) (ev : Ev c W te ρ m)
    (k : P ((m.bind fun x => appR xs x).bind f)) (nx : ∀ xs' G' H', EnvR B G0 H0 G' H' σ (ρ.set i (.own (isL c xs'))) → P (f xs') → D.nx σ H') : tDrop (tBM K "list" rAppend (tVar i) (tCons te tNil)) D σ H := by
  have k : P (m.bind fun x => (appR xs x).bind f) := by rw [bind_assoc] at k; exact k
  obtain ⟨p, vs, h1, h2, h3, h4, h5⟩ := E.ownL hi
  refine ⟨_, h1, Or.inl ⟨rfl, _, SqL.of h4⟩, ev.st C E s k fun x v G' H' _ E' r k' => ?_⟩
  obtain ⟨p', vs', h1', h2', h3', h4', h5'⟩ := E'.ownL hi
  rw [h1] at h1'
  cases h1'
  unfold appR at k'
  cases hc : decide (xs.length < 16000000) with
  | false =>
    rw [hc] at k'
    exact (C.stuck k').elim
  | true =>
    rw [hc] at k'
    have hl : vs'.length < sizeLine := by
      have e : vs'.length = xs.length := Reps.length (show Reps c G' vs' xs from h5')
      rw [e]
      exact size_lt (of_decide_eq_true hc)
    exact ⟨p, vs', v, rfl, rfl, h4', hl, nx _ G' _ (E'.write hi h1 ⟨_, rfl, Reps.snoc h5' r⟩) k'⟩
end
/-! ### what a def's body is to reach -/
section
variable {c : Cfg} {B G0 H0 : Hp} {β : Type} [Py β] {Q : VK} {E : XK}
theorem scS : SC β c B G0 H0 (fun cls d _ H => E cls d H) (Post c G0 H0 Q E) (fun _ => True) := ⟨fun h => h, fun e h ρ G H σ _ En => h G H En.le⟩
theorem scL : SC (List β) c B G0 H0 (fun cls d _ H => E cls d H) (PostL c G0 H0 Q E) (fun _ => True) := ⟨fun h => h, fun e h ρ G H σ _ En => h G H En.le⟩
theorem start_env {δ : Type} [PyA δ] {N : List Str} {vs : List V} {a : δ} {n : Nat} (hg : Same G0 H0) (r : PyA.rep c G0 vs a) (hn : N.length = PyA.n δ + n) : EnvR G0 G0 H0 G0 H0 (L2.start N vs) (PyA.sl c a ++ List.replicate n .no) := by
  have hl := PyA.len r
  refine ⟨Same.refl G0, Le.refl hg, ?_, fun _ => none, fun i s e => ?_⟩
  · unfold L2.start
    rw [List.length_append, List.length_append, List.length_map, List.length_replicate, List.length_replicate, PyA.sln]
    omega
  · by_cases hi : i < PyA.n δ
    · rw [List.getElem?_append_left (by rw [PyA.sln]; exact hi)] at e
      obtain ⟨Pm, v, rfl, h1, h2⟩ := PyA.env r i s e
      refine ⟨v, ?_, h2⟩
      unfold L2.start
      rw [List.getElem?_append_left (by rw [List.length_map, hl]; exact hi), List.getElem?_map, h1]
      rfl
    · rw [List.getElem?_append_right (by rw [PyA.sln]; omega)] at e
      have : s = .no := by
        have := List.getElem?_eq_some_iff.mp e
        obtain ⟨_, e2⟩ := this
        simpa using e2.symm
      subst this
      trivial
end
end CR

/-! Core3: loops, comprehensions, raise, try, ==, isinstance, what is read of a list that is still filled. -/
namespace CR
open PySem L2
section
variable {c : Cfg} {W : WX} {ρ : List Sl} {B G0 H0 G H : Hp} {σ : St} {α β γ : Type} [Py α] [Py β] [Py γ] {P : Res β → Prop} {S : List Sl → Prop} {D : Ends}
theorem SC.reb {B' : Hp} (C : SC β c B G0 H0 W P S) (h : Same B B') : SC β c B' G0 H0 W P S := ⟨C.stuck, fun e k ρ G H σ s E => C.raise e k ρ G H σ s (E.reb h)⟩
theorem nxt (h : Ends.nx D σ H) : tNext D σ H := h
theorem sqn {t u : TS} {rt : VK} {bk ct : L2.St → Hp → Prop} (h : t { D with nx := u D } σ H) : Ends.nx (Ends.mk (tSeq t u D) rt bk ct) σ H := h
theorem s1n {t : TS} {rt : VK} {bk ct : L2.St → Hp → Prop} (h : t D σ H) : Ends.nx (Ends.mk (t D) rt bk ct) σ H := h
theorem sq {t u : TS} (h : t { D with nx := u D } σ H) : tSeq t u D σ H := h
/-! ### assignments to several names -/
theorem st_unp {K : PySem.W.Frag} (hK : c.K = K) {te : TE} {i j : Nat} {m : Res (α × γ)} {f : α × γ → Res β} (C : SC β c B G0 H0 W P S) (E : EnvR B G0 H0 G H σ ρ) (s : S ρ) (ev : Ev c W te ρ m) (k : P (m.bind f))
    (nx : ∀ x y G' H' σ', EnvR B G0 H0 G' H' σ' ((ρ.set i (.val (is c x))).set j (.val (is c y))) → P (f (x, y)) → D.nx σ' H') : tAsg te (gTup K 2 (gCons (gName i) (gCons (gName j) gNil))) D σ H :=
  ev.st C E s k fun x v G' H' _ E' r k' => by
    obtain ⟨a, u, w, rfl, h1, h2, h3⟩ := r
    subst hK
    exact ⟨a, _, rfl, SqT.of (E'.le.gh _ _ h1), rfl, _, _, rfl, _, _, rfl, rfl, nx x.1 x.2 G' H' _ ((E'.setVal h2).setVal h3) k'⟩
theorem st_unp3 {δ : Type} [Py δ] {K : PySem.W.Frag} (hK : c.K = K) {te : TE} {i j l : Nat} {m : Res (T3 α γ δ)} {f : T3 α γ δ → Res β} (C : SC β c B G0 H0 W P S) (E : EnvR B G0 H0 G H σ ρ) (s : S ρ) (ev : Ev c W te ρ m) (k : P (m.bind f))
    (nx : ∀ x y z G' H' σ', EnvR B G0 H0 G' H' σ' (((ρ.set i (.val (is c x))).set j (.val (is c y))).set l (.val (is c z))) → P (f ⟨x, y, z⟩) → D.nx σ' H') : tAsg te (gTup K 3 (gCons (gName i) (gCons (gName j) (gCons (gName l) gNil)))) D σ H :=
  ev.st C E s k fun x v G' H' _ E' r k' => by
    obtain ⟨a, u, w, z, rfl, h1, h2, h3, h4⟩ := r
    subst hK
    exact ⟨a, _, rfl, SqT.of (E'.le.gh _ _ h1), rfl, _, _, rfl, _, _, rfl, _, _, rfl, rfl, nx x.a x.b x.d G' H' _ (((E'.setVal h2).setVal h3).setVal h4) k'⟩
theorem EvA.st {ε : Type} [PyA ε] {te : TA} {m : Res ε} {f : ε → Res β} (h : EvA c W te ρ m) (C : SC β c B G0 H0 W P S) (E : EnvR B G0 H0 G H σ ρ) (s : S ρ) (k : P (m.bind f)) {Q : List V → Hp → Prop}
    (q : ∀ x vs G' H', EnvR B G0 H0 G' H' σ ρ → PyA.rep c G' vs x → P (f x) → Q vs H') : te σ H Q := by
  refine h.run E Q ?_
  cases m with
  | ok x => exact fun v G' H' l r => q x v G' H' (E.mono l) r k
  | raise e => exact fun G' H' l => C.raise e k ρ G' H' σ s (E.mono l)
  | stuck => exact (C.stuck k).elim
/-- a, b = e1, e2 -/
theorem st_par {ta : TA} {i j : Nat} {m : Res (α × γ × Unit)} {f : α × γ × Unit → Res β} (C : SC β c B G0 H0 W P S) (E : EnvR B G0 H0 G H σ ρ) (s : S ρ) (ev : EvA c W ta ρ m) (k : P (m.bind f))
    (nx : ∀ x y G' H' σ', EnvR B G0 H0 G' H' σ' ((ρ.set i (.val (is c x))).set j (.val (is c y))) → P (f (x, y, ())) → D.nx σ' H') : tPar i j ta D σ H :=
  ev.st C E s k fun x vs G' H' E' r k' => by
    obtain ⟨v, r, h, h1, u, r2, h2, h3, h4⟩ := r
    subst h h2 h4
    exact ⟨v, u, rfl, nx x.1 x.2.1 G' H' _ ((E'.setVal h1).setVal h3) k'⟩
/-- x += e -/
theorem st_aug {te : TE} {i : Nat} {x0 : Int} {g : Int → Int → Int} {m : Res Int} {f : Int → Res β} (C : SC β c B G0 H0 W P S) (E : EnvR B G0 H0 G H σ ρ) (s : S ρ) (hi : ρ[i]? = some (.val (is c x0))) (ev : Ev c W te ρ m) (k : P ((m.bind fun y => .ok (g x0 y)).bind f))
    (nx : ∀ x G' H' σ', EnvR B G0 H0 G' H' σ' (ρ.set i (.val (is c x))) → P (f x) → D.nx σ' H') : tAug i te (ipI g) D σ H := by
  obtain ⟨v, h1, h2⟩ := E.val hi
  have h2 : v = .int x0 := h2
  subst h2
  have k : P (m.bind fun y => f (g x0 y)) := by rw [bind_assoc] at k; exact k
  exact ⟨_, h1, ev.st C E s k fun y u G' H' _ E' r k' => ⟨x0, y, rfl, r, nx _ G' H' _ (E'.setVal rfl) k'⟩⟩
/-- xs[i] = e -/
def setR (xs : List α) (i : Int) (x : α) : Res (List α) := match ixN xs.length i with
  | some j => .ok (xs.set j x)
  | none => .stuck
theorem st_setitem {te ti : TE} {i : Nat} {m : Res α} {mi : Res Int} {xs : List α} {f : List α → Res β} (C : SC β c B G0 H0 W P S) (E : EnvR B G0 H0 G H σ ρ) (s : S ρ) (hi : ρ[i]? = some (.own (isL c xs))) (ev : Ev c W te ρ m) (evi : Ev c W ti ρ mi)
    (k : P ((m.bind fun x => mi.bind fun j => setR xs j x).bind f)) (nx : ∀ xs' G' H', EnvR B G0 H0 G' H' σ (ρ.set i (.own (isL c xs'))) → P (f xs') → D.nx σ H') : tAsg te (gSub (tVar i) ti rSetL) D σ H := by
  have k : P (m.bind fun x => mi.bind fun j => (setR xs j x).bind f) := by simp only [bind_assoc] at k; exact k
  refine ev.st C E s k fun x v G1 H1 _ E1 r1 k1 => ?_
  obtain ⟨p, vs, h1, h2, h3, h4, h5⟩ := E1.ownL hi
  refine ⟨_, h1, evi.st C E1 s k1 fun j u G2 H2 l2 E2 r2 k2 => ?_⟩
  obtain ⟨p', vs', h1', h2', h3', h4', h5'⟩ := E2.ownL hi
  rw [h1] at h1'
  cases h1'
  have r2 : u = .int j := r2
  subst r2
  unfold setR at k2
  cases hc : ixN xs.length j with
  | none =>
    rw [hc] at k2
    exact (C.stuck k2).elim
  | some n =>
    rw [hc] at k2
    have e : vs'.length = xs.length := Reps.length (show Reps c G2 vs' xs from h5')
    refine ⟨p, vs', j, n, rfl, rfl, h4', by rw [e]; exact hc, nx _ G2 _ (E2.write hi h1 ⟨_, rfl, Reps.set n h5' (Py.mono l2.g r1)⟩) k2⟩
/-! ### loops -/
theorem st_while {τ : Type} {tc : TT} {tb : TS} {ρL : τ → List Sl} {n : Nat} {s0 : τ} {mc : τ → Res Bool} {body : τ → (τ → Res β) → Res β} {rest : τ → Res β} (C : SC β c B G0 H0 W P S) (hS : ∀ s, S (ρL s)) (E : EnvR B G0 H0 G H σ (ρL s0))
    (ev : ∀ s, EvT c W tc (ρL s) (mc s)) (k : P (whileK (fun s k => (mc s).bind fun b => if b = true then body s k else rest s) n s0))
    (hb : ∀ s G' H' σ' (N : τ → Res β) (Nx : L2.St → Hp → Prop), EnvR B G0 H0 G' H' σ' (ρL s) → P (body s N) → (∀ s' G' H' σ', EnvR B G0 H0 G' H' σ' (ρL s') → P (N s') → Nx σ' H') → tb { D with nx := Nx, ct := Nx, bk := D.nx } σ' H')
    (hd : ∀ s G' H' σ', EnvR B G0 H0 G' H' σ' (ρL s) → P (rest s) → D.nx σ' H') : tWhile tc tb D σ H := by
  refine ⟨fun m σ H => ∃ s G, EnvR B G0 H0 G H σ (ρL s) ∧ P (whileK (fun s k => (mc s).bind fun b => if b = true then body s k else rest s) m s), ⟨n, s0, G, E, k⟩, ?_⟩
  rintro m σ H ⟨s, G, E, k⟩
  cases m with
  | zero => exact (C.stuck k).elim
  | succ m =>
    refine EvT.st (ev s) C E (hS s) k fun b G' H' E' k' => ?_
    cases b with
    | true => exact ⟨_, fun σ' H' h => ⟨m, Nat.lt_succ_self m, h⟩, hb s G' H' σ _ _ E' k' fun s' G' H' σ' E2 k2 => ⟨s', G', E2, k2⟩⟩
    | false => exact hd s G' H' σ E' k'
theorem drop_cons {α : Type} {l : List α} {i : Nat} {x : α} (h : l[i]? = some x) : l.drop i = x :: l.drop (i + 1) := by
  obtain ⟨hl, e⟩ := List.getElem?_eq_some_iff.mp h
  rw [List.drop_eq_getElem_cons hl, e]
theorem st_forL {K : PySem.W.Frag} {τ : Type} {tl : TE} {tb : TS} {i : Nat} {ρL : τ → List Sl} {s0 : τ} {m : Res (List α)} {step : α → τ → (τ → Res β) → Res β} {rest : τ → Res β} (C : SC β c B G0 H0 W P S) (E : EnvR B G0 H0 G H σ ρ) (sr : S ρ)
    (ev : Ev c W tl ρ m) (k : P (m.bind fun xs => forK step rest xs s0)) (w : Wk ρ (ρL s0))
    (hb : ∀ x s B' G' H' σ' (N : τ → Res β) (Nx : L2.St → Hp → Prop), SC β c B' G0 H0 W P S → EnvR B' G0 H0 G' H' σ' ((ρL s).set i (.val (is c x))) → P (step x s N) → (∀ s' G' H' σ', EnvR B' G0 H0 G' H' σ' (ρL s') → P (N s') → Nx σ' H') → tb { D with nx := Nx, ct := Nx, bk := D.nx } σ' H')
    (hd : ∀ s G' H' σ', EnvR B G0 H0 G' H' σ' (ρL s) → P (rest s) → D.nx σ' H') : tFor (iList K tl) (gName i) tb D σ H := by
  refine ev.st C E sr k fun xs v G1 H1 _ E1 r1 k1 => ?_
  obtain ⟨a, vs, rfl, h1, h2⟩ := r1
  refine ⟨a, rfl, ⟨vs, SqL.of (E1.le.gh _ _ h1)⟩, for_list (K := K) (a := a) (xs := vs) (fun i σ H => ∃ s G, EnvR G1 G0 H0 G H σ (ρL s) ∧ P (forK step rest (xs.drop i) s)) ⟨s0, G1, (E1.wk w).base, k1⟩ ?_ ?_ ?_⟩
  · rintro i σ H _ ⟨s, G, E, _⟩
    exact SqL.of (E.le.gh _ _ (E.b _ _ h1))
  · rintro i v σ H hv ⟨s, G, E, k⟩
    obtain ⟨x, hx, rx⟩ := h2.get hv
    rw [drop_cons hx] at k
    exact hb x s G1 G H _ _ _ (C.reb E1.b) (E.setVal (Py.mono E.b rx)) k fun s' G' H' σ' E2 k2 => ⟨s', G', E2, k2⟩
  · rintro σ H ⟨s, G, E, k⟩
    rw [h2.length, List.drop_length] at k
    exact hd s G H σ (E.reb E1.b) k
theorem st_forT {K : PySem.W.Frag} (hK : c.K = K) {τ : Type} {tl : TE} {tb : TS} {i : Nat} {ρL : τ → List Sl} {s0 : τ} {m : Res (Tp α)} {step : α → τ → (τ → Res β) → Res β} {rest : τ → Res β} (C : SC β c B G0 H0 W P S) (E : EnvR B G0 H0 G H σ ρ) (sr : S ρ)
    (ev : Ev c W tl ρ m) (k : P (m.bind fun xs => forK step rest xs.l s0)) (w : Wk ρ (ρL s0))
    (hb : ∀ x s B' G' H' σ' (N : τ → Res β) (Nx : L2.St → Hp → Prop), SC β c B' G0 H0 W P S → EnvR B' G0 H0 G' H' σ' ((ρL s).set i (.val (is c x))) → P (step x s N) → (∀ s' G' H' σ', EnvR B' G0 H0 G' H' σ' (ρL s') → P (N s') → Nx σ' H') → tb { D with nx := Nx, ct := Nx, bk := D.nx } σ' H')
    (hd : ∀ s G' H' σ', EnvR B G0 H0 G' H' σ' (ρL s) → P (rest s) → D.nx σ' H') : tFor (iTup K tl) (gName i) tb D σ H := by
  subst hK
  refine ev.st C E sr k fun xs v G1 H1 _ E1 r1 k1 => ?_
  obtain ⟨a, vs, rfl, h1, h2⟩ := r1
  refine ⟨a, rfl, ⟨vs, SqT.of (E1.le.gh _ _ h1)⟩, for_tup (K := c.K) (a := a) (xs := vs) (fun i σ H => ∃ s G, EnvR G1 G0 H0 G H σ (ρL s) ∧ P (forK step rest (xs.l.drop i) s)) ⟨s0, G1, (E1.wk w).base, k1⟩ ?_ ?_ ?_⟩
  · rintro i σ H _ ⟨s, G, E, _⟩
    exact SqT.of ((E.b.trans E.le.gh) _ _ h1)
  · rintro i v σ H hv ⟨s, G, E, k⟩
    obtain ⟨x, hx, rx⟩ := h2.get hv
    rw [drop_cons hx] at k
    exact hb x s G1 G H _ _ _ (C.reb E1.b) (E.setVal (Py.mono E.b rx)) k fun s' G' H' σ' E2 k2 => ⟨s', G', E2, k2⟩
  · rintro σ H ⟨s, G, E, k⟩
    rw [h2.length, List.drop_length] at k
    exact hd s G H σ (E.reb E1.b) k
theorem rng_core {τ : Type} {tb : TS} {i : Nat} {ρL : τ → List Sl} {s0 : τ} {lo : Int} {n : Nat} {step : Int → τ → (τ → Res β) → Res β} {rest : τ → Res β} (E : EnvR B G0 H0 G H σ (ρL s0)) (k : P (forK step rest (upFrom lo n) s0))
    (hb : ∀ x s G' H' σ' (N : τ → Res β) (Nx : L2.St → Hp → Prop), EnvR B G0 H0 G' H' σ' ((ρL s).set i (.val (is c x))) → P (step x s N) → (∀ s' G' H' σ', EnvR B G0 H0 G' H' σ' (ρL s') → P (N s') → Nx σ' H') → tb { D with nx := Nx, ct := Nx, bk := D.nx } σ' H')
    (hd : ∀ s G' H' σ', EnvR B G0 H0 G' H' σ' (ρL s) → P (rest s) → D.nx σ' H') :
    ∃ W : Nat → Nat → L2.St → Hp → Prop, (∃ m, W 0 m σ H) ∧ ∀ i' m σ H, W i' m σ H →
      ((Itr lo n).stop i' H ∧ D.nx σ H) ∨ ((Itr lo n).go i' H ∧ ∃ N : L2.St → Hp → Prop, (∀ σ' H', N σ' H' → ∃ m', m' < m ∧ W (i' + 1) m' σ' H') ∧ ∀ x H', (Itr lo n).yld i' H x H' → gName i x σ H' fun σ2 H2 => tb { D with nx := N, ct := N, bk := D.nx } σ2 H2) := by
  refine for_range (lo := lo) (n := n) (fun i σ H => ∃ s G, EnvR B G0 H0 G H σ (ρL s) ∧ P (forK step rest ((upFrom lo n).drop i) s)) ⟨s0, G, E, k⟩ ?_ ?_
  · rintro i σ H hi ⟨s, G, E, k⟩
    rw [drop_cons (upFrom_get lo n i hi)] at k
    exact hb _ s G H _ _ _ (E.setVal rfl) k fun s' G' H' σ' E2 k2 => ⟨s', G', E2, k2⟩
  · rintro σ H ⟨s, G, E, k⟩
    rw [List.drop_of_length_le (by rw [upFrom_length]; exact Nat.le_refl _)] at k
    exact hd s G H σ E k
theorem rngOk_iff {lo hi : Int} (h : rngOk lo hi = true) : -(2 ^ 62) ≤ lo ∧ lo < 2 ^ 62 ∧ -(2 ^ 62) ≤ hi ∧ hi < 2 ^ 62 := by
  unfold rngOk at h
  rw [Bool.and_eq_true] at h
  have h1 := blt_lt h.1
  have h2 := blt_lt h.2
  omega
theorem rngR_cases {lo hi : Int} {f : List Int → Res β} (C : SC β c B G0 H0 W P S) (k : P ((rngR lo hi).bind f)) : (-(2 ^ 62) ≤ lo ∧ lo < 2 ^ 62 ∧ -(2 ^ 62) ≤ hi ∧ hi < 2 ^ 62) ∧ P (f (upFrom lo (hi - lo).toNat)) := by
  unfold rngR at k
  cases h : rngOk lo hi with
  | false =>
    rw [h] at k
    exact (C.stuck k).elim
  | true =>
    rw [h] at k
    exact ⟨rngOk_iff h, k⟩
/-- for i in range(e) -/
theorem st_for1 {τ : Type} {te : TE} {tb : TS} {i : Nat} {ρL : τ → List Sl} {s0 : τ} {m : Res Int} {step : Int → τ → (τ → Res β) → Res β} {rest : τ → Res β} (C : SC β c B G0 H0 W P S) (E : EnvR B G0 H0 G H σ ρ) (sr : S ρ)
    (ev : Ev c W te ρ m) (k : P (m.bind fun n => (rngR 0 n).bind fun xs => forK step rest xs s0)) (w : Wk ρ (ρL s0))
    (hb : ∀ x s G' H' σ' (N : τ → Res β) (Nx : L2.St → Hp → Prop), EnvR B G0 H0 G' H' σ' ((ρL s).set i (.val (is c x))) → P (step x s N) → (∀ s' G' H' σ', EnvR B G0 H0 G' H' σ' (ρL s') → P (N s') → Nx σ' H') → tb { D with nx := Nx, ct := Nx, bk := D.nx } σ' H')
    (hd : ∀ s G' H' σ', EnvR B G0 H0 G' H' σ' (ρL s) → P (rest s) → D.nx σ' H') : tFor (iRng1 (tCons te tNil)) (gName i) tb D σ H := by
  refine ev.st C E sr k fun n v G1 H1 _ E1 r1 k1 => ?_
  obtain ⟨⟨_, _, b3, b4⟩, k2⟩ := rngR_cases C k1
  have r1 : v = .int n := r1
  subst r1
  have e : (n - 0).toNat = n.toNat := by rw [Int.sub_zero]
  rw [e] at k2
  exact ⟨n, rfl, b3, b4, rng_core (E1.wk w) k2 hb hd⟩
/-- for i in range(e, f) -/
theorem st_for2 {τ : Type} {te tf : TE} {tb : TS} {i : Nat} {ρL : τ → List Sl} {s0 : τ} {m1 m2 : Res Int} {step : Int → τ → (τ → Res β) → Res β} {rest : τ → Res β} (C : SC β c B G0 H0 W P S) (E : EnvR B G0 H0 G H σ ρ) (sr : S ρ)
    (ev : Ev c W te ρ m1) (ev2 : Ev c W tf ρ m2) (k : P (m1.bind fun a => m2.bind fun b => (rngR a b).bind fun xs => forK step rest xs s0)) (w : Wk ρ (ρL s0))
    (hb : ∀ x s G' H' σ' (N : τ → Res β) (Nx : L2.St → Hp → Prop), EnvR B G0 H0 G' H' σ' ((ρL s).set i (.val (is c x))) → P (step x s N) → (∀ s' G' H' σ', EnvR B G0 H0 G' H' σ' (ρL s') → P (N s') → Nx σ' H') → tb { D with nx := Nx, ct := Nx, bk := D.nx } σ' H')
    (hd : ∀ s G' H' σ', EnvR B G0 H0 G' H' σ' (ρL s) → P (rest s) → D.nx σ' H') : tFor (iRng2 (tCons te (tCons tf tNil))) (gName i) tb D σ H := by
  refine ev.st C E sr k fun a v G1 H1 _ E1 r1 k1 => ev2.st C E1 sr k1 fun b u G2 H2 _ E2 r2 k2 => ?_
  obtain ⟨bs, k3⟩ := rngR_cases C k2
  have r1 : v = .int a := r1
  have r2 : u = .int b := r2
  subst r1 r2
  exact ⟨a, b, rfl, bs, rng_core (E2.wk w) k3 hb hd⟩
/-- two ways that meet -/
theorem st_jn {τ : Type} {ρL : τ → List Sl} {rest : τ → Res β} {body : (τ → Res β) → Res β} {t : TT} {ta tb : TS} (C : SC β c B G0 H0 W P S) (k : P (jn rest body))
    (hb : ∀ kk : τ → Res β, (∀ z G' H' σ', EnvR B G0 H0 G' H' σ' (ρL z) → P (kk z) → D.nx σ' H') → P (body kk) → tIfS t ta tb D σ H) (hd : ∀ z G' H' σ', EnvR B G0 H0 G' H' σ' (ρL z) → P (rest z) → D.nx σ' H') : tIfS t ta tb D σ H := hb rest hd k
/-! ### raise, try -/
theorem st_raise {e : Exn} {Cl : Addr} (C : SC β c B G0 H0 W P S) (E : EnvR B G0 H0 G H σ ρ) (s : S ρ) (hC : c.T e = Cl) (k : P (.raise e)) : W (.ref Cl) none σ H := by
  subst hC
  exact C.raise e k ρ G H σ s E
def tryK {s β : Type} (body : Res s) (hd : Exn → Option (Res s)) (rest : s → Res β) : Res β := match body with
  | .ok x => rest x
  | .raise e => (match hd e with
    | some m => m.bind rest
    | none => .raise e)
  | .stuck => .stuck
theorem st_try1 {τ : Type} {K : PySem.W.Frag} {cv : Value} {ts : Addr → Value → Option Addr → TS} {tb : WX → TS} {ρT : List Sl} {ex : Exn} {body h : Res τ} {rest : τ → Res β} (C : SC β c B G0 H0 W P S) (sT : S ρT)
    (hm : ∀ e, PySem.W.exmOne K (.ref (c.T e)) cv = some (e.sub ex)) (k : P (tryK body (fun e => if e.sub ex = true then some h else none) rest))
    (hbody : SC τ c B G0 H0 (wOnly K cv ts W D) (fun m => P (tryK m (fun e => if e.sub ex = true then some h else none) rest)) (fun ρ => Wk ρ ρT) → tb (wOnly K cv ts W D) D σ H)
    (hsuite : ∀ a cls d G' H' σ', EnvR B G0 H0 G' H' σ' ρT → P (h.bind rest) → ts a cls d D σ' H') : (fun D σ H => tb (wOnly K cv ts W D) D σ H) D σ H := by
  refine hbody ⟨fun q => C.stuck q, fun e q ρ G H σ w E => ?_⟩
  refine ⟨e.sub ex, hm e, fun hb a _ => ?_, fun hb => ?_⟩
  · have q : P (match (if e.sub ex = true then some h else none) with | some m => m.bind rest | none => .raise e) := q
    rw [if_pos hb] at q
    exact hsuite a _ _ G H σ (E.wk w) q
  · have q : P (match (if e.sub ex = true then some h else none) with | some m => m.bind rest | none => .raise e) := q
    rw [hb, if_neg Bool.false_ne_true] at q
    exact C.raise e q ρT G H σ sT (E.wk w)
end

/-! ### == -/
class Dat (α : Type) [Py α] where
  enc : α → PyData
  dep : Nat
  dp : ∀ {c : Cfg} {F : Hp} {v : V} {x : α}, Py.rep c F v x → Dp c.K F v (enc x)
  lay : ∀ x : α, (enc x).canLay0 = true
  dph : ∀ x : α, (enc x).depth ≤ dep
def deq {α β : Type} [Py α] [Py β] [Dat α] [Dat β] (x : α) (y : β) : Bool := PyData.eqv (Dat.enc x) (Dat.enc y)
mutual
theorem dp_mono {K : PySem.W.Frag} {F F' : Hp} (e : Same F F') : ∀ (d : PyData) (v : V), Dp K F v d → Dp K F' v d
  | .none, _, h => by cases h; exact .non
  | .bool b, _, h => by cases h; exact .bl b
  | .int i, _, h => by cases h; exact .int i
  | .str x, _, h => by cases h; exact .str x
  | .list ds, _, h => by
    cases h with
    | lst h1 h2 => exact .lst (e.seq h1) (dpAll_mono e ds _ h2)
  | .tuple ds, _, h => by
    cases h with
    | tup h1 h2 => exact .tup (same_t e h1) (dpAll_mono e ds _ h2)
  | .dict _, _, h => by cases h
theorem dpAll_mono {K : PySem.W.Frag} {F F' : Hp} (e : Same F F') : ∀ (ds : List PyData) (vs : List V), DpAll K F vs ds → DpAll K F' vs ds
  | [], _, h => by cases h; exact .nil
  | d :: ds, _, h => by
    cases h with
    | cons h1 h2 => exact .cons (dp_mono e d _ h1) (dpAll_mono e ds _ h2)
end
instance : Dat Int := ⟨fun i => .int i, 0, fun {c F v x} h => by have h : v = .int x := h; subst h; exact .int x, fun _ => by simp [PyData.canLay0], fun _ => by simp [PyData.depth]⟩
instance : Dat Bool := ⟨fun i => .bool i, 0, fun {c F v x} h => by have h : v = .bl x := h; subst h; exact .bl x, fun _ => by simp [PyData.canLay0], fun _ => by simp [PyData.depth]⟩
instance : Dat Unit := ⟨fun _ => .none, 0, fun {c F v x} h => by have h : v = .non := h; subst h; exact .non, fun _ => by simp [PyData.canLay0], fun _ => by simp [PyData.depth]⟩
instance {α : Type} [Py α] [Dat α] : Dat (Option α) := ⟨fun o => match o with | none => .none | some x => Dat.enc x, Dat.dep α, fun {c F v x} h => by
    cases x with
    | none => have h : v = .non := h; subst h; exact .non
    | some x => exact Dat.dp h, fun o => by
    cases o with
    | none => simp [PyData.canLay0]
    | some x => exact Dat.lay x, fun o => by
    cases o with
    | none => simp [PyData.depth]
    | some x => exact Dat.dph x⟩
instance {α β : Type} [Py α] [Py β] [Dat α] [Dat β] : Dat (α × β) := ⟨fun x => .tuple [Dat.enc x.1, Dat.enc x.2], max (Dat.dep α) (Dat.dep β) + 1, fun {c F v x} h => by
    obtain ⟨a, u, w, rfl, h1, h2, h3⟩ := h
    exact .tup (SqT.of h1) (.cons (Dat.dp h2) (.cons (Dat.dp h3) .nil)), fun x => by simp [PyData.canLay0, PyData.canLayAll0, Dat.lay], fun x => by
    have h1 := Dat.dph x.1
    have h2 := Dat.dph x.2
    simp only [PyData.depth, PyData.depthAll]
    omega⟩
instance {α β γ : Type} [Py α] [Py β] [Py γ] [Dat α] [Dat β] [Dat γ] : Dat (T3 α β γ) := ⟨fun x => .tuple [Dat.enc x.a, Dat.enc x.b, Dat.enc x.d], max (Dat.dep α) (max (Dat.dep β) (Dat.dep γ)) + 1, fun {c F v x} h => by
    obtain ⟨a, u, w, z, rfl, h1, h2, h3, h4⟩ := h
    exact .tup (SqT.of h1) (.cons (Dat.dp h2) (.cons (Dat.dp h3) (.cons (Dat.dp h4) .nil))), fun x => by simp [PyData.canLay0, PyData.canLayAll0, Dat.lay], fun x => by
    have h1 := Dat.dph x.a
    have h2 := Dat.dph x.b
    have h3 := Dat.dph x.d
    simp only [PyData.depth, PyData.depthAll]
    omega⟩
theorem reps_dp {α : Type} [Py α] [Dat α] {c : Cfg} {F : Hp} : ∀ {vs : List V} {xs : List α}, Reps c F vs xs → DpAll c.K F vs (xs.map Dat.enc)
  | [], [], _ => .nil
  | _ :: _, _ :: _, h => .cons (Dat.dp h.1) (reps_dp h.2)
  | [], _ :: _, h => h.elim
  | _ :: _, [], h => h.elim
theorem layAll {α : Type} [Py α] [Dat α] : ∀ xs : List α, PyData.canLayAll0 (xs.map Dat.enc) = true
  | [] => by simp [PyData.canLayAll0]
  | x :: xs => by simp [PyData.canLayAll0, Dat.lay, layAll xs]
theorem depAll {α : Type} [Py α] [Dat α] : ∀ xs : List α, PyData.depthAll (xs.map Dat.enc) ≤ Dat.dep α
  | [] => by simp [PyData.depthAll]
  | x :: xs => by
    have h1 := Dat.dph x
    have h2 := depAll xs
    simp only [List.map_cons, PyData.depthAll]
    omega
instance {α : Type} [Py α] [Dat α] : Dat (List α) := ⟨fun xs => .list (xs.map Dat.enc), Dat.dep α + 1, fun {c F v x} h => by
    obtain ⟨a, vs, rfl, h1, h2⟩ := h
    exact .lst (SqL.of h1) (reps_dp h2), fun x => by simp [PyData.canLay0, layAll], fun x => by
    have := depAll x
    simp only [PyData.depth]
    omega⟩
instance {α : Type} [Py α] [Dat α] : Dat (Tp α) := ⟨fun xs => .tuple (xs.l.map Dat.enc), Dat.dep α + 1, fun {c F v x} h => by
    obtain ⟨a, vs, rfl, h1, h2⟩ := h
    exact .tup (SqT.of h1) (reps_dp h2), fun x => by simp [PyData.canLay0, layAll], fun x => by
    have := depAll x.l
    simp only [PyData.depth]
    omega⟩
theorem dat_shaped {α : Type} [Py α] [Dat α] (x : α) (h : Dat.dep α ≤ 64) : SeqAt.shaped (Dat.enc x) = true := by
  unfold SeqAt.shaped
  rw [Dat.lay, Bool.true_and]
  exact decide_eq_true (Nat.le_trans (Dat.dph x) h)
section
variable {c : Cfg} {W : WX} {ρ : List Sl} {α β γ : Type} [Py α] [Py β] [Py γ]
theorem os_eq {K : PySem.W.Frag} (hK : c.K = K) [Dat α] [Dat β] (h1 : Dat.dep α ≤ 64 := by decide) (h2 : Dat.dep β ≤ 64 := by decide) : OpS c (rEqD K) (fun (x : α) (y : β) => .ok (deq x y)) := fun _ x y v u G H Q e hv hu p => by
  subst hK
  exact ⟨_, _, dp_mono e _ _ (Dat.dp hv), dp_mono e _ _ (Dat.dp hu), dat_shaped x h1, dat_shaped y h2, p _ _ _ (Le.refl e) rfl⟩
theorem os_ne {K : PySem.W.Frag} (hK : c.K = K) [Dat α] [Dat β] (h1 : Dat.dep α ≤ 64 := by decide) (h2 : Dat.dep β ≤ 64 := by decide) : OpS c (rNeD K) (fun (x : α) (y : β) => .ok (!deq x y)) := fun _ x y v u G H Q e hv hu p => by
  subst hK
  exact ⟨_, _, dp_mono e _ _ (Dat.dp hv), dp_mono e _ _ (Dat.dp hu), dat_shaped x h1, dat_shaped y h2, p _ _ _ (Le.refl e) rfl⟩
theorem os_eqI : OpS c rEq (fun (x y : Int) => .ok (decide (x = y))) := fun _ x y v u G H Q e hv hu p => by
  subst hv hu
  refine ⟨rfl, ?_⟩
  rw [dec_int, Bool.beq_eq_decide_eq]
  exact p _ _ _ (Le.refl e) rfl
theorem os_neI : OpS c rNe (fun (x y : Int) => .ok (!decide (x = y))) := fun _ x y v u G H Q e hv hu p => by
  subst hv hu
  refine ⟨rfl, ?_⟩
  rw [dec_int, Bool.beq_eq_decide_eq]
  exact p _ _ _ (Le.refl e) rfl
end
/-! ### isinstance -/
structure TyN where
  n : String
instance : Py TyN := ⟨fun _ _ v x => v = .ty x.n, fun _ h => h⟩
class Ty (α : Type) [Py α] where
  ty : α → String
  ok : ∀ {c : Cfg} {F : Hp} {v : V} {x : α}, Py.rep c F v x → TyX c.K F v (.type (ty x))
theorem sqT_ty {K : PySem.W.Frag} {F : Hp} {a : Addr} {xs : List V} (h : SqT K F a xs) : TyX K F (.ref a) (.type "tuple") := by
  rcases h with (h | ⟨o, h⟩) | h
  · exact .base (.tup h)
  · exact .fTuple h
  · obtain ⟨o, its, n, h1, h2, _⟩ := h
    exact .kTuple h1 h2
instance : Ty Int := ⟨fun _ => "int", fun {c F v x} h => by have h : v = .int x := h; subst h; exact .base (.int x)⟩
instance : Ty Bool := ⟨fun _ => "bool", fun {c F v x} h => by have h : v = .bl x := h; subst h; exact .base (.bl x)⟩
instance : Ty Str := ⟨fun _ => "str", fun {c F v x} h => by have h : v = .str x := h; subst h; exact .base (.str x)⟩
instance : Ty Unit := ⟨fun _ => "NoneType", fun {c F v x} h => by have h : v = .non := h; subst h; exact .base .non⟩
instance {α : Type} [Py α] [Ty α] : Ty (Option α) := ⟨fun o => match o with | none => "NoneType" | some x => Ty.ty x, fun {c F v x} h => by
    cases x with
    | none => have h : v = .non := h; subst h; exact .base .non
    | some x => exact Ty.ok (x := x) h⟩
instance {α β : Type} [Py α] [Py β] : Ty (α × β) := ⟨fun _ => "tuple", fun {c F v x} h => by
    obtain ⟨a, u, w, rfl, h1, _⟩ := h
    exact sqT_ty (SqT.of h1)⟩
instance {α β γ : Type} [Py α] [Py β] [Py γ] : Ty (T3 α β γ) := ⟨fun _ => "tuple", fun {c F v x} h => by
    obtain ⟨a, u, w, z, rfl, h1, _⟩ := h
    exact sqT_ty (SqT.of h1)⟩
instance {α : Type} [Py α] : Ty (Tp α) := ⟨fun _ => "tuple", fun {c F v x} h => by
    obtain ⟨a, u, rfl, h1, _⟩ := h
    exact sqT_ty (SqT.of h1)⟩
instance {α : Type} [Py α] : Ty (List α) := ⟨fun _ => "list", fun {c F v x} h => by
    obtain ⟨a, u, rfl, h1, _⟩ := h
    exact .base (.lst h1)⟩
theorem tyX_mono {K : PySem.W.Frag} {F F' : Hp} (e : Same F F') {v : V} {t : Value} (h : TyX K F v t) : TyX K F' v t := by
  cases h with
  | base h =>
    refine .base ?_
    cases h with
    | non => exact .non
    | bl b => exact .bl b
    | int i => exact .int i
    | str x => exact .str x
    | flt x => exact .flt x
    | lst q => exact .lst (e _ _ q)
    | frz q => exact .frz (e _ _ q)
    | tup q => exact .tup (e _ _ q)
    | dK q => exact .dK (e _ _ q)
    | dT q => exact .dT (e _ _ q)
    | ins q a b d f g => exact .ins (e _ _ q) a b d f g
  | byt b => exact .byt b
  | set q => exact .set (e _ _ q)
  | kList a b => exact .kList a b
  | kTuple a b => exact .kTuple a b
  | kDict a b => exact .kDict a b
  | fTuple q => exact .fTuple (e _ _ q)
  | fDict q => exact .fDict (e _ _ q)
def isiR (a b : String) : Res Bool := match kitB a b with
  | some r => .ok r
  | none => .stuck
theorem cs_isi {c : Cfg} {K : PySem.W.Frag} (hK : c.K = K) {α : Type} [Py α] [Ty α] : CaS c (rIsi K) (fun x : α × TyN × Unit => isiR (Ty.ty x.1) x.2.1.n) := fun _ x vs G H Q e r p => by
  obtain ⟨v, r, h, h1, u, r2, h2, h3, h4⟩ := r
  subst h h2 h4 hK
  have h3 : u = .ty x.2.1.n := h3
  subst h3
  have p := (show Post c G H Q _ (isiR (Ty.ty x.1) x.2.1.n) from p)
  unfold isiR at p
  cases q : kitB (Ty.ty x.1) x.2.1.n with
  | none =>
    rw [q] at p
    exact p.elim
  | some b =>
    rw [q] at p
    exact ⟨v, _, _, _, b, rfl, .ty _, tyX_mono e (Ty.ok h1), kit_ty q, p _ _ _ (Le.refl e) rfl⟩

/-! ### what is read of a list that is still filled -/
def tups (F : Hp) : Hp := fun a => match F a with
  | some (.tup xs) => some (.tup xs)
  | some (.frz o (.tup xs)) => some (.frz o (.tup xs))
  | _ => none
theorem tups_t {F : Hp} {a : Addr} {xs : List V} (h : F a = some (.tup xs)) : tups F a = some (.tup xs) := by unfold tups; rw [h]
theorem tups_f {F : Hp} {a : Addr} {o : Obj} {xs : List V} (h : F a = some (.frz o (.tup xs))) : tups F a = some (.frz o (.tup xs)) := by unfold tups; rw [h]
theorem tups_same (F : Hp) : Same (tups F) F := fun a u e => by
  unfold tups at e
  split at e
  · rename_i h; rw [h]; exact e
  · rename_i h; rw [h]; exact e
  · cases e
theorem tups_lst {F : Hp} {a : Addr} {xs : List V} (h : F a = some (.lst xs)) : tups F a = none := by unfold tups; rw [h]
theorem tups_sq {K : PySem.W.Frag} {F : Hp} {a : Addr} {xs : List V} (h : SqT K F a xs) : SqT K (tups F) a xs := by
  rcases h with (h | ⟨o, h⟩) | h
  · exact .inl (.inl (tups_t h))
  · exact .inl (.inr ⟨o, tups_f h⟩)
  · exact .inr h
/-- values that nobody can change -/
class Imm (α : Type) [Py α] : Prop where
  imm : ∀ {c : Cfg} {F : Hp} {v : V} {x : α}, Py.rep c F v x → Py.rep c (tups F) v x
instance : Imm Int := ⟨fun h => h⟩
instance : Imm Bool := ⟨fun h => h⟩
instance : Imm Unit := ⟨fun h => h⟩
instance : Imm Str := ⟨fun h => h⟩
instance : Imm TyN := ⟨fun h => h⟩
instance {α : Type} [Py α] [Imm α] : Imm (Option α) := ⟨fun {c F v x} h => by
  cases x with
  | none => exact h
  | some x => exact Imm.imm (x := x) h⟩
instance {α β : Type} [Py α] [Py β] [Imm α] [Imm β] : Imm (α × β) := ⟨fun ⟨a, u, w, h, h1, h2, h3⟩ => ⟨a, u, w, h, tups_t h1, Imm.imm h2, Imm.imm h3⟩⟩
instance {α β γ : Type} [Py α] [Py β] [Py γ] [Imm α] [Imm β] [Imm γ] : Imm (T3 α β γ) := ⟨fun ⟨a, u, w, z, h, h1, h2, h3, h4⟩ => ⟨a, u, w, z, h, tups_t h1, Imm.imm h2, Imm.imm h3, Imm.imm h4⟩⟩
theorem reps_imm {α : Type} [Py α] [Imm α] {c : Cfg} {F : Hp} : ∀ {vs : List V} {xs : List α}, Reps c F vs xs → Reps c (tups F) vs xs
  | [], [], _ => trivial
  | _ :: _, _ :: _, h => ⟨Imm.imm h.1, reps_imm h.2⟩
  | [], _ :: _, h => h.elim
  | _ :: _, [], h => h.elim
instance {α : Type} [Py α] [Imm α] : Imm (Tp α) := ⟨fun ⟨a, vs, h, h1, h2⟩ => ⟨a, vs, h, tups_t h1, reps_imm h2⟩⟩
/-- both -/
def join (G F : Hp) : Hp := fun a => match G a with
  | some o => some o
  | none => F a
theorem join_l (G F : Hp) : Same G (join G F) := fun a u e => by unfold join; rw [e]
theorem join_r {G F H : Hp} (h1 : Same G H) (h2 : Same F H) : Same F (join G F) := fun a u e => by
  unfold join
  cases q : G a with
  | none => exact e
  | some o =>
    have z1 := h1 a o q
    have z2 := h2 a u e
    rw [z1] at z2
    exact z2
theorem join_le {G F H : Hp} (h1 : Same G H) (h2 : Same F H) : Same (join G F) H := fun a u e => by
  unfold join at e
  cases q : G a with
  | none => rw [q] at e; exact h2 a u e
  | some o => rw [q] at e; cases e; exact h1 a _ q
/-- behind a look that knew the list at p to stay -/
theorem Le.back {G H G' H' : Hp} {p : Addr} {vs : List V} (l : Le (upd G p (.lst vs)) H G' H') (e0 : Same G H) (hp : G p = none) (hH : H p = some (.lst vs)) : Le G H (join G (tups G')) H' := by
  have gG' : Same G G' := (same_new hp).trans l.g
  have s1 : Same G H' := gG'.trans l.gh
  have s2 : Same (tups G') H' := (tups_same G').trans l.gh
  refine ⟨e0, join_l _ _, l.h, join_le s1 s2, fun a q => ?_⟩
  unfold join at q
  cases e : G a with
  | some o => exact .inl (by simp)
  | none =>
    rw [e] at q
    have q : tups G' a ≠ none := q
    have q2 : G' a ≠ none := fun z => q (by unfold tups; rw [z])
    rcases l.nw a q2 with z | z
    · by_cases ha : a = p
      · subst ha
        have := l.g a _ upd_same
        exact absurd (tups_lst this) q
      · rw [upd_ne ha] at z
        exact absurd e z
    · exact .inr z
theorem frz_l {c : Cfg} {α : Type} [Py α] {xs : List α} (F : Hp) (p : Addr) (o : HO) (a : F p = some o) (b : (isL c xs).p F p o) : (is c xs).p F (.ref p) := by
  obtain ⟨vs, rfl, r⟩ := b
  exact ⟨p, vs, rfl, a, r⟩
section
variable {c : Cfg} {W : WX} {ρ : List Sl} {α β : Type} [Py α] [Py β]
theorem ev_bor (i : Nat) {te : TE} {xs : List α} {m : Res β} [Imm β] (hi : ρ[i]? = some (.own (isL c xs))) (h : Ev c W te (ρ.set i (.val (is c xs))) m) : Ev c W te ρ m := ⟨fun {B G0 H0 G H σ} E Q p => by
  obtain ⟨q, _, h1, h2, ⟨vs, rfl, h3⟩, E'⟩ := E.freeze (Q := is c xs) hi frz_l
  refine h.run E' Q ?_
  cases m with
  | ok x => exact fun v G' H' l r => p v _ H' (l.back E.le.gh h2 h1) (Py.mono (join_r (((same_new h2).trans l.g).trans l.gh) ((tups_same G').trans l.gh)) (Imm.imm r))
  | raise e => exact fun G' H' l => p _ H' (l.back E.le.gh h2 h1)
  | stuck => exact p⟩
theorem et_bor (i : Nat) {te : TT} {xs : List α} {m : Res Bool} (hi : ρ[i]? = some (.own (isL c xs))) (h : EvT c W te (ρ.set i (.val (is c xs))) m) : EvT c W te ρ m := ⟨fun {B G0 H0 G H σ} E Q p => by
  obtain ⟨q, _, h1, h2, ⟨vs, rfl, h3⟩, E'⟩ := E.freeze (Q := is c xs) hi frz_l
  refine h.run E' Q ?_
  cases m with
  | ok x => exact fun G' H' l => p _ H' (l.back E.le.gh h2 h1)
  | raise e => exact fun G' H' l => p _ H' (l.back E.le.gh h2 h1)
  | stuck => exact p⟩
theorem el_bor (i : Nat) {te : TE} {xs : List α} {m : Res (List β)} [Imm β] (hi : ρ[i]? = some (.own (isL c xs))) (h : EvL c W te (ρ.set i (.val (is c xs))) m) : EvL c W te ρ m := ⟨fun {B G0 H0 G H σ} E Q p => by
  obtain ⟨q, _, h1, h2, ⟨vs, rfl, h3⟩, E'⟩ := E.freeze (Q := is c xs) hi frz_l
  refine h.run E' Q ?_
  cases m with
  | ok x =>
    refine fun q' us G' H' l a0 a1 a2 r => p q' us _ H' (l.back E.le.gh h2 h1) a0 ?_ a2 (Reps.mono (join_r (((same_new h2).trans l.g).trans l.gh) ((tups_same G').trans l.gh)) (reps_imm r))
    have g0 : G q' = none := E.le.gh.free a0
    unfold join
    rw [g0]
    exact (tups_same G').free a1
  | raise e => exact fun G' H' l => p _ H' (l.back E.le.gh h2 h1)
  | stuck => exact p⟩
end
/-- the list of a slot stays from now on -/
theorem st_freeze {c : Cfg} {α : Type} [Py α] {B G0 H0 G H : Hp} {σ : L2.St} {ρ : List Sl} (i : Nat) {xs : List α} (E : EnvR B G0 H0 G H σ ρ) (hi : ρ[i]? = some (.own (isL c xs))) {R : Prop} (k : ∀ G', EnvR B G0 H0 G' H σ (ρ.set i (.val (is c xs))) → R) : R := by
  obtain ⟨q, vs, h1, h2, h3, E'⟩ := E.freeze (Q := is c xs) hi frz_l
  exact k _ E'
/-! ### a def -/
theorem fn_mk {P : Program} {w : World} {mg : Str → Option Value} {base : Heap} {x qual : Str} {params : Arguments} {body : List Stmt} {scope : Scope} {f : Addr} {fd : FuncData} {N ps : List Str} {k n : Nat} {c : Cfg} {δ β : Type} [PyA δ] [Py β] {m : δ → Res β}
    (F : FunD c.K x qual params body scope [] [] f fd) (S : FnScope N ps scope) (hps : ps.length = PyA.n δ) (hN : N.length = PyA.n δ + n)
    (hbody : ∀ (cdv : Value) (A : Around) (outer : List Env) (s : Shared) (H : Hp) (E : XK), Room k (A.deeper (PyProof.Rows.envOfC qual scope s.heap.objs.size f cdv)) →
      Takes (cxOf (L2.CX P w) P w c.K mg base N qual scope f cdv A outer s H E) (fun cls d _ H => E cls d H) →
      PassesOwn (model P w) (A.deeper (PyProof.Rows.envOfC qual scope s.heap.objs.size f cdv)) (PyProof.Rows.envOfC qual scope s.heap.objs.size f cdv) (cxOf (L2.CX P w) P w c.K mg base N qual scope f cdv A outer s H E).xe →
      ∃ t, PSs (cxOf (L2.CX P w) P w c.K mg base N qual scope f cdv A outer s H E) body t ∧
        ∀ (G : Hp) (a : δ) (σ : L2.St) (Q : VK), EnvR G G H G H σ (PyA.sl c a ++ List.replicate n .no) → Post c G H Q E (m a) → t { nx := fun _ H' => Q .non H', rt := Q } σ H) :
    FnOk P w c.K mg base (L2.CX P w) (k + 1) f fd ps (PromS c m) := by
  refine FunD.ok F S (fun vs H Q E h => ?_) (fun cdv A outer s H vs Q E hr h => ?_)
  · obtain ⟨G, a, _, r, _⟩ := h
    rw [hps]
    exact PyA.len r
  · obtain ⟨t, ht, k⟩ := hbody cdv A outer s H E hr (takes_of rfl rfl rfl rfl) (passes_of (X := cxOf (L2.CX P w) P w c.K mg base N qual scope f cdv A outer s H E) rfl)
    obtain ⟨G, a, e, r, p⟩ := h
    exact ⟨t, ht, k G a _ Q (start_env e r hN) p⟩
theorem fn_mkL {P : Program} {w : World} {mg : Str → Option Value} {base : Heap} {x qual : Str} {params : Arguments} {body : List Stmt} {scope : Scope} {f : Addr} {fd : FuncData} {N ps : List Str} {k n : Nat} {c : Cfg} {δ β : Type} [PyA δ] [Py β] {m : δ → Res (List β)}
    (F : FunD c.K x qual params body scope [] [] f fd) (S : FnScope N ps scope) (hps : ps.length = PyA.n δ) (hN : N.length = PyA.n δ + n)
    (hbody : ∀ (cdv : Value) (A : Around) (outer : List Env) (s : Shared) (H : Hp) (E : XK), Room k (A.deeper (PyProof.Rows.envOfC qual scope s.heap.objs.size f cdv)) →
      Takes (cxOf (L2.CX P w) P w c.K mg base N qual scope f cdv A outer s H E) (fun cls d _ H => E cls d H) →
      PassesOwn (model P w) (A.deeper (PyProof.Rows.envOfC qual scope s.heap.objs.size f cdv)) (PyProof.Rows.envOfC qual scope s.heap.objs.size f cdv) (cxOf (L2.CX P w) P w c.K mg base N qual scope f cdv A outer s H E).xe →
      ∃ t, PSs (cxOf (L2.CX P w) P w c.K mg base N qual scope f cdv A outer s H E) body t ∧
        ∀ (G : Hp) (a : δ) (σ : L2.St) (Q : VK), EnvR G G H G H σ (PyA.sl c a ++ List.replicate n .no) → PostL c G H Q E (m a) → t { nx := fun _ H' => Q .non H', rt := Q } σ H) :
    FnOk P w c.K mg base (L2.CX P w) (k + 1) f fd ps (PromL c m) := by
  refine FunD.ok F S (fun vs H Q E h => ?_) (fun cdv A outer s H vs Q E hr h => ?_)
  · obtain ⟨G, a, _, r, _⟩ := h
    rw [hps]
    exact PyA.len r
  · obtain ⟨t, ht, k⟩ := hbody cdv A outer s H E hr (takes_of rfl rfl rfl rfl) (passes_of (X := cxOf (L2.CX P w) P w c.K mg base N qual scope f cdv A outer s H E) rfl)
    obtain ⟨G, a, e, r, p⟩ := h
    exact ⟨t, ht, k G a _ Q (start_env e r hN) p⟩
end CR

/-! Core4: comprehensions, slices, sums of lists, roads, methods, makings. -/
namespace CR
open PySem L2
abbrev W0 : WX := fun _ _ _ _ => False
def mapL {α β : Type} (f : α → Res β) (xs : List α) : Res (List β) := guard (decide (xs.length ≤ 16000000)) (mapR f xs)
def filtL {α β : Type} (p : α → Res Bool) (f : α → Res β) (xs : List α) : Res (List β) := guard (decide (xs.length ≤ 16000000)) (filtR p f xs)
theorem mapR_filtR {α β : Type} (f : α → Res β) : ∀ xs : List α, mapR f xs = filtR (fun _ => (Res.ok true).nr) f xs
  | [] => rfl
  | x :: xs => by
    rw [mapR, filtR, mapR_filtR f xs]
    rfl
theorem mapL_filtL {α β : Type} (f : α → Res β) (xs : List α) : mapL f xs = filtL (fun _ => (Res.ok true).nr) f xs := by
  unfold mapL filtL
  rw [mapR_filtR]
section
variable {c : Cfg} {W : WX} {ρ : List Sl} {B G0 H0 G H G1 H1 : Hp} {σ : L2.St} {α β γ : Type} [Py α] [Py β] [Py γ]
theorem Post.ofNr {E E' : XK} {Q : VK} {m : Res α} (p : Post c G H Q E' m.nr) : Post c G H Q E m := by
  cases m with
  | ok x => exact p
  | raise e => exact p.elim
  | stuck => exact p
theorem PostT.ofNr {E E' : XK} {Q : Bool → Hp → Prop} {m : Res Bool} (p : PostT c G H Q E' m.nr) : PostT c G H Q E m := by
  cases m with
  | ok x => exact p
  | raise e => exact p.elim
  | stuck => exact p
theorem et_yes : EvT c W tYes ρ (.ok true) := ⟨fun {B G0 H0 G H σ} E Q p => p G H (Le.refl E.le.gh)⟩
/-- between two turns of a comprehension -/
def LI (c : Cfg) (G1 H1 : Hp) (D : Addr) (R : Res (List β) → Prop) (p : α → Res Bool) (f : α → Res β) (xs : List α) (i : Nat) (H' : Hp) : Prop :=
  ∃ G' ys vs, Le G1 H1 G' H' ∧ G' D = none ∧ H' D = some (.lst vs) ∧ Reps c G' vs ys ∧ ys.length ≤ i ∧ R ((filtR (fun x => (p x).nr) (fun x => (f x).nr) (xs.drop i)).bind fun zs => .ok (ys ++ zs))
theorem li_turn {D : Addr} (hD : H1 D = none) (E1 : EnvR B G0 H0 G1 H1 σ ρ) {j : Nat} {p : α → Res Bool} {f : α → Res β} {tt : TT} {te : TE} (ht : ∀ x, EvT c W0 tt (ρ.set j (.val (is c x))) (p x)) (he : ∀ x, Ev c W0 te (ρ.set j (.val (is c x))) (f x))
    {R : Res (List β) → Prop} (hst : ¬ R .stuck) {xs : List α} (hx : xs.length ≤ 16000000) {i : Nat} {x : α} {v : V} {H' : Hp} (hi : xs[i]? = some x) (rx : Py.rep c G1 v x) (I : LI c G1 H1 D R p f xs i H') :
    gName j v (wipe σ [j]) H' fun σ2 H2 => wipe σ2 [j] = wipe σ [j] ∧ tt σ2 H2 fun b H3 => if b = true then te σ2 H3 fun y H4 => ∃ acc, H4 D = some (.lst acc) ∧ acc.length < sizeLine ∧ LI c G1 H1 D R p f xs (i + 1) (upd H4 D (.lst (acc ++ [y]))) else LI c G1 H1 D R p f xs (i + 1) H3 := by
  obtain ⟨G', ys, vs, l, gd, hd, r, hl, q⟩ := I
  refine ⟨?_, ?_⟩
  · show ((((σ.set j none).set j (some v)).set j none) : L2.St) = σ.set j none
    rw [List.set_set, List.set_set]
  have E2 : EnvR B G0 H0 G' H' ((σ.set j none).set j (some v)) (ρ.set j (.val (is c x))) := by
    have z := ((E1.mono l).setNo (i := j) (ov := none)).setVal (i := j) (P := is c x) (v := v) (Py.mono l.g rx)
    rw [List.set_set (l := ρ)] at z
    exact z
  have hlt : i < xs.length := (List.getElem?_eq_some_iff.mp hi).1
  rw [drop_cons hi, filtR] at q
  refine (ht x).run E2 _ ?_
  cases hp : p x with
  | raise e =>
    rw [hp] at q
    exact (hst q).elim
  | stuck =>
    rw [hp] at q
    exact (hst q).elim
  | ok b =>
    rw [hp] at q
    intro G3 H3 l3
    cases b with
    | false =>
      exact ⟨G3, ys, vs, l.trans l3, l3.notKnown gd hd, l3.h _ _ hd, r.mono l3.g, Nat.le_succ_of_le hl, q⟩
    | true =>
      refine (he x).run (E2.mono l3) _ ?_
      have q : R (((f x).nr.bind fun y => (filtR (fun x => (p x).nr) (fun x => (f x).nr) (xs.drop (i + 1))).bind fun ys' => .ok (y :: ys')).bind fun zs => .ok (ys ++ zs)) := q
      cases hf : f x with
      | raise e =>
        rw [hf] at q
        exact (hst q).elim
      | stuck =>
        rw [hf] at q
        exact (hst q).elim
      | ok y =>
        rw [hf] at q
        have q : R (((filtR (fun x => (p x).nr) (fun x => (f x).nr) (xs.drop (i + 1))).bind fun ys' => .ok (y :: ys')).bind fun zs => .ok (ys ++ zs)) := q
        rw [bind_assoc] at q
        intro u G4 H4 l4 ru
        have hd4 : H4 D = some (.lst vs) := l4.h _ _ (l3.h _ _ hd)
        have gd4 : G4 D = none := l4.notKnown (l3.notKnown gd hd) (l3.h _ _ hd)
        have hlen : vs.length = ys.length := r.length
        refine ⟨vs, hd4, ?_, G4, ys ++ [y], vs ++ [u], ((l.trans l3).trans l4).write hD gd4, gd4, upd_same, Reps.snoc (r.mono (l3.g.trans l4.g)) ru, ?_, ?_⟩
        · have : vs.length < 16000000 := by omega
          exact size_lt this
        · rw [List.length_append, List.length_singleton]
          omega
        · have e : (fun ys' : List β => Res.bind (Res.ok (y :: ys')) fun zs => Res.ok (ys ++ zs)) = fun zs => Res.ok ((ys ++ [y]) ++ zs) := by
            funext ys'
            rw [bind_ok, List.append_assoc]
            rfl
          rw [e] at q
          exact q
theorem li_start {D : Addr} (hD : H1 D = none) (e : Same G1 H1) {p : α → Res Bool} {f : α → Res β} {R : Res (List β) → Prop} {xs : List α} (q : R (filtR (fun x => (p x).nr) (fun x => (f x).nr) xs)) : LI c G1 H1 D R p f xs 0 (upd H1 D (.lst [])) := by
  refine ⟨G1, [], [], Le.newH _ e hD, e.free hD, upd_same, trivial, Nat.le_refl 0, ?_⟩
  have z : ∀ m : Res (List β), (m.bind fun zs => .ok ([] ++ zs)) = m := fun m => by cases m <;> rfl
  rw [List.drop_zero, z]
  exact q
theorem li_end {D : Addr} (hD : H1 D = none) {p : α → Res Bool} {f : α → Res β} {Q : VK} {E : XK} {xs : List α} {n : Nat} (hn : xs.length ≤ n) {H' : Hp} (I : LI c G1 H1 D (PostL c G1 H1 Q E) p f xs n H') : Q (.ref D) H' := by
  obtain ⟨G', ys, vs, l, gd, hd, r, hl, q⟩ := I
  rw [List.drop_of_length_le hn] at q
  have q : PostL c G1 H1 Q E (.ok (ys ++ [])) := q
  rw [List.append_nil] at q
  exact q D vs G' H' l hD gd hd r
theorem guardL {Q : VK} {E : XK} {b : Bool} {m : Res (List β)} (p : PostL c G H Q E (guard b m)) : b = true ∧ PostL c G H Q E m := by
  cases b with
  | true => exact ⟨rfl, p⟩
  | false => exact p.elim
theorem el_lcLF {K : PySem.W.Frag} {j : Nat} {tl te : TE} {tt : TT} {m : Res (List α)} {p : α → Res Bool} {f : α → Res β} (h : Ev c W tl ρ m) (ht : ∀ x, EvT c W0 tt (ρ.set j (.val (is c x))) (p x)) (he : ∀ x, Ev c W0 te (ρ.set j (.val (is c x))) (f x)) :
    EvL c W (tLc (iList K tl) (gName j) tt te [j]) ρ (m.bind fun xs => filtL (fun x => (p x).nr) (fun x => (f x).nr) xs) := ⟨fun {B G0 H0 G H σ} E Q q =>
  h.seq E chanL q fun xs v G1 H1 l1 E1 r1 q1 => by
    obtain ⟨hx, q2⟩ := guardL q1
    have hx := of_decide_eq_true hx
    obtain ⟨a, vs, rfl, h1, h2⟩ := r1
    refine ⟨a, rfl, ⟨vs, SqL.of (E1.le.gh _ _ h1)⟩, fun D hD => lc_list (xs := vs) (LI c G1 H1 D (PostL c G1 H1 Q (WE W σ)) p f xs) (li_start hD E1.le.gh q2) ?_ ?_ ?_⟩
    · rintro i H' _ ⟨G', ys, us, l, _⟩
      exact SqL.of (l.h _ _ (E1.le.gh _ _ h1))
    · intro i v H' hv I
      obtain ⟨x, hx1, rx⟩ := h2.get hv
      exact li_turn hD E1 ht he (fun z => z) hx hx1 rx I
    · intro H' I
      exact li_end hD (by rw [h2.length]; exact Nat.le_refl _) I⟩
theorem el_lcL {K : PySem.W.Frag} {j : Nat} {tl te : TE} {m : Res (List α)} {f : α → Res β} (h : Ev c W tl ρ m) (he : ∀ x, Ev c W0 te (ρ.set j (.val (is c x))) (f x)) :
    EvL c W (tLc (iList K tl) (gName j) tYes te [j]) ρ (m.bind fun xs => mapL (fun x => (f x).nr) xs) := by
  have e : (fun xs => mapL (fun x => (f x).nr) xs) = fun xs => filtL (fun _ => (Res.ok true).nr) (fun x => (f x).nr) xs := funext fun xs => mapL_filtL _ xs
  rw [e]
  exact el_lcLF (p := fun _ => .ok true) h (fun _ => et_yes) he
theorem el_lcTF {K : PySem.W.Frag} (hK : c.K = K) {j : Nat} {tl te : TE} {tt : TT} {m : Res (Tp α)} {p : α → Res Bool} {f : α → Res β} (h : Ev c W tl ρ m) (ht : ∀ x, EvT c W0 tt (ρ.set j (.val (is c x))) (p x)) (he : ∀ x, Ev c W0 te (ρ.set j (.val (is c x))) (f x)) :
    EvL c W (tLc (iTup K tl) (gName j) tt te [j]) ρ (m.bind fun xs => filtL (fun x => (p x).nr) (fun x => (f x).nr) xs.l) := ⟨fun {B G0 H0 G H σ} E Q q =>
  h.seq E chanL q fun xs v G1 H1 l1 E1 r1 q1 => by
    subst hK
    obtain ⟨hx, q2⟩ := guardL q1
    have hx := of_decide_eq_true hx
    obtain ⟨a, vs, rfl, h1, h2⟩ := r1
    refine ⟨a, rfl, ⟨vs, SqT.of (E1.le.gh _ _ h1)⟩, fun D hD => lc_tup (xs := vs) (LI c G1 H1 D (PostL c G1 H1 Q (WE W σ)) p f xs.l) (li_start hD E1.le.gh q2) ?_ ?_ ?_⟩
    · rintro i H' _ ⟨G', ys, us, l, _⟩
      exact SqT.of ((E1.le.gh.trans l.h) _ _ h1)
    · intro i v H' hv I
      obtain ⟨x, hx1, rx⟩ := h2.get hv
      exact li_turn hD E1 ht he (fun z => z) hx hx1 rx I
    · intro H' I
      exact li_end hD (by rw [h2.length]; exact Nat.le_refl _) I⟩
theorem el_lcT {K : PySem.W.Frag} (hK : c.K = K) {j : Nat} {tl te : TE} {m : Res (Tp α)} {f : α → Res β} (h : Ev c W tl ρ m) (he : ∀ x, Ev c W0 te (ρ.set j (.val (is c x))) (f x)) :
    EvL c W (tLc (iTup K tl) (gName j) tYes te [j]) ρ (m.bind fun xs => mapL (fun x => (f x).nr) xs.l) := by
  have e : (fun xs : Tp α => mapL (fun x => (f x).nr) xs.l) = fun xs => filtL (fun _ => (Res.ok true).nr) (fun x => (f x).nr) xs.l := funext fun xs => mapL_filtL _ xs.l
  rw [e]
  exact el_lcTF hK (p := fun _ => .ok true) h (fun _ => et_yes) he
theorem rngL_cases {lo hi : Int} {Q : VK} {E : XK} {f : List Int → Res (List β)} (k : PostL c G H Q E ((rngR lo hi).bind f)) : (-(2 ^ 62) ≤ lo ∧ lo < 2 ^ 62 ∧ -(2 ^ 62) ≤ hi ∧ hi < 2 ^ 62) ∧ PostL c G H Q E (f (upFrom lo (hi - lo).toNat)) := by
  unfold rngR at k
  cases h : rngOk lo hi with
  | false =>
    rw [h] at k
    exact k.elim
  | true =>
    rw [h] at k
    exact ⟨rngOk_iff h, k⟩
theorem li_range {j : Nat} {te : TE} {tt : TT} {p : Int → Res Bool} {f : Int → Res β} (ht : ∀ x, EvT c W0 tt (ρ.set j (.val (is c x))) (p x)) (he : ∀ x, Ev c W0 te (ρ.set j (.val (is c x))) (f x)) {lo : Int} {n : Nat} (E1 : EnvR B G0 H0 G1 H1 σ ρ) {Q : VK} {E : XK}
    (q : PostL c G1 H1 Q E (filtL (fun x => (p x).nr) (fun x => (f x).nr) (upFrom lo n))) (D : Addr) (hD : H1 D = none) : ∃ W : Nat → Nat → Hp → Prop, (∃ m, W 0 m (upd H1 D (.lst []))) ∧ ∀ i m H, W i m H →
      ((Itr lo n).stop i H ∧ Q (.ref D) H) ∨ ((Itr lo n).go i H ∧ ∃ Nx : Hp → Prop, (∀ H', Nx H' → ∃ m', m' < m ∧ W (i + 1) m' H') ∧ ∀ x H', (Itr lo n).yld i H x H' → gName j x (wipe σ [j]) H' fun σ2 H2 => wipe σ2 [j] = wipe σ [j] ∧ tt σ2 H2 fun b H3 =>
        if b = true then te σ2 H3 fun y H4 => ∃ acc, H4 D = some (.lst acc) ∧ acc.length < sizeLine ∧ Nx (upd H4 D (.lst (acc ++ [y]))) else Nx H3) := by
  obtain ⟨hx, q2⟩ := guardL q
  have hx := of_decide_eq_true hx
  refine lc_range (lo := lo) (n := n) (LI c G1 H1 D (PostL c G1 H1 Q E) p f (upFrom lo n)) (li_start hD E1.le.gh q2) ?_ ?_
  · intro i H' hi I
    exact li_turn hD E1 ht he (fun z => z) hx (upFrom_get lo n i hi) (v := .int (lo + i)) rfl I
  · intro H' I
    exact li_end hD (by rw [upFrom_length]; exact Nat.le_refl _) I
theorem el_lcR1F {j : Nat} {tn te : TE} {tt : TT} {m : Res Int} {p : Int → Res Bool} {f : Int → Res β} (h : Ev c W tn ρ m) (ht : ∀ x, EvT c W0 tt (ρ.set j (.val (is c x))) (p x)) (he : ∀ x, Ev c W0 te (ρ.set j (.val (is c x))) (f x)) :
    EvL c W (tLc (iRng1 (tCons tn tNil)) (gName j) tt te [j]) ρ (m.bind fun n => (rngR 0 n).bind fun xs => filtL (fun x => (p x).nr) (fun x => (f x).nr) xs) := ⟨fun {B G0 H0 G H σ} E Q q =>
  h.seq E chanL q fun n v G1 H1 l1 E1 r1 q1 => by
    obtain ⟨⟨_, _, b3, b4⟩, q2⟩ := rngL_cases q1
    have r1 : v = .int n := r1
    subst r1
    rw [Int.sub_zero] at q2
    exact ⟨n, rfl, b3, b4, fun D hD => li_range ht he E1 q2 D hD⟩⟩
theorem el_lcR1 {j : Nat} {tn te : TE} {m : Res Int} {f : Int → Res β} (h : Ev c W tn ρ m) (he : ∀ x, Ev c W0 te (ρ.set j (.val (is c x))) (f x)) :
    EvL c W (tLc (iRng1 (tCons tn tNil)) (gName j) tYes te [j]) ρ (m.bind fun n => (rngR 0 n).bind fun xs => mapL (fun x => (f x).nr) xs) := by
  have e : (fun n => (rngR 0 n).bind fun xs => mapL (fun x => (f x).nr) xs) = fun n => (rngR 0 n).bind fun xs => filtL (fun _ => (Res.ok true).nr) (fun x => (f x).nr) xs := funext fun n => by
    congr 1
    exact funext fun xs => mapL_filtL _ xs
  rw [e]
  exact el_lcR1F (p := fun _ => .ok true) h (fun _ => et_yes) he
theorem el_lcR2F {j : Nat} {tn tk te : TE} {tt : TT} {m1 m2 : Res Int} {p : Int → Res Bool} {f : Int → Res β} (h1 : Ev c W tn ρ m1) (h2 : Ev c W tk ρ m2) (ht : ∀ x, EvT c W0 tt (ρ.set j (.val (is c x))) (p x)) (he : ∀ x, Ev c W0 te (ρ.set j (.val (is c x))) (f x)) :
    EvL c W (tLc (iRng2 (tCons tn (tCons tk tNil))) (gName j) tt te [j]) ρ (m1.bind fun a => m2.bind fun b => (rngR a b).bind fun xs => filtL (fun x => (p x).nr) (fun x => (f x).nr) xs) := ⟨fun {B G0 H0 G H σ} E Q q =>
  h1.seq E chanL q fun a v G1 H1 l1 E1 r1 q1 => h2.seq E1 chanL q1 fun b u G2 H2 l2 E2 r2 q2 => by
    obtain ⟨bs, q3⟩ := rngL_cases q2
    have r1 : v = .int a := r1
    have r2 : u = .int b := r2
    subst r1 r2
    exact ⟨a, b, rfl, bs, fun D hD => li_range ht he E2 q3 D hD⟩⟩
theorem el_lcR2 {j : Nat} {tn tk te : TE} {m1 m2 : Res Int} {f : Int → Res β} (h1 : Ev c W tn ρ m1) (h2 : Ev c W tk ρ m2) (he : ∀ x, Ev c W0 te (ρ.set j (.val (is c x))) (f x)) :
    EvL c W (tLc (iRng2 (tCons tn (tCons tk tNil))) (gName j) tYes te [j]) ρ (m1.bind fun a => m2.bind fun b => (rngR a b).bind fun xs => mapL (fun x => (f x).nr) xs) := by
  have e : (fun a => m2.bind fun b => (rngR a b).bind fun xs => mapL (fun x => (f x).nr) xs) = fun a => m2.bind fun b => (rngR a b).bind fun xs => filtL (fun _ => (Res.ok true).nr) (fun x => (f x).nr) xs := funext fun a => by
    congr 1
    refine funext fun b => ?_
    congr 1
    exact funext fun xs => mapL_filtL _ xs
  rw [e]
  exact el_lcR2F (p := fun _ => .ok true) h1 h2 (fun _ => et_yes) he
/-! ### lists -/
def catR (xs ys : List α) : Res (List α) := guard (decide (xs.length + ys.length ≤ 16000000)) (.ok (xs ++ ys))
theorem size_le {n : Nat} (h : n ≤ 16000000) : n ≤ sizeLine := Nat.le_trans h (by decide)
theorem el_cat {ta tb : TE} {m1 m2 : Res (List α)} (h1 : Ev c W ta ρ m1) (h2 : Ev c W tb ρ m2) : EvL c W (tOp rCat ta tb) ρ (m1.bind fun x => m2.bind fun y => catR x y) := ⟨fun {B G0 H0 G H σ} E Q q =>
  h1.seq E chanL q fun x v G1 H1 l1 E1 r1 q1 => h2.seq E1 chanL q1 fun y u G2 H2 l2 E2 r2 q2 => by
    obtain ⟨hx, q3⟩ := guardL q2
    have hx := of_decide_eq_true hx
    obtain ⟨a, vs, rfl, a1, a2⟩ := r1
    obtain ⟨b, us, rfl, b1, b2⟩ := r2
    refine ⟨a, b, vs, us, rfl, rfl, E2.le.gh _ _ (l2.g _ _ a1), E2.le.gh _ _ b1, ?_, fun p hp => ?_⟩
    · rw [a2.length, b2.length]
      exact size_le hx
    · exact q3 p _ G2 _ (Le.newH _ E2.le.gh hp) hp (E2.le.gh.free hp) upd_same (Reps.append (a2.mono l2.g) b2)⟩
def cutL {α : Type} (xs : List α) (lo hi : Option Int) : List α := (xs.drop (HT.sIx xs.length 0 lo)).take (HT.sIx xs.length xs.length hi - HT.sIx xs.length 0 lo)
structure EvO (c : Cfg) (W : WX) (to : TO) (ρ : List Sl) (m : Res (Option Int)) : Prop where
  run : ∀ {B G0 H0 G H : Hp} {σ : L2.St}, EnvR B G0 H0 G H σ ρ → ∀ {δ : Type} {P : Hp → Hp → Res δ → Prop} (C : Chan c G H (WE W σ) P) {f : Option Int → Res δ} (p : P G H (m.bind f)) {Q : Option Int → Hp → Prop}
    (k : ∀ o G' H', Le G H G' H' → EnvR B G0 H0 G' H' σ ρ → P G' H' (f o) → Q o H'), to σ H Q
theorem eo_none : EvO c W tNoPart ρ (.ok none) := ⟨fun {B G0 H0 G H σ} E {δ P} C {f} p {Q} k => k none G H (Le.refl E.le.gh) E p⟩
theorem eo_some {te : TE} {m : Res Int} (h : Ev c W te ρ m) : EvO c W (tPart te) ρ (m.bind fun i => .ok (some i)) := ⟨fun {B G0 H0 G H σ} E {δ P} C {f} p {Q} k => by
  rw [bind_assoc] at p
  exact h.seq E C p fun i v G1 H1 l1 E1 r1 p1 => ⟨i, r1, k (some i) G1 H1 l1 E1 p1⟩⟩
theorem reps_cut {F : Hp} {vs : List V} {xs : List α} (r : Reps c F vs xs) (lo hi : Option Int) : Reps c F (cutV vs lo hi) (cutL xs lo hi) := by
  unfold cutV cutL
  rw [r.length]
  exact Reps.take _ (Reps.drop _ r)
theorem el_cut {K : PySem.W.Frag} {te : TE} {tl th : TO} {m : Res (List α)} {ml mh : Res (Option Int)} (h : Ev c W te ρ m) (hl : EvO c W tl ρ ml) (hh : EvO c W th ρ mh) : EvL c W (tSl (rSlL K) te tl th) ρ (m.bind fun x => ml.bind fun l => mh.bind fun h => .ok (cutL x l h)) := ⟨fun {B G0 H0 G H σ} E Q q =>
  h.seq E chanL q fun x v G1 H1 l1 E1 r1 q1 => hl.run E1 chanL q1 fun lo G2 H2 l2 E2 q2 => hh.run E2 chanL q2 fun hi G3 H3 l3 E3 q3 => by
    obtain ⟨a, vs, rfl, a1, a2⟩ := r1
    refine ⟨a, vs, rfl, SqL.of (E3.le.gh _ _ (l3.g _ _ (l2.g _ _ a1))), fun p hp => ?_⟩
    exact q3 p _ G3 _ (Le.newH _ E3.le.gh hp) hp (E3.le.gh.free hp) upd_same (reps_cut (a2.mono (l2.g.trans l3.g)) lo hi)⟩
theorem cl_list {K : PySem.W.Frag} : CaL c (fun xs H Q => ∃ p ys, xs = [.ref p] ∧ (SqL K H p ys ∨ SqT K H p ys) ∧ ∀ l, H l = none → Q (.ref l) (upd H l (.lst ys))) (fun x : List α × Unit => .ok x.1) := fun _ x vs G H Q e r p => by
  obtain ⟨v, r, h, ⟨a, us, h1, h2, h3⟩, h4⟩ := r
  subst h h1 h4
  exact ⟨a, us, rfl, .inl (SqL.of (e _ _ h2)), fun l hl => p l _ G _ (Le.newH _ e hl) hl (e.free hl) upd_same h3⟩
theorem cl_listScr {K : PySem.W.Frag} (hK : c.K = K) : CaL c (fun xs H Q => ∃ p ys, xs = [.ref p] ∧ (SqL K H p ys ∨ SqT K H p ys) ∧ ∀ l, H l = none → Q (.ref l) (upd H l (.lst ys))) (fun x : Scr × Unit => .ok x.1.l) := fun _ x vs G H Q e r p => by
  obtain ⟨v, r, h, ⟨a, h1, h2⟩, h4⟩ := r
  subst h h1 h4 hK
  refine ⟨a, _, rfl, .inl (e.seq h2), fun l hl => p l _ G _ (Le.newH _ e hl) hl (e.free hl) upd_same ?_⟩
  have z : ∀ ns : List Int, Reps c G (ns.map V.int) ns := fun ns => by
    induction ns with
    | nil => trivial
    | cons n ns ih => exact ⟨rfl, ih⟩
  exact z _
theorem cl_listT {K : PySem.W.Frag} (hK : c.K = K) : CaL c (fun xs H Q => ∃ p ys, xs = [.ref p] ∧ (SqL K H p ys ∨ SqT K H p ys) ∧ ∀ l, H l = none → Q (.ref l) (upd H l (.lst ys))) (fun x : Tp α × Unit => .ok x.1.l) := fun _ x vs G H Q e r p => by
  obtain ⟨v, r, h, ⟨a, us, h1, h2, h3⟩, h4⟩ := r
  subst h h1 h4 hK
  exact ⟨a, us, rfl, .inr (SqT.of (e _ _ h2)), fun l hl => p l _ G _ (Le.newH _ e hl) hl (e.free hl) upd_same h3⟩
theorem reps_int {F : Hp} : ∀ {vs : List V} {ns : List Int}, Reps c F vs ns → vs = ns.map V.int
  | [], [], _ => rfl
  | _ :: _, _ :: _, h => by
    rw [List.map_cons, ← reps_int h.2]
    congr 1
    exact h.1
  | [], _ :: _, h => h.elim
  | _ :: _, [], h => h.elim
theorem reps_bl {F : Hp} : ∀ {vs : List V} {ns : List Bool}, Reps c F vs ns → vs = ns.map V.bl
  | [], [], _ => rfl
  | _ :: _, _ :: _, h => by
    rw [List.map_cons, ← reps_bl h.2]
    congr 1
    exact h.1
  | [], _ :: _, h => h.elim
  | _ :: _, [], h => h.elim
theorem cs_sum {K : PySem.W.Frag} : CaS c (rSum K) (fun x : List Int × Unit => .ok x.1.sum) := fun _ x vs G H Q e r p => by
  obtain ⟨v, r, h, ⟨a, us, h1, h2, h3⟩, h4⟩ := r
  subst h h1 h4
  have z := reps_int h3
  subst z
  exact ⟨a, _, rfl, SqL.of (e _ _ h2), p _ _ _ (Le.refl e) rfl⟩
theorem cs_all {K : PySem.W.Frag} : CaS c (rAll K) (fun x : List Bool × Unit => .ok (x.1.all id)) := fun _ x vs G H Q e r p => by
  obtain ⟨v, r, h, ⟨a, us, h1, h2, h3⟩, h4⟩ := r
  subst h h1 h4
  have z := reps_bl h3
  subst z
  exact ⟨a, _, rfl, SqL.of (e _ _ h2), p _ _ _ (Le.refl e) rfl⟩
theorem cs_any {K : PySem.W.Frag} : CaS c (rAny K) (fun x : List Bool × Unit => .ok (x.1.any id)) := fun _ x vs G H Q e r p => by
  obtain ⟨v, r, h, ⟨a, us, h1, h2, h3⟩, h4⟩ := r
  subst h h1 h4
  have z := reps_bl h3
  subst z
  exact ⟨a, _, rfl, SqL.of (e _ _ h2), p _ _ _ (Le.refl e) rfl⟩
def b2i (b : Bool) : Int := if b then 1 else 0
theorem cs_intB : CaS c (fun xs H Q => (∃ i, xs = [.int i] ∧ Q (.int i) H) ∨ ∃ k, xs = [.bl k] ∧ Q (.int (if k then 1 else 0)) H) (fun x : Bool × Unit => .ok (b2i x.1)) := fun _ x vs G H Q e r p => by
  obtain ⟨v, r, h, h1, h4⟩ := r
  subst h h1 h4
  exact .inr ⟨x.1, rfl, p _ _ _ (Le.refl e) rfl⟩
theorem ev_tyn (n : String) : Ev c W (tC (.ty n)) ρ (.ok (TyN.mk n)) := ev_cst fun _ => rfl
theorem el_nil : EvL c W (tLst tNil) ρ (.ok ([] : List α)) := ⟨fun {B G0 H0 G H σ} E Q p => ⟨Nat.zero_le _, fun q hq => p q [] G _ (Le.newH _ E.le.gh hq) hq (E.le.gh.free hq) upd_same trivial⟩⟩
theorem ev_t3_0 {ta : TE} {m : Res (T3 α β γ)} {K : PySem.W.Frag} (hK : c.K = K) (h : Ev c W ta ρ m) : Ev c W (tOp (rIxT K) ta (tC (.int 0))) ρ (m.bind fun x => .ok x.a) := ⟨fun {B G0 H0 G H σ} E Q p =>
  h.seq E chanP p fun x v G1 H1 l1 E1 r1 p1 => by
    obtain ⟨a, u, w, z, rfl, h1, h2, h3, h4⟩ := r1
    subst hK
    exact ⟨a, _, 0, u, rfl, rfl, SqT.of (E1.le.gh _ _ h1), rfl, p1 _ _ _ (Le.refl E1.le.gh) h2⟩⟩
theorem ev_t3_1 {ta : TE} {m : Res (T3 α β γ)} {K : PySem.W.Frag} (hK : c.K = K) (h : Ev c W ta ρ m) : Ev c W (tOp (rIxT K) ta (tC (.int 1))) ρ (m.bind fun x => .ok x.b) := ⟨fun {B G0 H0 G H σ} E Q p =>
  h.seq E chanP p fun x v G1 H1 l1 E1 r1 p1 => by
    obtain ⟨a, u, w, z, rfl, h1, h2, h3, h4⟩ := r1
    subst hK
    exact ⟨a, _, 1, w, rfl, rfl, SqT.of (E1.le.gh _ _ h1), rfl, p1 _ _ _ (Le.refl E1.le.gh) h3⟩⟩
theorem ev_t3_2 {ta : TE} {m : Res (T3 α β γ)} {K : PySem.W.Frag} (hK : c.K = K) (h : Ev c W ta ρ m) : Ev c W (tOp (rIxT K) ta (tC (.int 2))) ρ (m.bind fun x => .ok x.d) := ⟨fun {B G0 H0 G H σ} E Q p =>
  h.seq E chanP p fun x v G1 H1 l1 E1 r1 p1 => by
    obtain ⟨a, u, w, z, rfl, h1, h2, h3, h4⟩ := r1
    subst hK
    exact ⟨a, _, 2, z, rfl, rfl, SqT.of (E1.le.gh _ _ h1), rfl, p1 _ _ _ (Le.refl E1.le.gh) h4⟩⟩
end
/-! ### is None -/
class NN (α : Type) [Py α] : Prop where
  nn : ∀ {c : Cfg} {F : Hp} {v : V} {x : α}, Py.rep c F v x → v ≠ .non
instance : NN Int := ⟨fun {c F v x} h => by have h : v = .int x := h; subst h; exact fun z => nomatch z⟩
instance : NN Bool := ⟨fun {c F v x} h => by have h : v = .bl x := h; subst h; exact fun z => nomatch z⟩
instance : NN Str := ⟨fun {c F v x} h => by have h : v = .str x := h; subst h; exact fun z => nomatch z⟩
instance {α β : Type} [Py α] [Py β] : NN (α × β) := ⟨fun {c F v x} h => by obtain ⟨a, u, w, rfl, _⟩ := h; exact fun z => nomatch z⟩
instance {α β γ : Type} [Py α] [Py β] [Py γ] : NN (T3 α β γ) := ⟨fun {c F v x} h => by obtain ⟨a, u, w, z, rfl, _⟩ := h; exact fun z => nomatch z⟩
instance {α : Type} [Py α] : NN (List α) := ⟨fun {c F v x} h => by obtain ⟨a, u, rfl, _⟩ := h; exact fun z => nomatch z⟩
instance {α : Type} [Py α] : NN (Tp α) := ⟨fun {c F v x} h => by obtain ⟨a, u, rfl, _⟩ := h; exact fun z => nomatch z⟩
section
variable {c : Cfg} {W : WX} {ρ : List Sl} {α : Type} [Py α] [NN α]
theorem isN_dec {F : Hp} {v : V} {x : Option α} (h : Py.rep c F v x) : decide (v = .non) = x.isNone := by
  cases x with
  | none =>
    have h : v = .non := h
    subst h
    rfl
  | some x => exact decide_eq_false (NN.nn (x := x) h)
theorem ev_isN {te : TE} {m : Res (Option α)} (h : Ev c W te ρ m) : Ev c W (tIsN te) ρ (m.bind fun x => .ok x.isNone) := ⟨fun {B G0 H0 G H σ} E Q p =>
  h.seq E chanP p fun x v G1 H1 l1 E1 r1 p1 => by
    show Q (.bl (decide (v = .non))) H1
    rw [isN_dec r1]
    exact p1 _ _ _ (Le.refl E1.le.gh) rfl⟩
theorem ev_notN {te : TE} {m : Res (Option α)} (h : Ev c W te ρ m) : Ev c W (tNotN te) ρ (m.bind fun x => .ok (!x.isNone)) := ⟨fun {B G0 H0 G H σ} E Q p =>
  h.seq E chanP p fun x v G1 H1 l1 E1 r1 p1 => by
    show Q (.bl (!decide (v = .non))) H1
    rw [isN_dec r1]
    exact p1 _ _ _ (Le.refl E1.le.gh) rfl⟩
end
/-! ### lengths of written lists -/
theorem al_nil {α : Type} : ∀ xs : List α, Res.ok [] = Res.ok xs → xs.length ≤ 1000 := fun xs e => by
  cases e
  exact Nat.zero_le _
/-- at most n, n written -/
def Sh {α : Type} (n : Nat) (m : Res (List α)) : Prop := ∀ xs, m = .ok xs → xs.length = n
theorem sh_nil {α : Type} : Sh 0 (Res.ok ([] : List α)) := fun xs e => by
  cases e
  rfl
theorem sh_cons {α : Type} {n : Nat} {m : Res α} {mr : Res (List α)} (h : Sh n mr) : Sh (n + 1) (m.bind fun x => mr.bind fun r => .ok (x :: r)) := fun xs e => by
  cases m with
  | raise z => cases e
  | stuck => cases e
  | ok x =>
    cases hm : mr with
    | raise z => rw [hm] at e; cases e
    | stuck => rw [hm] at e; cases e
    | ok r =>
      rw [hm] at e
      cases e
      rw [List.length_cons, h r hm]
theorem sh_ok {α : Type} {n : Nat} {m : Res (List α)} (h : Sh n m) (hn : n ≤ 1000 := by decide) : ∀ xs, m = .ok xs → xs.length ≤ 1000 := fun xs e => by
  rw [h xs e]
  exact hn
/-! ### ways that meet behind a try -/
def tTry (tb : WX → TS) (wr : Ends → WX) : TS := fun D σ H => tb (wr D) D σ H
theorem ps_tryE {X : Cx} {body : List Stmt} {b0 : Stmt} {su : List Stmt} {x : Str} {np pos' pos : Pos} {c : Value} {tb : WX → TS} {ts : Addr → Value → Option Addr → TS} {Wo : WX} (hs : X.stack = X.env :: X.outer) (hf : X.env.frame = some X.env.locals) (hc : Names X x c) (tk : Takes X Wo)
    (hb : ∀ (W : WX) (pn : List (Addr × Obj)) (xe : Value → Shared → Prop), Takes (X.tr pn xe) W → PassesOwn (model X.prog X.w) X.A X.env xe → PSs (X.tr pn xe) body (tb W))
    (hu : ∀ (a : Addr) (oe : Obj) (cls : Value) (d : Option Addr) (pn : List (Addr × Obj)), Zc cls d oe → (∃ vs, oe.data = .fields vs) → PSs (X.suite a ((a, oe) :: pn)) (b0 :: su) (ts a cls d)) :
    PS X (.Try body [.ExceptHandler (some (.Name x np)) none (b0 :: su) pos'] [] [] pos) (tTry tb (wOnly X.K c ts Wo)) := ps_try_only hs hf hc tk hb hu
section
variable {c : Cfg} {W : WX} {ρ : List Sl} {B G0 H0 G H : Hp} {σ : L2.St} {α β γ : Type} [Py α] [Py β] [Py γ] {P : Res β → Prop} {S : List Sl → Prop} {D : Ends}
def tryL {s β : Type} (L : List Exn) (body : Res s) (hd : (s → Res β) → Exn → Option (Res β)) (rest : s → Res β) : Res β := match body with
  | .ok x => rest x
  | .raise e => if e ∈ L then (match hd rest e with
    | some m => m
    | none => .raise e) else .stuck
  | .stuck => .stuck
theorem st_tryL {τ : Type} {ρL : τ → List Sl} {K : PySem.W.Frag} {cv : Value} {ts : Addr → Value → Option Addr → TS} {tb : WX → TS} {ρT : List Sl} {L : List Exn} {ex : Exn} {body : Res τ} {h : (τ → Res β) → Res β} {rest : τ → Res β} (C : SC β c B G0 H0 W P S) (sT : S ρT)
    (hm : ∀ e ∈ L, PySem.W.exmOne K (.ref (c.T e)) cv = some (e.sub ex)) (k : P (tryL L body (fun kk e => if e.sub ex = true then some (h kk) else none) rest))
    (hbody : (∀ z G' H' σ', EnvR B G0 H0 G' H' σ' (ρL z) → P (rest z) → D.nx σ' H') → SC τ c B G0 H0 (wOnly K cv ts W D) (fun m => P (tryL L m (fun kk e => if e.sub ex = true then some (h kk) else none) rest)) (fun ρ => Wk ρ ρT) → P (tryL L body (fun kk e => if e.sub ex = true then some (h kk) else none) rest) → tb (wOnly K cv ts W D) D σ H)
    (hsuite : ∀ a cls d G' H' σ', (∀ z G' H' σ', EnvR B G0 H0 G' H' σ' (ρL z) → P (rest z) → D.nx σ' H') → EnvR B G0 H0 G' H' σ' ρT → P (h rest) → ts a cls d D σ' H')
    (hd : ∀ z G' H' σ', EnvR B G0 H0 G' H' σ' (ρL z) → P (rest z) → D.nx σ' H') : tTry tb (wOnly K cv ts W) D σ H := by
  refine hbody hd ⟨fun q => C.stuck q, fun e q ρ G H σ w E => ?_⟩ k
  have q : P (if e ∈ L then (match (if e.sub ex = true then some (h rest) else none) with | some m => m | none => .raise e) else .stuck) := q
  by_cases he : e ∈ L
  · rw [if_pos he] at q
    refine ⟨e.sub ex, hm e he, fun hb a _ => ?_, fun hb => ?_⟩
    · rw [if_pos hb] at q
      exact hsuite a _ _ G H σ hd (E.wk w) q
    · rw [hb, if_neg Bool.false_ne_true] at q
      exact C.raise e q ρT G H σ sT (E.wk w)
  · rw [if_neg he] at q
    exact (C.stuck q).elim
/-- several excepts -/
inductive HM {β τ : Type} (c : Cfg) (L : List Exn) (K : PySem.W.Frag) (P : Res β → Prop) (B G0 H0 : Hp) (D : Ends) (ρT : List Sl) (rest : τ → Res β) : List (Value × (Addr → Value → Option Addr → TS)) → ((τ → Res β) → Exn → Option (Res β)) → Prop
  | nil : HM c L K P B G0 H0 D ρT rest [] (fun _ _ => none)
  | cons {cv : Value} {ex : Exn} {h : (τ → Res β) → Res β} {ts : Addr → Value → Option Addr → TS} {l : List (Value × (Addr → Value → Option Addr → TS))} {hd : (τ → Res β) → Exn → Option (Res β)} (hm : ∀ e ∈ L, PySem.W.exmOne K (.ref (c.T e)) cv = some (e.sub ex))
      (hs : ∀ a cls d G' H' σ', EnvR B G0 H0 G' H' σ' ρT → P (h rest) → ts a cls d D σ' H') (r : HM c L K P B G0 H0 D ρT rest l hd) : HM c L K P B G0 H0 D ρT rest ((cv, ts) :: l) (fun kk e => if e.sub ex = true then some (h kk) else hd kk e)
theorem HM.go {τ : Type} {K : PySem.W.Frag} {ρT : List Sl} {L : List Exn} {rest : τ → Res β} {l : List (Value × (Addr → Value → Option Addr → TS))} {hd : (τ → Res β) → Exn → Option (Res β)} (C : SC β c B G0 H0 W P S) (sT : S ρT) (M : HM c L K P B G0 H0 D ρT rest l hd) {e : Exn} (he : e ∈ L)
    (q : P (match hd rest e with | some m => m | none => .raise e)) (E : EnvR B G0 H0 G H σ ρT) : wMany K W D l (.ref (c.T e)) none σ H := by
  induction M with
  | nil => exact C.raise e q ρT G H σ sT E
  | cons hm hs r ih =>
    rename_i ex h ts l hd
    have q : P (match (if e.sub ex = true then some (h rest) else hd rest e) with | some m => m | none => .raise e) := q
    refine ⟨e.sub ex, hm e he, fun hb a _ => ?_, fun hb => ?_⟩
    · rw [if_pos hb] at q
      exact hs a _ _ G H σ E q
    · rw [hb, if_neg Bool.false_ne_true] at q
      exact ih q
theorem ps_tryM {X : Cx} {body : List Stmt} {h0 : ExceptHandler} {hds : List ExceptHandler} {l : List (Value × (Addr → Value → Option Addr → TS))} {pos : Pos} {tb : WX → TS} {Wo : WX} (hs : X.stack = X.env :: X.outer) (hf : X.env.frame = some X.env.locals) (tk : Takes X Wo)
    (hb : ∀ (W : WX) (pn : List (Addr × Obj)) (xe : Value → Shared → Prop), Takes (X.tr pn xe) W → PassesOwn (model X.prog X.w) X.A X.env xe → PSs (X.tr pn xe) body (tb W))
    (hh : HdsOk X (h0 :: hds) l) : PS X (.Try body (h0 :: hds) [] [] pos) (tTry tb (fun D => wMany X.K Wo D l)) := ps_try_many hs hf tk hb hh
theorem st_tryM {τ : Type} {ρL : τ → List Sl} {K : PySem.W.Frag} {l : List (Value × (Addr → Value → Option Addr → TS))} {tb : WX → TS} {ρT : List Sl} {L : List Exn} {body : Res τ} {hdl : (τ → Res β) → Exn → Option (Res β)} {rest : τ → Res β} (C : SC β c B G0 H0 W P S) (sT : S ρT)
    (k : P (tryL L body hdl rest))
    (M : (∀ z G' H' σ', EnvR B G0 H0 G' H' σ' (ρL z) → P (rest z) → D.nx σ' H') → HM c L K P B G0 H0 D ρT rest l hdl)
    (hbody : (∀ z G' H' σ', EnvR B G0 H0 G' H' σ' (ρL z) → P (rest z) → D.nx σ' H') → SC τ c B G0 H0 (wMany K W D l) (fun m => P (tryL L m hdl rest)) (fun ρ => Wk ρ ρT) → P (tryL L body hdl rest) → tb (wMany K W D l) D σ H)
    (hd : ∀ z G' H' σ', EnvR B G0 H0 G' H' σ' (ρL z) → P (rest z) → D.nx σ' H') : tTry tb (fun D => wMany K W D l) D σ H := by
  refine hbody hd ⟨fun q => C.stuck q, fun e q ρ G H σ w E => ?_⟩ k
  have q : P (if e ∈ L then (match hdl rest e with | some m => m | none => .raise e) else .stuck) := q
  by_cases he : e ∈ L
  · rw [if_pos he] at q
    exact (M hd).go C sT he q (E.wk w)
  · rw [if_neg he] at q
    exact (C.stuck q).elim
/-! ### loops over pairs -/
theorem st_forLP {K : PySem.W.Frag} (hK : c.K = K) {τ : Type} {tl : TE} {tb : TS} {i j : Nat} {ρL : τ → List Sl} {s0 : τ} {m : Res (List (α × γ))} {step : α × γ → τ → (τ → Res β) → Res β} {rest : τ → Res β} (C : SC β c B G0 H0 W P S) (E : EnvR B G0 H0 G H σ ρ) (sr : S ρ)
    (ev : Ev c W tl ρ m) (k : P (m.bind fun xs => forK step rest xs s0)) (w : Wk ρ (ρL s0))
    (hb : ∀ x y s B' G' H' σ' (N : τ → Res β) (Nx : L2.St → Hp → Prop), SC β c B' G0 H0 W P S → EnvR B' G0 H0 G' H' σ' (((ρL s).set i (.val (is c x))).set j (.val (is c y))) → P (step (x, y) s N) → (∀ s' G' H' σ', EnvR B' G0 H0 G' H' σ' (ρL s') → P (N s') → Nx σ' H') → tb { D with nx := Nx, ct := Nx, bk := D.nx } σ' H')
    (hd : ∀ s G' H' σ', EnvR B G0 H0 G' H' σ' (ρL s) → P (rest s) → D.nx σ' H') : tFor (iList K tl) (gTup K 2 (gCons (gName i) (gCons (gName j) gNil))) tb D σ H := by
  subst hK
  refine ev.st C E sr k fun xs v G1 H1 _ E1 r1 k1 => ?_
  obtain ⟨a, vs, rfl, h1, h2⟩ := r1
  refine ⟨a, rfl, ⟨vs, SqL.of (E1.le.gh _ _ h1)⟩, for_list (K := c.K) (a := a) (xs := vs) (fun i σ H => ∃ s G, EnvR G1 G0 H0 G H σ (ρL s) ∧ P (forK step rest (xs.drop i) s)) ⟨s0, G1, (E1.wk w).base, k1⟩ ?_ ?_ ?_⟩
  · rintro i σ H _ ⟨s, G, E, _⟩
    exact SqL.of (E.le.gh _ _ (E.b _ _ h1))
  · rintro i v σ H hv ⟨s, G, E, k⟩
    obtain ⟨x, hx, rx⟩ := h2.get hv
    rw [drop_cons hx] at k
    obtain ⟨b, u, w, rfl, a1, a2, a3⟩ := rx
    exact ⟨b, _, rfl, SqT.of ((E.b.trans E.le.gh) _ _ a1), rfl, _, _, rfl, _, _, rfl, rfl, hb x.1 x.2 s G1 G H _ _ _ (C.reb E1.b) ((E.setVal (Py.mono E.b a2)).setVal (Py.mono E.b a3)) k fun s' G' H' σ' E2 k2 => ⟨s', G', E2, k2⟩⟩
  · rintro σ H ⟨s, G, E, k⟩
    rw [h2.length, List.drop_length] at k
    exact hd s G H σ (E.reb E1.b) k
end
/-! ### calls of methods and makings; what they raise is taken by the frame -/
section
variable {X : Cx} {CX : CXT} {k : Nat} {f C : Addr} {fd : FuncData} {ps : List Str} {sp : Sp} {E : L2.St → XK} {x m : Str} {p pos apos : Pos} {e o : Expr} {es : List Expr} {ta : TE} {t : TA}
def tMethE (C : Addr) (m : Str) (sp : Sp) (E : L2.St → XK) (ta : TE) (t : TA) : TE := fun σ H Q => ta σ H fun x H1 => ∃ a dx fs, x = .ref a ∧ H1 a = some (.ins C dx fs) ∧ fs.lookup m = none ∧ t σ H1 fun vs H2 => sp (x :: vs) H2 Q (E σ)
def tMakeE (C : Addr) (sp : Sp) (E : L2.St → XK) (t : TA) : TE := fun σ H Q => t σ H fun vs H1 => ∀ x dx, H1 x = none → H1 dx = none → dx ≠ x → sp (.ref x :: vs) (upd (upd H1 dx (.own x)) x (.ins C dx [])) (fun v H2 => v = .non ∧ Q (.ref x) H2) (E σ)
theorem pe_methE {pl : Sem Bool} (he : PE X o ta) (c : Cls X.K C) (hm : Meth X.K C m f) (F : FnOk X.prog X.w X.K X.mg X.base CX k f fd ps sp) (hr : Room k X.A) (hb : Binds X.K fd ps []) (hx : ∀ σ, PassesAt CX X σ (E σ)) (ha : PA X (e :: es) t)
    (hst : starEach (e :: es) X.env = (false, eval e X.env) :: starEach es X.env := by rfl) (hpl : (backTo pos (starEach es X.env)).any (·.1) = false := by rfl)
    (ht : eval (.Call (.Attribute o m apos) (e :: es) [] pos) X.env = (do let ov ← eval o X.env; standAt apos.atName; let (f, first) ← holding [ov] (getMethod ov m pl); callWith pos f first (backTo pos (starEach (e :: es) X.env)) (backToKw pos (keywordEach [] X.env))) := by rfl) :
    PE X (.Call (.Attribute o m apos) (e :: es) [] pos) (tMethE C m sp E ta t) := by
  refine ⟨fun pn s σ H Q I h => ?_⟩
  refine PySem.W.methodCall_KW (pl := pl) (thn (he.run pn s σ H _ I h) fun u s1 ⟨x, H1, I1, rx, a, dx, fs, ex, ea, l, q⟩ => ?_) ht
  subst ex
  obtain rfl : u = Value.ref a := rx
  refine getmeth_ok I1 ea c hm l ?_
  refine PySem.W.callWith_K (first := [.ref a]) (h₀ := X.base) I.ok.mod.kin hm.kp (thn (ha.run pos pn s1 σ H1 _ I1 q) fun us s2 ⟨vs, H2, I2, r, q2⟩ => ⟨I2.kIn, ?_⟩) hst hpl
  exact run_fnS (us := .ref a :: us) (vs := .ref a :: vs) F hr hb (hx σ) I2 (.cons rfl r) q2
theorem pe_methE0 {pl : Sem Bool} (he : PE X o ta) (c : Cls X.K C) (hm : Meth X.K C m f) (F : FnOk X.prog X.w X.K X.mg X.base CX k f fd ps sp) (hr : Room k X.A) (hb : Binds X.K fd ps []) (hx : ∀ σ, PassesAt CX X σ (E σ))
    (ht : eval (.Call (.Attribute o m apos) [] [] pos) X.env = (do let ov ← eval o X.env; standAt apos.atName; let (f, first) ← holding [ov] (getMethod ov m pl); callWith pos f first (backTo pos (starEach [] X.env)) (backToKw pos (keywordEach [] X.env))) := by rfl) :
    PE X (.Call (.Attribute o m apos) [] [] pos) (tMethE C m sp E ta tNil) := by
  refine ⟨fun pn s σ H Q I h => ?_⟩
  refine PySem.W.methodCall_KW (pl := pl) (thn (he.run pn s σ H _ I h) fun u s1 ⟨x, H1, I1, rx, a, dx, fs, ex, ea, l, q⟩ => ?_) ht
  subst ex
  obtain rfl : u = Value.ref a := rx
  refine getmeth_ok I1 ea c hm l ?_
  exact PySem.W.callWith_K0 (first := [.ref a]) I1.kIn hm.kp (run_fnS (us := [.ref a]) (vs := [.ref a]) F hr hb (hx σ) I1 (.cons rfl .nil) q)
theorem run_makeE {pn : List (Addr × Obj)} {σ : L2.St} {H : Hp} {s : Shared} {Q : VK} {us : List Value} {vs : List V} (M : Mk X.K C f) (F : FnOk X.prog X.w X.K X.mg X.base CX k f fd ps sp) (hr : Room (k + 1) X.A) (hb : Binds X.K fd ps [])
    (hx : PassesAt CX X σ (E σ)) (I : Inv X pn σ H s) (r : Vals vs us)
    (h : ∀ x dx, H x = none → H dx = none → dx ≠ x → sp (.ref x :: vs) (upd (upd H dx (.own x)) x (.ins C dx [])) (fun v H2 => v = .non ∧ Q (.ref x) H2) (E σ)) :
    wpAny (model X.prog X.w) X.A (call (.ref C) us) (EP X pn σ Q) X.xe s := by
  have hq := h (s.heap.objs.size + 1) s.heap.objs.size (I.hok.fresh (Nat.le_succ _)) (I.hok.fresh (Nat.le_refl _)) (Nat.ne_of_lt (Nat.lt_succ_self _))
  have I2 := Inv.made (C := C) I
  have r2 : Vals (V.ref (s.heap.objs.size + 1) :: vs) (Value.ref (s.heap.objs.size + 1) :: us) := .cons rfl r
  have hl : (Value.ref (s.heap.objs.size + 1) :: us).length = ps.length := by
    have e := r2.length
    rw [F.len _ _ _ _ hq] at e
    exact e.symm
  have b := hb _ (Value.ref (s.heap.objs.size + 1) :: us) I2.kIn (by rw [List.append_nil]; exact hl)
  rw [List.append_nil] at b
  refine wpAny_call (make_map (f := f) I.kIn M.makes M.init (beq_iff_eq.mp M.fn) (codeAny_mono (F.run _ X.stack _ _ ⟨Value.ref (s.heap.objs.size + 1) :: us, []⟩ (Value.ref (s.heap.objs.size + 1) :: us) _ _ (E σ) (hr.make C us [])
    (I2.env0.make C us []) b r2 hq) fun r s' hq' => ?_))
  cases r with
  | error e => exact hx pn _ _ e s' I2 hq'
  | ok fl =>
    cases fl with
    | ret u =>
      obtain ⟨v, H', I3, rv, ev, q3⟩ := I2.after hq'
      subst ev
      exact ⟨rv, ⟨V.ref (s.heap.objs.size + 1), H', I3, rfl, q3⟩⟩
    | next => exact False.elim hq'
    | brk => exact False.elim hq'
    | cont => exact False.elim hq'
theorem pe_makeE (M : Mk X.K C f) (F : FnOk X.prog X.w X.K X.mg X.base CX k f fd ps sp) (hr : Room (k + 1) X.A) (hg : Gl X x) (hm : X.mg x = some (.ref C)) (hb : Binds X.K fd ps []) (hx : ∀ σ, PassesAt CX X σ (E σ))
    (ha : PA X (e :: es) t) (hdb : (x == ("__debug__" : Str)) = false := by decide) (he : starEach (e :: es) X.env = (false, eval e X.env) :: starEach es X.env := by rfl) (hpl : (backTo pos (starEach es X.env)).any (·.1) = false := by rfl) :
    PE X (.Call (.Name x p) (e :: es) [] pos) (tMakeE C sp E t) := by
  refine ⟨fun pn s σ H Q I h => ?_⟩
  refine wpAny_Call_Name_kw (ld_glob I hg hm ?_ hdb)
  refine PySem.W.callWith_K (h₀ := X.base) I.ok.mod.kin M.kp (thn (ha.run pos pn s σ H _ I h) fun us s1 ⟨vs, H1, I1, r, q⟩ => ⟨I1.kIn, ?_⟩) he hpl
  exact run_makeE M F hr hb (hx σ) I1 r q
theorem pe_makeE0 (M : Mk X.K C f) (F : FnOk X.prog X.w X.K X.mg X.base CX k f fd ps sp) (hr : Room (k + 1) X.A) (hg : Gl X x) (hm : X.mg x = some (.ref C)) (hb : Binds X.K fd ps []) (hx : ∀ σ, PassesAt CX X σ (E σ))
    (hdb : (x == ("__debug__" : Str)) = false := by decide) : PE X (.Call (.Name x p) [] [] pos) (tMakeE C sp E tNil) := by
  refine ⟨fun pn s σ H Q I h => ?_⟩
  refine wpAny_Call_Name_kw (ld_glob I hg hm ?_ hdb)
  exact PySem.W.callWith_K0 I.kIn M.kp (run_makeE (us := []) M F hr hb (hx σ) I .nil h)
end
/-! ### roads -/
structure Road where
  h : List Int
abbrev RC (c : Cfg) : Addr := He.ga c.K "Road"
instance : Py Road := ⟨fun c F v r => ∃ p dx a, v = .ref p ∧ F p = some (.ins (RC c) dx [(("heights" : Str), .ref a)]) ∧ F a = some (.lst (r.h.map V.int)), fun e ⟨p, dx, a, h, h1, h2⟩ => ⟨p, dx, a, h, e _ _ h1, e _ _ h2⟩⟩
instance : NN Road := ⟨fun {c F v x} h => by obtain ⟨a, u, w, rfl, _⟩ := h; exact fun z => nomatch z⟩
section
variable {c : Cfg} {W : WX} {ρ : List Sl} {α β γ : Type} [Py α] [Py β] [Py γ]
theorem reps_ints (F : Hp) (ns : List Int) : Reps c F (ns.map V.int) ns := by
  induction ns with
  | nil => trivial
  | cons n ns ih => exact ⟨rfl, ih⟩
theorem ev_hts (hc : Cls c.K (RC c)) (hn : NoAttr c.K (RC c) "heights") {te : TE} {m : Res Road} (h : Ev c W te ρ m) : Ev c W (tFld c.K te "heights") ρ (m.bind fun r => .ok r.h) := ⟨fun {B G0 H0 G H σ} E Q p =>
  h.seq E chanP p fun x v G1 H1 l1 E1 r1 p1 => by
    obtain ⟨a, dx, b, rfl, h1, h2⟩ := r1
    exact ⟨a, _, dx, _, .ref b, rfl, E1.le.gh _ _ h1, hc, hn, by simp [List.lookup], p1 _ _ _ (Le.refl E1.le.gh) ⟨b, _, rfl, h2, reps_ints _ _⟩⟩⟩
theorem look_hts {m : Str} {v : V} (h : (m == ("heights" : Str)) = false) : List.lookup m [(("heights" : Str), v)] = none := by
  simp only [List.lookup, h]
theorem ev_methR {δ : Type} [PyA δ] {m : Str} (hm : (m == ("heights" : Str)) = false) {f : Road × δ → Res γ} {te : TE} {ta : TA} {mo : Res Road} {ma : Res δ} (ho : Ev c W te ρ mo) (ha : EvA c W ta ρ ma) :
    Ev c W (tMethE (RC c) m (PromS c f) (WE W) te ta) ρ (mo.bind fun r => ma.bind fun a => f (r, a)) := ⟨fun {B G0 H0 G H σ} E Q p =>
  ho.seq E chanP p fun x v G1 H1 l1 E1 r1 p1 => by
    obtain ⟨a, dx, b, rfl, h1, h2⟩ := r1
    refine ⟨a, dx, _, rfl, E1.le.gh _ _ h1, look_hts hm, ha.seq E1 chanP p1 fun y vs G2 H2 l2 E2 r2 p2 => ?_⟩
    exact ⟨G2, (x, y), E2.le.gh, ⟨_, _, rfl, ⟨a, dx, b, rfl, l2.g _ _ h1, l2.g _ _ h2⟩, r2⟩, p2⟩⟩
theorem el_methR {δ : Type} [PyA δ] {m : Str} (hm : (m == ("heights" : Str)) = false) {f : Road × δ → Res (List γ)} {te : TE} {ta : TA} {mo : Res Road} {ma : Res δ} (ho : Ev c W te ρ mo) (ha : EvA c W ta ρ ma) :
    EvL c W (tMethE (RC c) m (PromL c f) (WE W) te ta) ρ (mo.bind fun r => ma.bind fun a => f (r, a)) := ⟨fun {B G0 H0 G H σ} E Q p =>
  ho.seq E chanL p fun x v G1 H1 l1 E1 r1 p1 => by
    obtain ⟨a, dx, b, rfl, h1, h2⟩ := r1
    refine ⟨a, dx, _, rfl, E1.le.gh _ _ h1, look_hts hm, ha.seq E1 chanL p1 fun y vs G2 H2 l2 E2 r2 p2 => ?_⟩
    exact ⟨G2, (x, y), E2.le.gh, ⟨_, _, rfl, ⟨a, dx, b, rfl, l2.g _ _ h1, l2.g _ _ h2⟩, r2⟩, p2⟩⟩
/-- what __init__ of a road is to reach: x the new thing, H0 the heap without it -/
def PostI (c : Cfg) (G H0 : Hp) (x dx : Addr) (Q : VK) (E : XK) : Res Road → Prop
  | .ok r => ∀ G' H' q, Le G H0 G' H' → H0 q = none → G' x = none → H' x = some (.ins (RC c) dx [(("heights" : Str), .ref q)]) → G' q = some (.lst (r.h.map V.int)) → Q .non H'
  | .raise e => ∀ G' H', Le G H0 G' H' → E (.ref (c.T e)) none H'
  | .stuck => False
def PromI {δ : Type} [PyA δ] (c : Cfg) (m : δ → Res Road) : Sp := fun vs H Q E => ∃ (G H0 : Hp) (a : δ) (x dx : Addr) (r : List V), vs = .ref x :: r ∧ H0 x = none ∧ H = upd H0 x (.ins (RC c) dx []) ∧ Same G H0 ∧ PyA.rep c G r a ∧ PostI c G H0 x dx Q E (m a)
theorem ev_road {δ : Type} [PyA δ] {f : δ → Res Road} {ta : TA} {m : Res δ} (h : EvA c W ta ρ m) : Ev c W (tMakeE (RC c) (PromI c f) (WE W) ta) ρ (m.bind f) := ⟨fun {B G0 H0 G H σ} E Q p =>
  h.seq E chanP p fun a vs G1 H1 l1 E1 r1 p1 => fun x dx hx hdx ne => by
    have hx0 : (upd H1 dx (.own x)) x = none := by rw [upd_ne (Ne.symm ne)]; exact hx
    have l0 : Le G1 H1 G1 (upd H1 dx (.own x)) := Le.newH _ E1.le.gh hdx
    refine ⟨G1, upd H1 dx (.own x), a, x, dx, vs, rfl, hx0, rfl, l0.gh, r1, ?_⟩
    cases hm : f a with
    | stuck =>
      rw [hm] at p1
      exact p1
    | raise e =>
      rw [hm] at p1
      exact fun G' H' l => p1 G' H' (l0.trans l)
    | ok r =>
      rw [hm] at p1
      intro G' H' q l _ gx hx' gq
      refine ⟨rfl, ?_⟩
      have l2 : Le G1 H1 G' H' := l0.trans l
      have l3 : Le G1 H1 (upd G' x (.ins (RC c) dx [(("heights" : Str), .ref q)])) H' := l2.know hx hx'
      refine p1 _ _ _ l3 ⟨x, dx, q, rfl, upd_same, ?_⟩
      rw [upd_ne (ne_of_none gq gx)]
      exact gq⟩
/-- the thing that is being made -/
def isNew (c : Cfg) (x dx : Addr) : ML := ⟨fun _ p o => p = x ∧ o = .ins (RC c) dx [], fun _ h => h⟩
theorem start_envI {δ : Type} [PyA δ] {N : List Str} {vs : List V} {a : δ} {n : Nat} {G H0 : Hp} {x dx : Addr} (hg : Same G H0) (h0 : H0 x = none) (r : PyA.rep c G vs a) (hn : N.length = PyA.n δ + 1 + n) :
    EnvR G G H0 G (upd H0 x (.ins (RC c) dx [])) (L2.start N (.ref x :: vs)) (.own (isNew c x dx) :: PyA.sl c a ++ List.replicate n .no) := by
  have hl := PyA.len r
  have l0 : Le G H0 G (upd H0 x (.ins (RC c) dx [])) := Le.newH _ hg h0
  refine ⟨Same.refl G, l0, ?_, fun b => if b = x then some 0 else none, fun i s e => ?_⟩
  · unfold L2.start
    simp only [List.length_append, List.length_map, List.length_replicate, List.length_cons, PyA.sln]
    omega
  · cases i with
    | zero =>
      have e : Sl.own (isNew c x dx) = s := by simpa using e
      subst e
      exact ⟨x, _, by unfold L2.start; rfl, h0, hg.free h0, by simp, upd_same, rfl, rfl⟩
    | succ i =>
      rw [List.cons_append, List.getElem?_cons_succ] at e
      by_cases hi : i < PyA.n δ
      · rw [List.getElem?_append_left (by rw [PyA.sln]; exact hi)] at e
        obtain ⟨Pm, v, rfl, h1, h2⟩ := PyA.env r i s e
        refine ⟨v, ?_, h2⟩
        unfold L2.start
        rw [List.getElem?_append_left (by rw [List.length_map, List.length_cons, hl]; omega), List.getElem?_map, List.getElem?_cons_succ, h1]
        rfl
      · rw [List.getElem?_append_right (by rw [PyA.sln]; omega)] at e
        have : s = .no := by
          obtain ⟨_, e2⟩ := List.getElem?_eq_some_iff.mp e
          simpa using e2.symm
        subst this
        trivial
theorem scI {B G0 H0 : Hp} {x dx : Addr} {Q : VK} {E : XK} : SC Road c B G0 H0 (fun cls d _ H => E cls d H) (PostI c G0 H0 x dx Q E) (fun _ => True) := ⟨fun h => h, fun e h ρ G H σ _ En => h G H En.le⟩
/-- self.heights = e, the last row of __init__ -/
theorem st_initEnd {B G0 H0 G H : Hp} {σ : L2.St} {x dx : Addr} {Q : VK} {E : XK} {te : TE} {m : Res (List Int)} {D : Ends} (hc : Cls c.K (RC c)) (hn : NoAttr c.K (RC c) "heights") (hx : H0 x = none) (En : EnvR B G0 H0 G H σ ρ) (hi : ρ[0]? = some (.own (isNew c x dx)))
    (ev : EvL c (fun cls d _ H => E cls d H) te ρ m) (k : PostI c G0 H0 x dx Q E (m.bind fun hs => .ok ⟨hs⟩)) (hd : ∀ σ H, Q .non H → D.nx σ H) : sFld c.K (tVar 0) te "heights" D σ H := by
  refine ev.run En _ ?_
  cases m with
  | stuck => exact k
  | raise e => exact fun G' H' l => k G' H' (En.le.trans l)
  | ok hs' =>
    intro p vs G1 H1 l h0 h1 h2 r
    obtain ⟨q, o, e1, e2, e3, e4, e6, e5⟩ := (En.mono l).own hi
    subst e6 e5
    refine ⟨_, e1, q, _, dx, [], rfl, e4, hc, hn, by decide, hd _ _ ?_⟩
    have z := reps_int r
    subst z
    have l2 : Le G0 H0 G1 H1 := En.le.trans l
    have l3 : Le G0 H0 (upd G1 p (.lst (hs'.map V.int))) H1 := l2.know (En.le.h.free h0) h2
    have np : p ≠ q := fun z => by
      subst z
      obtain ⟨q', o', f1, f2, f3, f4, f6, f5⟩ := En.own hi
      subst f6
      rw [h0] at f4
      cases f4
    have gx : (upd G1 p (.lst (hs'.map V.int))) q = none := by rw [upd_ne (Ne.symm np)]; exact e3
    refine k _ _ p (l3.write hx gx) (En.le.h.free h0) gx ?_ upd_same
    rw [upd_same]
    rfl
end
theorem fn_mkI {P : Program} {w : World} {mg : Str → Option Value} {base : Heap} {x qual : Str} {params : Arguments} {body : List Stmt} {scope : Scope} {f : Addr} {fd : FuncData} {N ps : List Str} {k n : Nat} {c : Cfg} {δ : Type} [PyA δ] {m : δ → Res Road}
    (F : FunD c.K x qual params body scope [] [] f fd) (S : FnScope N ps scope) (hps : ps.length = PyA.n δ + 1) (hN : N.length = PyA.n δ + 1 + n)
    (hbody : ∀ (cdv : Value) (A : Around) (outer : List Env) (s : Shared) (H : Hp) (E : XK), Room k (A.deeper (PyProof.Rows.envOfC qual scope s.heap.objs.size f cdv)) →
      Takes (cxOf (L2.CX P w) P w c.K mg base N qual scope f cdv A outer s H E) (fun cls d _ H => E cls d H) →
      PassesOwn (model P w) (A.deeper (PyProof.Rows.envOfC qual scope s.heap.objs.size f cdv)) (PyProof.Rows.envOfC qual scope s.heap.objs.size f cdv) (cxOf (L2.CX P w) P w c.K mg base N qual scope f cdv A outer s H E).xe →
      ∃ t, PSs (cxOf (L2.CX P w) P w c.K mg base N qual scope f cdv A outer s H E) body t ∧
        ∀ (G H0 : Hp) (a : δ) (σ : L2.St) (x dx : Addr) (Q : VK), H0 x = none → EnvR G G H0 G H σ (.own (isNew c x dx) :: PyA.sl c a ++ List.replicate n .no) → PostI c G H0 x dx Q E (m a) → t { nx := fun _ H' => Q .non H', rt := Q } σ H) :
    FnOk P w c.K mg base (L2.CX P w) (k + 1) f fd ps (PromI c m) := by
  refine FunD.ok F S (fun vs H Q E h => ?_) (fun cdv A outer s H vs Q E hr h => ?_)
  · obtain ⟨G, H0, a, x, dx, r, rfl, _, _, _, h, _⟩ := h
    rw [hps, List.length_cons, PyA.len h]
  · obtain ⟨t, ht, k⟩ := hbody cdv A outer s H E hr (takes_of rfl rfl rfl rfl) (passes_of (X := cxOf (L2.CX P w) P w c.K mg base N qual scope f cdv A outer s H E) rfl)
    obtain ⟨G, H0, a, x, dx, r, rfl, h0, rfl, e, h, p⟩ := h
    exact ⟨t, ht, k G H0 a _ x dx Q h0 (start_envI e h0 h hN) p⟩
theorem fn_cx0 {P : Program} {w : World} {K : PySem.W.Frag} {mg : Str → Option Value} {base : Heap} {k : Nat} {f : Addr} {fd : FuncData} {ps : List Str} {sp : Sp} (F : FnOk P w K mg base (L2.CX P w) k f fd ps sp) :
    FnOk P w K mg base L2.CX0 k f fd ps (fun vs H Q _ => sp vs H Q fun _ _ _ => False) := by
  refine ⟨fun vs H Q E h => F.len vs H Q _ h, fun A outer s H args us vs Q E hr he hb hv h => codeAny_mono (F.run A outer s H args us vs Q _ hr he hb hv h) fun r s' hq => ?_⟩
  cases r with
  | error e =>
    obtain ⟨a, B, H', cls, d, _, _, _, _, _, _, _, z⟩ := hq
    exact z.elim
  | ok fl => cases fl <;> exact hq
theorem fd_eq {K : PySem.W.Frag} {x q : Str} {a : Arguments} {b : List Stmt} {sc : Scope} {f : Addr} {fd fd' : FuncData} (F : FunD K x q a b sc [] [] f fd) (F' : FunD K x q a b sc [] [] f fd') : fd = fd' := by
  obtain ⟨oc, od, dV, kV, doc, pm, an, cdv, ct, osl, rfl, lk, _⟩ := F.ex
  obtain ⟨oc', od', dV', kV', doc', pm', an', cdv', ct', osl', rfl, lk', _⟩ := F'.ex
  rw [lk] at lk'
  injection lk' with z
  injection z with _ _ z _
  injection z with z
/-! ### the text -/
def inCls (st : Stmt) (j : Nat) : Stmt := match st with
  | .ClassDef _ _ _ body _ _ _ _ _ _ _ => body.getD j (.Pass ⟨0, 0, 0, 0⟩)
  | _ => .Pass ⟨0, 0, 0, 0⟩
end CR

/-! Core5: more facts of the top, isinstance of own classes, optional values, tuples compared, in, index, dicts. -/
namespace CR
open PySem L2
/-! ### the head with facts of one's own -/
def obsX (fa : List He.Fa) (fn : List He.DefD) (ex : PySem.W.Frag → Bool) (K : PySem.W.Frag) : He.AlD × Bool := (He.obsD fa fn K, ex K)
def hookX (n : Nat) (fa : List He.Fa) (fn : List He.DefD) (ex : PySem.W.Frag → Bool) : PySem.W.Hook where
  α := He.AlD × Bool
  obs := fun s => obsX fa fn ex (He.frG s.heap.get? (He.asD s.heap.get? n))
  val := fun _ => (He.valD fn, true)
  says := fun _ h => ∃ K : PySem.W.Frag, K.In h ∧ He.SaysD fa fn K ∧ ex K = true
  of := fun _ _ e => ⟨_, He.frG_in, congrArg Prod.fst e, congrArg Prod.snd e⟩
  keeps := fun _ _ _ ⟨K, hK, c⟩ k => ⟨K, PySem.W.Frag.In.keeps hK k, c⟩
def obsXG (n : Nat) (fa : List He.Fa) (fn : List He.DefD) (ex : PySem.W.Frag → Bool) (g : Addr → Option Obj) : He.AlD × Bool := obsX fa fn ex (He.frG g (He.asD g n))
theorem obsXG_eq {n : Nat} {fa : List He.Fa} {fn : List He.DefD} {ex : PySem.W.Frag → Bool} {g : Addr → Option Obj} {s : Shared} (h : ∀ a, g a = s.heap.get? a) : obsXG n fa fn ex g = (hookX n fa fn ex).obs s := by
  have e : g = s.heap.get? := funext h
  rw [e] <;> rfl
theorem hr65 {A : Around} {k : Nat} (r : Room k A) : A.units + 65 < cLine := by have := r.un; omega
theorem ltU {A : Around} {k : Nat} (r : Room k A) : A.units < cLine := by have := r.un; omega
theorem blkOk_in {N : List Str} {scope sc : Scope} {own : List (Str × Nat)} {cl : List (Str × Addr)} {C : Addr} {env : Env} (env0 : Env) (e : relabel scope env = relabel scope env0) (h : blkC N (relabel scope env0) sc own = true) : BlkOk N (compEnvC scope cl C env).scope sc own := by
  show BlkOk N (relabel scope env) sc own
  rw [e]
  exact blkOk_by h
/-! ### rules that name the written part -/
section
variable {X : Cx} (K : PySem.W.Frag)
theorem kIxL (h : X.K = K := by rfl) : IxR X (rIxL K) := h ▸ ix_list
theorem kIxT (h : X.K = K := by rfl) : IxR X (rIxT K) := h ▸ ix_tup
theorem kSlL (h : X.K = K := by rfl) : SlR X (rSlL K) := h ▸ sl_list
theorem kEqD (hu : X.A.units + 64 < cLine) (h : X.K = K := by rfl) : OpR X (compareOp .Eq) (rEqD K) := h ▸ op_eqD hu
theorem kNeD (hu : X.A.units + 64 < cLine) (h : X.K = K := by rfl) : OpR X (compareOp .NotEq) (rNeD K) := h ▸ op_neD hu
theorem kInD (hu : X.A.units + 65 < cLine) (h : X.K = K := by rfl) : OpR X (compareOp .In) (rInD K) := h ▸ op_inD hu
theorem kNotInD (hu : X.A.units + 65 < cLine) (h : X.K = K := by rfl) : OpR X (compareOp .NotIn) (rNotInD K) := h ▸ op_notInD hu
theorem kLtT (hu : X.A.units < cLine) (h : X.K = K := by rfl) : OpR X (compareOp .Lt) (rLtT K) := h ▸ op_ltT hu
theorem kLeT (hu : X.A.units < cLine) (h : X.K = K := by rfl) : OpR X (compareOp .LtE) (rLeT K) := h ▸ op_leT hu
theorem kCatT (h : X.K = K := by rfl) : OpR X (binaryOp .Add) (rCatT K) := h ▸ op_catT
theorem kLen (h : X.K = K := by rfl) : CallR X (.builtin "len") (fun xs H Q => ∃ p ys, xs = [.ref p] ∧ (SqL K H p ys ∨ SqT K H p ys) ∧ Q (.int ys.length) H) := h ▸ call_len_seq
theorem kIsi (h : X.K = K := by rfl) : CallR X (.builtin "isinstance") (rIsi K) := h ▸ call_isi
theorem kList (h : X.K = K := by rfl) : CallR X (.type "list") (fun xs H Q => ∃ p ys, xs = [.ref p] ∧ (SqL K H p ys ∨ SqT K H p ys) ∧ ∀ l, H l = none → Q (.ref l) (upd H l (.lst ys))) := h ▸ call_list_of
theorem kTuple (h : X.K = K := by rfl) : CallR X (.type "tuple") (fun xs H Q => ∃ p ys, xs = [.ref p] ∧ ((SqL K H p ys ∧ ∀ l, H l = none → Q (.ref l) (upd H l (.tup ys))) ∨ (SqT K H p ys ∧ Q (.ref p) H))) := h ▸ call_tuple_of
theorem kSum (hc : X.calm = true) (h : X.K = K := by rfl) : CallR X (.builtin "sum") (rSum K) := h ▸ cr_sum hc
theorem kAll (hc : X.calm = true) (h : X.K = K := by rfl) : CallR X (.builtin "all") (rAll K) := h ▸ cr_all hc
theorem kAny (hc : X.calm = true) (h : X.K = K := by rfl) : CallR X (.builtin "any") (rAny K) := h ▸ cr_any hc
theorem kSorted (h : X.K = K := by rfl) : CallR X (.builtin "sorted") (rSortedI K) := h ▸ cr_sortedI
theorem kIndexD (hu : X.A.units + 65 < cLine) (h : X.K = K := by rfl) : MtR X "list.index" (rIndexD K) := h ▸ mt_indexD hu
theorem kFld {e : Expr} {ta : TE} {f : Str} {pos : Pos} (he : PE X e ta) (hb : attributeBase e f X.env (eval e X.env) = eval e X.env := by rfl) (h : X.K = K := by rfl) : PE X (.Attribute e f pos) (tFld K ta f) := h ▸ pe_fld he hb
theorem kRevL {e : Expr} {te : TE} {k : Nat} {p1 p2 p3 pos : Pos} (he : PE X e te) (h : X.K = K := by rfl) : PE X (.Subscript e (.Slice none none (some (.UnaryOp .USub (.Constant (.int 1) k p1) p2)) p3) pos) (tRevL K te) := h ▸ pe_revL he
theorem kPiL {tg l : Expr} {tl : TE} (he : PE X l tl) (h : X.K = K := by rfl) : PI X tg l (iList K tl) := h ▸ pi_list he
theorem kPiT {tg l : Expr} {tl : TE} (he : PE X l tl) (h : X.K = K := by rfl) : PI X tg l (iTup K tl) := h ▸ pi_tup he
end
/-! ### isinstance of an own class -/
def isiOk (K : PySem.W.Frag) (C : Addr) : Bool := decide (PySem.W.findIn K (.ref C) "__class__" = some (some (.builtin "object.__class__"))) && (decide (PySem.W.specialIn K (.builtin "object.__class__") "__get__" = some (some (.builtin "getset_descriptor.__get__"))) &&
  (decide (PySem.W.takesIn K (.builtin "object.__class__") = some true) && (decide (PySem.W.mroIn K C (.type "object") = some true) && decide (PySem.W.kitOne K (.type "NoneType") (.ref C) = some false))))
structure ClsR where
  mk ::
instance : Py ClsR := ⟨fun c _ v _ => v = .ref (RC c), fun _ h => h⟩
section
variable {c : Cfg} {W : WX} {ρ : List Sl} {B G0 H0 G H : Hp} {σ : L2.St} {α β γ : Type} [Py α] [Py β] [Py γ]
theorem road_ty (hc : Cls c.K (RC c)) (hx : isiOk c.K (RC c) = true) {F : Hp} {v : V} {r : Road} (h : Py.rep c F v r) : TyX c.K F v (.ref (RC c)) := by
  obtain ⟨p, dx, a, rfl, h1, h2⟩ := h
  unfold isiOk at hx
  simp only [Bool.and_eq_true] at hx
  exact .base (.ins h1 hc (of_decide_eq_true hx.1) (of_decide_eq_true hx.2.1) (of_decide_eq_true hx.2.2.1) (of_decide_eq_true hx.2.2.2.1))
theorem cs_isiR {K : PySem.W.Frag} (hK : c.K = K) (hc : Cls c.K (RC c)) (hx : isiOk c.K (RC c) = true) : CaS c (rIsi K) (fun _ : Road × ClsR × Unit => .ok true) := fun _ x vs G H Q e r p => by
  obtain ⟨v, r, h, h1, u, r2, h2, h3, h4⟩ := r
  subst h h2 h4 hK
  have h3 : u = .ref (RC c) := h3
  subst h3
  refine ⟨v, _, _, _, true, rfl, .own _, tyX_mono e (road_ty hc hx h1), ?_, p _ _ _ (Le.refl e) rfl⟩
  unfold PySem.W.kitOne
  rw [if_pos (beq_self_eq_true _)]
theorem cs_isiRO {K : PySem.W.Frag} (hK : c.K = K) (hc : Cls c.K (RC c)) (hx : isiOk c.K (RC c) = true) : CaS c (rIsi K) (fun x : Option Road × ClsR × Unit => .ok x.1.isSome) := fun _ x vs G H Q e r p => by
  obtain ⟨v, r, h, h1, u, r2, h2, h3, h4⟩ := r
  subst h h2 h4 hK
  have h3 : u = .ref (RC c) := h3
  subst h3
  obtain ⟨o, k⟩ := x
  cases o with
  | none =>
    have h1 : v = .non := h1
    subst h1
    unfold isiOk at hx
    simp only [Bool.and_eq_true] at hx
    exact ⟨_, _, _, _, false, rfl, .own _, .base .non, of_decide_eq_true hx.2.2.2.2, p _ _ _ (Le.refl e) rfl⟩
  | some r =>
    refine ⟨v, _, _, _, true, rfl, .own _, tyX_mono e (road_ty hc hx (r := r) h1), ?_, p _ _ _ (Le.refl e) rfl⟩
    unfold PySem.W.kitOne
    rw [if_pos (beq_self_eq_true _)]
theorem ev_clsR : Ev c W (tC (.ref (RC c))) ρ (.ok ClsR.mk) := ev_cst fun _ => rfl
/-! ### what is not None -/
def getO {α : Type} (o : Option α) : Res α := match o with
  | some x => .ok x
  | none => .stuck
theorem ev_get {te : TE} {m : Res (Option α)} (h : Ev c W te ρ m) : Ev c W te ρ (m.bind getO) := ⟨fun {B G0 H0 G H σ} E Q p =>
  h.seq E chanP p fun x v G1 H1 l1 E1 r1 p1 => by
    cases x with
    | none => exact p1.elim
    | some x => exact p1 v G1 H1 (Le.refl E1.le.gh) r1⟩
/-! ### xs[::-1] -/
theorem el_rev {K : PySem.W.Frag} {te : TE} {m : Res (List α)} (h : Ev c W te ρ m) : EvL c W (tRevL K te) ρ (m.bind fun xs => .ok xs.reverse) := ⟨fun {B G0 H0 G H σ} E Q q =>
  h.seq E chanL q fun x v G1 H1 l1 E1 r1 q1 => by
    obtain ⟨a, vs, rfl, a1, a2⟩ := r1
    refine ⟨a, vs, rfl, SqL.of (E1.le.gh _ _ a1), fun p hp => ?_⟩
    exact q1 p _ G1 _ (Le.newH _ E1.le.gh hp) hp (E1.le.gh.free hp) upd_same a2.reverse⟩
/-! ### tuples of ints compared -/
theorem os_ltT {K : PySem.W.Frag} (hK : c.K = K) : OpS c (rLtT K) (fun (x y : Tp Int) => .ok (HT.lexLt x.l y.l)) := fun _ x y v u G H Q e hv hu p => by
  subst hK
  obtain ⟨a, vs, rfl, h1, h2⟩ := hv
  obtain ⟨b, us, rfl, h3, h4⟩ := hu
  have z1 := reps_int h2
  have z2 := reps_int h4
  subst z1 z2
  exact ⟨a, b, _, _, rfl, rfl, SqT.of (e _ _ h1), SqT.of (e _ _ h3), p _ _ _ (Le.refl e) rfl⟩
/-- x < y for x > y, from the right -/
def lexLeB (x y : List Int) : Bool := Ob.lexAt (fun j => decide (x.getD j 0 = y.getD j 0)) (fun j => decide (x.getD j 0 ≤ y.getD j 0)) (decide (x.length ≤ y.length)) 0 (min x.length y.length)
theorem os_leT {K : PySem.W.Frag} (hK : c.K = K) : OpS c (rLeT K) (fun (x y : Tp Int) => .ok (lexLeB x.l y.l)) := fun _ x y v u G H Q e hv hu p => by
  subst hK
  obtain ⟨a, vs, rfl, h1, h2⟩ := hv
  obtain ⟨b, us, rfl, h3, h4⟩ := hu
  have z1 := reps_int h2
  have z2 := reps_int h4
  subst z1 z2
  exact ⟨a, b, _, _, rfl, rfl, SqT.of (e _ _ h1), SqT.of (e _ _ h3), p _ _ _ (Le.refl e) rfl⟩
/-! ### a < b <= c -/
theorem ev_chain {r r' : R2} {f f' : Int → Int → Res Bool} (ho : OpS c r f) (ho' : OpS c r' f') {ta tb tc : TE} {m1 m2 m3 : Res Int} (h1 : Ev c W ta ρ m1) (h2 : Ev c W tb ρ m2) (h3 : Ev c W tc ρ m3) :
    Ev c W (tChain r r' ta tb tc) ρ (m1.bind fun x => m2.bind fun y => (f x y).bind fun b => if b = true then m3.bind fun z => f' y z else .ok false) := ⟨fun {B G0 H0 G H σ} E Q p =>
  h1.seq E chanP p fun x v G1 H1 l1 E1 r1 p1 => h2.seq E1 chanP p1 fun y u G2 H2 l2 E2 r2 p2 => by
    refine ho (WE W σ) x y v u G2 H2 _ E2.le.gh (Py.mono l2.g r1) r2 ?_
    cases hf : f x y with
    | stuck =>
      rw [hf] at p2
      exact p2
    | raise e =>
      rw [hf] at p2
      exact p2
    | ok b =>
      rw [hf] at p2
      intro z G3 H3 l3 rz
      refine ⟨b, rz, ?_⟩
      cases b with
      | false =>
        rw [if_neg Bool.false_ne_true]
        have p2 : Post c G2 H2 Q (WE W σ) (.ok false) := p2
        exact p2 _ _ _ l3 rfl
      | true =>
        rw [if_pos rfl]
        have p2 : Post c G2 H2 Q (WE W σ) (m3.bind fun z => f' y z) := p2
        exact h3.seq (E2.mono l3) chanP (p2.mono l3) fun w t G4 H4 l4 E4 r4 p4 => ho' (WE W σ) y w u t G4 H4 Q E4.le.gh (Py.mono (l3.g.trans l4.g) r2) r4 p4⟩
/-! ### tuple(xs) -/
theorem cs_tupleL {K : PySem.W.Frag} (hK : c.K = K) : CaS c (fun xs H Q => ∃ p ys, xs = [.ref p] ∧ ((SqL K H p ys ∧ ∀ l, H l = none → Q (.ref l) (upd H l (.tup ys))) ∨ (SqT K H p ys ∧ Q (.ref p) H))) (fun x : List α × Unit => .ok (Tp.mk x.1)) := fun _ x vs G H Q e r p => by
  obtain ⟨v, r, h, ⟨a, us, h1, h2, h3⟩, h4⟩ := r
  subst h h1 h4
  refine ⟨a, us, rfl, .inl ⟨SqL.of (e _ _ h2), fun l hl => p _ _ _ (Le.new _ e hl) ⟨l, us, rfl, upd_same, h3.mono (same_new (e.free hl))⟩⟩⟩
theorem ev_tpnil : Ev c W (tTup tNil) ρ (.ok (Tp.mk ([] : List α))) := ⟨fun {B G0 H0 G H σ} E Q p => ⟨Nat.zero_le _, fun q hq => p _ _ _ (Le.new _ E.le.gh hq) ⟨q, [], rfl, upd_same, trivial⟩⟩⟩
def catT {α : Type} (x y : Tp α) : Res (Tp α) := guard (!x.l.isEmpty && !y.l.isEmpty && decide (x.l.length + y.l.length ≤ 16000000)) (.ok ⟨x.l ++ y.l⟩)
theorem ev_catT {K : PySem.W.Frag} (hK : c.K = K) {ta tb : TE} {m1 m2 : Res (Tp α)} (h1 : Ev c W ta ρ m1) (h2 : Ev c W tb ρ m2) : Ev c W (tOp (rCatT K) ta tb) ρ (m1.bind fun x => m2.bind fun y => catT x y) := ⟨fun {B G0 H0 G H σ} E Q q =>
  h1.seq E chanP q fun x v G1 H1 l1 E1 r1 q1 => h2.seq E1 chanP q1 fun y u G2 H2 l2 E2 r2 q2 => by
    subst hK
    unfold catT at q2
    cases hg : (!x.l.isEmpty && !y.l.isEmpty && decide (x.l.length + y.l.length ≤ 16000000)) with
    | false =>
      rw [hg] at q2
      exact q2.elim
    | true =>
      rw [hg] at q2
      simp only [Bool.and_eq_true, Bool.not_eq_true', List.isEmpty_eq_false_iff] at hg
      obtain ⟨⟨n1, n2⟩, n3⟩ := hg
      have n3 := of_decide_eq_true n3
      obtain ⟨a, vs, rfl, a1, a2⟩ := r1
      obtain ⟨b, us, rfl, b1, b2⟩ := r2
      have a2 := a2.mono l2.g
      have e1 := a2.length
      have e2 := b2.length
      have ne : ∀ {vs : List V} {xs : List α}, vs.length = xs.length → xs ≠ [] → vs ≠ [] := fun e h z => by
        subst z
        exact h (List.eq_nil_of_length_eq_zero e.symm)
      refine ⟨a, b, vs, us, rfl, rfl, SqT.of (E2.le.gh _ _ (l2.g _ _ a1)), SqT.of (E2.le.gh _ _ b1), ne e1 n1, by rw [e1, e2]; exact size_le n3, fun z => absurd z (ne e2 n2), fun _ p hp => ?_⟩
      have z := same_new (o := .tup (vs ++ us)) (E2.le.gh.free hp)
      exact q2 _ _ _ (Le.new _ E2.le.gh hp) ⟨p, _, rfl, upd_same, (Reps.append a2 b2).mono z⟩⟩
/-! ### x in xs, by == -/
theorem os_inD {K : PySem.W.Frag} (hK : c.K = K) [Dat α] (h1 : Dat.dep α ≤ 60 := by decide) : OpS c (rInD K) (fun (x : α) (ys : List α) => .ok (ys.any fun y => deq y x)) := fun _ x ys v u G H Q e hv hu p => by
  subst hK
  obtain ⟨a, vs, rfl, h3, h4⟩ := hu
  refine ⟨Dat.enc x, ys.map Dat.enc, dp_mono e _ _ (Dat.dp hv), .lst (SqL.of (e _ _ h3)) (dpAll_mono e _ _ (reps_dp h4)), dat_shaped x (by omega), dat_shaped ys (by show Dat.dep α + 1 ≤ 64; omega), ?_⟩
  rw [List.any_map]
  exact p _ _ _ (Le.refl e) rfl
theorem os_notInD {K : PySem.W.Frag} (hK : c.K = K) [Dat α] (h1 : Dat.dep α ≤ 60 := by decide) : OpS c (rNotInD K) (fun (x : α) (ys : List α) => .ok (!ys.any fun y => deq y x)) := fun _ x ys v u G H Q e hv hu p => by
  subst hK
  obtain ⟨a, vs, rfl, h3, h4⟩ := hu
  refine ⟨Dat.enc x, ys.map Dat.enc, dp_mono e _ _ (Dat.dp hv), .lst (SqL.of (e _ _ h3)) (dpAll_mono e _ _ (reps_dp h4)), dat_shaped x (by omega), dat_shaped ys (by show Dat.dep α + 1 ≤ 64; omega), ?_⟩
  rw [List.any_map]
  exact p _ _ _ (Le.refl e) rfl
/-- xs.index(x) -/
def idxR [Dat α] (xs : List α) (x : α) : Res Int := match xs.findIdx? (fun y => deq y x) with
  | some j => .ok (j : Int)
  | none => .stuck
theorem ev_index {K : PySem.W.Frag} (hK : c.K = K) [Dat α] (h1 : Dat.dep α ≤ 60 := by decide) {to te : TE} {m : Res (List α)} {mx : Res α} (h : Ev c W to ρ m) (hx : Ev c W te ρ mx) :
    Ev c W (tBM K "list" (rIndexD K) to (tCons te tNil)) ρ (m.bind fun xs => mx.bind fun x => idxR xs x) := ⟨fun {B G0 H0 G H σ} E Q p =>
  h.seq E chanP p fun xs v G1 H1 l1 E1 r1 p1 => by
    subst hK
    obtain ⟨a, vs, rfl, a1, a2⟩ := r1
    refine ⟨.inl ⟨rfl, _, SqL.of (E1.le.gh _ _ a1)⟩, hx.seq E1 chanP p1 fun x u G2 H2 l2 E2 r2 p2 => ?_⟩
    have p2 := (show Post c G2 H2 Q (WE W σ) (idxR xs x) from p2)
    unfold idxR at p2
    cases hj : xs.findIdx? (fun y => deq y x) with
    | none =>
      rw [hj] at p2
      exact p2.elim
    | some j =>
      rw [hj] at p2
      obtain ⟨hlt, e1, e2⟩ := List.findIdx?_eq_some_iff_getElem.mp hj
      refine ⟨a, u, Dat.enc x, xs.map Dat.enc, j, Dat.enc xs[j], rfl, rfl, .lst (SqL.of (E2.le.gh _ _ (l2.g _ _ a1))) (dpAll_mono (l2.g.trans E2.le.gh) _ _ (reps_dp a2)), dp_mono E2.le.gh _ _ (Dat.dp r2), dat_shaped xs (by show Dat.dep α + 1 ≤ 64; omega), dat_shaped x (by omega), ?_, e1, ?_, p2 _ _ _ (Le.refl E2.le.gh) rfl⟩
      · rw [List.getElem?_map, List.getElem?_eq_getElem hlt]
        rfl
      · intro m z hm hz
        rw [List.getElem?_map, List.getElem?_eq_getElem (Nat.lt_trans hm hlt)] at hz
        have hz : some (Dat.enc xs[m]) = some z := hz
        cases hz
        have := e2 m hm
        simpa [deq] using this⟩
/-! ### sorted(xs), ints -/
def srtI (xs : List Int) : List Int := xs.mergeSort (fun a b => decide (a ≤ b))
theorem srtI_perm (xs : List Int) : (srtI xs).Perm xs := List.mergeSort_perm _ _
theorem srtI_sorted (xs : List Int) : (srtI xs).Pairwise (· ≤ ·) := by
  have := List.pairwise_mergeSort (le := fun a b : Int => decide (a ≤ b)) (fun a b c h1 h2 => decide_eq_true (Int.le_trans (of_decide_eq_true h1) (of_decide_eq_true h2))) (fun a b => by
    rcases Int.le_total a b with h | h
    · simp [h]
    · simp [h]) xs
  exact this.imp fun h => of_decide_eq_true h
theorem cl_sorted {K : PySem.W.Frag} : CaL c (rSortedI K) (fun x : List Int × Unit => .ok (srtI x.1)) := fun _ x vs G H Q e r p => by
  obtain ⟨v, r, h, ⟨a, us, h1, h2, h3⟩, h4⟩ := r
  subst h h1 h4
  have z := reps_int h3
  subst z
  refine ⟨a, x.1, rfl, SqL.of (e _ _ h2), fun ns q hp hs hq => ?_⟩
  have en : ns = srtI x.1 := List.Perm.eq_of_pairwise (fun a b _ _ h1 h2 => Int.le_antisymm h1 h2) hs (srtI_sorted x.1) (hp.trans (srtI_perm x.1).symm)
  subst en
  exact p q _ G _ (Le.newH _ e hq) hq (e.free hq) upd_same (reps_ints _ _)
end
end CR

/-! Core6: dicts, lists changed by place, walks over a list that is changed later, new roads, several excepts. -/
namespace CR
open PySem L2 PyProof.Rows
/-! ### dicts as lists of pairs -/
section
variable {κ α : Type} [DecidableEq κ]
def lookK (ps : List (κ × α)) (k : κ) : Option α := (ps.find? fun q => decide (q.1 = k)).map (·.2)
def putL (ps : List (κ × α)) (k : κ) (v : α) : List (κ × α) := if (ps.any fun q => decide (q.1 = k)) = true then ps.map (fun q => if q.1 = k then (q.1, v) else q) else ps ++ [(k, v)]
def dgetR (ps : List (κ × α)) (k : κ) : Res α := match lookK ps k with
  | some v => .ok v
  | none => .stuck
def dputR (ps : List (κ × α)) (k : κ) (v : α) : Res (List (κ × α)) := guard (decide (ps.length < 16000000)) (.ok (putL ps k v))
end
class DK (κ : Type) [Py κ] [DecidableEq κ] where
  obj : List (κ × V) → HO
  get : ∀ {c : Cfg} {H : Hp} {v : V} {k : κ} {ps : List (κ × V)} {a : Addr}, Py.rep c H v k → H a = some (obj ps) → DGet H a v (lookK ps k)
  put : ∀ {c : Cfg} {H : Hp} {v w : V} {k : κ} {ps : List (κ × V)} {a : Addr}, Py.rep c H v k → H a = some (obj ps) → ps.length < sizeLine → DPut H a v w (upd H a (obj (putL ps k w)))
theorem look_inl {κ : Type} [DecidableEq κ] (f : κ → Key) (hf : ∀ a b, f a = f b → a = b) (k : κ) : ∀ ps : List (κ × V), valV (ps.map fun q => (f q.1, q.2)) (f k) = lookK ps k
  | [] => rfl
  | q :: ps => by
    have ih := look_inl f hf k ps
    unfold valV lookK at ih ⊢
    rw [List.map_cons, List.find?_cons, List.find?_cons]
    by_cases h : q.1 = k
    · have e1 : decide (f q.1 = f k) = true := decide_eq_true (by rw [h])
      have e2 : decide (q.1 = k) = true := decide_eq_true h
      simp only [e1, e2]
      rfl
    · have e1 : decide (f q.1 = f k) = false := decide_eq_false fun z => h (hf _ _ z)
      have e2 : decide (q.1 = k) = false := decide_eq_false h
      simp only [e1, e2]
      exact ih
theorem put_inl {κ : Type} [DecidableEq κ] (f : κ → Key) (hf : ∀ a b, f a = f b → a = b) (k : κ) (v : V) (ps : List (κ × V)) : putK (ps.map fun q => (f q.1, q.2)) (f k) v = (putL ps k v).map fun q => (f q.1, q.2) := by
  have e : ∀ q : κ × V, decide (f q.1 = f k) = decide (q.1 = k) := fun q => by
    by_cases h : q.1 = k
    · rw [h]; simp
    · rw [decide_eq_false h, decide_eq_false fun z => h (hf _ _ z)]
  have ea : ((ps.map fun q => (f q.1, q.2)).any fun kv => decide (kv.1 = f k)) = ps.any fun q => decide (q.1 = k) := by
    rw [List.any_map]
    congr 1
    funext q
    exact e q
  unfold putK putL
  rw [ea]
  cases ps.any fun q => decide (q.1 = k) with
  | true =>
    rw [if_pos rfl, if_pos rfl, List.map_map, List.map_map]
    refine List.map_congr_left fun q _ => ?_
    by_cases h : q.1 = k
    · simp [h]
    · have : f q.1 ≠ f k := fun z => h (hf _ _ z)
      simp [h, this]
  | false =>
    rw [if_neg Bool.false_ne_true, if_neg Bool.false_ne_true, List.map_append]
    rfl
instance : DK Int where
  obj := fun ps => .dK (ps.map fun q => (Sum.inl q.1, q.2))
  get := fun {c H v k ps a} r h => by
    have r : v = .int k := r
    subst r
    have := DGet.k (k := Sum.inl k) h
    rw [look_inl (fun i : Int => (Sum.inl i : Key)) (fun a b e => by cases e; rfl) k ps] at this
    exact this
  put := fun {c H v w k ps a} r h hl => by
    have r : v = .int k := r
    subst r
    have := DPut.k (k := Sum.inl k) (v := w) h (by rw [List.length_map]; exact hl)
    rw [put_inl (fun i : Int => (Sum.inl i : Key)) (fun a b e => by cases e; rfl) k w ps] at this
    exact this
instance : DK Str where
  obj := fun ps => .dK (ps.map fun q => (Sum.inr q.1, q.2))
  get := fun {c H v k ps a} r h => by
    have r : v = .str k := r
    subst r
    have := DGet.k (k := Sum.inr k) h
    rw [look_inl (fun i : Str => (Sum.inr i : Key)) (fun a b e => by cases e; rfl) k ps] at this
    exact this
  put := fun {c H v w k ps a} r h hl => by
    have r : v = .str k := r
    subst r
    have := DPut.k (k := Sum.inr k) (v := w) h (by rw [List.length_map]; exact hl)
    rw [put_inl (fun i : Str => (Sum.inr i : Key)) (fun a b e => by cases e; rfl) k w ps] at this
    exact this
def DReps {κ α : Type} [Py α] (c : Cfg) (F : Hp) : List (κ × V) → List (κ × α) → Prop
  | [], [] => True
  | p :: ps, q :: qs => p.1 = q.1 ∧ Py.rep c F p.2 q.2 ∧ DReps c F ps qs
  | [], _ :: _ => False
  | _ :: _, [] => False
section
variable {c : Cfg} {F F' : Hp} {κ α : Type} [Py α] [DecidableEq κ]
theorem DReps.mono (e : Same F F') : ∀ {ps : List (κ × V)} {qs : List (κ × α)}, DReps c F ps qs → DReps c F' ps qs
  | [], [], _ => trivial
  | _ :: _, _ :: _, h => ⟨h.1, Py.mono e h.2.1, DReps.mono e h.2.2⟩
  | [], _ :: _, h => h.elim
  | _ :: _, [], h => h.elim
theorem DReps.length : ∀ {ps : List (κ × V)} {qs : List (κ × α)}, DReps c F ps qs → ps.length = qs.length
  | [], [], _ => rfl
  | _ :: _, _ :: _, h => by rw [List.length_cons, List.length_cons, DReps.length h.2.2]
  | [], _ :: _, h => h.elim
  | _ :: _, [], h => h.elim
theorem DReps.look (k : κ) : ∀ {ps : List (κ × V)} {qs : List (κ × α)}, DReps c F ps qs → (lookK ps k = none ∧ lookK qs k = none) ∨ ∃ v x, lookK ps k = some v ∧ lookK qs k = some x ∧ Py.rep c F v x
  | [], [], _ => .inl ⟨rfl, rfl⟩
  | p :: ps, q :: qs, h => by
    unfold lookK
    rw [List.find?_cons, List.find?_cons, h.1]
    by_cases e : q.1 = k
    · rw [decide_eq_true e]
      exact .inr ⟨p.2, q.2, rfl, rfl, h.2.1⟩
    · rw [decide_eq_false e]
      exact DReps.look k h.2.2
  | [], _ :: _, h => h.elim
  | _ :: _, [], h => h.elim
theorem DReps.any (k : κ) : ∀ {ps : List (κ × V)} {qs : List (κ × α)}, DReps c F ps qs → (ps.any fun q => decide (q.1 = k)) = qs.any fun q => decide (q.1 = k)
  | [], [], _ => rfl
  | p :: ps, q :: qs, h => by rw [List.any_cons, List.any_cons, h.1, DReps.any k h.2.2]
  | [], _ :: _, h => h.elim
  | _ :: _, [], h => h.elim
theorem DReps.map (k : κ) {v : V} {x : α} (r : Py.rep c F v x) : ∀ {ps : List (κ × V)} {qs : List (κ × α)}, DReps c F ps qs → DReps c F (ps.map fun q => if q.1 = k then (q.1, v) else q) (qs.map fun q => if q.1 = k then (q.1, x) else q)
  | [], [], _ => trivial
  | (pk, pv) :: ps, (qk, qv) :: qs, h => by
    obtain ⟨e, r1, r2⟩ := h
    have e : pk = qk := e
    subst e
    have ih := DReps.map k r r2
    rw [List.map_cons, List.map_cons]
    by_cases h : pk = k
    · simp only [h, if_true]
      exact ⟨rfl, r, ih⟩
    · simp only [h, if_false]
      exact ⟨rfl, r1, ih⟩
  | [], _ :: _, h => h.elim
  | _ :: _, [], h => h.elim
theorem DReps.snoc (k : κ) {v : V} {x : α} (r : Py.rep c F v x) : ∀ {ps : List (κ × V)} {qs : List (κ × α)}, DReps c F ps qs → DReps c F (ps ++ [(k, v)]) (qs ++ [(k, x)])
  | [], [], _ => ⟨rfl, r, trivial⟩
  | _ :: _, _ :: _, h => ⟨h.1, h.2.1, DReps.snoc k r h.2.2⟩
  | [], _ :: _, h => h.elim
  | _ :: _, [], h => h.elim
theorem DReps.put (k : κ) {v : V} {x : α} (r : Py.rep c F v x) {ps : List (κ × V)} {qs : List (κ × α)} (h : DReps c F ps qs) : DReps c F (putL ps k v) (putL qs k x) := by
  unfold putL
  rw [h.any k]
  split
  · exact h.map k r
  · exact h.snoc k r
end
def isD {κ α : Type} [Py κ] [DecidableEq κ] [DK κ] [Py α] (c : Cfg) (kvs : List (κ × α)) : ML := ⟨fun F _ o => ∃ ps : List (κ × V), o = DK.obj ps ∧ DReps c F ps kvs, fun e ⟨ps, h1, h2⟩ => ⟨ps, h1, h2.mono e⟩⟩
section
variable {c : Cfg} {W : WX} {ρ : List Sl} {B G0 H0 G H : Hp} {σ : L2.St} {κ α β γ : Type} [Py κ] [DecidableEq κ] [DK κ] [Py α] [Py β] [Py γ] {P : Res β → Prop} {S : List Sl → Prop} {D : Ends} {i : Nat}
theorem EnvR.ownD {kvs : List (κ × α)} (E : EnvR B G0 H0 G H σ ρ) (h : ρ[i]? = some (.own (isD c kvs))) : ∃ p ps, σ[i]? = some (some (.ref p)) ∧ H0 p = none ∧ G p = none ∧ H p = some (DK.obj ps) ∧ DReps c G ps kvs := by
  obtain ⟨p, o, h1, h2, h3, h4, ps, rfl, h5⟩ := E.own h
  exact ⟨p, ps, h1, h2, h3, h4, h5⟩
/-- x = {} -/
theorem st_dnew {f : List (κ × α) → Res β} (hn : (DK.obj ([] : List (κ × V))) = .dK []) (E : EnvR B G0 H0 G H σ ρ) (k : P (f [])) (nx : ∀ G' H' σ', EnvR B G0 H0 G' H' σ' (ρ.set i (.own (isD c ([] : List (κ × α))))) → P (f []) → D.nx σ' H') : tAsg tDNewK (gName i) D σ H := by
  intro p hp
  exact nx G _ _ (E.setOwn (Le.newH _ E.le.gh hp) hp (E.le.gh.free hp) upd_same ⟨[], hn.symm, trivial⟩) k
/-- x[k] = v -/
theorem st_dput {tk tv : TE} {mk : Res κ} {mv : Res α} {kvs : List (κ × α)} {f : List (κ × α) → Res β} (C : SC β c B G0 H0 W P S) (E : EnvR B G0 H0 G H σ ρ) (s : S ρ) (hi : ρ[i]? = some (.own (isD c kvs))) (ev : Ev c W tv ρ mv) (ek : Ev c W tk ρ mk)
    (k : P ((mv.bind fun v => mk.bind fun q => dputR kvs q v).bind f)) (nx : ∀ kvs' G' H', EnvR B G0 H0 G' H' σ (ρ.set i (.own (isD c kvs'))) → P (f kvs') → D.nx σ H') : sDPut (tVar i) tk tv D σ H := by
  have k : P (mv.bind fun v => mk.bind fun q => (dputR kvs q v).bind f) := by simp only [bind_assoc] at k; exact k
  refine ev.st C E s k fun x v G1 H1 _ E1 r1 k1 => ?_
  obtain ⟨p, ps, h1, h2, h3, h4, h5⟩ := E1.ownD hi
  refine ⟨_, h1, ek.st C E1 s k1 fun q u G2 H2 l2 E2 r2 k2 => ?_⟩
  obtain ⟨p', ps', h1', h2', h3', h4', h5'⟩ := E2.ownD hi
  rw [h1] at h1'
  cases h1'
  unfold dputR at k2
  cases hc : decide (kvs.length < 16000000) with
  | false =>
    rw [hc] at k2
    exact (C.stuck k2).elim
  | true =>
    rw [hc] at k2
    have hl : ps'.length < sizeLine := by
      rw [h5'.length]
      exact size_lt (of_decide_eq_true hc)
    exact ⟨p, _, rfl, DK.put (Py.mono E2.le.gh r2) h4' hl, nx _ G2 _ (E2.write hi h1 ⟨_, rfl, h5'.put q (Py.mono l2.g r1)⟩) k2⟩
theorem ev_din {tk : TE} {mk : Res κ} {kvs : List (κ × α)} (hi : ρ[i]? = some (.own (isD c kvs))) (ek : Ev c W tk ρ mk) : Ev c W (tDIn tk (tVar i)) ρ (mk.bind fun q => .ok (lookK kvs q).isSome) := ⟨fun {B G0 H0 G H σ} E Q p =>
  ek.seq E chanP p fun q v G1 H1 l1 E1 r1 p1 => by
    obtain ⟨a, ps, h1, h2, h3, h4, h5⟩ := E1.ownD hi
    refine ⟨_, h1, a, _, rfl, DK.get (Py.mono E1.le.gh r1) h4, ?_⟩
    rcases h5.look q with ⟨e1, e2⟩ | ⟨w, x, e1, e2, _⟩
    · rw [e2] at p1; rw [e1]; exact p1 _ _ _ (Le.refl E1.le.gh) rfl
    · rw [e2] at p1; rw [e1]; exact p1 _ _ _ (Le.refl E1.le.gh) rfl⟩
theorem ev_dnotin {tk : TE} {mk : Res κ} {kvs : List (κ × α)} (hi : ρ[i]? = some (.own (isD c kvs))) (ek : Ev c W tk ρ mk) : Ev c W (tDNotIn tk (tVar i)) ρ (mk.bind fun q => .ok (!(lookK kvs q).isSome)) := ⟨fun {B G0 H0 G H σ} E Q p =>
  ek.seq E chanP p fun q v G1 H1 l1 E1 r1 p1 => by
    obtain ⟨a, ps, h1, h2, h3, h4, h5⟩ := E1.ownD hi
    refine ⟨_, h1, a, _, rfl, DK.get (Py.mono E1.le.gh r1) h4, ?_⟩
    rcases h5.look q with ⟨e1, e2⟩ | ⟨w, x, e1, e2, _⟩
    · rw [e2] at p1; rw [e1]; exact p1 _ _ _ (Le.refl E1.le.gh) rfl
    · rw [e2] at p1; rw [e1]; exact p1 _ _ _ (Le.refl E1.le.gh) rfl⟩
theorem ev_dget {tk : TE} {mk : Res κ} {kvs : List (κ × α)} (hi : ρ[i]? = some (.own (isD c kvs))) (ek : Ev c W tk ρ mk) : Ev c W (tDGet (tVar i) tk) ρ (mk.bind fun q => dgetR kvs q) := ⟨fun {B G0 H0 G H σ} E Q p => by
  obtain ⟨a0, _, h1, _⟩ := E.ownD hi
  refine ⟨_, h1, ek.seq E chanP p fun q v G1 H1 l1 E1 r1 p1 => ?_⟩
  obtain ⟨a, ps, h1', h2, h3, h4, h5⟩ := E1.ownD hi
  rw [h1] at h1'
  cases h1'
  have p1 := (show Post c G1 H1 Q (WE W σ) (dgetR kvs q) from p1)
  unfold dgetR at p1
  rcases h5.look q with ⟨e1, e2⟩ | ⟨w, x, e1, e2, rw'⟩
  · rw [e2] at p1
    exact p1.elim
  · rw [e2] at p1
    refine ⟨a0, w, rfl, ?_, p1 _ _ _ (Le.refl E1.le.gh) rw'⟩
    have := DK.get (Py.mono E1.le.gh r1) h4
    rw [e1] at this
    exact this⟩
end
/-! ### a list changed by place: x[k] += e -/
theorem get_list {X : Cx} : PGet X (rIxL X.K) := by
  intro pn s σ H x y v u Q I rx ry h
  obtain ⟨p, xs, i, z, rfl, rfl, hq, he, q⟩ := h
  cases rx
  obtain ⟨t, rfl⟩ := ry
  obtain ⟨its, r, pl, hz⟩ := I.list hq
  obtain ⟨j, h1, h2, h3, h4, h5⟩ := atI_get he
  obtain ⟨w, ew, rw'⟩ := r.get h2
  have hl := r.length
  have hn := line63
  have fin : EP X pn σ Q w s := ⟨z, H, I, rw', q⟩
  by_cases h0 : 0 ≤ i
  · have hj : i.toNat = j := by
      rw [seqIndex_of h0 h5] at h1
      exact Option.some.inj h1
    exact wpAny_getItem_list pl.isList h0 (by omega) (by rw [hj]; simpa using ew) fin
  · have hj : (i + (its.toArray.size : Int)).toNat = j := by
      rw [seqIndex_neg (by omega) h4] at h1
      rw [List.size_toArray, ← hl]
      exact Option.some.inj h1
    exact wpAny_getItem_list_neg pl.isList (by omega) (by rw [List.size_toArray] <;> omega) (by omega) (by rw [hj]; simpa using ew) fin
section
variable {c : Cfg} {W : WX} {ρ : List Sl} {B G0 H0 G H : Hp} {σ : L2.St} {α β γ : Type} [Py α] [Py β] [Py γ] {P : Res β → Prop} {S : List Sl → Prop} {D : Ends} {i : Nat}
theorem st_augsub {K : PySem.W.Frag} {te ti : TE} {m mi : Res Int} {xs : List Int} {g : Int → Int → Int} {f : List Int → Res β} (C : SC β c B G0 H0 W P S) (E : EnvR B G0 H0 G H σ ρ) (s : S ρ) (hi : ρ[i]? = some (.own (isL c xs))) (evi : Ev c W ti ρ mi) (ev : Ev c W te ρ m)
    (k : P ((mi.bind fun j => (atR xs j).bind fun x => m.bind fun y => setR xs j (g x y)).bind f)) (nx : ∀ xs' G' H', EnvR B G0 H0 G' H' σ (ρ.set i (.own (isL c xs'))) → P (f xs') → D.nx σ H') : tAugS (tVar i) ti te (rIxL K) (ipI g) rSetL D σ H := by
  have k : P (mi.bind fun j => (atR xs j).bind fun x => m.bind fun y => (setR xs j (g x y)).bind f) := by simp only [bind_assoc] at k; exact k
  obtain ⟨p, vs, h1, h2, h3, h4, h5⟩ := E.ownL hi
  refine ⟨_, h1, evi.st C E s k fun j u G1 H1 _ E1 r1 k1 => ?_⟩
  obtain ⟨p', vs', h1', h2', h3', h4', h5'⟩ := E1.ownL hi
  rw [h1] at h1'
  cases h1'
  have r1 : u = .int j := r1
  subst r1
  unfold atR at k1
  cases hx : atI xs j with
  | none =>
    rw [hx] at k1
    exact (C.stuck k1).elim
  | some x =>
    rw [hx] at k1
    have k1 : P (m.bind fun y => (setR xs j (g x y)).bind f) := k1
    obtain ⟨w, hw, rw'⟩ := atI_reps h5' hx
    have rw' : w = .int x := rw'
    subst rw'
    refine ⟨p, vs', j, _, rfl, rfl, SqL.of h4', hw, ev.st C E1 s k1 fun y t G2 H2 l2 E2 r2 k2 => ?_⟩
    have r2 : t = .int y := r2
    subst r2
    obtain ⟨p', vs2, h1', h2', h3', h4', h5'⟩ := E2.ownL hi
    rw [h1] at h1'
    cases h1'
    unfold setR at k2
    cases hc : ixN xs.length j with
    | none =>
      rw [hc] at k2
      exact (C.stuck k2).elim
    | some n =>
      rw [hc] at k2
      have e : vs2.length = xs.length := Reps.length h5'
      exact ⟨x, y, rfl, rfl, p, vs2, j, n, rfl, rfl, h4', by rw [e]; exact hc, nx _ G2 _ (E2.write hi h1 ⟨_, rfl, Reps.set n h5' rfl⟩) k2⟩
/-- x += e, a list -/
theorem st_ext {te : TE} {m : Res (List α)} {xs : List α} {f : List α → Res β} (C : SC β c B G0 H0 W P S) (E : EnvR B G0 H0 G H σ ρ) (s : S ρ) (hi : ρ[i]? = some (.own (isL c xs))) (ev : Ev c W te ρ m)
    (k : P ((m.bind fun ys => catR xs ys).bind f)) (nx : ∀ xs' G' H' σ', EnvR B G0 H0 G' H' σ' (ρ.set i (.own (isL c xs'))) → P (f xs') → D.nx σ' H') : tAug i te rExt2 D σ H := by
  have k : P (m.bind fun ys => (catR xs ys).bind f) := by rw [bind_assoc] at k; exact k
  obtain ⟨p, vs, h1, h2, h3, h4, h5⟩ := E.ownL hi
  refine ⟨_, h1, ev.st C E s k fun ys u G1 H1 _ E1 r1 k1 => ?_⟩
  obtain ⟨p', vs', h1', h2', h3', h4', h5'⟩ := E1.ownL hi
  rw [h1] at h1'
  cases h1'
  unfold catR at k1
  cases hc : decide (xs.length + ys.length ≤ 16000000) with
  | false =>
    rw [hc] at k1
    exact (C.stuck k1).elim
  | true =>
    rw [hc] at k1
    obtain ⟨b, us, rfl, b1, b2⟩ := r1
    refine ⟨p, b, vs', us, rfl, rfl, h4', E1.le.gh _ _ b1, ?_, ?_⟩
    · rw [Reps.length h5', Reps.length b2]
      exact size_le (of_decide_eq_true hc)
    · have hs : σ.set i (some (.ref p)) = σ := by
        refine List.ext_getElem? fun j => ?_
        by_cases e : i = j
        · subst e
          have hl : i < σ.length := (List.getElem?_eq_some_iff.mp h1).1
          rw [List.getElem?_set_self hl, h1]
        · rw [List.getElem?_set_ne e]
      show D.nx (σ.set i (some (.ref p))) _
      rw [hs]
      exact nx _ G1 _ _ (E1.write hi h1 ⟨_, rfl, Reps.append h5' b2⟩) k1
/-! ### a walk over a list of one's own that is changed later -/
def isAt {α : Type} [Py α] (c : Cfg) (xs : List α) (p : Addr) (vs : List V) : ML := ⟨fun F q o => q = p ∧ o = .lst vs ∧ Reps c F vs xs, fun e ⟨h1, h2, h3⟩ => ⟨h1, h2, h3.mono e⟩⟩
theorem EnvR.unAt {xs : List α} {p : Addr} {vs : List V} (E : EnvR B G0 H0 G H σ ρ) (h : ρ[i]? = some (.own (isAt c xs p vs))) : EnvR B G0 H0 G H σ (ρ.set i (.own (isL c xs))) := by
  obtain ⟨O, k⟩ := E.ex
  refine ⟨E.b, E.le, by simp [E.len], O, fun j s e => ?_⟩
  rcases get_set e with ⟨e1, e2⟩ | ⟨e1, e2⟩
  · subst e1 e2
    obtain ⟨q, o, h1, h2, h3, h4, h5, h6, h7, h8⟩ := k i _ h
    exact ⟨q, o, h1, h2, h3, h4, h5, _, h7, h8⟩
  · exact k j s e2
theorem EnvR.toAt {xs : List α} (E : EnvR B G0 H0 G H σ ρ) (h : ρ[i]? = some (.own (isL c xs))) : ∃ p vs, σ[i]? = some (some (.ref p)) ∧ H p = some (.lst vs) ∧ Reps c G vs xs ∧ EnvR B G0 H0 G H σ (ρ.set i (.own (isAt c xs p vs))) := by
  obtain ⟨O, k⟩ := E.ex
  obtain ⟨q, o, h1, h2, h3, h4, h5, vs, rfl, h6⟩ := k i _ h
  refine ⟨q, vs, h1, h5, h6, E.b, E.le, by simp [E.len], O, fun j s e => ?_⟩
  rcases get_set e with ⟨e1, e2⟩ | ⟨e1, e2⟩
  · subst e1 e2
    exact ⟨q, _, h1, h2, h3, h4, h5, rfl, rfl, h6⟩
  · exact k j s e2
theorem st_forO {K : PySem.W.Frag} {τ : Type} {tb : TS} {j : Nat} {ρL : Addr → List V → τ → List Sl} {s0 : τ} {xs : List α} {step : α → τ → (τ → Res β) → Res β} {rest : τ → Res β} (C : SC β c B G0 H0 W P S) (E : EnvR B G0 H0 G H σ ρ)
    (hi : ρ[i]? = some (.own (isL c xs))) (k : P (forK step rest xs s0)) (w : ∀ p vs, Wk (ρ.set i (.own (isAt c xs p vs))) (ρL p vs s0)) (hL : ∀ p vs s, (ρL p vs s)[i]? = some (.own (isAt c xs p vs)))
    (hb : ∀ p vs x s B' G' H' σ' (N : τ → Res β) (Nx : L2.St → Hp → Prop), SC β c B' G0 H0 W P S → EnvR B' G0 H0 G' H' σ' ((ρL p vs s).set j (.val (is c x))) → P (step x s N) → (∀ s' G' H' σ', EnvR B' G0 H0 G' H' σ' (ρL p vs s') → P (N s') → Nx σ' H') → tb { D with nx := Nx, ct := Nx, bk := D.nx } σ' H')
    (hd : ∀ p vs s G' H' σ', EnvR B G0 H0 G' H' σ' ((ρL p vs s).set i (.own (isL c xs))) → P (rest s) → D.nx σ' H') : tFor (iList K (tVar i)) (gName j) tb D σ H := by
  obtain ⟨p, vs, h1, h2, h3, E1⟩ := E.toAt hi
  refine ⟨_, h1, p, rfl, ⟨vs, SqL.of h2⟩, for_list (K := K) (a := p) (xs := vs) (fun n σ H => ∃ s G', EnvR G G0 H0 G' H σ (ρL p vs s) ∧ P (forK step rest (xs.drop n) s)) ⟨s0, G, (E1.wk (w p vs)).base, k⟩ ?_ ?_ ?_⟩
  · rintro n σ H _ ⟨s, G', E', _⟩
    obtain ⟨q, o, e1, e2, e3, e4, e5, e6, e7⟩ := E'.own (hL p vs s)
    subst e5 e6
    exact SqL.of e4
  · rintro n v σ H hv ⟨s, G', E', k'⟩
    obtain ⟨x, hx, rx⟩ := h3.get hv
    rw [drop_cons hx] at k'
    exact hb p vs x s G G' H _ _ _ (C.reb E.b) (E'.setVal (Py.mono E'.b rx)) k' fun s' G' H' σ' E2 k2 => ⟨s', G', E2, k2⟩
  · rintro σ H ⟨s, G', E', k'⟩
    rw [h3.length, List.drop_length] at k'
    exact hd p vs s G' H σ ((E'.reb E.b).unAt (hL p vs s)) k'
/-! ### roads just made -/
/-- the value leans on new things alone -/
def PostN (c : Cfg) (G H : Hp) (Q : VK) (E : XK) : Res Road → Prop
  | .ok x => ∀ v G' H' F, Le G H G' H' → Same F G' → (∀ a, F a ≠ none → H a = none) → Py.rep c F v x → Q v H'
  | .raise e => ∀ G' H', Le G H G' H' → E (.ref (c.T e)) none H'
  | .stuck => False
structure EvN (c : Cfg) (W : WX) (te : TE) (ρ : List Sl) (m : Res Road) : Prop where
  run : ∀ {B G0 H0 G H : Hp} {σ : L2.St}, EnvR B G0 H0 G H σ ρ → ∀ Q : VK, PostN c G H Q (WE W σ) m → te σ H Q
theorem PostN.mono {G' H' : Hp} {Q : VK} {E : XK} {m : Res Road} (p : PostN c G H Q E m) (l : Le G H G' H') : PostN c G' H' Q E m := by
  cases m with
  | ok x => exact fun v G2 H2 F l2 s n r => p v G2 H2 F (l.trans l2) s (fun a h => l.h.free (n a h)) r
  | raise e => exact fun G2 H2 l2 => p G2 H2 (l.trans l2)
  | stuck => exact p
theorem chanN {Q : VK} {E : XK} : Chan c G H E (fun G H m => PostN c G H Q E m) := ⟨PostN.mono, fun p => p, fun p => p⟩
theorem en_road {δ : Type} [PyA δ] {f : δ → Res Road} {ta : TA} {m : Res δ} (h : EvA c W ta ρ m) : EvN c W (tMakeE (RC c) (PromI c f) (WE W) ta) ρ (m.bind f) := ⟨fun {B G0 H0 G H σ} E Q p =>
  h.seq E chanN p fun a vs G1 H1 l1 E1 r1 p1 => fun x dx hx hdx ne => by
    have hx0 : (upd H1 dx (.own x)) x = none := by rw [upd_ne (Ne.symm ne)]; exact hx
    have l0 : Le G1 H1 G1 (upd H1 dx (.own x)) := Le.newH _ E1.le.gh hdx
    refine ⟨G1, upd H1 dx (.own x), a, x, dx, vs, rfl, hx0, rfl, l0.gh, r1, ?_⟩
    cases hm : f a with
    | stuck =>
      rw [hm] at p1
      exact p1
    | raise e =>
      rw [hm] at p1
      exact fun G' H' l => p1 G' H' (l0.trans l)
    | ok r =>
      rw [hm] at p1
      intro G' H' q l hq gx hx' gq
      refine ⟨rfl, ?_⟩
      have l2 : Le G1 H1 G' H' := l0.trans l
      have l3 : Le G1 H1 (upd G' x (.ins (RC c) dx [(("heights" : Str), .ref q)])) H' := l2.know hx hx'
      have nq : q ≠ x := ne_of_none gq gx
      have hq1 : H1 q = none := l0.h.free hq
      refine p1 _ _ _ (upd (upd (fun _ => none) q (.lst (r.h.map V.int))) x (.ins (RC c) dx [(("heights" : Str), .ref q)])) l3 (fun b o e => ?_) (fun b e => ?_) ⟨x, dx, q, rfl, upd_same, ?_⟩
      · by_cases hb : b = x
        · subst hb; rw [upd_same] at e ⊢; exact e
        · rw [upd_ne hb] at e ⊢
          by_cases hb2 : b = q
          · subst hb2; rw [upd_same] at e; cases e; exact gq
          · rw [upd_ne hb2] at e; cases e
      · by_cases hb : b = x
        · subst hb; exact hx
        · rw [upd_ne hb] at e
          by_cases hb2 : b = q
          · subst hb2; exact hq1
          · rw [upd_ne hb2] at e; exact absurd rfl e
      · rw [upd_ne nq, upd_same]⟩
theorem Ev.ofN {te : TE} {m : Res Road} (h : EvN c W te ρ m) : Ev c W te ρ m := ⟨fun {B G0 H0 G H σ} E Q p => by
  refine h.run E Q ?_
  cases m with
  | ok x => exact fun v G' H' F l s n r => p v G' H' l (Py.mono s r)
  | raise e => exact p
  | stuck => exact p⟩
/-- the known things but one -/
def but (G : Hp) (p : Addr) : Hp := fun a => if a = p then none else G a
theorem Le.but {G' H' : Hp} {p : Addr} {o : HO} (l : Le (upd G p o) H G' H') (e0 : Same G H) (hp : G p = none) : Le G H (but G' p) H' := by
  have gG' : Same G G' := (same_new hp).trans l.g
  refine ⟨e0, fun a u e => ?_, l.h, fun a u e => ?_, fun a q => ?_⟩
  · unfold CR.but
    rw [if_neg (ne_of_none e hp)]
    exact gG' a u e
  · unfold CR.but at e
    split at e
    · cases e
    · exact l.gh a u e
  · unfold CR.but at q
    split at q
    · exact absurd rfl q
    · rename_i hne
      rcases l.nw a q with z | z
      · rw [upd_ne hne] at z; exact .inl z
      · exact .inr z
theorem en_bor (i : Nat) {te : TE} {xs : List α} {m : Res Road} (hi : ρ[i]? = some (.own (isL c xs))) (h : EvN c W te (ρ.set i (.val (is c xs))) m) : EvN c W te ρ m := ⟨fun {B G0 H0 G H σ} E Q p => by
  obtain ⟨q, o, h1, h2, ⟨vs, rfl, h3⟩, E'⟩ := E.freeze (Q := is c xs) hi frz_l
  refine h.run E' Q ?_
  cases m with
  | ok x =>
    refine fun v G' H' F l s n r => p v _ H' F (l.but E.le.gh h2) (fun b u e => ?_) n r
    have nb : b ≠ q := fun z => by
      subst z
      have := n b (by rw [e]; exact fun z => nomatch z)
      rw [h1] at this
      cases this
    unfold CR.but
    rw [if_neg nb]
    exact s b u e
  | raise e => exact fun G' H' l => p _ H' (l.but E.le.gh h2)
  | stuck => exact p⟩
end
end CR

namespace CR
open PySem L2
/-! ### texts -/
theorem os_eqS {c : Cfg} : OpS c rEq (fun (x y : Str) => .ok (decide (x = y))) := fun _ x y v u G H Q e hv hu p => by
  have hv : v = .str x := hv
  have hu : u = .str y := hu
  subst hv hu
  refine ⟨rfl, ?_⟩
  have d : decide (V.str x = V.str y) = decide (x = y) := by simp
  rw [d]
  exact p _ _ _ (Le.refl e) rfl
theorem os_neS {c : Cfg} : OpS c rNe (fun (x y : Str) => .ok (!decide (x = y))) := fun _ x y v u G H Q e hv hu p => by
  have hv : v = .str x := hv
  have hu : u = .str y := hu
  subst hv hu
  refine ⟨rfl, ?_⟩
  have d : decide (V.str x = V.str y) = decide (x = y) := by simp
  rw [d]
  exact p _ _ _ (Le.refl e) rfl
/-! ### how many keys a dict has -/
class DKL (κ : Type) [Py κ] [DecidableEq κ] [DK κ] : Prop where
  len : ∀ ps : List (κ × V), ∃ kvs, DK.obj ps = .dK kvs ∧ kvs.length = ps.length
instance : DKL Int := ⟨fun ps => ⟨_, rfl, by rw [List.length_map]⟩⟩
instance : DKL Str := ⟨fun ps => ⟨_, rfl, by rw [List.length_map]⟩⟩
section
variable {c : Cfg} {W : WX} {ρ : List Sl} {κ α : Type} [Py κ] [DecidableEq κ] [DK κ] [DKL κ] [Py α] {i : Nat}
theorem ev_dlen {kvs : List (κ × α)} (hi : ρ[i]? = some (.own (isD c kvs))) : Ev c W (tCB (fun xs H Q => ∃ a kvs, xs = [V.ref a] ∧ H a = some (.dK kvs) ∧ Q (.int kvs.length) H) (tCons (tVar i) tNil)) ρ (.ok ((kvs.length : Nat) : Int)) := ⟨fun {B G0 H0 G H σ} E Q p => by
  obtain ⟨a, ps, h1, h2, h3, h4, h5⟩ := E.ownD hi
  obtain ⟨l, e1, e2⟩ := DKL.len ps
  refine ⟨_, h1, a, l, rfl, by rw [← e1]; exact h4, ?_⟩
  rw [e2, h5.length]
  exact p _ _ _ (Le.refl E.le.gh) rfl⟩
end
/-! ### comprehensions over pairs -/
section
variable {c : Cfg} {W : WX} {ρ : List Sl} {B G0 H0 G H G1 H1 : Hp} {σ : L2.St} {α β γ : Type} [Py α] [Py β] [Py γ]
theorem li_turnP {D : Addr} (hD : H1 D = none) (E1 : EnvR B G0 H0 G1 H1 σ ρ) {j k : Nat} (hjk : j ≠ k) {p : α × γ → Res Bool} {f : α × γ → Res β} {tt : TT} {te : TE} (ht : ∀ x y, EvT c W0 tt ((ρ.set j (.val (is c x))).set k (.val (is c y))) (p (x, y))) (he : ∀ x y, Ev c W0 te ((ρ.set j (.val (is c x))).set k (.val (is c y))) (f (x, y)))
    {R : Res (List β) → Prop} (hst : ¬ R .stuck) {xs : List (α × γ)} (hx : xs.length ≤ 16000000) {i : Nat} {x : α × γ} {v : V} {H' : Hp} (hi : xs[i]? = some x) (rx : Py.rep c G1 v x) (I : LI c G1 H1 D R p f xs i H') :
    gTup c.K 2 (gCons (gName j) (gCons (gName k) gNil)) v (wipe σ [j, k]) H' fun σ2 H2 => wipe σ2 [j, k] = wipe σ [j, k] ∧ tt σ2 H2 fun b H3 => if b = true then te σ2 H3 fun y H4 => ∃ acc, H4 D = some (.lst acc) ∧ acc.length < sizeLine ∧ LI c G1 H1 D R p f xs (i + 1) (upd H4 D (.lst (acc ++ [y]))) else LI c G1 H1 D R p f xs (i + 1) H3 := by
  obtain ⟨G', ys, vs, l, gd, hd, r, hl, q⟩ := I
  obtain ⟨b, u, w, rfl, a1, a2, a3⟩ := rx
  refine ⟨b, _, rfl, SqT.of ((E1.le.gh.trans l.h) _ _ a1), rfl, _, _, rfl, _, _, rfl, rfl, ?_⟩
  refine ⟨?_, ?_⟩
  · show (((((((σ.set k none).set j none).set j (some u)).set k (some w)).set k none).set j none) : L2.St) = (σ.set k none).set j none
    rw [List.set_set, List.set_set, List.set_comm _ _ (Ne.symm hjk), List.set_set, List.set_comm _ _ hjk, List.set_set, List.set_comm _ _ (Ne.symm hjk)]
  have E2 : EnvR B G0 H0 G' H' ((((σ.set k none).set j none).set j (some u)).set k (some w)) ((ρ.set j (.val (is c x.1))).set k (.val (is c x.2))) := by
    have z := ((((E1.mono l).setNo (i := k) (ov := none)).setNo (i := j) (ov := none)).setVal (i := j) (P := is c x.1) (v := u) (Py.mono l.g a2)).setVal (i := k) (P := is c x.2) (v := w) (Py.mono l.g a3)
    rw [List.set_set (l := ρ.set k .no), List.set_comm _ _ (Ne.symm hjk) (l := ρ), List.set_set (l := ρ.set j _)] at z
    exact z
  have hlt : i < xs.length := (List.getElem?_eq_some_iff.mp hi).1
  rw [drop_cons hi, filtR] at q
  refine (ht x.1 x.2).run E2 _ ?_
  cases hp : p x with
  | raise e =>
    rw [hp] at q
    exact (hst q).elim
  | stuck =>
    rw [hp] at q
    exact (hst q).elim
  | ok b =>
    rw [hp] at q
    intro G3 H3 l3
    cases b with
    | false =>
      exact ⟨G3, ys, vs, l.trans l3, l3.notKnown gd hd, l3.h _ _ hd, r.mono l3.g, Nat.le_succ_of_le hl, q⟩
    | true =>
      refine (he x.1 x.2).run (E2.mono l3) _ ?_
      have q : R (((f x).nr.bind fun y => (filtR (fun x => (p x).nr) (fun x => (f x).nr) (xs.drop (i + 1))).bind fun ys' => .ok (y :: ys')).bind fun zs => .ok (ys ++ zs)) := q
      cases hf : f x with
      | raise e =>
        rw [hf] at q
        exact (hst q).elim
      | stuck =>
        rw [hf] at q
        exact (hst q).elim
      | ok y =>
        rw [hf] at q
        have q : R (((filtR (fun x => (p x).nr) (fun x => (f x).nr) (xs.drop (i + 1))).bind fun ys' => .ok (y :: ys')).bind fun zs => .ok (ys ++ zs)) := q
        rw [bind_assoc] at q
        intro u G4 H4 l4 ru
        have hd4 : H4 D = some (.lst vs) := l4.h _ _ (l3.h _ _ hd)
        have gd4 : G4 D = none := l4.notKnown (l3.notKnown gd hd) (l3.h _ _ hd)
        have hlen : vs.length = ys.length := r.length
        refine ⟨vs, hd4, ?_, G4, ys ++ [y], vs ++ [u], ((l.trans l3).trans l4).write hD gd4, gd4, upd_same, Reps.snoc (r.mono (l3.g.trans l4.g)) ru, ?_, ?_⟩
        · have : vs.length < 16000000 := by omega
          exact size_lt this
        · rw [List.length_append, List.length_singleton]
          omega
        · have e : (fun ys' : List β => Res.bind (Res.ok (y :: ys')) fun zs => Res.ok (ys ++ zs)) = fun zs => Res.ok ((ys ++ [y]) ++ zs) := by
            funext ys'
            rw [bind_ok, List.append_assoc]
            rfl
          rw [e] at q
          exact q
theorem el_lcLPF {K : PySem.W.Frag} (hK : c.K = K) {j k : Nat} (hjk : j ≠ k) {tl te : TE} {tt : TT} {m : Res (List (α × γ))} {p : α × γ → Res Bool} {f : α × γ → Res β} (h : Ev c W tl ρ m) (ht : ∀ x y, EvT c W0 tt ((ρ.set j (.val (is c x))).set k (.val (is c y))) (p (x, y))) (he : ∀ x y, Ev c W0 te ((ρ.set j (.val (is c x))).set k (.val (is c y))) (f (x, y))) :
    EvL c W (tLc (iList K tl) (gTup K 2 (gCons (gName j) (gCons (gName k) gNil))) tt te [j, k]) ρ (m.bind fun xs => filtL (fun x => (p x).nr) (fun x => (f x).nr) xs) := ⟨fun {B G0 H0 G H σ} E Q q =>
  h.seq E chanL q fun xs v G1 H1 l1 E1 r1 q1 => by
    subst hK
    obtain ⟨hx, q2⟩ := guardL q1
    have hx := of_decide_eq_true hx
    obtain ⟨a, vs, rfl, h1, h2⟩ := r1
    refine ⟨a, rfl, ⟨vs, SqL.of (E1.le.gh _ _ h1)⟩, fun D hD => lc_list (xs := vs) (LI c G1 H1 D (PostL c G1 H1 Q (WE W σ)) p f xs) (li_start hD E1.le.gh q2) ?_ ?_ ?_⟩
    · rintro i H' _ ⟨G', ys, us, l, _⟩
      exact SqL.of (l.h _ _ (E1.le.gh _ _ h1))
    · intro i v H' hv I
      obtain ⟨x, hx1, rx⟩ := h2.get hv
      exact li_turnP hD E1 hjk ht he (fun z => z) hx hx1 rx I
    · intro H' I
      exact li_end hD (by rw [h2.length]; exact Nat.le_refl _) I⟩
theorem el_lcLP {K : PySem.W.Frag} (hK : c.K = K) {j k : Nat} (hjk : j ≠ k) {tl te : TE} {m : Res (List (α × γ))} {f : α × γ → Res β} (h : Ev c W tl ρ m) (he : ∀ x y, Ev c W0 te ((ρ.set j (.val (is c x))).set k (.val (is c y))) (f (x, y))) :
    EvL c W (tLc (iList K tl) (gTup K 2 (gCons (gName j) (gCons (gName k) gNil))) tYes te [j, k]) ρ (m.bind fun xs => mapL (fun x => (f x).nr) xs) := by
  have e : (fun xs => mapL (fun x => (f x).nr) xs) = fun xs => filtL (fun _ => (Res.ok true).nr) (fun x => (f x).nr) xs := funext fun xs => mapL_filtL _ xs
  rw [e]
  exact el_lcLPF hK hjk (p := fun _ => .ok true) h (fun _ _ => et_yes) he
end
/-! ### range with a step -/
def rngC (lo hi c : Int) : Res (List Int) := guard (decide (c ≠ 0) && decide (c.natAbs < 1073741824) && Builtin.Range.small lo hi c && decide (0 ≤ Builtin.Range.rangeSize lo hi c)) (.ok ((List.range (Builtin.Range.rangeSize lo hi c).toNat).map fun i => lo + (i : Nat) * c))
section
variable {c : Cfg} {W : WX} {ρ : List Sl} {B G0 H0 G H : Hp} {σ : L2.St} {β : Type} [Py β] {P : Res β → Prop} {S : List Sl → Prop} {D : Ends}
theorem st_for3 {τ : Type} {te tf tg : TE} {tb : TS} {i : Nat} {ρL : τ → List Sl} {s0 : τ} {m1 m2 m3 : Res Int} {step : Int → τ → (τ → Res β) → Res β} {rest : τ → Res β} (C : SC β c B G0 H0 W P S) (E : EnvR B G0 H0 G H σ ρ) (sr : S ρ)
    (ev : Ev c W te ρ m1) (ev2 : Ev c W tf ρ m2) (ev3 : Ev c W tg ρ m3) (k : P (m1.bind fun a => m2.bind fun b => m3.bind fun d => (rngC a b d).bind fun xs => forK step rest xs s0)) (w : Wk ρ (ρL s0))
    (hb : ∀ x s G' H' σ' (N : τ → Res β) (Nx : L2.St → Hp → Prop), EnvR B G0 H0 G' H' σ' ((ρL s).set i (.val (is c x))) → P (step x s N) → (∀ s' G' H' σ', EnvR B G0 H0 G' H' σ' (ρL s') → P (N s') → Nx σ' H') → tb { D with nx := Nx, ct := Nx, bk := D.nx } σ' H')
    (hd : ∀ s G' H' σ', EnvR B G0 H0 G' H' σ' (ρL s) → P (rest s) → D.nx σ' H') : tFor (iRng3 (tCons te (tCons tf (tCons tg tNil)))) (gName i) tb D σ H := by
  refine ev.st C E sr k fun a v G1 H1 _ E1 r1 k1 => ev2.st C E1 sr k1 fun b u G2 H2 _ E2 r2 k2 => ev3.st C E2 sr k2 fun d t G3 H3 _ E3 r3 k3 => ?_
  have r1 : v = .int a := r1
  have r2 : u = .int b := r2
  have r3 : t = .int d := r3
  subst r1 r2 r3
  unfold rngC at k3
  cases h : (decide (d ≠ 0) && decide (d.natAbs < 1073741824) && Builtin.Range.small a b d && decide (0 ≤ Builtin.Range.rangeSize a b d)) with
  | false =>
    rw [h] at k3
    exact (C.stuck k3).elim
  | true =>
    rw [h] at k3
    have k3 : P (forK step rest ((List.range (Builtin.Range.rangeSize a b d).toNat).map fun i => a + (i : Nat) * d) s0) := k3
    simp only [Bool.and_eq_true, decide_eq_true_iff] at h
    refine ⟨a, b, d, _, rfl, ⟨h.1.1.1, h.1.1.2, h.1.2, (Int.toNat_of_nonneg h.2).symm⟩, ?_⟩
    refine for_rangeC (lo := a) (c := d) (n := (Builtin.Range.rangeSize a b d).toNat) (fun i σ H => ∃ s G, EnvR B G0 H0 G H σ (ρL s) ∧ P (forK step rest (((List.range (Builtin.Range.rangeSize a b d).toNat).map fun i => a + (i : Nat) * d).drop i) s)) ⟨s0, G3, E3.wk w, k3⟩ ?_ ?_
    · rintro i σ H hi ⟨s, G, E, k⟩
      rw [drop_cons (x := a + (i : Nat) * d) (by rw [List.getElem?_map, List.getElem?_range hi]; rfl)] at k
      exact hb _ s G H _ _ _ (E.setVal rfl) k fun s' G' H' σ' E2 k2 => ⟨s', G', E2, k2⟩
    · rintro σ H ⟨s, G, E, k⟩
      rw [List.drop_of_length_le (by rw [List.length_map, List.length_range]; exact Nat.le_refl _)] at k
      exact hd s G H σ E k
end
end CR

/-! B1: plain facts of the operators, ==, loops. -/
namespace CR
open PySem L2
theorem mulR_l {i : Int} (j : Int) (h : i.natAbs < 2 ^ 64) : mulR i j = .ok (i * j) := by
  unfold mulR mulOk
  rw [decide_eq_true h]
  rfl
theorem mulR_r (i : Int) {j : Int} (h : j.natAbs < 2 ^ 64) : mulR i j = .ok (i * j) := by
  unfold mulR mulOk
  rw [decide_eq_true h, Bool.or_true, Bool.true_or]
  rfl
theorem mulR_w {i j : Int} (h1 : i.natAbs < 2 ^ 4000) (h2 : j.natAbs < 2 ^ 4000) : mulR i j = .ok (i * j) := by
  unfold mulR mulOk
  rw [decide_eq_true h1, decide_eq_true h2, Bool.and_true, Bool.or_true]
  rfl
theorem modR_ok (i : Int) {j : Int} (h : 0 < j) : modR i j = .ok (i % j) := by
  unfold modR
  rw [decide_eq_true h]
  rfl
theorem fdivR_ok (i : Int) {j : Int} (h : 0 < j) (h2 : j < 2 ^ 8000) : fdivR i j = .ok (i / j) := by
  have z : j.natAbs < 2 ^ 8000 := by
    have e : (j.natAbs : Int) = j := by omega
    have h3 : ((j.natAbs : Nat) : Int) < ((2 ^ 8000 : Nat) : Int) := by
      rw [e, Int.natCast_pow]
      exact h2
    exact Int.ofNat_lt.mp h3
  unfold fdivR divOk
  rw [decide_eq_true h, lt_blt z]
  rfl
theorem fdivR_s (i : Int) {j : Int} (h : 0 < j) (h2 : j < 2 ^ 64) : fdivR i j = .ok (i / j) := by
  refine fdivR_ok i h (Int.lt_trans h2 ?_)
  have z : (2 : Nat) ^ 64 < 2 ^ 8000 := Nat.pow_lt_pow_right (by decide) (by decide)
  have z2 : ((2 ^ 64 : Nat) : Int) < ((2 ^ 8000 : Nat) : Int) := Int.ofNat_lt.mpr z
  rw [Int.natCast_pow, Int.natCast_pow] at z2
  exact z2
theorem lt8000 {a : Int} (h : a < 10 ^ 70) : a < 2 ^ 8000 := by
  refine Int.lt_trans h ?_
  have z : (10 : Nat) ^ 70 < 2 ^ 8000 := Nat.lt_of_lt_of_le (by decide : 10 ^ 70 < 2 ^ 250) (Nat.pow_le_pow_right (by decide) (by decide))
  have z2 : ((10 ^ 70 : Nat) : Int) < ((2 ^ 8000 : Nat) : Int) := Int.ofNat_lt.mpr z
  rw [Int.natCast_pow, Int.natCast_pow] at z2
  exact z2
theorem powR_ok {i j : Int} (h : (decide (0 ≤ j) && decide (j ≤ 1000000) && decide (i.natAbs < 2 ^ 64)) = true) : powR i j = .ok (i ^ j.toNat) := by
  unfold powR
  rw [h]
  rfl
theorem pow_18 : powR (10 : Int) 18 = .ok (10 ^ 18) := powR_ok (by decide)
theorem pow_30 : powR (10 : Int) 30 = .ok (10 ^ 30) := powR_ok (by decide)
theorem pow_40 : powR (10 : Int) 40 = .ok (10 ^ 40) := powR_ok (by decide)
theorem pow_60 : powR (10 : Int) 60 = .ok (10 ^ 60) := powR_ok (by decide)
theorem rngR_ok {lo hi : Int} (h1 : -(2 ^ 62) < lo) (h2 : lo < 2 ^ 62) (h3 : -(2 ^ 62) < hi) (h4 : hi < 2 ^ 62) : rngR lo hi = .ok (upFrom lo (hi - lo).toNat) := by
  unfold rngR rngOk
  rw [lt_blt (show lo.natAbs < 2 ^ 62 by omega), lt_blt (show hi.natAbs < 2 ^ 62 by omega)]
  rfl
theorem rng0 {n : Nat} (h : n < 2 ^ 62) : rngR 0 (n : Int) = .ok (upFrom 0 n) := by
  rw [rngR_ok (by decide) (by decide) (by omega) (by omega)]
  rw [Int.sub_zero, Int.toNat_natCast]
theorem big {a : Int} {n : Nat} (h1 : -(n : Int) < a) (h2 : a < n) (hn : n ≤ 2 ^ 250) : a.natAbs < 2 ^ 4000 := by
  have : a.natAbs < n := by omega
  exact Nat.lt_of_lt_of_le this (Nat.le_trans hn (Nat.pow_le_pow_right (by decide) (by decide)))
theorem sm {a : Int} (h1 : -(2 ^ 64) < a) (h2 : a < 2 ^ 64) : a.natAbs < 2 ^ 64 := by omega
@[simp] theorem notR_ok (b : Bool) : notR (.ok b) = .ok (!b) := rfl
@[simp] theorem orR_t (m : Res Bool) : orR (.ok true) m = .ok true := rfl
@[simp] theorem orR_f (m : Res Bool) : orR (.ok false) m = m := rfl
@[simp] theorem andR_t (m : Res Bool) : andR (.ok true) m = m := rfl
@[simp] theorem andR_f (m : Res Bool) : andR (.ok false) m = .ok false := rfl
/-! ### == -/
class DEq (α : Type) [Py α] [Dat α] : Prop where
  iff : ∀ x y : α, deq x y = true ↔ x = y
theorem deq_self {α : Type} [Py α] [Dat α] [DEq α] (x : α) : deq x x = true := (DEq.iff x x).mpr rfl
theorem deq_dec {α : Type} [Py α] [Dat α] [DEq α] [DecidableEq α] (x y : α) : deq x y = decide (x = y) := by
  by_cases h : x = y
  · rw [decide_eq_true h]
    exact (DEq.iff x y).mpr h
  · rw [decide_eq_false h]
    cases e : deq x y with
    | false => rfl
    | true => exact absurd ((DEq.iff x y).mp e) h
instance : DEq Int := ⟨fun x y => by
  show PyData.eqv (.int x) (.int y) = true ↔ _
  rw [PyData.eqv, beq_iff_eq]⟩
instance : DEq Bool := ⟨fun x y => by
  show PyData.eqv (.bool x) (.bool y) = true ↔ _
  rw [PyData.eqv, beq_iff_eq]⟩
theorem eqvAll_iff {α : Type} [Py α] [Dat α] [DEq α] : ∀ xs ys : List α, PyData.eqvAll (xs.map Dat.enc) (ys.map Dat.enc) = true ↔ xs = ys
  | [], [] => by simp [PyData.eqvAll]
  | [], _ :: _ => by simp [PyData.eqvAll]
  | _ :: _, [] => by simp [PyData.eqvAll]
  | x :: xs, y :: ys => by
    have h1 := DEq.iff x y
    have h2 := eqvAll_iff xs ys
    unfold deq at h1
    rw [List.map_cons, List.map_cons, PyData.eqvAll, Bool.and_eq_true, h1, h2, List.cons.injEq]
instance {α : Type} [Py α] [Dat α] [DEq α] : DEq (List α) := ⟨fun x y => by
  show PyData.eqv (.list (x.map Dat.enc)) (.list (y.map Dat.enc)) = true ↔ _
  rw [PyData.eqv, eqvAll_iff]⟩
instance {α : Type} [Py α] [Dat α] [DEq α] : DEq (Tp α) := ⟨fun x y => by
  show PyData.eqv (.tuple (x.l.map Dat.enc)) (.tuple (y.l.map Dat.enc)) = true ↔ _
  rw [PyData.eqv, eqvAll_iff]
  cases x; cases y
  simp⟩
instance {α β : Type} [Py α] [Py β] [Dat α] [Dat β] [DEq α] [DEq β] : DEq (α × β) := ⟨fun x y => by
  show PyData.eqv (.tuple [Dat.enc x.1, Dat.enc x.2]) (.tuple [Dat.enc y.1, Dat.enc y.2]) = true ↔ _
  have h1 := DEq.iff x.1 y.1
  have h2 := DEq.iff x.2 y.2
  unfold deq at h1 h2
  rw [PyData.eqv, PyData.eqvAll, PyData.eqvAll, PyData.eqvAll, Bool.and_true, Bool.and_eq_true, h1, h2, Prod.ext_iff]⟩
instance {α β γ : Type} [Py α] [Py β] [Py γ] [Dat α] [Dat β] [Dat γ] [DEq α] [DEq β] [DEq γ] : DEq (T3 α β γ) := ⟨fun x y => by
  show PyData.eqv (.tuple [Dat.enc x.a, Dat.enc x.b, Dat.enc x.d]) (.tuple [Dat.enc y.a, Dat.enc y.b, Dat.enc y.d]) = true ↔ _
  have h1 := DEq.iff x.a y.a
  have h2 := DEq.iff x.b y.b
  have h3 := DEq.iff x.d y.d
  unfold deq at h1 h2 h3
  rw [PyData.eqv, PyData.eqvAll, PyData.eqvAll, PyData.eqvAll, PyData.eqvAll, Bool.and_true, Bool.and_eq_true, Bool.and_eq_true, h1, h2, h3]
  cases x; cases y
  simp⟩
/-! ### isinstance -/
theorem isi_ii : isiR "int" "int" = .ok true := by
  have h : kitB "int" "int" = some true := by decide +kernel
  unfold isiR
  rw [h]
theorem isi_ib : isiR "int" "bool" = .ok false := by
  have h : kitB "int" "bool" = some false := by decide +kernel
  unfold isiR
  rw [h]
theorem isi_bb : isiR "bool" "bool" = .ok true := by
  have h : kitB "bool" "bool" = some true := by decide +kernel
  unfold isiR
  rw [h]
theorem isi_bi : isiR "bool" "int" = .ok true := by
  have h : kitB "bool" "int" = some true := by decide +kernel
  unfold isiR
  rw [h]
theorem isi_tt : isiR "tuple" "tuple" = .ok true := by
  have h : kitB "tuple" "tuple" = some true := by decide +kernel
  unfold isiR
  rw [h]
theorem isi_ll : isiR "list" "list" = .ok true := by
  have h : kitB "list" "list" = some true := by decide +kernel
  unfold isiR
  rw [h]
theorem tryL_ok {s β : Type} {L : List Exn} {x : s} {hd : (s → Res β) → Exn → Option (Res β)} {rest : s → Res β} : tryL L (.ok x) hd rest = rest x := rfl
theorem tryL_hit {s β : Type} {L : List Exn} {e : Exn} {hd : (s → Res β) → Exn → Option (Res β)} {rest : s → Res β} {m : Res β} (he : e ∈ L) (h : hd rest e = some m) : tryL L (.raise e) hd rest = m := by
  unfold tryL
  simp only [he, h, if_true]
/-! ### loops -/
theorem jn_of {s β : Type} {rest : s → Res β} {body : (s → Res β) → Res β} {r : Res β} (I : s → Prop) (hb : ∀ kk, (∀ z, I z → kk z = r) → body kk = r) (hd : ∀ z, I z → rest z = r) : jn rest body = r := hb rest hd
theorem ite_of {β : Type} {b : Bool} {x y r : Res β} (h1 : b = true → x = r) (h2 : b = false → y = r) : (if b = true then x else y) = r := by
  cases b with
  | true => exact h1 rfl
  | false => exact h2 rfl
theorem mapR_ok {α β : Type} {f : α → Res β} {g : α → β} : ∀ {xs : List α}, (∀ x ∈ xs, f x = .ok (g x)) → mapR f xs = .ok (xs.map g)
  | [], _ => rfl
  | x :: xs, h => by
    rw [mapR, h x List.mem_cons_self, bind_ok, mapR_ok (fun y hy => h y (List.mem_cons_of_mem _ hy))]
    rfl
theorem mapL_ok {α β : Type} {f : α → Res β} {g : α → β} {xs : List α} (hl : xs.length ≤ 16000000) (h : ∀ x ∈ xs, f x = .ok (g x)) : mapL f xs = .ok (xs.map g) := by
  unfold mapL
  rw [decide_eq_true hl, guard_true, mapR_ok h]
theorem mapL_id {xs : List Int} (h : xs.length ≤ 16000000) : mapL (fun q : Int => (Res.ok q).nr) xs = .ok xs := by
  have := mapL_ok (f := fun q : Int => (Res.ok q).nr) (g := fun x => x) h fun x _ => rfl
  rw [List.map_id'] at this
  exact this
theorem filtR_ok {α β : Type} {p : α → Res Bool} {f : α → Res β} {q : α → Bool} {g : α → β} : ∀ {xs : List α}, (∀ x ∈ xs, p x = .ok (q x)) → (∀ x ∈ xs, q x = true → f x = .ok (g x)) → filtR p f xs = .ok ((xs.filter q).map g)
  | [], _, _ => rfl
  | x :: xs, h, k => by
    rw [filtR, h x List.mem_cons_self, bind_ok, filtR_ok (fun y hy => h y (List.mem_cons_of_mem _ hy)) (fun y hy => k y (List.mem_cons_of_mem _ hy))]
    cases e : q x with
    | true =>
      rw [if_pos rfl, k x List.mem_cons_self e, List.filter_cons_of_pos e]
      rfl
    | false =>
      rw [if_neg Bool.false_ne_true, List.filter_cons_of_neg (by rw [e]; exact Bool.false_ne_true)]
theorem filtL_ok {α β : Type} {p : α → Res Bool} {f : α → Res β} {q : α → Bool} {g : α → β} {xs : List α} (hl : xs.length ≤ 16000000) (h : ∀ x ∈ xs, p x = .ok (q x)) (k : ∀ x ∈ xs, q x = true → f x = .ok (g x)) : filtL p f xs = .ok ((xs.filter q).map g) := by
  unfold filtL
  rw [decide_eq_true hl, guard_true, filtR_ok h k]
theorem mem_upFrom {x : Int} : ∀ {lo : Int} {n : Nat}, x ∈ upFrom lo n ↔ lo ≤ x ∧ x < lo + n
  | lo, 0 => by simp [upFrom]
  | lo, n + 1 => by
    rw [upFrom, List.mem_cons, mem_upFrom]
    omega
/-- a loop whose every turn goes on -/
theorem forK_fold {α s β : Type} {step : α → s → (s → Res β) → Res β} {rest : s → Res β} {g : s → α → s} : ∀ {xs : List α} {z : s}, (∀ x ∈ xs, ∀ z k, step x z k = k (g z x)) → forK step rest xs z = rest (xs.foldl g z)
  | [], _, _ => rfl
  | x :: xs, z, h => by
    rw [forK, h x List.mem_cons_self, forK_fold (fun y hy => h y (List.mem_cons_of_mem _ hy))]
    rfl
/-- the same under an invariant -/
theorem forK_inv {α s β : Type} {step : α → s → (s → Res β) → Res β} {rest : s → Res β} (I : List α → s → Prop) {xs : List α} {z : s} {r : Res β} (h0 : I xs z)
    (h : ∀ x l z k, I (x :: l) z → (∀ z', I l z' → k z' = r) → step x z k = r) (hd : ∀ z, I [] z → rest z = r) : forK step rest xs z = r := by
  induction xs generalizing z with
  | nil => exact hd z h0
  | cons x xs ih => exact h x xs z _ h0 fun z' hz => ih hz
/-- what is wanted of the whole -/
theorem forK_P {α s β : Type} {step : α → s → (s → Res β) → Res β} {rest : s → Res β} (I : List α → s → Prop) (P : Res β → Prop) {xs : List α} {z : s} (h0 : I xs z)
    (h : ∀ x l z k, I (x :: l) z → (∀ z', I l z' → P (k z')) → P (step x z k)) (hd : ∀ z, I [] z → P (rest z)) : P (forK step rest xs z) := by
  induction xs generalizing z with
  | nil => exact hd z h0
  | cons x xs ih => exact h x xs z _ h0 fun z' hz => ih hz
theorem whileK_P {s β : Type} {step : s → (s → Res β) → Res β} (I : Nat → s → Prop) (P : Res β → Prop) (h : ∀ k z kk, I k z → (∀ k' z', k' < k → I k' z' → P (kk z')) → P (step z kk)) : ∀ (n : Nat) {k : Nat} {z : s}, I k z → k < n → P (whileK step n z)
  | 0, k, z, _, hn => absurd hn (Nat.not_lt_zero _)
  | n + 1, k, z, hi, hn => by
    rw [whileK]
    exact h k z _ hi fun k' z' hk hi' => whileK_P I P h n hi' (Nat.lt_of_lt_of_le hk (Nat.le_of_lt_succ hn))
theorem jn_P {s β : Type} {rest : s → Res β} {body : (s → Res β) → Res β} (P : Res β → Prop) (I : s → Prop) (hb : ∀ kk, (∀ z, I z → P (kk z)) → P (body kk)) (hd : ∀ z, I z → P (rest z)) : P (jn rest body) := hb rest hd
theorem ite_P {β : Type} {b : Bool} {x y : Res β} (P : Res β → Prop) (h1 : b = true → P x) (h2 : b = false → P y) : P (if b = true then x else y) := by
  cases b with
  | true => exact h1 rfl
  | false => exact h2 rfl
end CR

namespace CR
open PySem L2
def exL : List Exn := [.RoadError, .BadBottom]
def m_law_cell (script_ : Scr) (at__ : Int) : Res Int :=
  Res.bind (Res.ok (decide (at__ < ((script_.l.length : Nat) : Int)))) fun b14 => if b14 = true then
  ((atR script_.l at__))
  else
  (Res.bind (Res.ok (decide (((script_.l.length : Nat) : Int) = (0 : Int)))) fun b13 => if b13 = true then
  ((Res.bind (mulR ((7 : Int)) at__) fun x7 => (Res.ok (x7 + (3 : Int)))))
  else
  ((Res.bind (Res.bind (modR at__ (((script_.l.length : Nat) : Int))) fun x10 => (atR script_.l x10)) fun x11 => (Res.bind (mulR ((1009 : Int)) at__) fun x12 => (Res.ok (x11 + x12))))))
def m_law_pick (script_ : Scr) (at__ : Int) (turn_ : Int) (many_ : Int) : Res Int :=
  Res.bind (m_law_cell script_ at__) fun cell_here_15 =>
  Res.bind (Res.bind (powR ((10 : Int)) ((18 : Int))) fun x18 => (Res.ok (decide (x18 ≤ (absI cell_here_15))))) fun b90 => if b90 = true then
  (Res.bind (Res.ok (absI cell_here_15)) fun left_21 =>
  Res.bind (Res.ok turn_) fun n => Res.bind (rngR (0 : Int) n) fun xs =>
  forK (fun k_25 (z61 : Int) kk31 =>
  (Res.bind (fdivR z61 ((1000 : Int))) fun left_32 =>
  kk31 left_32)) (fun z62 : Int =>
  (jn (fun z60 : Int =>
  ((modR z60 many_))) fun kk46 =>
  (Res.bind (Res.ok (decide (cell_here_15 < (0 : Int)))) fun b56 => if b56 = true then
  (Res.bind (modR z62 ((1000 : Int))) fun left_51 =>
  kk46 left_51)
  else
  (kk46 z62)))) xs left_21)
  else
  (Res.bind (modR cell_here_15 ((1000003 : Int))) fun low_66 =>
  Res.bind (Res.bind (Res.bind (Res.bind (mulR low_66 ((48271 : Int))) fun x69 => (Res.bind (mulR turn_ ((7919 : Int))) fun x70 => (Res.ok (x69 + x70)))) fun x71 => (Res.ok (x71 + (101 : Int)))) fun x72 => (modR x72 ((999983 : Int)))) fun one_73 =>
  Res.bind (Res.bind (Res.bind (Res.bind (mulR one_73 one_73) fun x76 => (Res.bind (mulR low_66 ((31 : Int))) fun x77 => (Res.ok (x76 + x77)))) fun x78 => (Res.bind (mulR turn_ ((104729 : Int))) fun x79 => (Res.ok (x78 + x79)))) fun x80 => (modR x80 ((1000033 : Int)))) fun two_81 =>
  (Res.bind (Res.bind (Res.bind (Res.bind (mulR two_81 two_81) fun x84 => (Res.bind (mulR one_73 ((17 : Int))) fun x85 => (Res.ok (x84 + x85)))) fun x86 => (Res.bind (mulR turn_ ((30011 : Int))) fun x87 => (Res.ok (x86 + x87)))) fun x88 => (modR x88 ((999979 : Int)))) fun x89 => (modR x89 many_)))
def m_law_put (row_ : (List (Int × Int))) (pair_ : (Int × Int)) : Res (List (Int × Int)) :=
  Res.bind (Res.ok ((row_.length : Nat) : Int)) fun at__91 =>
  whileK (fun (z114 : Int) kk106 => Res.bind (andR (Res.ok (decide ((0 : Int) < z114))) (Res.bind (Res.bind (Res.bind (atR row_ ((z114 - (1 : Int)))) fun x96 => (Res.ok x96.2)) fun x97 => (mulR pair_.1 x97)) fun x100 => (Res.bind (Res.bind (Res.bind (atR row_ ((z114 - (1 : Int)))) fun x98 => (Res.ok x98.1)) fun x99 => (mulR x99 pair_.2)) fun x101 => (Res.ok (decide (x100 < x101)))))) fun b115 => if b115 = true then
  (Res.bind (Res.ok (z114 - (1 : Int))) fun at__107 =>
  kk106 at__107)
  else
  ((Res.bind (catR ((cutL row_ none (some z114))) (((pair_ :: []) : (List (Int × Int))))) fun x113 => (catR x113 ((cutL row_ (some z114) none)))))) ((at__91).toNat + 1) at__91
def m_less (one_ : (Int × Int)) (other_ : (Int × Int)) : Res Bool :=
  Res.bind (orR (Res.ok (decide (one_.2 < (1 : Int)))) (Res.ok (decide (other_.2 < (1 : Int))))) fun b125 => if b125 = true then
  ((Res.raise Exn.BadBottom))
  else
  ((Res.bind (mulR one_.1 other_.2) fun x123 => (Res.bind (mulR other_.1 one_.2) fun x124 => (Res.ok (decide (x123 < x124))))))
def m_joined (left_ : (List (Int × Int))) (right_ : (List (Int × Int))) : Res (List (Int × Int)) :=
  Res.bind (Res.ok ([] : (List (Int × Int)))) fun made_126 =>
  Res.bind (Res.ok (0 : Int)) fun at__129 =>
  Res.bind (Res.ok left_) fun xs =>
  forK (fun point_133 (z177 : (List (Int × Int)) × Int) kk141 =>
  (whileK (fun (z167 : (List (Int × Int)) × Int) kk152 => Res.bind (andR (Res.ok (decide (z167.2 < ((right_.length : Nat) : Int)))) (Res.bind (Res.bind (atR right_ z167.2) fun x145 => (Res.ok (x145, (point_133, ())))) fun x146 => (m_less x146.1 x146.2.1))) fun b168 => if b168 = true then
  (Res.bind (Res.bind (atR right_ z167.2) fun x153 => (appR z167.1 x153)) fun made_154 =>
  Res.bind (Res.ok (z167.2 + (1 : Int))) fun at__157 =>
  kk152 (made_154, at__157))
  else
  (Res.bind (appR z167.1 point_133) fun made_164 =>
  kk141 (made_164, z167.2))) ((right_).length + 1) (z177.1, z177.2))) (fun z178 : (List (Int × Int)) × Int =>
  ((catR z178.1 ((cutL right_ (some z178.2) none))))) xs (made_126, at__129)
def m_ordered (points_ : (List (Int × Int))) : Res (List (Int × Int)) :=
  Res.bind (Res.ok ([] : (List (List (Int × Int))))) fun heaps_180 =>
  Res.bind (Res.ok points_) fun xs =>
  forK (fun p284 (z282 : (List (List (Int × Int)))) kk192 =>
  (Res.bind (Res.ok (decide (p284.2 < (1 : Int)))) fun b200 => if b200 = true then
  ((Res.raise Exn.BadBottom))
  else
  (Res.bind (appR z282 ((((p284.1, p284.2) :: []) : (List (Int × Int))))) fun heaps_197 =>
  kk192 heaps_197))) (fun z283 : (List (List (Int × Int))) =>
  (whileK (fun (z277 : (List (List (Int × Int)))) kk211 => Res.bind (Res.ok (decide ((1 : Int) < ((z277.length : Nat) : Int)))) fun b278 => if b278 = true then
  (Res.bind (Res.ok ([] : (List (List (Int × Int))))) fun paired_212 =>
  Res.bind (Res.ok (0 : Int)) fun a => Res.bind (Res.ok (((z277.length : Nat) : Int) - (1 : Int))) fun b => Res.bind (Res.ok (2 : Int)) fun d => Res.bind (rngC a b d) fun xs =>
  forK (fun k_216 (z264 : (List (List (Int × Int)))) kk222 =>
  (Res.bind (Res.bind (Res.bind (Res.bind (atR z277 k_216) fun x223 => (Res.bind (Res.bind (atR z277 ((k_216 + (1 : Int)))) fun x224 => (Res.ok (x224, ()))) fun x225 => (Res.ok (x223, x225)))) fun x226 => (m_joined x226.1 x226.2.1)) fun x227 => (appR z264 x227)) fun paired_228 =>
  kk222 paired_228)) (fun z265 : (List (List (Int × Int))) =>
  (jn (fun z263 : (List (List (Int × Int))) =>
  (Res.bind (Res.ok z263) fun heaps_260 =>
  kk211 heaps_260)) fun kk244 =>
  (Res.bind (Res.bind (modR (((z277.length : Nat) : Int)) ((2 : Int))) fun x234 => (Res.ok (decide (x234 = (1 : Int))))) fun b255 => if b255 = true then
  (Res.bind (Res.bind (atR z277 ((-(1 : Int)))) fun x249 => (appR z265 x249)) fun paired_250 =>
  kk244 paired_250)
  else
  (kk244 z265)))) xs paired_212)
  else
  (Res.bind (Res.ok (decide (((z277.length : Nat) : Int) = (0 : Int)))) fun b276 => if b276 = true then
  ((Res.ok ([] : (List (Int × Int)))))
  else
  ((Res.bind (Res.bind (atR z277 ((0 : Int))) fun x274 => (Res.ok (x274, ()))) fun x275 => (Res.ok x275.1))))) ((z283).length + 1) z283)) xs heaps_180
def m_law_whole (found_ : Int) : Res Bool :=
  (andR (isiR (Ty.ty found_) ((TyN.mk "int")).n) (notR (isiR (Ty.ty found_) ((TyN.mk "bool")).n)))
def m_law_pairs (found_ : (List (Int × Int))) : Res Bool :=
  Res.bind (notR (isiR (Ty.ty found_) ((TyN.mk "list")).n)) fun b308 => if b308 = true then
  ((Res.ok false))
  else
  (Res.bind (Res.ok found_) fun xs =>
  forK (fun pair_291 (z305 : Unit) kk297 =>
  (Res.bind (orR (notR (isiR (Ty.ty pair_291) ((TyN.mk "tuple")).n)) (orR (Res.ok (!decide ((2 : Int) = (2 : Int)))) (orR (notR (m_law_whole pair_291.1)) (notR (m_law_whole pair_291.2))))) fun b302 => if b302 = true then
  ((Res.ok false))
  else
  (kk297 ()))) (fun z306 : Unit =>
  ((Res.ok true))) xs ())
def m_law (script_ : Scr) : Res Bool :=
  Res.bind (m_law_pick script_ ((0 : Int)) ((0 : Int)) ((41 : Int))) fun size_309 =>
  Res.bind (Res.ok ([] : (List (Int × Int)))) fun pairs_here_312 =>
  Res.bind (Res.ok size_309) fun n => Res.bind (rngR (0 : Int) n) fun xs =>
  forK (fun k_316 (z542 : (List (Int × Int))) kk322 =>
  (Res.bind (Res.bind (Res.bind (Res.bind (Res.bind (m_law_pick script_ (((1 : Int) + k_316)) ((0 : Int)) ((121 : Int))) fun x323 => (Res.ok (x323 - (60 : Int)))) fun x325 => (Res.bind (Res.bind (Res.bind (m_law_pick script_ (((1 : Int) + k_316)) ((1 : Int)) ((12 : Int))) fun x324 => (Res.ok ((1 : Int) + x324))) fun x326 => (Res.ok (x326, ()))) fun x327 => (Res.ok (x325, x327)))) fun x328 => (Res.ok (x328.1, x328.2.1))) fun x329 => (appR z542 x329)) fun pairs_here_330 =>
  jn (fun z446 : (List (Int × Int)) =>
  (jn (fun z445 : (List (Int × Int)) =>
  (jn (fun z444 : (List (Int × Int)) =>
  (kk322 z444)) fun kk419 =>
  (Res.bind (Res.bind (m_law_pick script_ (((1 : Int) + k_316)) ((3 : Int)) ((8 : Int))) fun x399 => (Res.ok (decide (x399 = (1 : Int))))) fun b440 => if b440 = true then
  (Res.bind (Res.bind (Res.bind (m_law_cell script_ ((44 : Int))) fun x424 => (Res.bind (powR ((10 : Int)) ((40 : Int))) fun x425 => (modR x424 x425))) fun x426 => (Res.ok ((1 : Int) + x426))) fun bottom_427 =>
  Res.bind (Res.bind (Res.bind (Res.bind (Res.bind (fdivR bottom_427 ((3 : Int))) fun x430 => (Res.bind (m_law_pick script_ (((1 : Int) + k_316)) ((4 : Int)) ((3 : Int))) fun x431 => (Res.ok (x430 + x431)))) fun x432 => (Res.ok (x432, (bottom_427, ())))) fun x433 => (Res.ok (x433.1, x433.2.1))) fun x434 => (setR z445 ((-(1 : Int))) x434)) fun pairs_here_435 =>
  kk419 pairs_here_435)
  else
  (kk419 z445)))) fun kk376 =>
  (Res.bind (Res.bind (m_law_pick script_ (((1 : Int) + k_316)) ((2 : Int)) ((5 : Int))) fun x358 => (Res.ok (decide (x358 = (2 : Int))))) fun b395 => if b395 = true then
  (Res.bind (Res.bind (Res.bind (Res.bind (Res.bind (Res.bind (atR z446 ((0 : Int))) fun x381 => (Res.ok x381.1)) fun x382 => (mulR x382 ((2 : Int)))) fun x385 => (Res.bind (Res.bind (Res.bind (Res.bind (atR z446 ((0 : Int))) fun x383 => (Res.ok x383.2)) fun x384 => (mulR x384 ((2 : Int)))) fun x386 => (Res.ok (x386, ()))) fun x387 => (Res.ok (x385, x387)))) fun x388 => (Res.ok (x388.1, x388.2.1))) fun x389 => (setR z446 ((-(1 : Int))) x389)) fun pairs_here_390 =>
  kk376 pairs_here_390)
  else
  (kk376 z446)))) fun kk343 =>
  (Res.bind (Res.bind (m_law_pick script_ (((1 : Int) + k_316)) ((2 : Int)) ((5 : Int))) fun x333 => (Res.ok (decide (x333 = (1 : Int))))) fun b354 => if b354 = true then
  (Res.bind (Res.bind (atR pairs_here_330 ((0 : Int))) fun x348 => (setR pairs_here_330 ((-(1 : Int))) x348)) fun pairs_here_349 =>
  kk343 pairs_here_349)
  else
  (kk343 pairs_here_330)))) (fun z543 : (List (Int × Int)) =>
  (Res.bind (Res.ok ([] : (List (Int × Int)))) fun due_450 =>
  Res.bind (Res.ok z543) fun xs =>
  forK (fun pair_455 (z539 : (List (Int × Int))) kk462 =>
  (Res.bind (m_law_put z539 pair_455) fun due_463 =>
  kk462 due_463)) (fun z540 : (List (Int × Int)) =>
  (Res.bind (Res.ok z543) fun handed_469 =>
  Res.bind (m_ordered handed_469) fun found_472 =>
  Res.bind (orR (notR (m_law_pairs found_472)) (orR (Res.ok (!deq found_472 z540)) (Res.ok (!deq handed_469 z543)))) fun b538 => if b538 = true then
  ((Res.ok false))
  else
  (Res.bind (appR found_472 (((1 : Int), (1 : Int)))) fun found_479 =>
  Res.bind (appR handed_469 (((0 : Int), (1 : Int)))) fun handed_482 =>
  Res.bind (Res.bind (m_ordered z543) fun x485 => (Res.ok (!deq x485 z540))) fun b537 => if b537 = true then
  ((Res.ok false))
  else
  (Res.bind (m_law_pick script_ ((42 : Int)) ((0 : Int)) ((((z543.length : Nat) : Int) + (1 : Int)))) fun at__490 =>
  Res.bind (Res.ok false) fun told_493 =>
  tryL exL
  (Res.bind (Res.bind (Res.bind (Res.bind (Res.bind (Res.bind (Res.bind (Res.bind (Res.bind (Res.bind (m_law_pick script_ ((43 : Int)) ((0 : Int)) ((3 : Int))) fun x518 => (Res.ok (-x518))) fun x519 => (Res.ok (x519, ()))) fun x520 => (Res.ok ((3 : Int), x520))) fun x521 => (Res.ok (x521.1, x521.2.1))) fun x522 => (Res.ok (x522 :: []))) fun x523 => (catR ((cutL z543 none (some at__490))) x523)) fun x524 => (catR x524 ((cutL z543 (some at__490) none)))) fun x525 => (Res.ok (x525, ()))) fun x526 => (m_ordered x526.1)) fun _ =>
  (Res.ok told_493))
  (fun kk529 e => if Exn.sub e Exn.BadBottom = true then some (Res.bind (Res.ok true) fun told_532 =>
  kk529 told_532) else none) (fun z535 : Bool =>
  ((Res.ok z535))))))) xs due_450)) xs pairs_here_312
end CR

namespace CR
open PySem L2
def topS (i : Nat) : Stmt := PySem.Challenge.pw_crookroad_k03_ordered.main.body.getD i (.Pass ⟨0, 0, 0, 0⟩)
abbrev FnP (K : PySem.W.Frag) (x : Str) (q : Str) (st : Stmt) (f : Addr) (fd : FuncData) : Prop := FunD K x q (defArgs st) (defBody st) (defScope st) [] [] f fd
abbrev s_law_cell : Stmt := topS 8
abbrev N_law_cell : List Str := ["_law_script", "_law_at"]
abbrev s_law_pick : Stmt := topS 9
abbrev N_law_pick : List Str := ["_law_script", "_law_at", "_law_turn", "_law_many", "_law_cell_here", "_law_low", "_law_one", "_law_two", "_law_left", "_law_k"]
abbrev s_law_put : Stmt := topS 12
abbrev N_law_put : List Str := ["_law_row", "_law_pair", "_law_at"]
abbrev s_less : Stmt := topS 4
abbrev N_less : List Str := ["one", "other"]
abbrev s_joined : Stmt := topS 5
abbrev N_joined : List Str := ["left", "right", "made", "at", "point"]
abbrev s_ordered : Stmt := topS 6
abbrev N_ordered : List Str := ["points", "heaps", "top", "bottom", "paired", "k"]
abbrev s_law_whole : Stmt := topS 10
abbrev N_law_whole : List Str := ["_law_found"]
abbrev s_law_pairs : Stmt := topS 11
abbrev N_law_pairs : List Str := ["_law_found", "_law_pair"]
abbrev s_law : Stmt := topS 13
abbrev N_law : List Str := ["_law_script", "_law_size", "_law_pairs_here", "_law_k", "_law_due", "_law_pair", "_law_handed", "_law_found", "_law_at", "_law_told", "_law_bottom"]
structure Tx (K : PySem.W.Frag) (mg : Str → Option Value) : Prop where
  f_len : mg "len" = none
  g__law_cell : mg "_law_cell" = some (.ref (He.ga K "_law_cell"))
  f_abs : mg "abs" = none
  f_range : mg "range" = none
  x_BadBottom : PySem.W.excIn K (He.ga K "BadBottom") He.veBase "ValueError.__new__" = true ∧ PySem.W.keepIn K (.ref (He.ga K "BadBottom")) = true ∧ PySem.W.subIn K (.ref (He.ga K "BadBottom")) (.type "BaseException") = some true ∧ PySem.W.typeIn K (.ref (He.ga K "BadBottom")) = some (.type "type")
  g_BadBottom : mg "BadBottom" = some (.ref (He.ga K "BadBottom"))
  g_less : mg "less" = some (.ref (He.ga K "less"))
  g_joined : mg "joined" = some (.ref (He.ga K "joined"))
  f_list : mg "list" = none
  f_isinstance : mg "isinstance" = none
  f_int : mg "int" = none
  f_bool : mg "bool" = none
  f_tuple : mg "tuple" = none
  g__law_whole : mg "_law_whole" = some (.ref (He.ga K "_law_whole"))
  g__law_pick : mg "_law_pick" = some (.ref (He.ga K "_law_pick"))
  g__law_put : mg "_law_put" = some (.ref (He.ga K "_law_put"))
  g_ordered : mg "ordered" = some (.ref (He.ga K "ordered"))
  g__law_pairs : mg "_law_pairs" = some (.ref (He.ga K "_law_pairs"))
  e_BadBottom : ∀ e ∈ exL, PySem.W.exmOne K (.ref ((cfg K).T e)) (.ref (He.ga K "BadBottom")) = some (e.sub .BadBottom)
  g_law : mg "law" = some (.ref (He.ga K "law"))
  d_law_cell : ∃ fd, FnP K "_law_cell" "_law_cell" s_law_cell (He.fAd K ("_law_cell", none)) fd
  d_law_pick : ∃ fd, FnP K "_law_pick" "_law_pick" s_law_pick (He.fAd K ("_law_pick", none)) fd
  d_law_put : ∃ fd, FnP K "_law_put" "_law_put" s_law_put (He.fAd K ("_law_put", none)) fd
  d_less : ∃ fd, FnP K "less" "less" s_less (He.fAd K ("less", none)) fd
  d_joined : ∃ fd, FnP K "joined" "joined" s_joined (He.fAd K ("joined", none)) fd
  d_ordered : ∃ fd, FnP K "ordered" "ordered" s_ordered (He.fAd K ("ordered", none)) fd
  d_law_whole : ∃ fd, FnP K "_law_whole" "_law_whole" s_law_whole (He.fAd K ("_law_whole", none)) fd
  d_law_pairs : ∃ fd, FnP K "_law_pairs" "_law_pairs" s_law_pairs (He.fAd K ("_law_pairs", none)) fd
  d_law : ∃ fd, FnP K "law" "law" s_law (He.fAd K ("law", none)) fd
section
variable {P : Program} {w : World} {mg : Str → Option Value} {base : Heap} {K : PySem.W.Frag}
theorem sc_law_cell : FnScope N_law_cell ["_law_script", "_law_at"] (defScope s_law_cell) := ⟨rfl, rfl, rfl, by decide +kernel, rfl, by decide +kernel, by decide +kernel⟩
theorem ok_law_cell (T : Tx K mg) : ∃ fd, FnP K "_law_cell" "_law_cell" s_law_cell (He.fAd K ("_law_cell", none)) fd ∧ FnOk P w (cfg K).K mg base (L2.CX P w) 1 (He.fAd K ("_law_cell", none)) fd ["_law_script", "_law_at"] (PromS (cfg K) (fun a : Scr × Int × Unit => m_law_cell a.1 a.2.1)) := by
  obtain ⟨fd, F⟩ := T.d_law_cell
  refine ⟨fd, F, fn_mk (c := cfg K) (n := 0) F sc_law_cell rfl rfl (fun cdv A outer s H E hr tk pw => ⟨_, (pss_cons (ps_if (pt_cmpR op_lt (pv 1) (pe_callB (kLen K) (by rfl) T.f_len (by decide +kernel) (pa_cons (pv 0) pa_nil)) (nomark _)) (pss_one (ps_ret (pe_ix (kIxL K) (pv 0) (pv 1) (fun _ _ => rfl)))) pss_nil) (pss_cons (ps_if (pt_cmpR op_eq (pe_callB (kLen K) (by rfl) T.f_len (by decide +kernel) (pa_cons (pv 0) pa_nil)) pe_int (nomark _)) (pss_one (ps_ret (pe_op op_add (pe_op op_mulA pe_int (pv 1)) pe_int))) pss_nil) (pss_one (ps_ret (pe_op op_add (pe_ix (kIxL K) (pv 0) (pe_op op_mod (pv 1) (pe_callB (kLen K) (by rfl) T.f_len (by decide +kernel) (pa_cons (pv 0) pa_nil))) (fun _ _ => rfl)) (pe_op op_mulA pe_int (pv 1))))))), ?_⟩)⟩
  rintro G ⟨script_, at__, ⟨⟩⟩ σ Q E0 k0
  have C0 := scS (c := cfg K) (B := G) (G0 := G) (H0 := H) (β := Int) (Q := Q) (E := E)
  replace E0 : EnvR G G H G H σ [.val (is (cfg K) script_), .val (is (cfg K) at__)] := E0
  with_reducible refine sq ?_
  refine st_if C0 E0 trivial (et_test (ev_op os_lt (ev_var 1 rfl) (ev_cb (cs_lenScr rfl) (ea_cons (ev_var 0 rfl) ea_nil)))) k0 (fun _ _ E1 k2 => ?_) (fun _ _ E3 k4 => ?_)
  · try with_reducible refine s1n ?_
    exact st_ret C0 E1 trivial (ev_op (os_ixScr rfl) (ev_var 0 rfl) (ev_var 1 rfl)) k2 (fun r p => p)
  · with_reducible refine nxt ?_
    with_reducible refine sq ?_
    refine st_if C0 E3 trivial (et_test (ev_op os_eqI (ev_cb (cs_lenScr rfl) (ea_cons (ev_var 0 rfl) ea_nil)) ev_int)) k4 (fun _ _ E5 k6 => ?_) (fun _ _ E8 k9 => ?_)
    · try with_reducible refine s1n ?_
      exact st_ret C0 E5 trivial (ev_op os_add (ev_op os_mul ev_int (ev_var 1 rfl)) ev_int) k6 (fun r p => p)
    · with_reducible refine nxt ?_
      try with_reducible refine s1n ?_
      exact st_ret C0 E8 trivial (ev_op os_add (ev_op (os_ixScr rfl) (ev_var 0 rfl) (ev_op os_mod (ev_var 1 rfl) (ev_cb (cs_lenScr rfl) (ea_cons (ev_var 0 rfl) ea_nil)))) (ev_op os_mul ev_int (ev_var 1 rfl))) k9 (fun r p => p)
theorem sc_law_pick : FnScope N_law_pick ["_law_script", "_law_at", "_law_turn", "_law_many"] (defScope s_law_pick) := ⟨rfl, rfl, rfl, by decide +kernel, rfl, by decide +kernel, by decide +kernel⟩
theorem ok_law_pick (T : Tx K mg) : ∃ fd, FnP K "_law_pick" "_law_pick" s_law_pick (He.fAd K ("_law_pick", none)) fd ∧ FnOk P w (cfg K).K mg base (L2.CX P w) 2 (He.fAd K ("_law_pick", none)) fd ["_law_script", "_law_at", "_law_turn", "_law_many"] (PromS (cfg K) (fun a : Scr × Int × Int × Int × Unit => m_law_pick a.1 a.2.1 a.2.2.1 a.2.2.2.1)) := by
  obtain ⟨fd, F⟩ := T.d_law_pick
  obtain ⟨fd_law_cell, F_law_cell, G_law_cell⟩ := ok_law_cell (P := P) (w := w) (base := base) T
  have k_law_cell := F_law_cell.kp
  have b_law_cell : Binds K fd_law_cell ["_law_script", "_law_at"] [] := F_law_cell.bindsN fun _ _ _ _ _ _ us hl => match us, hl with | [_, _], _ => rfl
  refine ⟨fd, F, fn_mk (c := cfg K) (n := 6) F sc_law_pick rfl rfl (fun cdv A outer s H E hr tk pw => ⟨_, (pss_cons (ps_set (i := 4) sc_law_pick.nd rfl (by first | exact Or.inl rfl | exact Or.inr rfl) (pe_callS G_law_cell (hr.mono (by decide)) rfl T.g__law_cell k_law_cell b_law_cell (fun σ => passAt tk σ) (pa_cons (pv 0) (pa_cons (pv 1) pa_nil)))) (pss_cons (ps_if (pt_cmpR op_ge (pe_callB call_abs (by rfl) T.f_abs (by decide +kernel) (pa_cons (pv 4) pa_nil)) (pe_op op_pow pe_int pe_int) (nomark _)) (pss_cons (ps_set (i := 8) sc_law_pick.nd rfl (by first | exact Or.inl rfl | exact Or.inr rfl) (pe_callB call_abs (by rfl) T.f_abs (by decide +kernel) (pa_cons (pv 4) pa_nil))) (pss_cons (ps_for pw rfl (pi_range1 rfl T.f_range (pa_cons (pv 2) pa_nil)) (pg_name (i := 9) sc_law_pick.nd rfl (by first | exact Or.inl rfl | exact Or.inr rfl)) (pss_one (ps_set (i := 8) sc_law_pick.nd rfl (by first | exact Or.inl rfl | exact Or.inr rfl) (pe_op op_fdivW (pv 8) pe_int)))) (pss_cons (ps_if (pt_cmpR op_lt (pv 4) pe_int (nomark _)) (pss_one (ps_set (i := 8) sc_law_pick.nd rfl (by first | exact Or.inl rfl | exact Or.inr rfl) (pe_op op_mod (pv 8) pe_int))) pss_nil) (pss_one (ps_ret (pe_op op_mod (pv 8) (pv 3))))))) pss_nil) (pss_cons (ps_set (i := 5) sc_law_pick.nd rfl (by first | exact Or.inl rfl | exact Or.inr rfl) (pe_op op_mod (pv 4) pe_int)) (pss_cons (ps_set (i := 6) sc_law_pick.nd rfl (by first | exact Or.inl rfl | exact Or.inr rfl) (pe_op op_mod (pe_op op_add (pe_op op_add (pe_op op_mulA (pv 5) pe_int) (pe_op op_mulA (pv 2) pe_int)) pe_int) pe_int)) (pss_cons (ps_set (i := 7) sc_law_pick.nd rfl (by first | exact Or.inl rfl | exact Or.inr rfl) (pe_op op_mod (pe_op op_add (pe_op op_add (pe_op op_mulA (pv 6) (pv 6)) (pe_op op_mulA (pv 5) pe_int)) (pe_op op_mulA (pv 2) pe_int)) pe_int)) (pss_one (ps_ret (pe_op op_mod (pe_op op_mod (pe_op op_add (pe_op op_add (pe_op op_mulA (pv 7) (pv 7)) (pe_op op_mulA (pv 6) pe_int)) (pe_op op_mulA (pv 2) pe_int)) pe_int) (pv 3))))))))), ?_⟩)⟩
  rintro G ⟨script_, at__, turn_, many_, ⟨⟩⟩ σ Q E0 k0
  have C0 := scS (c := cfg K) (B := G) (G0 := G) (H0 := H) (β := Int) (Q := Q) (E := E)
  replace E0 : EnvR G G H G H σ [.val (is (cfg K) script_), .val (is (cfg K) at__), .val (is (cfg K) turn_), .val (is (cfg K) many_), .no, .no, .no, .no, .no, .no] := E0
  with_reducible refine sq ?_
  refine st_asg C0 E0 trivial (ev_call (ea_cons (ev_var 0 rfl) (ea_cons (ev_var 1 rfl) ea_nil))) k0 (fun cell_here_15 _ _ _ E16 k17 => ?_)
  with_reducible refine sq ?_
  refine st_if C0 E16 trivial (et_test (ev_op os_ge (ev_cb cs_abs (ea_cons (ev_var 4 rfl) ea_nil)) (ev_op os_pow ev_int ev_int))) k17 (fun _ _ E19 k20 => ?_) (fun _ _ E64 k65 => ?_)
  · with_reducible refine sq ?_
    refine st_asg C0 E19 trivial (ev_cb cs_abs (ea_cons (ev_var 4 rfl) ea_nil)) k20 (fun left_21 _ _ _ E22 k23 => ?_)
    with_reducible refine sq ?_
    refine st_for1 (ρL := (fun z24 : Int => [.val (is (cfg K) script_), .val (is (cfg K) at__), .val (is (cfg K) turn_), .val (is (cfg K) many_), .val (is (cfg K) cell_here_15), .no, .no, .no, .val (is (cfg K) z24), .no])) (s0 := left_21) C0 E22 trivial (ev_var 2 rfl) k23 (.s (.s (.s (.s (.s (.s (.s (.s (.s (.s .nil)))))))))) ?_ ?_
    · rintro k_25 left_26 _ _ _ N27 Nx63 E29 k30 nx28
      try with_reducible refine s1n ?_
      refine st_asg C0 E29 trivial (ev_op os_fdiv (ev_var 8 rfl) ev_int) k30 (fun left_32 _ _ _ E33 k34 => ?_)
      exact nx28 left_32 _ _ _ (E33.wk (.s (.s (.s (.s (.s (.s (.s (.s (.s (.n .nil))))))))))) k34
    rintro left_37 _ _ _ E35 k36
    with_reducible refine sq ?_
    refine st_jn (ρL := (fun z45 : Int => [.val (is (cfg K) script_), .val (is (cfg K) at__), .val (is (cfg K) turn_), .val (is (cfg K) many_), .val (is (cfg K) cell_here_15), .no, .no, .no, .val (is (cfg K) z45), .no])) C0 k36 (fun kk46 nx47 k48 => ?_) ?_
    · refine st_if C0 E35 trivial (et_test (ev_op os_lt (ev_var 4 rfl) ev_int)) k48 (fun _ _ E49 k50 => ?_) (fun _ _ E54 k55 => ?_)
      · try with_reducible refine s1n ?_
        refine st_asg C0 E49 trivial (ev_op os_mod (ev_var 8 rfl) ev_int) k50 (fun left_51 _ _ _ E52 k53 => ?_)
        exact nx47 left_51 _ _ _ (E52.wk (.s (.s (.s (.s (.s (.s (.s (.s (.s (.s .nil))))))))))) k53
      · exact nx47 left_37 _ _ _ (E54.wk (.s (.s (.s (.s (.s (.s (.s (.s (.s (.s .nil))))))))))) k55
    rintro left_57 _ _ _ E58 k59
    try with_reducible refine s1n ?_
    exact st_ret C0 E58 trivial (ev_op os_mod (ev_var 8 rfl) (ev_var 3 rfl)) k59 (fun r p => p)
  · with_reducible refine nxt ?_
    with_reducible refine sq ?_
    refine st_asg C0 E64 trivial (ev_op os_mod (ev_var 4 rfl) ev_int) k65 (fun low_66 _ _ _ E67 k68 => ?_)
    with_reducible refine sq ?_
    refine st_asg C0 E67 trivial (ev_op os_mod (ev_op os_add (ev_op os_add (ev_op os_mul (ev_var 5 rfl) ev_int) (ev_op os_mul (ev_var 2 rfl) ev_int)) ev_int) ev_int) k68 (fun one_73 _ _ _ E74 k75 => ?_)
    with_reducible refine sq ?_
    refine st_asg C0 E74 trivial (ev_op os_mod (ev_op os_add (ev_op os_add (ev_op os_mul (ev_var 6 rfl) (ev_var 6 rfl)) (ev_op os_mul (ev_var 5 rfl) ev_int)) (ev_op os_mul (ev_var 2 rfl) ev_int)) ev_int) k75 (fun two_81 _ _ _ E82 k83 => ?_)
    try with_reducible refine s1n ?_
    exact st_ret C0 E82 trivial (ev_op os_mod (ev_op os_mod (ev_op os_add (ev_op os_add (ev_op os_mul (ev_var 7 rfl) (ev_var 7 rfl)) (ev_op os_mul (ev_var 6 rfl) ev_int)) (ev_op os_mul (ev_var 2 rfl) ev_int)) ev_int) (ev_var 3 rfl)) k83 (fun r p => p)
theorem sc_law_put : FnScope N_law_put ["_law_row", "_law_pair"] (defScope s_law_put) := ⟨rfl, rfl, rfl, by decide +kernel, rfl, by decide +kernel, by decide +kernel⟩
theorem ok_law_put (T : Tx K mg) : ∃ fd, FnP K "_law_put" "_law_put" s_law_put (He.fAd K ("_law_put", none)) fd ∧ FnOk P w (cfg K).K mg base (L2.CX P w) 1 (He.fAd K ("_law_put", none)) fd ["_law_row", "_law_pair"] (PromL (cfg K) (fun a : (List (Int × Int)) × (Int × Int) × Unit => m_law_put a.1 a.2.1)) := by
  obtain ⟨fd, F⟩ := T.d_law_put
  refine ⟨fd, F, fn_mkL (c := cfg K) (n := 1) F sc_law_put rfl rfl (fun cdv A outer s H E hr tk pw => ⟨_, (pss_cons (ps_set (i := 2) sc_law_put.nd rfl (by first | exact Or.inl rfl | exact Or.inr rfl) (pe_callB (kLen K) (by rfl) T.f_len (by decide +kernel) (pa_cons (pv 0) pa_nil))) (pss_cons (ps_while pw (PW.pt (pw_and (pt_cmpR op_gt (pv 2) pe_int (nomark _)) (pw_and1 (pt_cmpR op_lt (pe_op op_mulA (pe_ix (kIxT K) (pv 1) pe_int (fun _ _ => rfl)) (pe_ix (kIxT K) (pe_ix (kIxL K) (pv 0) (pe_op op_sub (pv 2) pe_int) (fun _ _ => rfl)) pe_int (fun _ _ => rfl))) (pe_op op_mulA (pe_ix (kIxT K) (pe_ix (kIxL K) (pv 0) (pe_op op_sub (pv 2) pe_int) (fun _ _ => rfl)) pe_int (fun _ _ => rfl)) (pe_ix (kIxT K) (pv 1) pe_int (fun _ _ => rfl))) (nomark _))))) (pss_one (ps_aug (i := 2) sc_law_put.nd rfl (by first | exact Or.inl rfl | exact Or.inr rfl) pe_int ip_sub))) (pss_one (ps_ret (pe_op op_cat (pe_op op_cat (pe_slice (kSlL K) (pv 0) po_none (po_some (pv 2))) (pe_lst (pa_cons (pv 1) pa_nil))) (pe_slice (kSlL K) (pv 0) (po_some (pv 2)) po_none)))))), ?_⟩)⟩
  rintro G ⟨row_, pair_, ⟨⟩⟩ σ Q E0 k0
  have C0 := scL (c := cfg K) (B := G) (G0 := G) (H0 := H) (β := (Int × Int)) (Q := Q) (E := E)
  replace E0 : EnvR G G H G H σ [.val (is (cfg K) row_), .val (is (cfg K) pair_), .no] := E0
  with_reducible refine sq ?_
  refine st_asg C0 E0 trivial (ev_cb (cs_len rfl) (ea_cons (ev_var 0 rfl) ea_nil)) k0 (fun at__91 _ _ _ E92 k93 => ?_)
  with_reducible refine sq ?_
  refine st_while (ρL := (fun z94 : Int => [.val (is (cfg K) row_), .val (is (cfg K) pair_), .val (is (cfg K) z94)])) (s0 := at__91) C0 (fun _ => trivial) (E92.wk (.s (.s (.s .nil)))) (fun z116 => ?_) k93 ?_ ?_
  · exact (et_and (et_test (ev_op os_gt (ev_var 2 rfl) ev_int)) (et_test (ev_op os_lt (ev_op os_mul (ev_fst rfl (ev_var 1 rfl)) (ev_snd rfl (ev_op (os_ixL rfl) (ev_var 0 rfl) (ev_op os_sub (ev_var 2 rfl) ev_int)))) (ev_op os_mul (ev_fst rfl (ev_op (os_ixL rfl) (ev_var 0 rfl) (ev_op os_sub (ev_var 2 rfl) ev_int))) (ev_snd rfl (ev_var 1 rfl))))))
  · rintro at__102 _ _ _ N117 Nx118 E103 k104 nx105
    try with_reducible refine s1n ?_
    refine st_aug C0 E103 trivial rfl ev_int k104 (fun at__107 _ _ _ E108 k109 => ?_)
    exact nx105 at__107 _ _ _ (E108.wk (.s (.s (.s .nil)))) k109
  rintro at__112 _ _ _ E110 k111
  try with_reducible refine s1n ?_
  exact st_retL C0 E110 trivial (el_cat (Ev.ofL (el_cat (Ev.ofL (el_cut (ev_var 0 rfl) eo_none (eo_some (ev_var 2 rfl)))) (Ev.ofL (el_lst (es_cons (ev_var 1 rfl) es_nil) (sh_ok (sh_cons sh_nil)))))) (Ev.ofL (el_cut (ev_var 0 rfl) (eo_some (ev_var 2 rfl)) eo_none))) k111 (fun r p => p)
theorem sc_less : FnScope N_less ["one", "other"] (defScope s_less) := ⟨rfl, rfl, rfl, by decide +kernel, rfl, by decide +kernel, by decide +kernel⟩
theorem ok_less (T : Tx K mg) : ∃ fd, FnP K "less" "less" s_less (He.fAd K ("less", none)) fd ∧ FnOk P w (cfg K).K mg base (L2.CX P w) 1 (He.fAd K ("less", none)) fd ["one", "other"] (PromS (cfg K) (fun a : (Int × Int) × (Int × Int) × Unit => m_less a.1 a.2.1)) := by
  obtain ⟨fd, F⟩ := T.d_less
  refine ⟨fd, F, fn_mk (c := cfg K) (n := 0) F sc_less rfl rfl (fun cdv A outer s H E hr tk pw => ⟨_, (pss_cons (ps_if (PW.pt (pw_or (pt_cmpR op_lt (pe_ix (kIxT K) (pv 0) pe_int (fun _ _ => rfl)) pe_int (nomark _)) (pw_or1 (pt_cmpR op_lt (pe_ix (kIxT K) (pv 1) pe_int (fun _ _ => rfl)) pe_int (nomark _))))) (pss_one (ps_raise rfl tk (pmk_own PySem.F.excBase_ValueError T.x_BadBottom.1 T.g_BadBottom T.x_BadBottom.2.1 (raises_own T.x_BadBottom.2.2.1 T.x_BadBottom.2.2.2) rfl))) pss_nil) (pss_one (ps_ret (pe_cmpR op_lt (pe_op op_mulA (pe_ix (kIxT K) (pv 0) pe_int (fun _ _ => rfl)) (pe_ix (kIxT K) (pv 1) pe_int (fun _ _ => rfl))) (pe_op op_mulA (pe_ix (kIxT K) (pv 1) pe_int (fun _ _ => rfl)) (pe_ix (kIxT K) (pv 0) pe_int (fun _ _ => rfl))) (nomark _))))), ?_⟩)⟩
  rintro G ⟨one_, other_, ⟨⟩⟩ σ Q E0 k0
  have C0 := scS (c := cfg K) (B := G) (G0 := G) (H0 := H) (β := Bool) (Q := Q) (E := E)
  replace E0 : EnvR G G H G H σ [.val (is (cfg K) one_), .val (is (cfg K) other_)] := E0
  with_reducible refine sq ?_
  refine st_if C0 E0 trivial (et_or (et_test (ev_op os_lt (ev_snd rfl (ev_var 0 rfl)) ev_int)) (et_test (ev_op os_lt (ev_snd rfl (ev_var 1 rfl)) ev_int))) k0 (fun _ _ E119 k120 => ?_) (fun _ _ E121 k122 => ?_)
  · try with_reducible refine s1n ?_
    exact st_raise C0 E119 trivial rfl k120
  · with_reducible refine nxt ?_
    try with_reducible refine s1n ?_
    exact st_ret C0 E121 trivial (ev_op os_lt (ev_op os_mul (ev_fst rfl (ev_var 0 rfl)) (ev_snd rfl (ev_var 1 rfl))) (ev_op os_mul (ev_fst rfl (ev_var 1 rfl)) (ev_snd rfl (ev_var 0 rfl)))) k122 (fun r p => p)
theorem sc_joined : FnScope N_joined ["left", "right"] (defScope s_joined) := ⟨rfl, rfl, rfl, by decide +kernel, rfl, by decide +kernel, by decide +kernel⟩
theorem ok_joined (T : Tx K mg) : ∃ fd, FnP K "joined" "joined" s_joined (He.fAd K ("joined", none)) fd ∧ FnOk P w (cfg K).K mg base (L2.CX P w) 2 (He.fAd K ("joined", none)) fd ["left", "right"] (PromL (cfg K) (fun a : (List (Int × Int)) × (List (Int × Int)) × Unit => m_joined a.1 a.2.1)) := by
  obtain ⟨fd, F⟩ := T.d_joined
  obtain ⟨fd_less, F_less, G_less⟩ := ok_less (P := P) (w := w) (base := base) T
  have k_less := F_less.kp
  have b_less : Binds K fd_less ["one", "other"] [] := F_less.bindsN fun _ _ _ _ _ _ us hl => match us, hl with | [_, _], _ => rfl
  refine ⟨fd, F, fn_mkL (c := cfg K) (n := 3) F sc_joined rfl rfl (fun cdv A outer s H E hr tk pw => ⟨_, (pss_cons (ps_set (i := 2) sc_joined.nd rfl (by first | exact Or.inl rfl | exact Or.inr rfl) (pe_lst pa_nil)) (pss_cons (ps_set (i := 3) sc_joined.nd rfl (by first | exact Or.inl rfl | exact Or.inr rfl) pe_int) (pss_cons (ps_for pw rfl (kPiL K (pv 0)) (pg_name (i := 4) sc_joined.nd rfl (by first | exact Or.inl rfl | exact Or.inr rfl)) (pss_cons (ps_while pw (PW.pt (pw_and (pt_cmpR op_lt (pv 3) (pe_callB (kLen K) (by rfl) T.f_len (by decide +kernel) (pa_cons (pv 1) pa_nil)) (nomark _)) (pw_and1 (pt_val (pe_callS G_less (hr.mono (by decide)) rfl T.g_less k_less b_less (fun σ => passAt tk σ) (pa_cons (pe_ix (kIxL K) (pv 1) (pv 3) (fun _ _ => rfl)) (pa_cons (pv 4) pa_nil))))))) (pss_cons (ps_expr (pe_bm PySem.F.plainAttrs_list PySem.F.slot_list_append PySem.F.type_list_append mt_append (pv 2) (pa_cons (pe_ix (kIxL K) (pv 1) (pv 3) (fun _ _ => rfl)) pa_nil))) (pss_one (ps_aug (i := 3) sc_joined.nd rfl (by first | exact Or.inl rfl | exact Or.inr rfl) pe_int ip_add)))) (pss_one (ps_expr (pe_bm PySem.F.plainAttrs_list PySem.F.slot_list_append PySem.F.type_list_append mt_append (pv 2) (pa_cons (pv 4) pa_nil)))))) (pss_one (ps_ret (pe_op op_cat (pv 2) (pe_slice (kSlL K) (pv 1) (po_some (pv 3)) po_none))))))), ?_⟩)⟩
  rintro G ⟨left_, right_, ⟨⟩⟩ σ Q E0 k0
  have C0 := scL (c := cfg K) (B := G) (G0 := G) (H0 := H) (β := (Int × Int)) (Q := Q) (E := E)
  replace E0 : EnvR G G H G H σ [.val (is (cfg K) left_), .val (is (cfg K) right_), .no, .no, .no] := E0
  with_reducible refine sq ?_
  refine st_asgL C0 E0 trivial (el_nil (α := (Int × Int))) k0 (fun made_126 _ _ _ E127 k128 => ?_)
  with_reducible refine sq ?_
  refine st_asg C0 E127 trivial ev_int k128 (fun at__129 _ _ _ E130 k131 => ?_)
  with_reducible refine sq ?_
  refine st_forL (ρL := (fun z132 : (List (Int × Int)) × Int => [.val (is (cfg K) left_), .val (is (cfg K) right_), .own (isL (cfg K) z132.1), .val (is (cfg K) z132.2), .no])) (s0 := (made_126, at__129)) C0 E130 trivial (ev_var 0 rfl) k131 (.s (.s (.s (.s (.s .nil))))) ?_ ?_
  · rintro point_133 ⟨made_134, at__135⟩ _ _ _ _ N136 Nx179 C140 E138 k139 nx137
    with_reducible refine sq ?_
    refine st_while (ρL := (fun z142 : (List (Int × Int)) × Int => [.val (is (cfg K) left_), .val (is (cfg K) right_), .own (isL (cfg K) z142.1), .val (is (cfg K) z142.2), .val (is (cfg K) point_133)])) (s0 := (made_134, at__135)) C140 (fun _ => trivial) (E138.wk (.s (.s (.s (.s (.s .nil)))))) (fun z169 => ?_) k139 ?_ ?_
    · exact (et_and (et_test (ev_op os_lt (ev_var 3 rfl) (ev_cb (cs_len rfl) (ea_cons (ev_var 1 rfl) ea_nil)))) (et_B (ev_call (ea_cons (ev_op (os_ixL rfl) (ev_var 1 rfl) (ev_var 3 rfl)) (ea_cons (ev_var 4 rfl) ea_nil)))))
    · rintro ⟨made_147, at__148⟩ _ _ _ N170 Nx171 E149 k150 nx151
      with_reducible refine sq ?_
      refine st_append C140 E149 trivial rfl (ev_op (os_ixL rfl) (ev_var 1 rfl) (ev_var 3 rfl)) k150 (fun made_154 _ _ E155 k156 => ?_)
      try with_reducible refine s1n ?_
      refine st_aug C140 E155 trivial rfl ev_int k156 (fun at__157 _ _ _ E158 k159 => ?_)
      exact nx151 (made_154, at__157) _ _ _ (E158.wk (.s (.s (.s (.s (.s .nil)))))) k159
    rintro ⟨made_162, at__163⟩ _ _ _ E160 k161
    try with_reducible refine s1n ?_
    refine st_append C140 E160 trivial rfl (ev_var 4 rfl) k161 (fun made_164 _ _ E165 k166 => ?_)
    exact nx137 (made_164, at__163) _ _ _ (E165.wk (.s (.s (.s (.s (.n .nil)))))) k166
  rintro ⟨made_174, at__175⟩ _ _ _ E172 k173
  try with_reducible refine s1n ?_
  refine st_freeze 2 E172 rfl (fun _ E176 => ?_)
  exact st_retL C0 E176 trivial (el_cat (ev_var 2 rfl) (Ev.ofL (el_cut (ev_var 1 rfl) (eo_some (ev_var 3 rfl)) eo_none))) k173 (fun r p => p)
theorem sc_ordered : FnScope N_ordered ["points"] (defScope s_ordered) := ⟨rfl, rfl, rfl, by decide +kernel, rfl, by decide +kernel, by decide +kernel⟩
theorem ok_ordered (T : Tx K mg) : ∃ fd, FnP K "ordered" "ordered" s_ordered (He.fAd K ("ordered", none)) fd ∧ FnOk P w (cfg K).K mg base (L2.CX P w) 3 (He.fAd K ("ordered", none)) fd ["points"] (PromL (cfg K) (fun a : (List (Int × Int)) × Unit => m_ordered a.1)) := by
  obtain ⟨fd, F⟩ := T.d_ordered
  obtain ⟨fd_joined, F_joined, G_joined⟩ := ok_joined (P := P) (w := w) (base := base) T
  have k_joined := F_joined.kp
  have b_joined : Binds K fd_joined ["left", "right"] [] := F_joined.bindsN fun _ _ _ _ _ _ us hl => match us, hl with | [_, _], _ => rfl
  refine ⟨fd, F, fn_mkL (c := cfg K) (n := 5) F sc_ordered rfl rfl (fun cdv A outer s H E hr tk pw => ⟨_, (pss_cons (ps_set (i := 1) sc_ordered.nd rfl (by first | exact Or.inl rfl | exact Or.inr rfl) (pe_lst pa_nil)) (pss_cons (ps_for pw rfl (kPiL K (pv 0)) (pg_tup rfl (pgs_cons (pg_name (i := 2) sc_ordered.nd rfl (by first | exact Or.inl rfl | exact Or.inr rfl)) (pgs_cons (pg_name (i := 3) sc_ordered.nd rfl (by first | exact Or.inl rfl | exact Or.inr rfl)) pgs_nil))) (pss_cons (ps_if (pt_cmpR op_lt (pv 3) pe_int (nomark _)) (pss_one (ps_raise rfl tk (pmk_own PySem.F.excBase_ValueError T.x_BadBottom.1 T.g_BadBottom T.x_BadBottom.2.1 (raises_own T.x_BadBottom.2.2.1 T.x_BadBottom.2.2.2) rfl))) pss_nil) (pss_one (ps_expr (pe_bm PySem.F.plainAttrs_list PySem.F.slot_list_append PySem.F.type_list_append mt_append (pv 1) (pa_cons (pe_lst (pa_cons (pe_tup (pa_cons (pv 2) (pa_cons (pv 3) pa_nil))) pa_nil)) pa_nil)))))) (pss_cons (ps_while pw (pt_cmpR op_gt (pe_callB (kLen K) (by rfl) T.f_len (by decide +kernel) (pa_cons (pv 1) pa_nil)) pe_int (nomark _)) (pss_cons (ps_set (i := 4) sc_ordered.nd rfl (by first | exact Or.inl rfl | exact Or.inr rfl) (pe_lst pa_nil)) (pss_cons (ps_for pw rfl (pi_range3 rfl T.f_range (pa_cons pe_int (pa_cons (pe_op op_sub (pe_callB (kLen K) (by rfl) T.f_len (by decide +kernel) (pa_cons (pv 1) pa_nil)) pe_int) (pa_cons pe_int pa_nil)))) (pg_name (i := 5) sc_ordered.nd rfl (by first | exact Or.inl rfl | exact Or.inr rfl)) (pss_one (ps_expr (pe_bm PySem.F.plainAttrs_list PySem.F.slot_list_append PySem.F.type_list_append mt_append (pv 4) (pa_cons (pe_callS G_joined (hr.mono (by decide)) rfl T.g_joined k_joined b_joined (fun σ => passAt tk σ) (pa_cons (pe_ix (kIxL K) (pv 1) (pv 5) (fun _ _ => rfl)) (pa_cons (pe_ix (kIxL K) (pv 1) (pe_op op_add (pv 5) pe_int) (fun _ _ => rfl)) pa_nil))) pa_nil))))) (pss_cons (ps_if (pt_cmpR op_eq (pe_op op_mod (pe_callB (kLen K) (by rfl) T.f_len (by decide +kernel) (pa_cons (pv 1) pa_nil)) pe_int) pe_int (nomark _)) (pss_one (ps_expr (pe_bm PySem.F.plainAttrs_list PySem.F.slot_list_append PySem.F.type_list_append mt_append (pv 4) (pa_cons (pe_ix (kIxL K) (pv 1) (pe_un un_neg pe_int) (fun _ _ => rfl)) pa_nil)))) pss_nil) (pss_one (ps_set (i := 1) sc_ordered.nd rfl (by first | exact Or.inl rfl | exact Or.inr rfl) (pv 4))))))) (pss_cons (ps_if (pt_cmpR op_eq (pe_callB (kLen K) (by rfl) T.f_len (by decide +kernel) (pa_cons (pv 1) pa_nil)) pe_int (nomark _)) (pss_one (ps_ret (pe_lst pa_nil))) pss_nil) (pss_one (ps_ret (pe_callTy (kList K) (by rfl) T.f_list (by decide +kernel) (pa_cons (pe_ix (kIxL K) (pv 1) pe_int (fun _ _ => rfl)) pa_nil)))))))), ?_⟩)⟩
  rintro G ⟨points_, ⟨⟩⟩ σ Q E0 k0
  have C0 := scL (c := cfg K) (B := G) (G0 := G) (H0 := H) (β := (Int × Int)) (Q := Q) (E := E)
  replace E0 : EnvR G G H G H σ [.val (is (cfg K) points_), .no, .no, .no, .no, .no] := E0
  with_reducible refine sq ?_
  refine st_asgL C0 E0 trivial (el_nil (α := (List (Int × Int)))) k0 (fun heaps_180 _ _ _ E181 k182 => ?_)
  with_reducible refine sq ?_
  refine st_forLP rfl (ρL := (fun z183 : (List (List (Int × Int))) => [.val (is (cfg K) points_), .own (isL (cfg K) z183), .no, .no, .no, .no])) (s0 := heaps_180) C0 E181 trivial (ev_var 0 rfl) k182 (.s (.s (.s (.s (.s (.s .nil)))))) ?_ ?_
  · rintro top__184 bottom_185 heaps_186 _ _ _ _ N187 Nx285 C191 E189 k190 nx188
    with_reducible refine sq ?_
    refine st_if C191 E189 trivial (et_test (ev_op os_lt (ev_var 3 rfl) ev_int)) k190 (fun _ _ E193 k194 => ?_) (fun _ _ E195 k196 => ?_)
    · try with_reducible refine s1n ?_
      exact st_raise C191 E193 trivial rfl k194
    · with_reducible refine nxt ?_
      try with_reducible refine s1n ?_
      refine st_append C191 E195 trivial rfl (Ev.ofL (el_lst (es_cons (ev_pair (ea_cons (ev_var 2 rfl) (ea_cons (ev_var 3 rfl) ea_nil))) es_nil) (sh_ok (sh_cons sh_nil)))) k196 (fun heaps_197 _ _ E198 k199 => ?_)
      exact nx188 heaps_197 _ _ _ (E198.wk (.s (.s (.n (.n (.s (.s .nil))))))) k199
  rintro heaps_203 _ _ _ E201 k202
  with_reducible refine sq ?_
  refine st_freeze 1 E201 rfl (fun _ E204 => ?_)
  refine st_while (ρL := (fun z205 : (List (List (Int × Int))) => [.val (is (cfg K) points_), .val (is (cfg K) z205), .no, .no, .no, .no])) (s0 := heaps_203) C0 (fun _ => trivial) (E204.wk (.s (.s (.s (.s (.s (.s .nil))))))) (fun z279 => ?_) k202 ?_ ?_
  · exact (et_test (ev_op os_gt (ev_cb (cs_len rfl) (ea_cons (ev_var 1 rfl) ea_nil)) ev_int))
  · rintro heaps_207 _ _ _ N280 Nx281 E208 k209 nx210
    with_reducible refine sq ?_
    refine st_asgL C0 E208 trivial (el_nil (α := (List (Int × Int)))) k209 (fun paired_212 _ _ _ E213 k214 => ?_)
    with_reducible refine sq ?_
    refine st_for3 (ρL := (fun z215 : (List (List (Int × Int))) => [.val (is (cfg K) points_), .val (is (cfg K) heaps_207), .no, .no, .own (isL (cfg K) z215), .no])) (s0 := paired_212) C0 E213 trivial ev_int (ev_op os_sub (ev_cb (cs_len rfl) (ea_cons (ev_var 1 rfl) ea_nil)) ev_int) ev_int k214 (.s (.s (.s (.s (.s (.s .nil)))))) ?_ ?_
    · rintro k_216 paired_217 _ _ _ N218 Nx266 E220 k221 nx219
      try with_reducible refine s1n ?_
      refine st_append C0 E220 trivial rfl (Ev.ofL (el_call (ea_cons (ev_op (os_ixL rfl) (ev_var 1 rfl) (ev_var 5 rfl)) (ea_cons (ev_op (os_ixL rfl) (ev_var 1 rfl) (ev_op os_add (ev_var 5 rfl) ev_int)) ea_nil)))) k221 (fun paired_228 _ _ E229 k230 => ?_)
      exact nx219 paired_228 _ _ _ (E229.wk (.s (.s (.s (.s (.s (.n .nil))))))) k230
    rintro paired_233 _ _ _ E231 k232
    with_reducible refine sq ?_
    refine st_jn (ρL := (fun z243 : (List (List (Int × Int))) => [.val (is (cfg K) points_), .val (is (cfg K) heaps_207), .no, .no, .own (isL (cfg K) z243), .no])) C0 k232 (fun kk244 nx245 k246 => ?_) ?_
    · refine st_if C0 E231 trivial (et_test (ev_op os_eqI (ev_op os_mod (ev_cb (cs_len rfl) (ea_cons (ev_var 1 rfl) ea_nil)) ev_int) ev_int)) k246 (fun _ _ E247 k248 => ?_) (fun _ _ E253 k254 => ?_)
      · try with_reducible refine s1n ?_
        refine st_append C0 E247 trivial rfl (ev_op (os_ixL rfl) (ev_var 1 rfl) (ev_neg ev_int)) k248 (fun paired_250 _ _ E251 k252 => ?_)
        exact nx245 paired_250 _ _ _ (E251.wk (.s (.s (.s (.s (.s (.s .nil))))))) k252
      · exact nx245 paired_233 _ _ _ (E253.wk (.s (.s (.s (.s (.s (.s .nil))))))) k254
    rintro paired_256 _ _ _ E257 k258
    try with_reducible refine s1n ?_
    refine st_freeze 4 E257 rfl (fun _ E259 => ?_)
    refine st_asg C0 E259 trivial (ev_var 4 rfl) k258 (fun heaps_260 _ _ _ E261 k262 => ?_)
    exact nx210 heaps_260 _ _ _ (E261.wk (.s (.s (.s (.s (.n (.s .nil))))))) k262
  rintro heaps_269 _ _ _ E267 k268
  with_reducible refine sq ?_
  refine st_if C0 E267 trivial (et_test (ev_op os_eqI (ev_cb (cs_len rfl) (ea_cons (ev_var 1 rfl) ea_nil)) ev_int)) k268 (fun _ _ E270 k271 => ?_) (fun _ _ E272 k273 => ?_)
  · try with_reducible refine s1n ?_
    exact st_retL C0 E270 trivial (el_nil (α := (Int × Int))) k271 (fun r p => p)
  · with_reducible refine nxt ?_
    try with_reducible refine s1n ?_
    exact st_retL C0 E272 trivial (el_cb cl_list (ea_cons (ev_op (os_ixL rfl) (ev_var 1 rfl) ev_int) ea_nil)) k273 (fun r p => p)
theorem sc_law_whole : FnScope N_law_whole ["_law_found"] (defScope s_law_whole) := ⟨rfl, rfl, rfl, by decide +kernel, rfl, by decide +kernel, by decide +kernel⟩
theorem ok_law_whole (T : Tx K mg) : ∃ fd, FnP K "_law_whole" "_law_whole" s_law_whole (He.fAd K ("_law_whole", none)) fd ∧ FnOk P w (cfg K).K mg base (L2.CX P w) 1 (He.fAd K ("_law_whole", none)) fd ["_law_found"] (PromS (cfg K) (fun a : Int × Unit => m_law_whole a.1)) := by
  obtain ⟨fd, F⟩ := T.d_law_whole
  refine ⟨fd, F, fn_mk (c := cfg K) (n := 0) F sc_law_whole rfl rfl (fun cdv A outer s H E hr tk pw => ⟨_, (pss_one (ps_ret (pe_and (pe_callB (kIsi K) (by rfl) T.f_isinstance (by decide +kernel) (pa_cons (pv 0) (pa_cons (pe_bltn (v := .ty "int") (by rfl) T.f_int (by decide +kernel) rfl) pa_nil))) (pe_one (pe_not (pe_callB (kIsi K) (by rfl) T.f_isinstance (by decide +kernel) (pa_cons (pv 0) (pa_cons (pe_bltn (v := .ty "bool") (by rfl) T.f_bool (by decide +kernel) rfl) pa_nil)))))))), ?_⟩)⟩
  rintro G ⟨found_, ⟨⟩⟩ σ Q E0 k0
  have C0 := scS (c := cfg K) (B := G) (G0 := G) (H0 := H) (β := Bool) (Q := Q) (E := E)
  replace E0 : EnvR G G H G H σ [.val (is (cfg K) found_)] := E0
  try with_reducible refine s1n ?_
  exact st_ret C0 E0 trivial (ev_and (ev_cb (cs_isi (α := Int) rfl) (ea_cons (ev_var 0 rfl) (ea_cons (ev_tyn "int") ea_nil))) (ev_not (ev_cb (cs_isi (α := Int) rfl) (ea_cons (ev_var 0 rfl) (ea_cons (ev_tyn "bool") ea_nil))))) k0 (fun r p => p)
theorem sc_law_pairs : FnScope N_law_pairs ["_law_found"] (defScope s_law_pairs) := ⟨rfl, rfl, rfl, by decide +kernel, rfl, by decide +kernel, by decide +kernel⟩
theorem ok_law_pairs (T : Tx K mg) : ∃ fd, FnP K "_law_pairs" "_law_pairs" s_law_pairs (He.fAd K ("_law_pairs", none)) fd ∧ FnOk P w (cfg K).K mg base (L2.CX P w) 2 (He.fAd K ("_law_pairs", none)) fd ["_law_found"] (PromS (cfg K) (fun a : (List (Int × Int)) × Unit => m_law_pairs a.1)) := by
  obtain ⟨fd, F⟩ := T.d_law_pairs
  obtain ⟨fd_law_whole, F_law_whole, G_law_whole⟩ := ok_law_whole (P := P) (w := w) (base := base) T
  have k_law_whole := F_law_whole.kp
  have b_law_whole : Binds K fd_law_whole ["_law_found"] [] := F_law_whole.bindsN fun _ _ _ _ _ _ us hl => match us, hl with | [_], _ => rfl
  refine ⟨fd, F, fn_mk (c := cfg K) (n := 1) F sc_law_pairs rfl rfl (fun cdv A outer s H E hr tk pw => ⟨_, (pss_cons (ps_if (pt_not (pt_val (pe_callB (kIsi K) (by rfl) T.f_isinstance (by decide +kernel) (pa_cons (pv 0) (pa_cons (pe_bltn (v := .ty "list") (by rfl) T.f_list (by decide +kernel) rfl) pa_nil))))) (pss_one (ps_ret pe_bl)) pss_nil) (pss_cons (ps_for pw rfl (kPiL K (pv 0)) (pg_name (i := 1) sc_law_pairs.nd rfl (by first | exact Or.inl rfl | exact Or.inr rfl)) (pss_one (ps_if (PW.pt (pw_or (pt_not (pt_val (pe_callB (kIsi K) (by rfl) T.f_isinstance (by decide +kernel) (pa_cons (pv 1) (pa_cons (pe_bltn (v := .ty "tuple") (by rfl) T.f_tuple (by decide +kernel) rfl) pa_nil))))) (pw_or (pt_cmpR op_ne (pe_callB (kLen K) (by rfl) T.f_len (by decide +kernel) (pa_cons (pv 1) pa_nil)) pe_int (nomark _)) (pw_or (pt_not (pt_val (pe_callS G_law_whole (hr.mono (by decide)) rfl T.g__law_whole k_law_whole b_law_whole (fun σ => passAt tk σ) (pa_cons (pe_ix (kIxT K) (pv 1) pe_int (fun _ _ => rfl)) pa_nil)))) (pw_or1 (pt_not (pt_val (pe_callS G_law_whole (hr.mono (by decide)) rfl T.g__law_whole k_law_whole b_law_whole (fun σ => passAt tk σ) (pa_cons (pe_ix (kIxT K) (pv 1) pe_int (fun _ _ => rfl)) pa_nil))))))))) (pss_one (ps_ret pe_bl)) pss_nil))) (pss_one (ps_ret pe_bl)))), ?_⟩)⟩
  rintro G ⟨found_, ⟨⟩⟩ σ Q E0 k0
  have C0 := scS (c := cfg K) (B := G) (G0 := G) (H0 := H) (β := Bool) (Q := Q) (E := E)
  replace E0 : EnvR G G H G H σ [.val (is (cfg K) found_), .no] := E0
  with_reducible refine sq ?_
  refine st_if C0 E0 trivial (et_not (et_B (ev_cb (cs_isi (α := (List (Int × Int))) rfl) (ea_cons (ev_var 0 rfl) (ea_cons (ev_tyn "list") ea_nil))))) k0 (fun _ _ E286 k287 => ?_) (fun _ _ E288 k289 => ?_)
  · try with_reducible refine s1n ?_
    exact st_ret C0 E286 trivial ev_bl k287 (fun r p => p)
  · with_reducible refine nxt ?_
    with_reducible refine sq ?_
    refine st_forL (ρL := (fun z290 : Unit => [.val (is (cfg K) found_), .no])) (s0 := ()) C0 E288 trivial (ev_var 0 rfl) k289 (.s (.s .nil)) ?_ ?_
    · rintro pair_291 ⟨⟩ _ _ _ _ N292 Nx307 C296 E294 k295 nx293
      try with_reducible refine s1n ?_
      refine st_if C296 E294 trivial (et_or (et_not (et_B (ev_cb (cs_isi (α := (Int × Int)) rfl) (ea_cons (ev_var 1 rfl) (ea_cons (ev_tyn "tuple") ea_nil))))) (et_or (et_test (ev_op os_neI (ev_cb (cs_len2 rfl) (ea_cons (ev_var 1 rfl) ea_nil)) ev_int)) (et_or (et_not (et_B (ev_call (ea_cons (ev_fst rfl (ev_var 1 rfl)) ea_nil)))) (et_not (et_B (ev_call (ea_cons (ev_snd rfl (ev_var 1 rfl)) ea_nil))))))) k295 (fun _ _ E298 k299 => ?_) (fun _ _ E300 k301 => ?_)
      · try with_reducible refine s1n ?_
        exact st_ret C296 E298 trivial ev_bl k299 (fun r p => p)
      · with_reducible refine nxt ?_
        exact nx293 () _ _ _ (E300.wk (.s (.n .nil))) k301
    rintro ⟨⟩ _ _ _ E303 k304
    try with_reducible refine s1n ?_
    exact st_ret C0 E303 trivial ev_bl k304 (fun r p => p)
theorem sc_law : FnScope N_law ["_law_script"] (defScope s_law) := ⟨rfl, rfl, rfl, by decide +kernel, rfl, by decide +kernel, by decide +kernel⟩
theorem ok_law (T : Tx K mg) : ∃ fd, FnP K "law" "law" s_law (He.fAd K ("law", none)) fd ∧ FnOk P w (cfg K).K mg base (L2.CX P w) 4 (He.fAd K ("law", none)) fd ["_law_script"] (PromS (cfg K) (fun a : Scr × Unit => m_law a.1)) := by
  obtain ⟨fd, F⟩ := T.d_law
  obtain ⟨fd_law_pick, F_law_pick, G_law_pick⟩ := ok_law_pick (P := P) (w := w) (base := base) T
  have k_law_pick := F_law_pick.kp
  have b_law_pick : Binds K fd_law_pick ["_law_script", "_law_at", "_law_turn", "_law_many"] [] := F_law_pick.bindsN fun _ _ _ _ _ _ us hl => match us, hl with | [_, _, _, _], _ => rfl
  obtain ⟨fd_law_cell, F_law_cell, G_law_cell⟩ := ok_law_cell (P := P) (w := w) (base := base) T
  have k_law_cell := F_law_cell.kp
  have b_law_cell : Binds K fd_law_cell ["_law_script", "_law_at"] [] := F_law_cell.bindsN fun _ _ _ _ _ _ us hl => match us, hl with | [_, _], _ => rfl
  obtain ⟨fd_law_put, F_law_put, G_law_put⟩ := ok_law_put (P := P) (w := w) (base := base) T
  have k_law_put := F_law_put.kp
  have b_law_put : Binds K fd_law_put ["_law_row", "_law_pair"] [] := F_law_put.bindsN fun _ _ _ _ _ _ us hl => match us, hl with | [_, _], _ => rfl
  obtain ⟨fd_ordered, F_ordered, G_ordered⟩ := ok_ordered (P := P) (w := w) (base := base) T
  have k_ordered := F_ordered.kp
  have b_ordered : Binds K fd_ordered ["points"] [] := F_ordered.bindsN fun _ _ _ _ _ _ us hl => match us, hl with | [_], _ => rfl
  obtain ⟨fd_law_pairs, F_law_pairs, G_law_pairs⟩ := ok_law_pairs (P := P) (w := w) (base := base) T
  have k_law_pairs := F_law_pairs.kp
  have b_law_pairs : Binds K fd_law_pairs ["_law_found"] [] := F_law_pairs.bindsN fun _ _ _ _ _ _ us hl => match us, hl with | [_], _ => rfl
  refine ⟨fd, F, fn_mk (c := cfg K) (n := 10) F sc_law rfl rfl (fun cdv A outer s H E hr tk pw => ⟨_, (pss_cons (ps_set (i := 1) sc_law.nd rfl (by first | exact Or.inl rfl | exact Or.inr rfl) (pe_callS G_law_pick (hr.mono (by decide)) rfl T.g__law_pick k_law_pick b_law_pick (fun σ => passAt tk σ) (pa_cons (pv 0) (pa_cons pe_int (pa_cons pe_int (pa_cons pe_int pa_nil)))))) (pss_cons (ps_set (i := 2) sc_law.nd rfl (by first | exact Or.inl rfl | exact Or.inr rfl) (pe_lst pa_nil)) (pss_cons (ps_for pw rfl (pi_range1 rfl T.f_range (pa_cons (pv 1) pa_nil)) (pg_name (i := 3) sc_law.nd rfl (by first | exact Or.inl rfl | exact Or.inr rfl)) (pss_cons (ps_expr (pe_bm PySem.F.plainAttrs_list PySem.F.slot_list_append PySem.F.type_list_append mt_append (pv 2) (pa_cons (pe_tup (pa_cons (pe_op op_sub (pe_callS G_law_pick (hr.mono (by decide)) rfl T.g__law_pick k_law_pick b_law_pick (fun σ => passAt tk σ) (pa_cons (pv 0) (pa_cons (pe_op op_add pe_int (pv 3)) (pa_cons pe_int (pa_cons pe_int pa_nil))))) pe_int) (pa_cons (pe_op op_add pe_int (pe_callS G_law_pick (hr.mono (by decide)) rfl T.g__law_pick k_law_pick b_law_pick (fun σ => passAt tk σ) (pa_cons (pv 0) (pa_cons (pe_op op_add pe_int (pv 3)) (pa_cons pe_int (pa_cons pe_int pa_nil)))))) pa_nil))) pa_nil))) (pss_cons (ps_if (pt_cmpR op_eq (pe_callS G_law_pick (hr.mono (by decide)) rfl T.g__law_pick k_law_pick b_law_pick (fun σ => passAt tk σ) (pa_cons (pv 0) (pa_cons (pe_op op_add pe_int (pv 3)) (pa_cons pe_int (pa_cons pe_int pa_nil))))) pe_int (nomark _)) (pss_one (ps_asg (pe_ix (kIxL K) (pv 2) pe_int (fun _ _ => rfl)) (pg_sub (pv 2) (pe_un un_neg pe_int) set_list))) pss_nil) (pss_cons (ps_if (pt_cmpR op_eq (pe_callS G_law_pick (hr.mono (by decide)) rfl T.g__law_pick k_law_pick b_law_pick (fun σ => passAt tk σ) (pa_cons (pv 0) (pa_cons (pe_op op_add pe_int (pv 3)) (pa_cons pe_int (pa_cons pe_int pa_nil))))) pe_int (nomark _)) (pss_one (ps_asg (pe_tup (pa_cons (pe_op op_mulA (pe_ix (kIxT K) (pe_ix (kIxL K) (pv 2) pe_int (fun _ _ => rfl)) pe_int (fun _ _ => rfl)) pe_int) (pa_cons (pe_op op_mulA (pe_ix (kIxT K) (pe_ix (kIxL K) (pv 2) pe_int (fun _ _ => rfl)) pe_int (fun _ _ => rfl)) pe_int) pa_nil))) (pg_sub (pv 2) (pe_un un_neg pe_int) set_list))) pss_nil) (pss_one (ps_if (pt_cmpR op_eq (pe_callS G_law_pick (hr.mono (by decide)) rfl T.g__law_pick k_law_pick b_law_pick (fun σ => passAt tk σ) (pa_cons (pv 0) (pa_cons (pe_op op_add pe_int (pv 3)) (pa_cons pe_int (pa_cons pe_int pa_nil))))) pe_int (nomark _)) (pss_cons (ps_set (i := 10) sc_law.nd rfl (by first | exact Or.inl rfl | exact Or.inr rfl) (pe_op op_add pe_int (pe_op op_mod (pe_callS G_law_cell (hr.mono (by decide)) rfl T.g__law_cell k_law_cell b_law_cell (fun σ => passAt tk σ) (pa_cons (pv 0) (pa_cons pe_int pa_nil))) (pe_op op_pow pe_int pe_int)))) (pss_one (ps_asg (pe_tup (pa_cons (pe_op op_add (pe_op op_fdivW (pv 10) pe_int) (pe_callS G_law_pick (hr.mono (by decide)) rfl T.g__law_pick k_law_pick b_law_pick (fun σ => passAt tk σ) (pa_cons (pv 0) (pa_cons (pe_op op_add pe_int (pv 3)) (pa_cons pe_int (pa_cons pe_int pa_nil)))))) (pa_cons (pv 10) pa_nil))) (pg_sub (pv 2) (pe_un un_neg pe_int) set_list)))) pss_nil)))))) (pss_cons (ps_set (i := 4) sc_law.nd rfl (by first | exact Or.inl rfl | exact Or.inr rfl) (pe_lst pa_nil)) (pss_cons (ps_for pw rfl (kPiL K (pv 2)) (pg_name (i := 5) sc_law.nd rfl (by first | exact Or.inl rfl | exact Or.inr rfl)) (pss_one (ps_set (i := 4) sc_law.nd rfl (by first | exact Or.inl rfl | exact Or.inr rfl) (pe_callS G_law_put (hr.mono (by decide)) rfl T.g__law_put k_law_put b_law_put (fun σ => passAt tk σ) (pa_cons (pv 4) (pa_cons (pv 5) pa_nil)))))) (pss_cons (ps_set (i := 6) sc_law.nd rfl (by first | exact Or.inl rfl | exact Or.inr rfl) (pe_callTy (kList K) (by rfl) T.f_list (by decide +kernel) (pa_cons (pv 2) pa_nil))) (pss_cons (ps_set (i := 7) sc_law.nd rfl (by first | exact Or.inl rfl | exact Or.inr rfl) (pe_callS G_ordered (hr.mono (by decide)) rfl T.g_ordered k_ordered b_ordered (fun σ => passAt tk σ) (pa_cons (pv 6) pa_nil))) (pss_cons (ps_if (PW.pt (pw_or (pt_not (pt_val (pe_callS G_law_pairs (hr.mono (by decide)) rfl T.g__law_pairs k_law_pairs b_law_pairs (fun σ => passAt tk σ) (pa_cons (pv 7) pa_nil)))) (pw_or (pt_cmpR (kNeD K hr.units) (pv 7) (pv 4) (nomark _)) (pw_or1 (pt_cmpR (kNeD K hr.units) (pv 6) (pv 2) (nomark _)))))) (pss_one (ps_ret pe_bl)) pss_nil) (pss_cons (ps_expr (pe_bm PySem.F.plainAttrs_list PySem.F.slot_list_append PySem.F.type_list_append mt_append (pv 7) (pa_cons (pe_tup (pa_cons pe_int (pa_cons pe_int pa_nil))) pa_nil))) (pss_cons (ps_expr (pe_bm PySem.F.plainAttrs_list PySem.F.slot_list_append PySem.F.type_list_append mt_append (pv 6) (pa_cons (pe_tup (pa_cons pe_int (pa_cons pe_int pa_nil))) pa_nil))) (pss_cons (ps_if (pt_cmpR (kNeD K hr.units) (pe_callS G_ordered (hr.mono (by decide)) rfl T.g_ordered k_ordered b_ordered (fun σ => passAt tk σ) (pa_cons (pe_callTy (kList K) (by rfl) T.f_list (by decide +kernel) (pa_cons (pv 2) pa_nil)) pa_nil)) (pv 4) (nomark _)) (pss_one (ps_ret pe_bl)) pss_nil) (pss_cons (ps_set (i := 8) sc_law.nd rfl (by first | exact Or.inl rfl | exact Or.inr rfl) (pe_callS G_law_pick (hr.mono (by decide)) rfl T.g__law_pick k_law_pick b_law_pick (fun σ => passAt tk σ) (pa_cons (pv 0) (pa_cons pe_int (pa_cons pe_int (pa_cons (pe_op op_add (pe_callB (kLen K) (by rfl) T.f_len (by decide +kernel) (pa_cons (pv 2) pa_nil)) pe_int) pa_nil)))))) (pss_cons (ps_set (i := 9) sc_law.nd rfl (by first | exact Or.inl rfl | exact Or.inr rfl) pe_bl) (pss_cons (ps_tryE rfl rfl ⟨rfl, by decide, Or.inl T.g_BadBottom⟩ tk (fun _ _ _ tk510 pw511 => (pss_one (ps_expr (pe_callS G_ordered (hr.mono (by decide)) rfl T.g_ordered k_ordered b_ordered (fun σ => passAt tk510 σ) (pa_cons (pe_op op_cat (pe_op op_cat (pe_slice (kSlL K) (pv 2) po_none (po_some (pv 8))) (pe_lst (pa_cons (pe_tup (pa_cons pe_int (pa_cons (pe_un un_neg (pe_callS G_law_pick (hr.mono (by decide)) rfl T.g__law_pick k_law_pick b_law_pick (fun σ => passAt tk510 σ) (pa_cons (pv 0) (pa_cons pe_int (pa_cons pe_int (pa_cons pe_int pa_nil)))))) pa_nil))) pa_nil))) (pe_slice (kSlL K) (pv 2) (po_some (pv 8)) po_none)) pa_nil))))) (fun _ _ _ _ _ _ _ => (pss_one (ps_set (i := 9) sc_law.nd rfl (by first | exact Or.inl rfl | exact Or.inr rfl) pe_bl)))) (pss_one (ps_ret (pv 9))))))))))))))))), ?_⟩)⟩
  rintro G ⟨script_, ⟨⟩⟩ σ Q E0 k0
  have C0 := scS (c := cfg K) (B := G) (G0 := G) (H0 := H) (β := Bool) (Q := Q) (E := E)
  replace E0 : EnvR G G H G H σ [.val (is (cfg K) script_), .no, .no, .no, .no, .no, .no, .no, .no, .no, .no] := E0
  with_reducible refine sq ?_
  refine st_asg C0 E0 trivial (ev_call (ea_cons (ev_var 0 rfl) (ea_cons ev_int (ea_cons ev_int (ea_cons ev_int ea_nil))))) k0 (fun size_309 _ _ _ E310 k311 => ?_)
  with_reducible refine sq ?_
  refine st_asgL C0 E310 trivial (el_nil (α := (Int × Int))) k311 (fun pairs_here_312 _ _ _ E313 k314 => ?_)
  with_reducible refine sq ?_
  refine st_for1 (ρL := (fun z315 : (List (Int × Int)) => [.val (is (cfg K) script_), .val (is (cfg K) size_309), .own (isL (cfg K) z315), .no, .no, .no, .no, .no, .no, .no, .no])) (s0 := pairs_here_312) C0 E313 trivial (ev_var 1 rfl) k314 (.s (.s (.s (.s (.s (.s (.s (.s (.s (.s (.s .nil))))))))))) ?_ ?_
  · rintro k_316 pairs_here_317 _ _ _ N318 Nx544 E320 k321 nx319
    with_reducible refine sq ?_
    refine st_append C0 E320 trivial rfl (ev_pair (ea_cons (ev_op os_sub (ev_call (ea_cons (ev_var 0 rfl) (ea_cons (ev_op os_add ev_int (ev_var 3 rfl)) (ea_cons ev_int (ea_cons ev_int ea_nil))))) ev_int) (ea_cons (ev_op os_add ev_int (ev_call (ea_cons (ev_var 0 rfl) (ea_cons (ev_op os_add ev_int (ev_var 3 rfl)) (ea_cons ev_int (ea_cons ev_int ea_nil)))))) ea_nil))) k321 (fun pairs_here_330 _ _ E331 k332 => ?_)
    with_reducible refine sq ?_
    refine st_jn (ρL := (fun z342 : (List (Int × Int)) => [.val (is (cfg K) script_), .val (is (cfg K) size_309), .own (isL (cfg K) z342), .val (is (cfg K) k_316), .no, .no, .no, .no, .no, .no, .no])) C0 k332 (fun kk343 nx344 k345 => ?_) ?_
    · refine st_if C0 E331 trivial (et_test (ev_op os_eqI (ev_call (ea_cons (ev_var 0 rfl) (ea_cons (ev_op os_add ev_int (ev_var 3 rfl)) (ea_cons ev_int (ea_cons ev_int ea_nil))))) ev_int)) k345 (fun _ _ E346 k347 => ?_) (fun _ _ E352 k353 => ?_)
      · try with_reducible refine s1n ?_
        refine st_setitem C0 E346 trivial rfl (ev_bor 2 rfl (ev_op (os_ixL rfl) (ev_var 2 rfl) ev_int)) (ev_bor 2 rfl (ev_neg ev_int)) k347 (fun pairs_here_349 _ _ E350 k351 => ?_)
        exact nx344 pairs_here_349 _ _ _ (E350.wk (.s (.s (.s (.s (.s (.s (.s (.s (.s (.s (.s .nil)))))))))))) k351
      · exact nx344 pairs_here_330 _ _ _ (E352.wk (.s (.s (.s (.s (.s (.s (.s (.s (.s (.s (.s .nil)))))))))))) k353
    rintro pairs_here_355 _ _ _ E356 k357
    with_reducible refine sq ?_
    refine st_jn (ρL := (fun z375 : (List (Int × Int)) => [.val (is (cfg K) script_), .val (is (cfg K) size_309), .own (isL (cfg K) z375), .val (is (cfg K) k_316), .no, .no, .no, .no, .no, .no, .no])) C0 k357 (fun kk376 nx377 k378 => ?_) ?_
    · refine st_if C0 E356 trivial (et_test (ev_op os_eqI (ev_call (ea_cons (ev_var 0 rfl) (ea_cons (ev_op os_add ev_int (ev_var 3 rfl)) (ea_cons ev_int (ea_cons ev_int ea_nil))))) ev_int)) k378 (fun _ _ E379 k380 => ?_) (fun _ _ E393 k394 => ?_)
      · try with_reducible refine s1n ?_
        refine st_setitem C0 E379 trivial rfl (ev_bor 2 rfl (ev_pair (ea_cons (ev_op os_mul (ev_fst rfl (ev_op (os_ixL rfl) (ev_var 2 rfl) ev_int)) ev_int) (ea_cons (ev_op os_mul (ev_snd rfl (ev_op (os_ixL rfl) (ev_var 2 rfl) ev_int)) ev_int) ea_nil)))) (ev_bor 2 rfl (ev_neg ev_int)) k380 (fun pairs_here_390 _ _ E391 k392 => ?_)
        exact nx377 pairs_here_390 _ _ _ (E391.wk (.s (.s (.s (.s (.s (.s (.s (.s (.s (.s (.s .nil)))))))))))) k392
      · exact nx377 pairs_here_355 _ _ _ (E393.wk (.s (.s (.s (.s (.s (.s (.s (.s (.s (.s (.s .nil)))))))))))) k394
    rintro pairs_here_396 _ _ _ E397 k398
    try with_reducible refine s1n ?_
    refine st_jn (ρL := (fun z418 : (List (Int × Int)) => [.val (is (cfg K) script_), .val (is (cfg K) size_309), .own (isL (cfg K) z418), .val (is (cfg K) k_316), .no, .no, .no, .no, .no, .no, .no])) C0 k398 (fun kk419 nx420 k421 => ?_) ?_
    · refine st_if C0 E397 trivial (et_test (ev_op os_eqI (ev_call (ea_cons (ev_var 0 rfl) (ea_cons (ev_op os_add ev_int (ev_var 3 rfl)) (ea_cons ev_int (ea_cons ev_int ea_nil))))) ev_int)) k421 (fun _ _ E422 k423 => ?_) (fun _ _ E438 k439 => ?_)
      · with_reducible refine sq ?_
        refine st_asg C0 E422 trivial (ev_op os_add ev_int (ev_op os_mod (ev_call (ea_cons (ev_var 0 rfl) (ea_cons ev_int ea_nil))) (ev_op os_pow ev_int ev_int))) k423 (fun bottom_427 _ _ _ E428 k429 => ?_)
        try with_reducible refine s1n ?_
        refine st_setitem C0 E428 trivial rfl (ev_pair (ea_cons (ev_op os_add (ev_op os_fdiv (ev_var 10 rfl) ev_int) (ev_call (ea_cons (ev_var 0 rfl) (ea_cons (ev_op os_add ev_int (ev_var 3 rfl)) (ea_cons ev_int (ea_cons ev_int ea_nil)))))) (ea_cons (ev_var 10 rfl) ea_nil))) (ev_neg ev_int) k429 (fun pairs_here_435 _ _ E436 k437 => ?_)
        exact nx420 pairs_here_435 _ _ _ (E436.wk (.s (.s (.s (.s (.s (.s (.s (.s (.s (.s (.n .nil)))))))))))) k437
      · exact nx420 pairs_here_396 _ _ _ (E438.wk (.s (.s (.s (.s (.s (.s (.s (.s (.s (.s (.s .nil)))))))))))) k439
    rintro pairs_here_441 _ _ _ E442 k443
    exact nx319 pairs_here_441 _ _ _ (E442.wk (.s (.s (.s (.n (.s (.s (.s (.s (.s (.s (.s .nil)))))))))))) k443
  rintro pairs_here_449 _ _ _ E447 k448
  with_reducible refine sq ?_
  refine st_asg C0 E447 trivial (Ev.ofL (el_nil (α := (Int × Int)))) k448 (fun due_450 _ _ _ E451 k452 => ?_)
  with_reducible refine sq ?_
  refine st_freeze 2 E451 rfl (fun _ E453 => ?_)
  refine st_forL (ρL := (fun z454 : (List (Int × Int)) => [.val (is (cfg K) script_), .val (is (cfg K) size_309), .val (is (cfg K) pairs_here_449), .no, .val (is (cfg K) z454), .no, .no, .no, .no, .no, .no])) (s0 := due_450) C0 E453 trivial (ev_var 2 rfl) k452 (.s (.s (.s (.s (.s (.s (.s (.s (.s (.s (.s .nil))))))))))) ?_ ?_
  · rintro pair_455 due_456 _ _ _ _ N457 Nx541 C461 E459 k460 nx458
    try with_reducible refine s1n ?_
    refine st_asg C461 E459 trivial (Ev.ofL (el_call (ea_cons (ev_var 4 rfl) (ea_cons (ev_var 5 rfl) ea_nil)))) k460 (fun due_463 _ _ _ E464 k465 => ?_)
    exact nx458 due_463 _ _ _ (E464.wk (.s (.s (.s (.s (.s (.n (.s (.s (.s (.s (.s .nil)))))))))))) k465
  rintro due_468 _ _ _ E466 k467
  with_reducible refine sq ?_
  refine st_asgL C0 E466 trivial (el_cb cl_list (ea_cons (ev_var 2 rfl) ea_nil)) k467 (fun handed_469 _ _ _ E470 k471 => ?_)
  with_reducible refine sq ?_
  refine st_asgL C0 E470 trivial (el_bor 6 rfl (el_call (ea_cons (ev_var 6 rfl) ea_nil))) k471 (fun found_472 _ _ _ E473 k474 => ?_)
  with_reducible refine sq ?_
  refine st_if C0 E473 trivial (et_bor 6 rfl (et_bor 7 rfl (et_or (et_not (et_B (ev_call (ea_cons (ev_var 7 rfl) ea_nil)))) (et_or (et_test (ev_op (os_ne rfl) (ev_var 7 rfl) (ev_var 4 rfl))) (et_test (ev_op (os_ne rfl) (ev_var 6 rfl) (ev_var 2 rfl))))))) k474 (fun _ _ E475 k476 => ?_) (fun _ _ E477 k478 => ?_)
  · try with_reducible refine s1n ?_
    exact st_ret C0 E475 trivial ev_bl k476 (fun r p => p)
  · with_reducible refine nxt ?_
    with_reducible refine sq ?_
    refine st_append C0 E477 trivial rfl (ev_pair (ea_cons ev_int (ea_cons ev_int ea_nil))) k478 (fun found_479 _ _ E480 k481 => ?_)
    with_reducible refine sq ?_
    refine st_append C0 E480 trivial rfl (ev_pair (ea_cons ev_int (ea_cons ev_int ea_nil))) k481 (fun handed_482 _ _ E483 k484 => ?_)
    with_reducible refine sq ?_
    refine st_if C0 E483 trivial (et_test (ev_op (os_ne rfl) (Ev.ofL (el_call (ea_cons (Ev.ofL (el_cb cl_list (ea_cons (ev_var 2 rfl) ea_nil))) ea_nil))) (ev_var 4 rfl))) k484 (fun _ _ E486 k487 => ?_) (fun _ _ E488 k489 => ?_)
    · try with_reducible refine s1n ?_
      exact st_ret C0 E486 trivial ev_bl k487 (fun r p => p)
    · with_reducible refine nxt ?_
      with_reducible refine sq ?_
      refine st_asg C0 E488 trivial (ev_call (ea_cons (ev_var 0 rfl) (ea_cons ev_int (ea_cons ev_int (ea_cons (ev_op os_add (ev_cb (cs_len rfl) (ea_cons (ev_var 2 rfl) ea_nil)) ev_int) ea_nil))))) k489 (fun at__490 _ _ _ E491 k492 => ?_)
      with_reducible refine sq ?_
      refine st_asg C0 E491 trivial ev_bl k492 (fun told_493 _ _ _ E494 k495 => ?_)
      with_reducible refine sq ?_
      refine st_tryL (ρL := (fun z536 : Bool => [.val (is (cfg K) script_), .val (is (cfg K) size_309), .val (is (cfg K) pairs_here_449), .no, .val (is (cfg K) due_468), .no, .own (isL (cfg K) handed_482), .own (isL (cfg K) found_479), .val (is (cfg K) at__490), .val (is (cfg K) z536), .no])) (ρT := [.val (is (cfg K) script_), .val (is (cfg K) size_309), .val (is (cfg K) pairs_here_449), .no, .val (is (cfg K) due_468), .no, .own (isL (cfg K) handed_482), .own (isL (cfg K) found_479), .val (is (cfg K) at__490), .val (is (cfg K) told_493), .no]) (L := exL) (h := fun kk => _) C0 trivial T.e_BadBottom k495 (fun rst517 C512 k513 => ?_) (fun _ _ _ _ _ _ rst517 E530 k531 => ?_) ?_
      · try with_reducible refine s1n ?_
        refine st_expr C512 E494 (.s (.s (.s (.s (.s (.s (.s (.s (.s (.s (.s .nil))))))))))) (Ev.ofL (el_call (ea_cons (Ev.ofL (el_cat (Ev.ofL (el_cat (Ev.ofL (el_cut (ev_var 2 rfl) eo_none (eo_some (ev_var 8 rfl)))) (Ev.ofL (el_lst (es_cons (ev_pair (ea_cons ev_int (ea_cons (ev_neg (ev_call (ea_cons (ev_var 0 rfl) (ea_cons ev_int (ea_cons ev_int (ea_cons ev_int ea_nil)))))) ea_nil))) es_nil) (sh_ok (sh_cons sh_nil)))))) (Ev.ofL (el_cut (ev_var 2 rfl) (eo_some (ev_var 8 rfl)) eo_none)))) ea_nil))) k513 (fun _ _ _ E527 k528 => ?_)
        exact rst517 told_493 _ _ _ (E527.wk (.s (.s (.s (.s (.s (.s (.s (.s (.s (.s (.s .nil)))))))))))) k528
      · try with_reducible refine s1n ?_
        refine st_asg C0 E530 trivial ev_bl k531 (fun told_532 _ _ _ E533 k534 => ?_)
        exact rst517 told_532 _ _ _ (E533.wk (.s (.s (.s (.s (.s (.s (.s (.s (.s (.s (.s .nil)))))))))))) k534
      rintro told_516 _ _ _ E514 k515
      try with_reducible refine s1n ?_
      exact st_ret C0 E514 trivial (ev_var 9 rfl) k515 (fun r p => p)
end
def dd_law_cell : He.DefD := ⟨("_law_cell", none), "_law_cell", "_law_cell", defArgs s_law_cell, defBody s_law_cell, defScope s_law_cell, [], []⟩
def dd_law_pick : He.DefD := ⟨("_law_pick", none), "_law_pick", "_law_pick", defArgs s_law_pick, defBody s_law_pick, defScope s_law_pick, [], []⟩
def dd_law_put : He.DefD := ⟨("_law_put", none), "_law_put", "_law_put", defArgs s_law_put, defBody s_law_put, defScope s_law_put, [], []⟩
def dd_less : He.DefD := ⟨("less", none), "less", "less", defArgs s_less, defBody s_less, defScope s_less, [], []⟩
def dd_joined : He.DefD := ⟨("joined", none), "joined", "joined", defArgs s_joined, defBody s_joined, defScope s_joined, [], []⟩
def dd_ordered : He.DefD := ⟨("ordered", none), "ordered", "ordered", defArgs s_ordered, defBody s_ordered, defScope s_ordered, [], []⟩
def dd_law_whole : He.DefD := ⟨("_law_whole", none), "_law_whole", "_law_whole", defArgs s_law_whole, defBody s_law_whole, defScope s_law_whole, [], []⟩
def dd_law_pairs : He.DefD := ⟨("_law_pairs", none), "_law_pairs", "_law_pairs", defArgs s_law_pairs, defBody s_law_pairs, defScope s_law_pairs, [], []⟩
def dd_law : He.DefD := ⟨("law", none), "law", "law", defArgs s_law, defBody s_law, defScope s_law, [], []⟩
def hfn : List He.DefD := [dd_law_cell, dd_law_pick, dd_law_put, dd_less, dd_joined, dd_ordered, dd_law_whole, dd_law_pairs, dd_law]
def hfa : List He.Fa := [.free "len", .glo "_law_cell", .free "abs", .free "range", .exc "BadBottom", .glo "BadBottom", .glo "less", .glo "joined", .free "list", .free "isinstance", .free "int", .free "bool", .free "tuple", .glo "_law_whole", .glo "_law_pick", .glo "_law_put", .glo "ordered", .glo "_law_pairs", .exm "RoadError" "BadBottom" false, .exm "BadBottom" "BadBottom" true, .glo "law"]
def loose0 : List Str := ["RoadError", "BadBottom", "less", "joined", "ordered", "_law_cell", "_law_pick", "_law_whole", "_law_pairs", "_law_put"]
def loose : List Str := loose0
abbrev RR : PySem.W.OpenRow := PySem.W.OpenLaw.row PySem.Challenge.rw_crookroad_k03_ordered
def hex (K : PySem.W.Frag) : Bool := true
abbrev hk : PySem.W.Hook := hookX 6 hfa hfn hex
def ob (s : PySem.W.SharedT) : He.AlD × Bool := obsXG 6 hfa hfn hex (HandSHeadRun.getT s)
theorem ob_eq (s : PySem.W.SharedT) : ob s = hk.obs s.abs := obsXG_eq (HandSHeadRun.getT_eq s)
theorem run (w : World) : HandSHeadRun.RunEq RR (PySem.W.view RR.prog [13]) hk ob 6000 loose w := by
  intro os
  kernel_rfl
theorem facts {K : PySem.W.Frag} {h : Heap} {mg : Str → Option Value} (X : K.In h) (G : h.Ns mainGlobals mg) (c : He.SaysD hfa hfn K) (hx : hex K = true) : Tx K mg where
  f_len := He.free_ok X G (c.fact 0 (f := .free "len") rfl)
  g__law_cell := He.glo_ok X G (c.fact 1 (f := .glo "_law_cell") rfl)
  f_abs := He.free_ok X G (c.fact 2 (f := .free "abs") rfl)
  f_range := He.free_ok X G (c.fact 3 (f := .free "range") rfl)
  x_BadBottom := He.exc_ok (c.fact 4 (f := .exc "BadBottom") rfl)
  g_BadBottom := He.glo_ok X G (c.fact 5 (f := .glo "BadBottom") rfl)
  g_less := He.glo_ok X G (c.fact 6 (f := .glo "less") rfl)
  g_joined := He.glo_ok X G (c.fact 7 (f := .glo "joined") rfl)
  f_list := He.free_ok X G (c.fact 8 (f := .free "list") rfl)
  f_isinstance := He.free_ok X G (c.fact 9 (f := .free "isinstance") rfl)
  f_int := He.free_ok X G (c.fact 10 (f := .free "int") rfl)
  f_bool := He.free_ok X G (c.fact 11 (f := .free "bool") rfl)
  f_tuple := He.free_ok X G (c.fact 12 (f := .free "tuple") rfl)
  g__law_whole := He.glo_ok X G (c.fact 13 (f := .glo "_law_whole") rfl)
  g__law_pick := He.glo_ok X G (c.fact 14 (f := .glo "_law_pick") rfl)
  g__law_put := He.glo_ok X G (c.fact 15 (f := .glo "_law_put") rfl)
  g_ordered := He.glo_ok X G (c.fact 16 (f := .glo "ordered") rfl)
  g__law_pairs := He.glo_ok X G (c.fact 17 (f := .glo "_law_pairs") rfl)
  e_BadBottom := fun e he => by
    cases e
    case RoadError => exact He.exm_ok (c.fact 18 (f := .exm "RoadError" "BadBottom" false) rfl)
    case BadLine => exact absurd he (by decide)
    case BadBottom => exact He.exm_ok (c.fact 19 (f := .exm "BadBottom" "BadBottom" true) rfl)
    case OffRoad => exact absurd he (by decide)
    case BadCount => exact absurd he (by decide)
    case TooLong => exact absurd he (by decide)
    case BadRow => exact absurd he (by decide)
    case BadName => exact absurd he (by decide)
    case Taken => exact absurd he (by decide)
    case NoRoad => exact absurd he (by decide)
    case NoWalker => exact absurd he (by decide)
    case Stood => exact absurd he (by decide)
    case Apart => exact absurd he (by decide)
    case NothingDone => exact absurd he (by decide)
    case BadText => exact absurd he (by decide)
  g_law := He.glo_ok X G (c.fact 20 (f := .glo "law") rfl)
  d_law_cell := c.def_ 0 (d := dd_law_cell) rfl
  d_law_pick := c.def_ 1 (d := dd_law_pick) rfl
  d_law_put := c.def_ 2 (d := dd_law_put) rfl
  d_less := c.def_ 3 (d := dd_less) rfl
  d_joined := c.def_ 4 (d := dd_joined) rfl
  d_ordered := c.def_ 5 (d := dd_ordered) rfl
  d_law_whole := c.def_ 6 (d := dd_law_whole) rfl
  d_law_pairs := c.def_ 7 (d := dd_law_pairs) rfl
  d_law := c.def_ 8 (d := dd_law) rfl
end CR
open PySem PySem.W PySem.Calls PyProof.Rows CR in
theorem CR.the_end (law_ok : ∀ xs : List Int, xs.length ≤ 63 → CR.m_law ⟨xs⟩ = .ok true) : PySem.Challenge.rw_crookroad_k03_ordered.Holds := by
  w_on; o_law
  refine HandSHeadRun.head_any (r := RR) (q := view RR.prog [13]) (H := CR.hk) (ob := CR.ob) (M := 6000) (loose := CR.loose) (d := HandSHeadRun.topDef RR.prog 13) (kwd := []) CR.ob_eq (by kernel_rfl) (fun s => by kernel_rfl) CR.run (by kernel_rfl) (by kernel_rfl) (by kernel_rfl) (by rfl) (by first | assumption | decide +kernel) (by decide +kernel) ⟨rfl, rfl, rfl, rfl, rfl, by decide +kernel⟩ ?hw ?hc
  case hw => w_witness2
  case hc =>
    refine L2.walk_ofE (l := PySem.Challenge.rw_crookroad_k03_ordered) (n := 63) (k := 4) (x := "_law_script") (CX := L2.CX0) rfl (by decide) (by kernel_rfl) ⟨rfl, by decide, by decide⟩ ?F (fun _ _ _ _ z => z)
    intro w mg fa h Y G hmg0
    obtain ⟨K, KX, c, hx⟩ := Y
    have T := CR.facts KX G c hx
    have hmg : mg ("law" : PySem.Str) = some (.ref fa) := by
      have e : (HandSHeadRun.topDef RR.prog 13).name = ("law" : PySem.Str) := by kernel_rfl
      rw [← e]
      exact hmg0
    have e := hmg.symm.trans T.g_law
    cases e
    obtain ⟨fd0, F0, _⟩ := CR.ok_law (P := (PySem.Challenge.rw_crookroad_k03_ordered).prog) (w := w) (base := h) T
    have b := L2.FunD.bindsA (ps := ["_law_script"]) F0 fun _ _ _ _ _ _ us hl => match us, hl with | [_], _ => rfl
    refine ⟨K, fd0, (fun vs H Q _ => CR.PromS (CR.cfg K) (fun a : CR.Scr × Unit => CR.m_law a.1) vs H Q fun _ _ _ => False), KX, fun s v => b s [v] rfl, fun H a ns hl _ hS => ?_, fun base _ _ => ?_⟩
    · refine ⟨H, (⟨ns⟩, ()), fun _ _ z => z, ⟨_, _, rfl, ⟨a, rfl, hS⟩, rfl⟩, ?_⟩
      show CR.Post _ _ _ _ _ (CR.m_law ⟨ns⟩)
      rw [law_ok ns hl]
      exact fun v G' H' _ r => r
    · obtain ⟨fd, F, ok⟩ := CR.ok_law (P := (PySem.Challenge.rw_crookroad_k03_ordered).prog) (w := w) (base := base) T
      have ef : fd = fd0 := CR.fd_eq F F0
      subst ef
      exact CR.fn_cx0 ok

namespace CR
open PySem L2
theorem atR_of {α : Type} [Py α] {xs : List α} {i : Int} (h0 : 0 ≤ i) (h1 : i < xs.length) : ∃ x ∈ xs, atR xs i = .ok x := by
  have hi : i.toNat < xs.length := by omega
  refine ⟨xs[i.toNat], List.getElem_mem hi, ?_⟩
  have e : atI xs i = some xs[i.toNat] := by
    have q : xs[i.toNat]? = some xs[i.toNat] := List.getElem?_eq_getElem hi
    have z := atI_nat q
    rw [Int.toNat_of_nonneg h0] at z
    exact z
  unfold atR
  rw [e]
theorem cell_ok (xs : List Int) {a : Int} (h0 : 0 ≤ a) : ∃ v, m_law_cell ⟨xs⟩ a = .ok v := by
  unfold m_law_cell
  simp only [bind_ok]
  by_cases h : a < (xs.length : Int)
  · rw [decide_eq_true h, if_pos rfl]
    obtain ⟨x, _, hx⟩ := atR_of h0 h
    exact ⟨x, hx⟩
  · rw [decide_eq_false h, if_neg Bool.false_ne_true]
    by_cases hz : (xs.length : Int) = 0
    · rw [decide_eq_true hz, if_pos rfl, mulR_l a (by decide)]
      exact ⟨_, rfl⟩
    · rw [decide_eq_false hz, if_neg Bool.false_ne_true, modR_ok a (by omega)]
      obtain ⟨x, _, hx⟩ := atR_of (xs := xs) (i := a % xs.length) (Int.emod_nonneg _ hz) (Int.emod_lt_of_pos _ (by omega))
      rw [bind_ok, hx, bind_ok, mulR_l a (by decide)]
      exact ⟨_, rfl⟩
theorem pick_ok (xs : List Int) {a t m : Int} (ha : 0 ≤ a) (ht : 0 ≤ t) (ht2 : t < 1000000) (hm : 0 < m) : ∃ v, m_law_pick ⟨xs⟩ a t m = .ok v ∧ 0 ≤ v ∧ v < m := by
  obtain ⟨v, hv⟩ := cell_ok xs ha
  have fin : ∀ x : Int, ∃ r, modR x m = .ok r ∧ 0 ≤ r ∧ r < m := fun x => ⟨x % m, modR_ok x hm, Int.emod_nonneg _ (by omega), Int.emod_lt_of_pos _ hm⟩
  unfold m_law_pick
  rw [hv, bind_ok, pow_18]
  simp only [bind_ok]
  by_cases h : (10 ^ 18 : Int) ≤ absI v
  · rw [decide_eq_true h, if_pos rfl]
    obtain ⟨n, rfl⟩ : ∃ n : Nat, t = n := ⟨t.toNat, by omega⟩
    rw [rng0 (by omega), bind_ok, forK_fold (g := fun z _ => z / 1000)]
    · simp only [jn]
      by_cases hn : v < 0
      · rw [decide_eq_true hn, if_pos rfl, modR_ok _ (by decide), bind_ok]
        exact fin _
      · rw [decide_eq_false hn, if_neg Bool.false_ne_true]
        exact fin _
    · intro x _ z k
      rw [fdivR_s z (by decide) (by decide), bind_ok]
  · rw [decide_eq_false h, if_neg Bool.false_ne_true, modR_ok v (by decide), bind_ok]
    have b1 : (v % 1000003).natAbs < 2 ^ 64 := by omega
    have b2 : t.natAbs < 2 ^ 64 := by omega
    have b3 : ∀ x : Int, (x % 999983).natAbs < 2 ^ 64 := fun x => by omega
    have b4 : ∀ x : Int, (x % 1000033).natAbs < 2 ^ 64 := fun x => by omega
    rw [mulR_l _ b1, bind_ok, mulR_l _ b2, bind_ok, bind_ok, bind_ok, modR_ok _ (by decide), bind_ok, mulR_l _ (b3 _), bind_ok, mulR_l _ b1, bind_ok, bind_ok, mulR_l _ b2, bind_ok, bind_ok, modR_ok _ (by decide), bind_ok,
      mulR_l _ (b4 _), bind_ok, mulR_l _ (b3 _), bind_ok, bind_ok, mulR_l _ b2, bind_ok, bind_ok, modR_ok _ (by decide), bind_ok]
    exact fin _
theorem appR_ok {α : Type} [Py α] (xs : List α) (x : α) (h : xs.length < 16000000) : appR xs x = .ok (xs ++ [x]) := by
  unfold appR
  rw [decide_eq_true h]
  rfl
theorem atR_zero {α : Type} [Py α] (x : α) (l : List α) : atR (x :: l) (0 : Int) = .ok x := by
  have e : ixN (x :: l).length (0 : Int) = some 0 := by
    unfold ixN
    rw [if_pos (by decide), if_pos (by rw [List.length_cons]; omega)]
    rfl
  unfold atR atI
  rw [e]
  rfl
theorem lwhole_ok (x : Int) : m_law_whole x = .ok true := by
  unfold m_law_whole
  show andR (isiR "int" "int") (notR (isiR "int" "bool")) = _
  rw [isi_ii, isi_ib]
  rfl
def hv : Nat → Int → Int → Int × Int
  | 0, n, t => (t, n)
  | f + 1, n, t => if n % 2 = 0 then hv f (n / 2) (t + 1) else (t, n)
theorem atR_nat {α : Type} [Py α] {xs : List α} {i : Nat} {x : α} (h : xs[i]? = some x) : atR xs (i : Int) = .ok x := by
  have z := atI_nat h
  unfold atR
  rw [z]
def RW (w : Nat) (f : Nat → Int) : List Int := (List.range w).map f
theorem forK_app {α γ β : Type} [Py γ] {step : α → List γ → (List γ → Res β) → Res β} {rest : List γ → Res β} {F : α → γ} : ∀ {xs : List α} {z : List γ}, (∀ x ∈ xs, ∀ z k, z.length < 16000000 → step x z k = k (z ++ [F x])) → z.length + xs.length < 16000000 → forK step rest xs z = rest (z ++ xs.map F)
  | [], z, _, _ => by rw [forK, List.map_nil, List.append_nil]
  | x :: xs, z, h, hl => by
    rw [List.length_cons] at hl
    rw [forK, h x List.mem_cons_self z _ (by omega), forK_app (fun y hy => h y (List.mem_cons_of_mem _ hy)) (by rw [List.length_append, List.length_singleton]; omega), List.append_assoc]
    rfl
structure SWO {α : Type} (S : α → Prop) (lt : α → α → Bool) : Prop where
  asym : ∀ x y, S x → S y → lt x y = true → lt y x = false
  ntr : ∀ x y z, S x → S y → S z → lt x y = false → lt y z = false → lt x z = false
section
variable {α : Type} {S : α → Prop} {lt : α → α → Bool}
def eqB (lt : α → α → Bool) (c x : α) : Bool := !lt c x && !lt x c
def Srt (lt : α → α → Bool) (l : List α) : Prop := l.Pairwise fun x y => lt y x = false
structure SS (S : α → Prop) (lt : α → α → Bool) (l l' : List α) : Prop where
  srt : Srt lt l'
  flt : ∀ c, S c → l'.filter (eqB lt c) = l.filter (eqB lt c)
theorem SWO.irr (W : SWO S lt) {x : α} (h : S x) : lt x x = false := by
  cases e : lt x x with
  | false => rfl
  | true => rw [W.asym x x h h e] at e; cases e
theorem eqB_self (W : SWO S lt) {x : α} (h : S x) : eqB lt x x = true := by
  unfold eqB
  rw [W.irr h]
  rfl
theorem flt_head (W : SWO S lt) {a b : α} {t1 t2 : List α} (sa : S a) (sb : S b) (s2 : Srt lt (b :: t2)) (h2 : ∀ x ∈ b :: t2, S x) (h : (a :: t1).filter (eqB lt a) = (b :: t2).filter (eqB lt a)) : lt a b = false := by
  have : a ∈ (b :: t2).filter (eqB lt a) := by
    rw [← h]
    exact List.mem_filter.mpr ⟨List.mem_cons_self, eqB_self W sa⟩
  have m := (List.mem_filter.mp this).1
  rcases List.mem_cons.mp m with e | e
  · rw [← e]; exact W.irr sa
  · exact (List.pairwise_cons.mp s2).1 a e
theorem srt_unique (W : SWO S lt) : ∀ {l1 l2 : List α}, (∀ x ∈ l1, S x) → (∀ x ∈ l2, S x) → Srt lt l1 → Srt lt l2 → (∀ c, S c → l1.filter (eqB lt c) = l2.filter (eqB lt c)) → l1 = l2
  | [], [], _, _, _, _, _ => rfl
  | [], b :: t2, _, h2, _, _, h => by
    have := h b (h2 b List.mem_cons_self)
    rw [List.filter_nil, List.filter_cons, if_pos (eqB_self W (h2 b List.mem_cons_self))] at this
    cases this
  | a :: t1, [], h1, _, _, _, h => by
    have := h a (h1 a List.mem_cons_self)
    rw [List.filter_nil, List.filter_cons, if_pos (eqB_self W (h1 a List.mem_cons_self))] at this
    cases this
  | a :: t1, b :: t2, h1, h2, s1, s2, h => by
    have sa := h1 a List.mem_cons_self
    have sb := h2 b List.mem_cons_self
    have x1 := flt_head W sa sb s2 h2 (h a sa)
    have x2 := flt_head W sb sa s1 h1 (h b sb).symm
    have e1 : eqB lt a b = true := by unfold eqB; rw [x1, x2]; rfl
    have ha := h a sa
    rw [List.filter_cons, if_pos (eqB_self W sa), List.filter_cons, if_pos e1] at ha
    injection ha with e2 e3
    subst e2
    congr 1
    refine srt_unique W (fun x hx => h1 x (List.mem_cons_of_mem _ hx)) (fun x hx => h2 x (List.mem_cons_of_mem _ hx)) (List.pairwise_cons.mp s1).2 (List.pairwise_cons.mp s2).2 fun c hc => ?_
    have hh := h c hc
    rw [List.filter_cons, List.filter_cons] at hh
    by_cases q : eqB lt c a = true
    · rw [if_pos q, if_pos q] at hh
      injection hh
    · rw [if_neg q, if_neg q] at hh
      exact hh
/-- what is greater than x is not of its worth -/
theorem eqB_lt (W : SWO S lt) {c x y : α} (sc : S c) (sx : S x) (sy : S y) (h : lt x y = true) (hc : eqB lt c x = true) : eqB lt c y = false := by
  unfold eqB at hc ⊢
  rw [Bool.and_eq_true, Bool.not_eq_true', Bool.not_eq_true'] at hc
  rw [Bool.and_eq_false_iff]
  left
  rw [Bool.not_eq_false']
  cases e : lt c y with
  | true => rfl
  | false =>
    have := W.ntr x c y sx sc sy hc.2 e
    rw [h] at this
    cases this
theorem flt_none (W : SWO S lt) {c x : α} {l : List α} (sc : S c) (sx : S x) (hl : ∀ y ∈ l, S y ∧ lt x y = true) (hc : eqB lt c x = true) : l.filter (eqB lt c) = [] := List.filter_eq_nil_iff.mpr fun y hy => by
  rw [eqB_lt W sc sx (hl y hy).1 (hl y hy).2 hc]
  decide
theorem flt_swap (W : SWO S lt) {c x : α} {a b : List α} (sc : S c) (sx : S x) (hb : ∀ y ∈ b, S y ∧ lt x y = true) : (a ++ x :: b).filter (eqB lt c) = (a ++ b ++ [x]).filter (eqB lt c) := by
  rw [List.append_assoc, List.filter_append, List.filter_append]
  congr 1
  rw [List.filter_cons, List.filter_append, List.filter_cons, List.filter_nil]
  by_cases q : eqB lt c x = true
  · rw [if_pos q, if_pos q, flt_none W sc sx hb q]
    rfl
  · rw [if_neg q, if_neg q, List.append_nil]
/-- put in behind all that are not greater -/
theorem ss_put (W : SWO S lt) {l a b : List α} {x : α} (sx : S x) (hl : ∀ y ∈ a ++ b, S y) (h : SS S lt l (a ++ b)) (ha : ∀ y ∈ a, lt x y = false) (hb : ∀ y ∈ b, lt x y = true) : SS S lt (l ++ [x]) (a ++ x :: b) := by
  have hs := List.pairwise_append.mp h.srt
  refine ⟨?_, fun c hc => ?_⟩
  · refine List.pairwise_append.mpr ⟨hs.1, List.pairwise_cons.mpr ⟨fun y hy => W.asym _ _ sx (hl y (List.mem_append_right _ hy)) (hb y hy), hs.2.1⟩, fun y hy z hz => ?_⟩
    rcases List.mem_cons.mp hz with e | e
    · rw [e]; exact ha y hy
    · exact hs.2.2 y hy z e
  · rw [flt_swap W hc sx fun y hy => ⟨hl y (List.mem_append_right _ hy), hb y hy⟩, List.filter_append, h.flt c hc, ← List.filter_append]
/-- the joining of two rows -/
def mrg (lt : α → α → Bool) : List α → List α → List α
  | [], r => r
  | p :: l, r => (r.takeWhile fun y => lt y p) ++ p :: mrg lt l (r.dropWhile fun y => lt y p)
theorem mrg_mem : ∀ {l r : List α} {x : α}, x ∈ mrg lt l r → x ∈ l ∨ x ∈ r
  | [], r, x, h => .inr h
  | p :: l, r, x, h => by
    rw [mrg] at h
    rcases List.mem_append.mp h with e | e
    · exact .inr ((List.takeWhile_sublist _).subset e)
    · rcases List.mem_cons.mp e with e | e
      · exact .inl (by rw [e]; exact List.mem_cons_self)
      · rcases mrg_mem e with e | e
        · exact .inl (List.mem_cons_of_mem _ e)
        · exact .inr ((List.dropWhile_sublist _).subset e)
theorem drop_ge (W : SWO S lt) {p : α} (sp : S p) : ∀ {r : List α}, (∀ y ∈ r, S y) → Srt lt r → ∀ y ∈ r.dropWhile (fun y => lt y p), lt y p = false
  | [], _, _, y, h => by cases h
  | z :: r, hS, hs, y, h => by
    rw [List.dropWhile_cons] at h
    cases e : lt z p with
    | true =>
      rw [e, if_pos rfl] at h
      exact drop_ge W sp (fun y hy => hS y (List.mem_cons_of_mem _ hy)) (List.pairwise_cons.mp hs).2 y h
    | false =>
      rw [e, if_neg (by decide)] at h
      rcases List.mem_cons.mp h with q | q
      · rw [q]; exact e
      · exact W.ntr y z p (hS y h) (hS z List.mem_cons_self) sp ((List.pairwise_cons.mp hs).1 y q) e
theorem take_lt {p : α} : ∀ {r : List α}, ∀ y ∈ r.takeWhile (fun y => lt y p), lt y p = true := fun {r} y hy => List.all_eq_true.mp List.all_takeWhile y hy
theorem mrg_ok (W : SWO S lt) : ∀ {l r : List α}, (∀ y ∈ l, S y) → (∀ y ∈ r, S y) → Srt lt l → Srt lt r → SS S lt (l ++ r) (mrg lt l r)
  | [], r, _, _, _, s2 => ⟨s2, fun _ _ => rfl⟩
  | p :: l, r, h1, h2, s1, s2 => by
    have sp := h1 p List.mem_cons_self
    have dS : ∀ y ∈ r.dropWhile (fun y => lt y p), S y := fun y hy => h2 y ((List.dropWhile_sublist _).subset hy)
    have tS : ∀ y ∈ r.takeWhile (fun y => lt y p), S y := fun y hy => h2 y ((List.takeWhile_sublist _).subset hy)
    have tl := List.pairwise_cons.mp s1
    have ih := mrg_ok W (l := l) (r := r.dropWhile fun y => lt y p) (fun y hy => h1 y (List.mem_cons_of_mem _ hy)) dS tl.2 (List.Pairwise.sublist (List.dropWhile_sublist _) s2)
    have sr : r.takeWhile (fun y => lt y p) ++ r.dropWhile (fun y => lt y p) = r := List.takeWhile_append_dropWhile
    have ge : ∀ y ∈ mrg lt l (r.dropWhile fun y => lt y p), S y ∧ lt y p = false := fun y hy => by
      rcases mrg_mem hy with e | e
      · exact ⟨h1 y (List.mem_cons_of_mem _ e), tl.1 y e⟩
      · exact ⟨dS y e, drop_ge W sp h2 s2 y e⟩
    refine ⟨?_, fun c hc => ?_⟩
    · rw [mrg]
      refine List.pairwise_append.mpr ⟨List.Pairwise.sublist (List.takeWhile_sublist _) s2, List.pairwise_cons.mpr ⟨fun y hy => (ge y hy).2, ih.srt⟩, fun x hx y hy => ?_⟩
      have lx := take_lt x hx
      have px := W.asym x p (tS x hx) sp lx
      rcases List.mem_cons.mp hy with e | e
      · rw [e]; exact px
      · exact W.ntr y p x (ge y e).1 sp (tS x hx) (ge y e).2 px
    · rw [mrg, List.filter_append, List.filter_cons, ih.flt c hc]
      rw [List.cons_append, List.filter_cons, List.filter_append, List.filter_append]
      have er : r.filter (eqB lt c) = (r.takeWhile fun y => lt y p).filter (eqB lt c) ++ (r.dropWhile fun y => lt y p).filter (eqB lt c) := by
        rw [← List.filter_append, sr]
      rw [er]
      cases ht : (r.takeWhile fun y => lt y p).filter (eqB lt c) with
      | nil => rw [List.nil_append, List.nil_append]
      | cons z zs =>
        have hz : z ∈ (r.takeWhile fun y => lt y p).filter (eqB lt c) := by rw [ht]; exact List.mem_cons_self
        have hz1 := (List.mem_filter.mp hz).1
        have hz2 := (List.mem_filter.mp hz).2
        have lz := take_lt z hz1
        have np : eqB lt c p = false := eqB_lt W hc (tS z hz1) sp lz hz2
        have nl : l.filter (eqB lt c) = [] := flt_none W hc (tS z hz1) (fun y hy => by
          have sy := h1 y (List.mem_cons_of_mem _ hy)
          refine ⟨sy, ?_⟩
          cases q : lt z y with
          | true => rfl
          | false =>
            have := W.ntr z y p (tS z hz1) sy sp q (tl.1 y hy)
            rw [lz] at this
            cases this) hz2
        rw [np, if_neg (by decide), if_neg (by decide), nl, List.nil_append, List.nil_append]
end
abbrev SP : Int × Int → Prop := fun p => 1 ≤ p.2
def ltW (p q : Int × Int) : Bool := decide (p.1 * q.2 < q.1 * p.2)
theorem swo : SWO SP ltW where
  asym := fun x y hx hy h => by
    unfold ltW at h ⊢
    have := of_decide_eq_true h
    exact decide_eq_false (by omega)
  ntr := fun x y z hx hy hz h1 h2 => by
    unfold ltW at h1 h2 ⊢
    have h1 := of_decide_eq_false h1
    have h2 := of_decide_eq_false h2
    refine decide_eq_false fun h => ?_
    have hx : 1 ≤ x.2 := hx
    have hy : 1 ≤ y.2 := hy
    have hz : 1 ≤ z.2 := hz
    have a1 : y.1 * x.2 * z.2 ≤ x.1 * y.2 * z.2 := Int.mul_le_mul_of_nonneg_right (by omega) (by omega)
    have a2 : z.1 * y.2 * x.2 ≤ y.1 * z.2 * x.2 := Int.mul_le_mul_of_nonneg_right (by omega) (by omega)
    have a3 : x.1 * z.2 * y.2 < z.1 * x.2 * y.2 := Int.mul_lt_mul_of_pos_right h (by omega)
    have e1 : y.1 * x.2 * z.2 = y.1 * z.2 * x.2 := Int.mul_right_comm _ _ _
    have e2 : x.1 * y.2 * z.2 = x.1 * z.2 * y.2 := Int.mul_right_comm _ _ _
    have e3 : z.1 * y.2 * x.2 = z.1 * x.2 * y.2 := Int.mul_right_comm _ _ _
    omega
structure Pt (p : Int × Int) : Prop where
  a : -(10 ^ 45) ≤ p.1
  b : p.1 ≤ 10 ^ 45
  c : 1 ≤ p.2
  d : p.2 ≤ 10 ^ 45
theorem Pt.mul {p q : Int × Int} (h : Pt p) (k : Pt q) : mulR p.1 q.2 = .ok (p.1 * q.2) := by
  have := h.a; have := h.b; have := k.c; have := k.d
  exact mulR_w (big (n := 10 ^ 46) (by omega) (by omega) (by decide)) (big (n := 10 ^ 46) (by omega) (by omega) (by decide))
theorem less_ok {p q : Int × Int} (h : Pt p) (k : Pt q) : m_less p q = .ok (ltW p q) := by
  have e1 : decide (p.2 < 1) = false := decide_eq_false (by have := h.c; omega)
  have e2 : decide (q.2 < 1) = false := decide_eq_false (by have := k.c; omega)
  unfold m_less
  simp only [e1, e2, orR_f, bind_ok, Bool.false_eq_true, reduceIte, h.mul k, k.mul h]
  rfl
theorem catR_ok3 {α : Type} [Py α] {xs ys : List α} (h : xs.length + ys.length ≤ 16000000) : catR xs ys = .ok (xs ++ ys) := by
  unfold catR
  rw [decide_eq_true h]
  rfl
theorem cut_to {α : Type} {xs : List α} {k : Nat} (h : k ≤ xs.length) : cutL xs none (some (k : Int)) = xs.take k := by
  unfold cutL
  rw [HT.sIx_none, HT.sIx_nat, List.drop_zero, Nat.sub_zero, Nat.min_eq_left h]
theorem cut_from {α : Type} {xs : List α} {k : Nat} (h : k ≤ xs.length) : cutL xs (some (k : Int)) none = xs.drop k := by
  unfold cutL
  rw [HT.sIx_none, HT.sIx_nat, Nat.min_eq_left h]
  exact List.take_of_length_le (by rw [List.length_drop]; exact Nat.le_refl _)
theorem put_ok {row l : List (Int × Int)} {x : Int × Int} (hr : ∀ y ∈ row, Pt y) (hx : Pt x) (hl : row.length ≤ 1000) (h : SS SP ltW l row) : ∃ row', m_law_put row x = .ok row' ∧ SS SP ltW (l ++ [x]) row' ∧ row'.length = row.length + 1 ∧ ∀ y ∈ row', Pt y := by
  unfold m_law_put
  rw [bind_ok]
  refine whileK_P (fun k (z : Int) => z = (k : Int) ∧ k ≤ row.length ∧ ∀ y ∈ row.drop k, ltW x y = true) (fun r => ∃ row', r = .ok row' ∧ SS SP ltW (l ++ [x]) row' ∧ row'.length = row.length + 1 ∧ ∀ y ∈ row', Pt y) ?_ _ (k := row.length) ⟨rfl, Nat.le_refl _, fun y hy => by rw [List.drop_length] at hy; cases hy⟩ (by omega)
  rintro k z kk ⟨rfl, hk, hd⟩ nx
  have fin : (∀ y ∈ row.take k, ltW x y = false) → ∃ row', (Res.bind (catR ((cutL row none (some (k : Int)))) (((x :: []) : (List (Int × Int))))) fun x113 => (catR x113 ((cutL row (some (k : Int)) none)))) = .ok row' ∧ SS SP ltW (l ++ [x]) row' ∧ row'.length = row.length + 1 ∧ ∀ y ∈ row', Pt y := by
    intro ht
    have lt1 : (row.take k).length ≤ 1000 := by rw [List.length_take]; omega
    have ld1 : (row.drop k).length ≤ 1000 := by rw [List.length_drop]; omega
    rw [cut_to hk, cut_from hk, catR_ok3 (by rw [List.length_singleton]; omega), bind_ok, catR_ok3 (by rw [List.length_append, List.length_singleton]; omega)]
    refine ⟨_, rfl, ?_, ?_, ?_⟩
    · rw [List.append_assoc]
      show SS SP ltW (l ++ [x]) (row.take k ++ x :: row.drop k)
      have e : row.take k ++ row.drop k = row := List.take_append_drop k row
      exact ss_put swo hx.c (fun y hy => by rw [e] at hy; exact (hr y hy).c) (by rw [e]; exact h) ht hd
    · rw [List.length_append, List.length_append, List.length_singleton, List.length_take, List.length_drop]
      omega
    · intro y hy
      rcases List.mem_append.mp hy with q | q
      · rcases List.mem_append.mp q with q | q
        · exact hr y (List.mem_of_mem_take q)
        · rw [List.mem_singleton.mp q]; exact hx
      · exact hr y (List.mem_of_mem_drop q)
  cases k with
  | zero =>
    rw [decide_eq_false (by decide), andR_f, bind_ok, if_neg (by decide)]
    exact fin (fun y hy => by rw [List.take_zero] at hy; cases hy)
  | succ k =>
    have hk2 : k < row.length := hk
    have ek : ((k + 1 : Nat) : Int) - 1 = (k : Int) := by omega
    have ea : atR row (k : Int) = .ok row[k] := atR_nat (List.getElem?_eq_getElem hk2)
    have pk := hr row[k] (List.getElem_mem hk2)
    rw [decide_eq_true (show (0 : Int) < ((k + 1 : Nat) : Int) by omega), andR_t, ek, ea]
    simp only [bind_ok]
    rw [hx.mul pk, bind_ok, pk.mul hx, bind_ok, bind_ok]
    cases hlt : ltW x row[k] with
    | true =>
      unfold ltW at hlt
      rw [hlt, if_pos rfl]
      refine nx k _ (Nat.lt_succ_self k) ⟨rfl, by omega, fun y hy => ?_⟩
      rw [List.drop_eq_getElem_cons hk2] at hy
      rcases List.mem_cons.mp hy with q | q
      · rw [q]; exact hlt
      · exact hd y q
    | false =>
      have hlt' := hlt
      unfold ltW at hlt'
      rw [hlt', if_neg (by decide)]
      refine fin fun y hy => ?_
      rw [List.take_succ_eq_append_getElem hk2] at hy
      rcases List.mem_append.mp hy with q | q
      · have hs : Srt ltW row := h.srt
        rw [← List.take_append_drop k row, List.drop_eq_getElem_cons hk2] at hs
        have z := (List.pairwise_append.mp hs).2.2 y q row[k] List.mem_cons_self
        exact swo.ntr x row[k] y hx.c pk.c (hr y (List.mem_of_mem_take q)).c hlt z
      · rw [List.mem_singleton.mp q]; exact hlt
theorem mrg_step {p x : Int × Int} {l r : List (Int × Int)} (h : ltW x p = true) : mrg ltW (p :: l) (x :: r) = x :: mrg ltW (p :: l) r := by
  rw [mrg, mrg, List.takeWhile_cons, if_pos h, List.dropWhile_cons, if_pos h]
  rfl
theorem mrg_stop {p : Int × Int} {l r : List (Int × Int)} (h : ∀ x t, r = x :: t → ltW x p = false) : mrg ltW (p :: l) r = p :: mrg ltW l r := by
  rw [mrg]
  cases r with
  | nil => rfl
  | cons x t =>
    have := h x t rfl
    rw [List.takeWhile_cons, this, if_neg (by decide), List.dropWhile_cons, this, if_neg (by decide)]
    rfl
theorem mrg_len : ∀ (l r : List (Int × Int)), (mrg ltW l r).length = l.length + r.length
  | [], r => by rw [mrg]; simp
  | p :: l, r => by
    rw [mrg, List.length_append, List.length_cons, mrg_len l, List.length_cons]
    have := congrArg List.length (List.takeWhile_append_dropWhile (p := fun y => ltW y p) (l := r))
    rw [List.length_append] at this
    omega
theorem joined_ok {left right : List (Int × Int)} (h1 : ∀ y ∈ left, Pt y) (h2 : ∀ y ∈ right, Pt y) (hl : left.length + right.length ≤ 1000) : m_joined left right = .ok (mrg ltW left right) := by
  unfold m_joined
  rw [bind_ok, bind_ok, bind_ok]
  have ML := mrg_len left right
  refine forK_inv (fun l (z : List (Int × Int) × Int) => (∀ y ∈ l, Pt y) ∧ ∃ k : Nat, z.2 = k ∧ k ≤ right.length ∧ z.1 ++ mrg ltW l (right.drop k) = mrg ltW left right) ⟨h1, 0, rfl, by omega, rfl⟩ ?_ ?_
  · rintro p l ⟨made, at_⟩ kk ⟨hp, k, hk, hk2, he⟩ nx
    have pp := hp p List.mem_cons_self
    have pl : ∀ y ∈ l, Pt y := fun y hy => hp y (List.mem_cons_of_mem _ hy)
    simp only at hk he ⊢
    subst hk
    refine whileK_P (fun n (z : List (Int × Int) × Int) => n ≤ right.length ∧ z.2 = ((right.length - n : Nat) : Int) ∧ z.1 ++ mrg ltW (p :: l) (right.drop (right.length - n)) = mrg ltW left right) (fun r => r = .ok (mrg ltW left right)) ?_ _ (k := right.length - k) ⟨by omega, by show (k : Int) = _; congr 1; omega, by rw [show right.length - (right.length - k) = k by omega]; exact he⟩ (by omega)
    rintro n ⟨made, at_⟩ kk2 ⟨hn, ha, he⟩ nx2
    simp only at ha he ⊢
    subst ha
    have len := congrArg List.length he
    rw [List.length_append, mrg_len, List.length_cons, List.length_drop] at len
    have stop : (∀ x t, right.drop (right.length - n) = x :: t → ltW x p = false) → ((appR made p).bind fun made_164 => kk (made_164, ((right.length - n : Nat) : Int))) = .ok (mrg ltW left right) := fun h => by
      rw [appR_ok _ _ (by omega), bind_ok]
      refine nx _ ⟨pl, right.length - n, rfl, by omega, ?_⟩
      rw [mrg_stop h] at he
      rw [← he, List.append_assoc]
      rfl
    cases n with
    | zero =>
      rw [decide_eq_false (by omega), andR_f, bind_ok, if_neg (by decide)]
      exact stop fun x t e => by
        rw [Nat.sub_zero, List.drop_length] at e
        cases e
    | succ n =>
      have hx : right.length - (n + 1) < right.length := by omega
      have ea : atR right ((right.length - (n + 1) : Nat) : Int) = .ok right[right.length - (n + 1)] := atR_nat (List.getElem?_eq_getElem hx)
      have px := h2 _ (List.getElem_mem hx)
      rw [decide_eq_true (show ((right.length - (n + 1) : Nat) : Int) < (right.length : Int) by omega), andR_t, ea, bind_ok, bind_ok, less_ok px pp, bind_ok]
      cases hlt : ltW right[right.length - (n + 1)] p with
      | true =>
        rw [if_pos rfl, bind_ok, appR_ok _ _ (by omega), bind_ok, bind_ok]
        refine nx2 n _ (Nat.lt_succ_self n) ⟨by omega, by show ((right.length - (n + 1) : Nat) : Int) + 1 = _; omega, ?_⟩
        rw [List.drop_eq_getElem_cons hx, mrg_step hlt, show right.length - (n + 1) + 1 = right.length - n by omega] at he
        rw [← he, List.append_assoc]
        rfl
      | false =>
        rw [if_neg (by decide)]
        exact stop fun x t e => by
          rw [List.drop_eq_getElem_cons hx] at e
          injection e with e1 e2
          rw [← e1]
          exact hlt
  · rintro ⟨made, at_⟩ ⟨_, k, hk, hk2, he⟩
    simp only at hk he ⊢
    subst hk
    rw [mrg] at he
    have len := congrArg List.length he
    rw [List.length_append, mrg_len] at len
    rw [cut_from hk2, catR_ok3 (by omega), he]
abbrev PL := List (Int × Int)
def pairUp : List PL → List PL
  | a :: b :: t => mrg ltW a b :: pairUp t
  | [a] => [a]
  | [] => []
def pairF (hs : List PL) : List PL := (List.range (hs.length / 2)).map (fun i => mrg ltW (hs.getD (2 * i) []) (hs.getD (2 * i + 1) [])) ++ (if hs.length % 2 = 1 then [hs.getD (hs.length - 1) []] else [])
theorem pairF_eq : ∀ hs : List PL, pairF hs = pairUp hs
  | [] => by simp [pairF, pairUp]
  | [a] => by simp [pairF, pairUp]
  | a :: b :: t => by
    have ih := pairF_eq t
    rw [pairUp, ← ih]
    unfold pairF
    have e1 : (a :: b :: t).length / 2 = t.length / 2 + 1 := by simp only [List.length_cons]; omega
    have e2 : (a :: b :: t).length % 2 = t.length % 2 := by simp only [List.length_cons]; omega
    rw [e1, e2, List.range_succ_eq_map, List.map_cons, List.map_map, List.cons_append]
    congr 1
    congr 1
    by_cases c : t.length % 2 = 1
    · rw [if_pos c, if_pos c]
      have : (a :: b :: t).length - 1 = (t.length - 1) + 2 := by simp only [List.length_cons]; omega
      rw [this]
      rfl
    · rw [if_neg c, if_neg c]
theorem pairUp_len : ∀ hs : List PL, (pairUp hs).length = (hs.length + 1) / 2
  | [] => by simp [pairUp]
  | [a] => by simp [pairUp]
  | a :: b :: t => by
    rw [pairUp, List.length_cons, pairUp_len t]
    simp only [List.length_cons]
    omega
structure Hps (pts : PL) (hs : List PL) : Prop where
  pt : ∀ h ∈ hs, ∀ y ∈ h, Pt y
  srt : ∀ h ∈ hs, Srt ltW h
  len : hs.flatten.length = pts.length
  flt : ∀ c, SP c → hs.flatten.filter (eqB ltW c) = pts.filter (eqB ltW c)
theorem pairUp_flat : ∀ hs : List PL, (∀ h ∈ hs, ∀ y ∈ h, Pt y) → (∀ h ∈ hs, Srt ltW h) → (∀ h ∈ pairUp hs, ∀ y ∈ h, Pt y) ∧ (∀ h ∈ pairUp hs, Srt ltW h) ∧ (pairUp hs).flatten.length = hs.flatten.length ∧ ∀ c, SP c → (pairUp hs).flatten.filter (eqB ltW c) = hs.flatten.filter (eqB ltW c)
  | [], h1, h2 => ⟨h1, h2, rfl, fun _ _ => rfl⟩
  | [a], h1, h2 => ⟨h1, h2, rfl, fun _ _ => rfl⟩
  | a :: b :: t, h1, h2 => by
    have ha := h1 a List.mem_cons_self
    have hb := h1 b (List.mem_cons_of_mem _ List.mem_cons_self)
    have ih := pairUp_flat t (fun h hh => h1 h (List.mem_cons_of_mem _ (List.mem_cons_of_mem _ hh))) (fun h hh => h2 h (List.mem_cons_of_mem _ (List.mem_cons_of_mem _ hh)))
    have mo := mrg_ok swo (fun y hy => (ha y hy).c) (fun y hy => (hb y hy).c) (h2 a List.mem_cons_self) (h2 b (List.mem_cons_of_mem _ List.mem_cons_self))
    rw [pairUp]
    refine ⟨fun h hh y hy => ?_, fun h hh => ?_, ?_, fun c hc => ?_⟩
    · rcases List.mem_cons.mp hh with e | e
      · subst e
        rcases mrg_mem hy with q | q
        · exact ha y q
        · exact hb y q
      · exact ih.1 h e y hy
    · rcases List.mem_cons.mp hh with e | e
      · rw [e]; exact mo.srt
      · exact ih.2.1 h e
    · rw [List.flatten_cons, List.length_append, ih.2.2.1, mrg_len, List.flatten_cons, List.flatten_cons, List.length_append, List.length_append]
      omega
    · rw [List.flatten_cons, List.filter_append, ih.2.2.2 c hc, mo.flt c hc, List.flatten_cons, List.flatten_cons, List.filter_append, List.filter_append, List.filter_append, List.append_assoc]
theorem Hps.next {pts : PL} {hs : List PL} (h : Hps pts hs) : Hps pts (pairUp hs) := by
  have z := pairUp_flat hs h.pt h.srt
  exact ⟨z.1, z.2.1, by rw [z.2.2.1, h.len], fun c hc => by rw [z.2.2.2 c hc, h.flt c hc]⟩
theorem mem_flat_len {hs : List PL} {h : PL} (hh : h ∈ hs) : h.length ≤ hs.flatten.length := by
  induction hs with
  | nil => cases hh
  | cons a t ih =>
    rw [List.flatten_cons, List.length_append]
    rcases List.mem_cons.mp hh with e | e
    · rw [e]; omega
    · have := ih e; omega
theorem rngC_two {n : Nat} (h : 2 ≤ n) (h2 : n ≤ 1000) : rngC (0 : Int) ((n : Int) - 1) 2 = .ok ((List.range (n / 2)).map fun i => (0 : Int) + (i : Nat) * 2) := by
  have e : Builtin.Range.rangeSize 0 ((n : Int) - 1) 2 = ((n / 2 : Nat) : Int) := by
    unfold Builtin.Range.rangeSize
    rw [if_pos (by decide), if_pos (by omega)]
    have : ((n : Int) - 1 - 0 - 1) / 2 + 1 = (n : Int) / 2 := by omega
    rw [this]
    rfl
  have sm : Builtin.Range.small 0 ((n : Int) - 1) 2 = true := by
    unfold Builtin.Range.small
    rw [e]
    unfold Builtin.Range.rangeFitsLong
    rw [if_pos (show (2 : Int) > 0 by decide)]
    simp only [Bool.and_eq_true, Bool.or_eq_true, decide_eq_true_iff, beq_iff_eq]
    omega
  unfold rngC
  rw [sm, e, decide_eq_true (show (0 : Int) ≤ ((n / 2 : Nat) : Int) by omega), Int.toNat_natCast]
  rfl
theorem ordered_ok {pts : PL} (hp : ∀ y ∈ pts, Pt y) (hl : pts.length ≤ 400) : ∃ res, m_ordered pts = .ok res ∧ SS SP ltW pts res ∧ (∀ y ∈ res, Pt y) ∧ res.length = pts.length := by
  unfold m_ordered
  rw [bind_ok, bind_ok]
  rw [forK_app (F := fun p : Int × Int => [p]), List.nil_append]
  · refine whileK_P (fun k z => k = z.length ∧ k ≤ 400 ∧ Hps pts z) (fun r => ∃ res, r = .ok res ∧ SS SP ltW pts res ∧ (∀ y ∈ res, Pt y) ∧ res.length = pts.length) ?_ _ (k := (pts.map fun p => [p]).length) ⟨rfl, by rw [List.length_map]; exact hl, ?_⟩ (Nat.lt_succ_self _)
    · rintro k z kk ⟨rfl, hk, H⟩ nx
      by_cases c : 1 < z.length
      · rw [decide_eq_true (show (1 : Int) < (z.length : Int) by omega), bind_ok, if_pos rfl, bind_ok, bind_ok, bind_ok, bind_ok, rngC_two (by omega) (by omega), bind_ok]
        have gd : ∀ j : Nat, j < z.length → z.getD j [] ∈ z ∧ atR z (j : Int) = .ok (z.getD j []) := fun j hj => by
          have e : z.getD j [] = z[j] := by rw [List.getD_eq_getElem?_getD, List.getElem?_eq_getElem hj]; rfl
          rw [e]
          exact ⟨List.getElem_mem hj, atR_nat (List.getElem?_eq_getElem hj)⟩
        rw [forK_app (F := fun q : Int => mrg ltW (z.getD q.toNat []) (z.getD (q.toNat + 1) [])), List.nil_append]
        · have e0 : ((List.range (z.length / 2)).map fun i : Nat => (0 : Int) + (i : Nat) * 2).map (fun q : Int => mrg ltW (z.getD q.toNat []) (z.getD (q.toNat + 1) [])) = (List.range (z.length / 2)).map (fun i => mrg ltW (z.getD (2 * i) []) (z.getD (2 * i + 1) [])) := by
            rw [List.map_map]
            refine List.map_congr_left fun i _ => ?_
            simp only [Function.comp]
            rw [show ((0 : Int) + (i : Nat) * 2).toNat = 2 * i by omega]
          rw [e0]
          have fin : ∀ w, w = pairF z → ∃ res, kk w = .ok res ∧ SS SP ltW pts res ∧ (∀ y ∈ res, Pt y) ∧ res.length = pts.length := fun w e => by
            rw [pairF_eq] at e
            have pl := pairUp_len z
            refine nx w.length w (by rw [e, pl]; omega) ⟨rfl, by rw [e, pl]; omega, by rw [e]; exact H.next⟩
          simp only [jn]
          rw [modR_ok _ (by decide), bind_ok, bind_ok]
          by_cases d : z.length % 2 = 1
          · have el : atR z (-1) = .ok (z.getD (z.length - 1) []) := by
              have e : ixN z.length (-1) = some (z.length - 1) := by
                unfold ixN
                simp
                omega
              unfold atR atI
              rw [e]
              simp
              rw [List.getElem?_eq_getElem (by omega)]
              rfl
            rw [decide_eq_true (show (z.length : Int) % 2 = 1 by omega), if_pos rfl, el, bind_ok, appR_ok _ _ (by rw [List.length_map, List.length_range]; omega), bind_ok, bind_ok]
            refine fin _ ?_
            unfold pairF
            rw [if_pos d]
          · rw [decide_eq_false (show ¬ (z.length : Int) % 2 = 1 by omega), if_neg (by decide), bind_ok]
            refine fin _ ?_
            unfold pairF
            rw [if_neg d, List.append_nil]
        · intro q hq w kk2 hw
          obtain ⟨i, hi, rfl⟩ := List.mem_map.mp hq
          rw [List.mem_range] at hi
          have e1 : (0 : Int) + (i : Nat) * 2 = ((2 * i : Nat) : Int) := by omega
          have e2 : ((2 * i : Nat) : Int) + 1 = ((2 * i + 1 : Nat) : Int) := by omega
          have g1 := gd (2 * i) (by omega)
          have g2 := gd (2 * i + 1) (by omega)
          have b1 := mem_flat_len g1.1
          have b2 := mem_flat_len g2.1
          have hlen := H.len
          rw [e1, e2, g1.2, bind_ok, g2.2, bind_ok, bind_ok, bind_ok]
          simp only []
          rw [joined_ok (H.pt _ g1.1) (H.pt _ g2.1) (by omega), bind_ok, appR_ok _ _ hw, bind_ok, Int.toNat_natCast]
        · rw [List.length_map, List.length_range]
          simp
          omega
      · rw [decide_eq_false (show ¬ (1 : Int) < (z.length : Int) by omega), bind_ok, if_neg (by decide), bind_ok]
        match z, c, H with
        | [], _, H => exact ⟨[], rfl, ⟨List.Pairwise.nil, fun c hc => H.flt c hc⟩, (fun y hy => by cases hy), H.len⟩
        | [h], _, H =>
          refine ⟨h, rfl, ⟨H.srt h List.mem_cons_self, fun c hc => ?_⟩, H.pt h List.mem_cons_self, ?_⟩
          · have := H.flt c hc
            rw [List.flatten_cons, List.flatten_nil, List.append_nil] at this
            exact this
          · have := H.len
            rw [List.flatten_cons, List.flatten_nil, List.append_nil] at this
            exact this
        | _ :: _ :: _, c, _ => exact absurd (by simp only [List.length_cons]; omega) c
    · have fl : (pts.map fun p => [p]).flatten = pts := by
        clear hp hl
        induction pts with
        | nil => rfl
        | cons a t ih => rw [List.map_cons, List.flatten_cons, ih]; rfl
      refine ⟨fun h hh y hy => ?_, fun h hh => ?_, by rw [fl], fun c hc => by rw [fl]⟩
      · obtain ⟨p, hp1, rfl⟩ := List.mem_map.mp hh
        rw [List.mem_singleton.mp hy]
        exact hp p hp1
      · obtain ⟨p, hp1, rfl⟩ := List.mem_map.mp hh
        exact List.pairwise_singleton _ _
  · intro p hpm z kk hz
    rw [decide_eq_false (by have := (hp p hpm).c; omega), bind_ok, if_neg (by decide), appR_ok _ _ hz, bind_ok]
  · simp
    omega
theorem ordered_bad {pts : PL} (h : ∃ y ∈ pts, y.2 < 1) (hl : pts.length ≤ 400) : m_ordered pts = .raise .BadBottom := by
  unfold m_ordered
  rw [bind_ok, bind_ok]
  refine forK_inv (fun l (z : List PL) => (∃ y ∈ l, y.2 < 1) ∧ z.length + l.length ≤ 400) ⟨h, by simpa using hl⟩ ?_ (fun z hz => by obtain ⟨⟨y, hy, _⟩, _⟩ := hz; cases hy)
  rintro p l z kk ⟨⟨y, hy, hb⟩, hz⟩ nx
  rw [List.length_cons] at hz
  by_cases c : p.2 < 1
  · rw [decide_eq_true c, bind_ok, if_pos rfl]
  · rw [decide_eq_false c, bind_ok, if_neg (by decide), appR_ok _ _ (by omega), bind_ok]
    refine nx _ ⟨⟨y, ?_, hb⟩, by rw [List.length_append, List.length_singleton]; omega⟩
    rcases List.mem_cons.mp hy with e | e
    · subst e; exact absurd hb c
    · exact e
theorem pairs_ok (l : PL) : m_law_pairs l = .ok true := by
  have e0 : Ty.ty l = "list" := rfl
  unfold m_law_pairs
  rw [e0, isi_ll, notR_ok, bind_ok, if_neg (by decide), bind_ok]
  refine forK_inv (fun _ _ => True) trivial ?_ (fun _ _ => rfl)
  intro p l u kk _ nx
  have e1 : Ty.ty p = "tuple" := rfl
  rw [e1, isi_tt, lwhole_ok, lwhole_ok]
  simp only [notR_ok, Bool.not_true, orR_f, decide_true, bind_ok, Bool.false_eq_true, reduceIte]
  exact nx () trivial
structure Row (z : PL) : Prop where
  pt : ∀ y ∈ z, Pt y
  hd : ∀ y t, z = y :: t → -(10 ^ 42) ≤ y.1 ∧ y.1 ≤ 10 ^ 42 ∧ y.2 ≤ 10 ^ 42
theorem set_last {z : PL} {x : Int × Int} (h : z ≠ []) : setR z (-1) x = .ok (z.set (z.length - 1) x) := by
  have hl : 0 < z.length := List.length_pos_iff.mpr h
  have e : ixN z.length (-1) = some (z.length - 1) := by
    unfold ixN
    simp
    omega
  unfold setR
  rw [e]
theorem Row.set {z : PL} {x : Int × Int} (h : Row z) (hx : Pt x) (hb : z.length = 1 → -(10 ^ 42) ≤ x.1 ∧ x.1 ≤ 10 ^ 42 ∧ x.2 ≤ 10 ^ 42) : Row (z.set (z.length - 1) x) := by
  refine ⟨fun y hy => ?_, fun y t e => ?_⟩
  · rcases List.mem_or_eq_of_mem_set hy with q | q
    · exact h.pt y q
    · rw [q]; exact hx
  · cases z with
    | nil => cases e
    | cons a s =>
      cases s with
      | nil =>
        rw [List.length_singleton] at e hb
        injection e with e1 e2
        rw [← e1]
        exact hb rfl
      | cons b s =>
        rw [show (a :: b :: s).length - 1 = s.length + 1 by simp only [List.length_cons]; omega, List.set_cons_succ] at e
        injection e with e1 e2
        rw [← e1]
        exact h.hd a _ rfl
theorem law_ok (xs : List Int) (hx : xs.length ≤ 63) : m_law ⟨xs⟩ = .ok true := by
  obtain ⟨p0, q0, a0, b0⟩ := pick_ok xs (a := 0) (t := 0) (m := 41) (by decide) (by decide) (by decide) (by decide)
  obtain ⟨p43, q43, a43, b43⟩ := pick_ok xs (a := 43) (t := 0) (m := 3) (by decide) (by decide) (by decide) (by decide)
  obtain ⟨v44, c44⟩ := cell_ok xs (a := 44) (by decide)
  have d1 := Int.emod_nonneg v44 (show (10 ^ 40 : Int) ≠ 0 by decide)
  have d2 := Int.emod_lt_of_pos v44 (show (0 : Int) < 10 ^ 40 by decide)
  unfold m_law
  simp only [q0, bind_ok, c44, pow_40, modR_ok v44 (show (0 : Int) < 10 ^ 40 by decide)]
  rw [rngR_ok (by omega) (by omega) (by omega) (by omega), bind_ok]
  refine forK_inv (fun (l : List Int) (z : PL) => Row z ∧ z.length + l.length ≤ 41 ∧ ∀ k ∈ l, 0 ≤ k ∧ k < (41 : Int)) ⟨⟨(fun y hy => by cases hy), (fun y t e => by cases e)⟩, by rw [upFrom_length]; simp; omega, fun k hk => by rw [mem_upFrom] at hk; omega⟩ ?_ ?_
  · rintro k l z kk ⟨R, hl, hk⟩ nx
    obtain ⟨k0, k1⟩ := hk k List.mem_cons_self
    rw [List.length_cons] at hl
    obtain ⟨t0, r0, u0, w0⟩ := pick_ok xs (a := 1 + k) (t := 0) (m := 121) (by omega) (by decide) (by decide) (by decide)
    obtain ⟨t1, r1, u1, w1⟩ := pick_ok xs (a := 1 + k) (t := 1) (m := 12) (by omega) (by decide) (by decide) (by decide)
    obtain ⟨t2, r2, u2, w2⟩ := pick_ok xs (a := 1 + k) (t := 2) (m := 5) (by omega) (by decide) (by decide) (by decide)
    obtain ⟨t3, r3, u3, w3⟩ := pick_ok xs (a := 1 + k) (t := 3) (m := 8) (by omega) (by decide) (by decide) (by decide)
    obtain ⟨t4, r4, u4, w4⟩ := pick_ok xs (a := 1 + k) (t := 4) (m := 3) (by omega) (by decide) (by decide) (by decide)
    have pn : Pt (t0 - 60, 1 + t1) := ⟨by show -(10 ^ 45) ≤ t0 - 60; omega, by show t0 - 60 ≤ 10 ^ 45; omega, by show 1 ≤ 1 + t1; omega, by show 1 + t1 ≤ 10 ^ 45; omega⟩
    have R1 : Row (z ++ [(t0 - 60, 1 + t1)]) := by
      refine ⟨fun y hy => ?_, fun y t e => ?_⟩
      · rcases List.mem_append.mp hy with q | q
        · exact R.pt y q
        · rw [List.mem_singleton.mp q]; exact pn
      · cases z with
        | nil =>
          injection e with e1 e2
          rw [← e1]
          show -(10 ^ 42) ≤ t0 - 60 ∧ t0 - 60 ≤ 10 ^ 42 ∧ 1 + t1 ≤ 10 ^ 42
          omega
        | cons a s =>
          rw [List.cons_append] at e
          injection e with e1 e2
          rw [← e1]
          exact R.hd a s rfl
    have S1 : (z ++ [(t0 - 60, 1 + t1)]).length = 1 → ∀ y t, z ++ [(t0 - 60, 1 + t1)] = y :: t → -1000 ≤ y.1 ∧ y.1 ≤ 1000 ∧ y.2 ≤ 1000 := fun hl1 y t e => by
      have : z = [] := List.length_eq_zero_iff.mp (by rw [List.length_append, List.length_singleton] at hl1; omega)
      rw [this] at e
      injection e with e1 e2
      rw [← e1]
      show -1000 ≤ t0 - 60 ∧ t0 - 60 ≤ 1000 ∧ 1 + t1 ≤ 1000
      omega
    simp only [r0, r1, r2, r3, r4, bind_ok]
    rw [appR_ok _ _ (by omega), bind_ok]
    have hne : ∀ w : PL, w.length = z.length + 1 → ∃ y t, w = y :: t := fun w hw => by
      cases w with
      | nil => simp at hw
      | cons a s => exact ⟨a, s, rfl⟩
    refine jn_of (fun w : PL => Row w ∧ w.length = z.length + 1 ∧ (w.length = 1 → ∀ y t, w = y :: t → -1000 ≤ y.1 ∧ y.1 ≤ 1000 ∧ y.2 ≤ 1000)) (fun k2 hk2 => ite_of (fun _ => ?_) (fun _ => hk2 _ ⟨R1, by simp, S1⟩)) ?_
    · generalize hw : z ++ [(t0 - 60, 1 + t1)] = w at R1 S1 ⊢
      have wl : w.length = z.length + 1 := by rw [← hw]; simp
      obtain ⟨y, t, e⟩ := hne w wl
      have a0 : atR w (0 : Int) = .ok y := by rw [e]; exact atR_zero y t
      have hb := R1.hd y t e
      rw [a0, bind_ok, set_last (by rw [e]; exact List.cons_ne_nil _ _), bind_ok]
      refine hk2 _ ⟨R1.set (R1.pt y (by rw [e]; exact List.mem_cons_self)) (fun _ => hb), by rw [List.length_set]; exact wl, fun h1 y' t' e' => ?_⟩
      rw [List.length_set] at h1
      have et : t = [] := by
        rw [e, List.length_cons] at h1
        exact List.length_eq_zero_iff.mp (by omega)
      rw [e, et] at e'
      injection e' with e1 e2
      rw [← e1]
      exact S1 h1 y t e
    · rintro w ⟨RW, wl, SW⟩
      obtain ⟨y, t, e⟩ := hne w wl
      have a0 : atR w (0 : Int) = .ok y := by rw [e]; exact atR_zero y t
      have hb := RW.hd y t e
      have hc := (RW.pt y (by rw [e]; exact List.mem_cons_self)).c
      refine jn_of (fun w : PL => Row w ∧ w.length = z.length + 1) (fun k2 hk2 => ite_of (fun _ => ?_) (fun _ => hk2 _ ⟨RW, wl⟩)) ?_
      · simp only [a0, bind_ok]
        rw [mulR_r _ (by decide), bind_ok, mulR_r _ (by decide), bind_ok, bind_ok, bind_ok, bind_ok, set_last (by rw [e]; exact List.cons_ne_nil _ _), bind_ok]
        refine hk2 _ ⟨RW.set ⟨by show -(10 ^ 45) ≤ y.1 * 2; omega, by show y.1 * 2 ≤ 10 ^ 45; omega, by show 1 ≤ y.2 * 2; omega, by show y.2 * 2 ≤ 10 ^ 45; omega⟩ (fun h1 => ?_), by rw [List.length_set]; exact wl⟩
        have := SW h1 y t e
        show -(10 ^ 42) ≤ y.1 * 2 ∧ y.1 * 2 ≤ 10 ^ 42 ∧ y.2 * 2 ≤ 10 ^ 42
        omega
      · rintro w2 ⟨R2, wl2⟩
        obtain ⟨y2, t2', e2⟩ := hne w2 wl2
        refine jn_of (fun w : PL => Row w ∧ w.length = z.length + 1) (fun k2 hk2 => ite_of (fun _ => ?_) (fun _ => hk2 _ ⟨R2, wl2⟩)) ?_
        · rw [fdivR_s _ (by decide) (by decide)]
          simp only [bind_ok]
          rw [set_last (by rw [e2]; exact List.cons_ne_nil _ _), bind_ok]
          have dv0 : 0 ≤ (1 + v44 % 10 ^ 40) / 3 := by omega
          have dv1 : (1 + v44 % 10 ^ 40) / 3 ≤ 10 ^ 40 := by omega
          refine hk2 _ ⟨R2.set ⟨?_, ?_, ?_, ?_⟩ (fun _ => ⟨?_, ?_, ?_⟩), by rw [List.length_set]; exact wl2⟩ <;> simp only [] <;> omega
        · rintro w3 ⟨R3, wl3⟩
          exact nx _ ⟨R3, by omega, fun k' hk' => hk k' (List.mem_cons_of_mem _ hk')⟩
  · rintro pts ⟨R, hl, _⟩
    have hl : pts.length ≤ 41 := by simpa using hl
    refine forK_inv (fun (l : PL) (z : PL) => ∃ done : PL, done ++ l = pts ∧ SS SP ltW done z ∧ (∀ y ∈ z, Pt y) ∧ z.length = done.length) ⟨[], rfl, ⟨List.Pairwise.nil, fun _ _ => rfl⟩, (fun y hy => by cases hy), rfl⟩ ?_ ?_
    · rintro p l z kk ⟨done, e, h, hp, hz⟩ nx
      have le : done.length + (l.length + 1) ≤ 41 := by
        have := congrArg List.length e
        rw [List.length_append, List.length_cons] at this
        omega
      obtain ⟨row', e1, e2, e3, e4⟩ := put_ok hp (R.pt p (by rw [← e]; exact List.mem_append_right _ List.mem_cons_self)) (by omega) h
      rw [e1, bind_ok]
      exact nx _ ⟨done ++ [p], by rw [List.append_assoc]; exact e, e2, e4, by rw [e3, List.length_append, List.length_singleton, hz]⟩
    · rintro due ⟨done, e, h, hp, hz⟩
      rw [List.append_nil] at e
      subst e
      obtain ⟨res, o1, o2, o3, o4⟩ := ordered_ok R.pt (by omega)
      have er : res = due := srt_unique swo (fun x hx => (o3 x hx).c) (fun x hx => (hp x hx).c) o2.srt h.srt fun c hc => by rw [o2.flt c hc, h.flt c hc]
      subst er
      obtain ⟨at_, qa, aa, ba⟩ := pick_ok xs (a := 42) (t := 0) (m := (done.length : Int) + 1) (by decide) (by decide) (by decide) (by omega)
      obtain ⟨n, rfl⟩ : ∃ n : Nat, at_ = n := ⟨at_.toNat, by omega⟩
      have lt1 : (done.take n).length ≤ 41 := by rw [List.length_take]; omega
      have ld1 : (done.drop n).length ≤ 41 := by rw [List.length_drop]; omega
      have bad : m_ordered (done.take n ++ [((3 : Int), -p43)] ++ done.drop n) = .raise .BadBottom := ordered_bad ⟨(3, -p43), by simp, by show -p43 < 1; omega⟩ (by rw [List.length_append, List.length_append, List.length_singleton]; omega)
      have cc : catR (done.take n) [((3 : Int), -p43)] = .ok (done.take n ++ [((3 : Int), -p43)]) := catR_ok3 (by rw [List.length_singleton]; omega)
      have cc2 : catR (done.take n ++ [((3 : Int), -p43)]) (done.drop n) = .ok (done.take n ++ [((3 : Int), -p43)] ++ done.drop n) := catR_ok3 (by rw [List.length_append, List.length_singleton]; omega)
      simp only [bind_ok, o1, pairs_ok, deq_self, notR_ok, Bool.not_true, orR_f, Bool.false_eq_true, reduceIte, appR_ok res ((1 : Int), (1 : Int)) (show res.length < 16000000 by omega), appR_ok done ((0 : Int), (1 : Int)) (show done.length < 16000000 by omega), qa, q43, cut_to (xs := done) (k := n) (by omega), cut_from (xs := done) (k := n) (by omega), cc, cc2, bad, bind_raise]
      exact tryL_hit (by decide) rfl

end CR
theorem PySem.Challenge.cw_crookroad_k03_ordered_holds : PySem.Challenge.rw_crookroad_k03_ordered.Holds :=
  CR.the_end CR.law_ok
