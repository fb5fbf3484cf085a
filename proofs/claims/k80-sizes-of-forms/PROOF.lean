import PyProof.Rows.All
import HandS.ForExc
import HandS.Comp
import HandS.Dict
import HandS.Iter
import HandS.Walk
import HandS.Flow
import HandS.IsInst
import HandS.TupAny
import HandS.TupMul
import HandS.Defaults
import HandS.SortInts
import HandS.More
import HandS.Keys
import Wide.Once
import KE.KStateDown
import HandS.Head0
import HandS.Head1
import HandS.Head2
import HandS.HeadEnd
import HandS.HeadHook1
import HandS.HeadHook2
import HandS.HeadHook3
import HandS.HeadHook4
import PySem.Challenge.RW_everymeaning_k80_whole_sizes_of_forms
set_option Elab.async false
set_option linter.all false
set_option maxRecDepth 100000
set_option maxHeartbeats 4000000
namespace Y
open PySem PySem.Spec L2

/-! ### the data of the small interpreter -/
inductive D where
  | non | bl (b : Bool) | int (i : Int) | str (s : Str) | tup (xs : List D) | lst (xs : List D) | dct (ks : List Key) (vs : List D) | fn (x : Str) | ro (ns : List Int)
inductive Val where
  | d (x : D) | r (i : Nat)
inductive Ob where
  | lst (xs : List Val) | dct (ks : List Key) (xs : List Val) | ins (C : Str) (ks : List Str) (xs : List Val) | dead
structure Exc where
  cls : Str
  args : List D
inductive Ex (α : Type) where
  | ok (a : α) | exc (e : Exc)
abbrev Store := List Ob
abbrev M (α : Type) := Store → Option (Ex α × Store)
abbrev Env := List (Option Val)
abbrev FE := Env → M Val
inductive Fl where
  | nx | rt (v : Val) | bk | ct | xc (e : Exc)
abbrev FS := Env → Store → Option (Fl × Env × Store)
def ret {α : Type} (a : α) : M α := fun S => some (.ok a, S)
def thr {α : Type} (e : Exc) : M α := fun S => some (.exc e, S)
def stk {α : Type} : M α := fun _ => none
def bnd {α β : Type} (x : M α) (g : α → M β) : M β := fun S => match x S with
  | none => none
  | some (.exc e, S') => some (.exc e, S')
  | some (.ok a, S') => g a S'
def lift {α : Type} (o : Option α) : M α := fun S => match o with
  | some a => some (.ok a, S)
  | none => none

/-! ### how data stand in the abstract heap -/
/-- what is fixed: the written part, which V a global def's name stands for, a class's address -/
structure Gx where
  K : PySem.W.Frag
  fr : Str → V → Prop
  cA : Str → Addr
variable {G : Gx}
mutual
def Rep (G : Gx) (H : Hp) : D → V → Prop
  | .non, v => v = .non
  | .bl b, v => v = .bl b
  | .int i, v => v = .int i
  | .str s, v => v = .str s
  | .tup ds, v => ∃ a vs, v = .ref a ∧ SqT G.K H a vs ∧ Reps G H ds vs
  | .lst ds, v => ∃ a vs, v = .ref a ∧ H a = some (.lst vs) ∧ Reps G H ds vs
  | .ro ns, v => ∃ a, v = .ref a ∧ SqL G.K H a (ns.map V.int)
  | .dct ks ds, v => ∃ a vs, v = .ref a ∧ H a = some (.dK (ks.zip vs)) ∧ ks.length = vs.length ∧ Reps G H ds vs
  | .fn x, v => G.fr x v
def Reps (G : Gx) (H : Hp) : List D → List V → Prop
  | [], vs => vs = []
  | d :: ds, vs => ∃ v r, vs = v :: r ∧ Rep G H d v ∧ Reps G H ds r
end
theorem same_sqT {K : PySem.W.Frag} {H H' : Hp} {a : Addr} {xs : List V} (e : Same H H') (h : SqT K H a xs) : SqT K H' a xs := by
  rcases h with (h | ⟨o, h⟩) | h
  · exact .inl (.inl (e _ _ h))
  · exact .inl (.inr ⟨o, e _ _ h⟩)
  · exact .inr h
mutual
theorem Rep.mono {H H' : Hp} (e : Same H H') : ∀ {d : D} {v : V}, Rep G H d v → Rep G H' d v
  | .non, _, h => h
  | .bl _, _, h => h
  | .int _, _, h => h
  | .str _, _, h => h
  | .tup _, _, ⟨a, vs, h1, h2, h3⟩ => ⟨a, vs, h1, same_sqT e h2, Reps.mono e h3⟩
  | .lst _, _, ⟨a, vs, h1, h2, h3⟩ => ⟨a, vs, h1, e _ _ h2, Reps.mono e h3⟩
  | .ro _, _, ⟨a, h1, h2⟩ => ⟨a, h1, e.seq h2⟩
  | .dct _ _, _, ⟨a, vs, h1, h2, h3, h4⟩ => ⟨a, vs, h1, e _ _ h2, h3, Reps.mono e h4⟩
  | .fn _, _, h => h
theorem Reps.mono {H H' : Hp} (e : Same H H') : ∀ {ds : List D} {vs : List V}, Reps G H ds vs → Reps G H' ds vs
  | [], _, h => h
  | _ :: _, _, ⟨v, r, h1, h2, h3⟩ => ⟨v, r, h1, Rep.mono e h2, Reps.mono e h3⟩
end
theorem Reps.len {H : Hp} : ∀ {ds : List D} {vs : List V}, Reps G H ds vs → ds.length = vs.length
  | [], _, h => by rw [show _ = _ from h]; rfl
  | _ :: ds, _, ⟨v, r, h1, _, h3⟩ => by rw [h1, List.length_cons, List.length_cons, Reps.len h3]
theorem Reps.get {H : Hp} : ∀ {ds : List D} {vs : List V} {i : Nat} {d : D}, Reps G H ds vs → ds[i]? = some d → ∃ v, vs[i]? = some v ∧ Rep G H d v
  | [], _, _, _, _, e => by simp at e
  | _ :: ds, _, 0, d, ⟨v, r, h1, h2, _⟩, e => by
    have e' := Option.some.inj e
    subst e' h1
    exact ⟨v, rfl, h2⟩
  | _ :: ds, _, i + 1, d, ⟨v, r, h1, _, h3⟩, e => by
    subst h1
    obtain ⟨u, q1, q2⟩ := Reps.get (i := i) h3 (by simpa using e)
    exact ⟨u, by simpa using q1, q2⟩
theorem Reps.app {H : Hp} : ∀ {ds es : List D} {vs us : List V}, Reps G H ds vs → Reps G H es us → Reps G H (ds ++ es) (vs ++ us)
  | [], _, _, _, h, k => by rw [show _ = _ from h]; exact k
  | _ :: ds, _, _, _, ⟨v, r, h1, h2, h3⟩, k => by
    subst h1
    exact ⟨v, _, rfl, h2, Reps.app h3 k⟩
theorem Reps.take {H : Hp} : ∀ {ds : List D} {vs : List V} (n : Nat), Reps G H ds vs → Reps G H (ds.take n) (vs.take n)
  | [], _, n, h => by rw [show _ = _ from h]; simp [Reps]
  | _ :: ds, _, 0, ⟨v, r, h1, h2, h3⟩ => by simp [Reps]
  | _ :: ds, _, n + 1, ⟨v, r, h1, h2, h3⟩ => by
    subst h1
    exact ⟨v, _, rfl, h2, Reps.take n h3⟩
theorem Reps.drop {H : Hp} : ∀ {ds : List D} {vs : List V} (n : Nat), Reps G H ds vs → Reps G H (ds.drop n) (vs.drop n)
  | [], _, n, h => by rw [show _ = _ from h]; simp [Reps]
  | _ :: ds, _, 0, h => h
  | _ :: ds, _, n + 1, ⟨v, r, h1, h2, h3⟩ => by
    subst h1
    exact Reps.drop n h3

/-! ### worlds: where the store's objects stand, what is frozen, how many objects -/
structure Wd where
  ι : Nat → Addr
  F : Hp
  /-- what is being made (a comprehension's list) -/
  T : Hp
  n : Nat
def Wd.le (w w' : Wd) : Prop := Same w.F w'.F ∧ (∀ i, i < w.n → w'.ι i = w.ι i) ∧ w.n ≤ w'.n ∧ w'.T = w.T
theorem Wd.le.refl (w : Wd) : w.le w := ⟨Same.refl _, fun _ _ => rfl, Nat.le_refl _, rfl⟩
theorem Wd.le.trans {a b c : Wd} (h : a.le b) (k : b.le c) : a.le c := ⟨h.1.trans k.1, fun i hi => (k.2.1 i (Nat.lt_of_lt_of_le hi h.2.2.1)).trans (h.2.1 i hi), Nat.le_trans h.2.2.1 k.2.2.1, k.2.2.2.trans h.2.2.2⟩
def VR (G : Gx) (w : Wd) : Val → V → Prop
  | .d x, v => Rep G w.F x v
  | .r i, v => i < w.n ∧ v = .ref (w.ι i)
theorem VR.mono {w w' : Wd} (l : w.le w') : ∀ {x : Val} {v : V}, VR G w x v → VR G w' x v
  | .d _, _, h => Rep.mono l.1 h
  | .r i, _, ⟨h1, h2⟩ => ⟨Nat.lt_of_lt_of_le h1 l.2.2.1, by rw [h2, l.2.1 i h1]⟩
def VRs (G : Gx) (w : Wd) : List Val → List V → Prop
  | [], vs => vs = []
  | x :: xs, vs => ∃ v r, vs = v :: r ∧ VR G w x v ∧ VRs G w xs r
theorem VRs.mono {w w' : Wd} (l : w.le w') : ∀ {xs : List Val} {vs : List V}, VRs G w xs vs → VRs G w' xs vs
  | [], _, h => h
  | _ :: _, _, ⟨v, r, h1, h2, h3⟩ => ⟨v, r, h1, h2.mono l, VRs.mono l h3⟩
theorem VRs.len {w : Wd} : ∀ {ds : List Val} {vs : List V}, VRs G w ds vs → ds.length = vs.length
  | [], _, h => by rw [show _ = _ from h]; rfl
  | _ :: ds, _, ⟨v, r, h1, _, h3⟩ => by rw [h1, List.length_cons, List.length_cons, VRs.len h3]
theorem VRs.get {w : Wd} : ∀ {ds : List Val} {vs : List V} {i : Nat} {d : Val}, VRs G w ds vs → ds[i]? = some d → ∃ v, vs[i]? = some v ∧ VR G w d v
  | [], _, _, _, _, e => by simp at e
  | _ :: ds, _, 0, d, ⟨v, r, h1, h2, _⟩, e => by
    have e' := Option.some.inj e
    subst e' h1
    exact ⟨v, rfl, h2⟩
  | _ :: ds, _, i + 1, d, ⟨v, r, h1, _, h3⟩, e => by
    subst h1
    obtain ⟨u, q1, q2⟩ := VRs.get (i := i) h3 (by simpa using e)
    exact ⟨u, by simpa using q1, q2⟩
theorem VRs.app {w : Wd} : ∀ {ds es : List Val} {vs us : List V}, VRs G w ds vs → VRs G w es us → VRs G w (ds ++ es) (vs ++ us)
  | [], _, _, _, h, k => by rw [show _ = _ from h]; exact k
  | _ :: ds, _, _, _, ⟨v, r, h1, h2, h3⟩, k => by
    subst h1
    exact ⟨v, _, rfl, h2, VRs.app h3 k⟩
theorem VRs.set {w : Wd} : ∀ {ds : List Val} {vs : List V} (i : Nat) {x : Val} {v : V}, VRs G w ds vs → VR G w x v → VRs G w (ds.set i x) (vs.set i v)
  | [], _, _, _, _, h, _ => by rw [show _ = _ from h]; simp [VRs]
  | _ :: ds, _, 0, _, _, ⟨v, r, h1, h2, h3⟩, k => by subst h1; exact ⟨_, _, rfl, k, h3⟩
  | _ :: ds, _, i + 1, _, _, ⟨v, r, h1, h2, h3⟩, k => by subst h1; exact ⟨_, _, rfl, h2, VRs.set i h3 k⟩
theorem VRs.erase {w : Wd} : ∀ {ds : List Val} {vs : List V} (i : Nat), VRs G w ds vs → VRs G w (ds.eraseIdx i) (vs.eraseIdx i)
  | [], _, _, h => by rw [show _ = _ from h]; simp [VRs]
  | _ :: ds, _, 0, ⟨v, r, h1, h2, h3⟩ => by subst h1; exact h3
  | _ :: ds, _, i + 1, ⟨v, r, h1, h2, h3⟩ => by subst h1; exact ⟨_, _, rfl, h2, VRs.erase i h3⟩
theorem VRs.dl {w : Wd} : ∀ {ds : List Val} {vs : List V}, VRs G w ds vs → VRs G w ds.dropLast vs.dropLast
  | [], _, h => by rw [show _ = _ from h]; simp [VRs]
  | [_], _, ⟨v, r, h1, h2, h3⟩ => by subst h1; rw [show _ = _ from h3]; simp [VRs]
  | _ :: b :: ds, _, ⟨v, r, h1, h2, ⟨u, q, k1, k2, k3⟩⟩ => by
    subst h1 k1
    exact ⟨v, _, rfl, h2, VRs.dl ⟨u, q, rfl, k2, k3⟩⟩
theorem VRs.take {w : Wd} : ∀ {ds : List Val} {vs : List V} (n : Nat), VRs G w ds vs → VRs G w (ds.take n) (vs.take n)
  | [], _, n, h => by rw [show _ = _ from h]; simp [VRs]
  | _ :: ds, _, 0, ⟨v, r, h1, h2, h3⟩ => by simp [VRs]
  | _ :: ds, _, n + 1, ⟨v, r, h1, h2, h3⟩ => by
    subst h1
    exact ⟨v, _, rfl, h2, VRs.take n h3⟩
theorem VRs.drop {w : Wd} : ∀ {ds : List Val} {vs : List V} (n : Nat), VRs G w ds vs → VRs G w (ds.drop n) (vs.drop n)
  | [], _, n, h => by rw [show _ = _ from h]; simp [VRs]
  | _ :: ds, _, 0, h => h
  | _ :: ds, _, n + 1, ⟨v, r, h1, h2, h3⟩ => by
    subst h1
    exact VRs.drop n h3
theorem VRs.rep {w : Wd} {x : Val} {v : V} (h : VR G w x v) : ∀ n : Nat, VRs G w (List.replicate n x) (List.replicate n v)
  | 0 => rfl
  | n + 1 => ⟨v, _, rfl, h, VRs.rep h n⟩
theorem Reps.vrs {w : Wd} : ∀ {ds : List D} {vs : List V}, Reps G w.F ds vs → VRs G w (ds.map Val.d) vs
  | [], _, h => h
  | _ :: _, _, ⟨v, r, h1, h2, h3⟩ => ⟨v, r, h1, h2, Reps.vrs h3⟩
/-- values that are plain data -/
def datas : List Val → Option (List D)
  | [] => some []
  | .d x :: r => (datas r).map (x :: ·)
  | .r _ :: _ => none
theorem VRs.reps {w : Wd} : ∀ {xs : List Val} {ds : List D} {vs : List V}, datas xs = some ds → VRs G w xs vs → Reps G w.F ds vs
  | [], _, _, e, h => by cases e; exact h
  | .d x :: r, ds, _, e, ⟨v, q, h1, h2, h3⟩ => by
    unfold datas at e
    cases e1 : datas r with
    | none => rw [e1] at e; cases e
    | some es =>
      rw [e1] at e
      cases e
      exact ⟨v, q, h1, h2, VRs.reps e1 h3⟩
  | .r _ :: _, _, _, e, _ => by cases e
theorem datas_map : ∀ ds : List D, datas (ds.map Val.d) = some ds
  | [] => rfl
  | d :: r => by show (datas (r.map Val.d)).map (d :: ·) = _; rw [datas_map r]; rfl
theorem datas_app : ∀ {xs ys : List Val} {a b : List D}, datas xs = some a → datas ys = some b → datas (xs ++ ys) = some (a ++ b)
  | [], _, _, _, h, k => by cases h; exact k
  | .d x :: r, _, _, _, h, k => by
    unfold datas at h
    cases e : datas r with
    | none => rw [e] at h; cases h
    | some es =>
      rw [e] at h
      cases h
      show (datas (r ++ _)).map (x :: ·) = _
      rw [datas_app e k]
      rfl
  | .r _ :: _, _, _, _, h, _ => by cases h

/-! ### objects of the store -/
def ObR (G : Gx) (w : Wd) (H : Hp) (a : Addr) : Ob → Prop
  | .lst xs => w.F a = none ∧ ∃ vs, H a = some (.lst vs) ∧ VRs G w xs vs
  | .dct ks xs => w.F a = none ∧ ∃ vs, H a = some (.dK (ks.zip vs)) ∧ ks.length = vs.length ∧ VRs G w xs vs
  | .ins C ks xs => w.F a = none ∧ ∃ dx vs, H a = some (.ins (G.cA C) dx (ks.zip vs)) ∧ ks.length = vs.length ∧ VRs G w xs vs
  | .dead => True
structure Rl (G : Gx) (w : Wd) (H : Hp) (S : Store) : Prop where
  n : w.n = S.length
  fz : Same w.F H
  tp : Same w.T H
  tl : ∀ i o, S[i]? = some o → o ≠ .dead → w.T (w.ι i) = none
  tf : ∀ a u, w.T a = some u → w.F a = none
  ob : ∀ i o, S[i]? = some o → ObR G w H (w.ι i) o
  inj : ∀ i j o p, S[i]? = some o → S[j]? = some p → o ≠ .dead → p ≠ .dead → w.ι i = w.ι j → i = j
def EnvR (G : Gx) (w : Wd) (env : Env) (σ : St) : Prop := env.length = σ.length ∧ ∀ (i : Nat) (x : Val), env[i]? = some (some x) → ∃ v, σ[i]? = some (some v) ∧ VR G w x v
theorem EnvR.mono {w w' : Wd} (l : w.le w') {env : Env} {σ : St} (h : EnvR G w env σ) : EnvR G w' env σ := ⟨h.1, fun i x e => let ⟨v, h1, h2⟩ := h.2 i x e; ⟨v, h1, h2.mono l⟩⟩
theorem EnvR.set {w : Wd} {env : Env} {σ : St} {x : Val} {v : V} (h : EnvR G w env σ) (i : Nat) (r : VR G w x v) : EnvR G w (env.set i (some x)) (σ.set i (some v)) := by
  refine ⟨by rw [List.length_set, List.length_set]; exact h.1, fun j y e => ?_⟩
  by_cases hj : i = j
  · subst hj
    by_cases hl : i < env.length
    · rw [List.getElem?_set_self hl] at e
      cases e
      exact ⟨v, List.getElem?_set_self (by rw [← h.1]; exact hl), r⟩
    · rw [List.getElem?_eq_none (by simpa using hl)] at e
      cases e
  · rw [List.getElem?_set_ne hj] at e
    obtain ⟨u, h1, h2⟩ := h.2 j y e
    exact ⟨u, by rw [List.getElem?_set_ne hj]; exact h1, h2⟩
theorem ObR.live {w : Wd} {H : Hp} {a : Addr} {o : Ob} (h : ObR G w H a o) (l : o ≠ .dead) : w.F a = none ∧ ∃ u, H a = some u ∧ Mut (some u) := by
  cases o with
  | lst xs => obtain ⟨h1, vs, h2, _⟩ := h; exact ⟨h1, _, h2, trivial⟩
  | dct ks xs => obtain ⟨h1, vs, h2, _⟩ := h; exact ⟨h1, _, h2, trivial⟩
  | ins C ks xs => obtain ⟨h1, dx, vs, h2, _⟩ := h; exact ⟨h1, _, h2, trivial⟩
  | dead => exact absurd rfl l
/-- an object's relation leans on its own address alone -/
theorem ObR.keep {w w' : Wd} {H H' : Hp} {a : Addr} {o : Ob} (h : ObR G w H a o) (l : w.le w') (e : o ≠ .dead → H' a = H a) (f : o ≠ .dead → w'.F a = none) : ObR G w' H' a o := by
  cases o with
  | lst xs => obtain ⟨h1, vs, h2, h3⟩ := h; exact ⟨f (by simp), vs, by rw [e (by simp)]; exact h2, h3.mono l⟩
  | dct ks xs => obtain ⟨h1, vs, h2, h3, h4⟩ := h; exact ⟨f (by simp), vs, by rw [e (by simp)]; exact h2, h3, h4.mono l⟩
  | ins C ks xs => obtain ⟨h1, dx, vs, h2, h3, h4⟩ := h; exact ⟨f (by simp), dx, vs, by rw [e (by simp)]; exact h2, h3, h4.mono l⟩
  | dead => trivial
/-- a new object that is no one's -/
theorem Rl.laid {w : Wd} {H : Hp} {S : Store} {p : Addr} {o : HO} (R : Rl G w H S) (n : H p = none) : Rl G w (upd H p o) S :=
  ⟨R.n, R.fz.trans fun b u e => by rw [upd_ne (ne_of_none e n)]; exact e, R.tp.trans fun b u e => by rw [upd_ne (ne_of_none e n)]; exact e, R.tl, R.tf, fun i q e => (R.ob i q e).keep (Wd.le.refl w) (fun l => by
    obtain ⟨_, u, h2, _⟩ := (R.ob i q e).live l
    exact upd_ne (ne_of_none h2 n)) (fun l => ((R.ob i q e).live l).1), R.inj⟩
/-- an object of no one's becomes frozen -/
def Wd.frz (w : Wd) (p : Addr) (o : HO) : Wd := { w with F := upd w.F p o }
theorem Wd.frz_le {w : Wd} {p : Addr} {o : HO} (h : w.F p = none) : w.le (w.frz p o) := ⟨fun b u e => by
  show upd w.F p o b = some u
  rw [upd_ne (ne_of_none e h)]
  exact e, fun _ _ => rfl, Nat.le_refl _, rfl⟩
theorem Rl.freeze {w : Wd} {H : Hp} {S : Store} {p : Addr} {o : HO} (R : Rl G w H S) (h : H p = some o) (f : w.F p = none) (nl : ∀ i q, S[i]? = some q → q ≠ Ob.dead → w.ι i ≠ p) (nt : w.T p = none) : Rl G (w.frz p o) H S :=
  ⟨R.n, fun b u e => by
    by_cases hb : b = p
    · subst hb
      have e' : upd w.F b o b = some u := e
      rw [upd_same] at e'
      cases e'
      exact h
    · have e' : upd w.F p o b = some u := e
      rw [upd_ne hb] at e'
      exact R.fz b u e', R.tp, R.tl, fun a u e => by
    show upd w.F p o a = none
    rw [upd_ne (ne_of_none e nt)]
    exact R.tf a u e, fun i q e => (R.ob i q e).keep (Wd.frz_le f) (fun _ => rfl) (fun l => by
        show upd w.F p o (w.ι i) = none
        rw [upd_ne (nl i q e l)]
        exact ((R.ob i q e).live l).1), R.inj⟩
/-- a new object joins the store -/
def Wd.join (w : Wd) (p : Addr) : Wd := { w with ι := fun i => if i = w.n then p else w.ι i, n := w.n + 1 }
theorem Wd.join_le {w : Wd} {p : Addr} : w.le (w.join p) := ⟨Same.refl _, fun i hi => if_neg (Nat.ne_of_lt hi), Nat.le_succ _, rfl⟩
theorem Rl.joins {w : Wd} {H : Hp} {S : Store} {p : Addr} {o : Ob} (R : Rl G w H S) (h : ObR G w H p o) (nl : ∀ i q, S[i]? = some q → q ≠ Ob.dead → w.ι i ≠ p) (nt : w.T p = none) : Rl G (w.join p) H (S ++ [o]) := by
  have at_ : ∀ i q, (S ++ [o])[i]? = some q → (i < S.length ∧ S[i]? = some q ∧ (w.join p).ι i = w.ι i) ∨ (i = S.length ∧ q = o ∧ (w.join p).ι i = p) := fun i q e => by
    by_cases hi : i < S.length
    · rw [List.getElem?_append_left hi] at e
      exact .inl ⟨hi, e, if_neg (by rw [R.n]; exact Nat.ne_of_lt hi)⟩
    · have hl := (List.getElem?_eq_some_iff.mp e).1
      rw [List.length_append, List.length_singleton] at hl
      have : i = S.length := by omega
      subst this
      rw [List.getElem?_append_right (Nat.le_refl _), Nat.sub_self] at e
      exact .inr ⟨rfl, (Option.some.inj e).symm, if_pos R.n.symm⟩
  refine ⟨?_, R.fz, R.tp, fun i q e l => ?_, R.tf, fun i q e => ?_, fun i j q r e1 e2 l1 l2 e3 => ?_⟩
  · show w.n + 1 = _
    rw [R.n, List.length_append, List.length_singleton]
  · rcases at_ i q e with ⟨h1, h2, h3⟩ | ⟨h1, h2, h3⟩
    · rw [h3]; exact R.tl i q h2 l
    · rw [h3]; exact nt
  · rcases at_ i q e with ⟨h1, h2, h3⟩ | ⟨h1, h2, h3⟩
    · rw [h3]
      exact (R.ob i q h2).keep Wd.join_le (fun _ => rfl) (fun l => ((R.ob i q h2).live l).1)
    · rw [h3, h2]
      exact h.keep Wd.join_le (fun _ => rfl) (fun l => (h.live l).1)
  · rcases at_ i q e1 with ⟨h1, h2, h3⟩ | ⟨h1, h2, h3⟩
    · rcases at_ j r e2 with ⟨k1, k2, k3⟩ | ⟨k1, k2, k3⟩
      · rw [h3, k3] at e3
        exact R.inj i j q r h2 k2 l1 l2 e3
      · rw [h3, k3] at e3
        exact absurd e3 (nl i q h2 l1)
    · rcases at_ j r e2 with ⟨k1, k2, k3⟩ | ⟨k1, k2, k3⟩
      · rw [h3, k3] at e3
        exact absurd e3.symm (nl j r k2 l2)
      · rw [h1, k1]
/-- an object of the store is written -/
theorem Rl.write {w : Wd} {H : Hp} {S : Store} {i : Nat} {o o' : Ob} {u : HO} (R : Rl G w H S) (e : S[i]? = some o) (l : o ≠ .dead) (h : ObR G w (upd H (w.ι i) u) (w.ι i) o') : Rl G w (upd H (w.ι i) u) (S.set i o') := by
  have hi := (List.getElem?_eq_some_iff.mp e).1
  obtain ⟨f0, u0, hu0, _⟩ := (R.ob i o e).live l
  have old : ∀ m x, (S.set i o')[m]? = some x → x ≠ Ob.dead → ∃ y, S[m]? = some y ∧ y ≠ Ob.dead := fun m x zx lx => by
    by_cases hm : i = m
    · subst hm
      exact ⟨o, e, l⟩
    · rw [List.getElem?_set_ne hm] at zx
      exact ⟨x, zx, lx⟩
  refine ⟨by rw [List.length_set]; exact R.n, fun b q z => ?_, fun b q z => ?_, fun j q z lq => ?_, R.tf, fun j q z => ?_, fun j k q r z1 z2 l1 l2 z3 => ?_⟩
  · rw [upd_ne (ne_of_none z f0)]
    exact R.fz b q z
  · rw [upd_ne (ne_of_none z (R.tl i o e l))]
    exact R.tp b q z
  · obtain ⟨y, p1, p2⟩ := old j q z lq
    exact R.tl j y p1 p2
  · by_cases hj : i = j
    · subst hj
      rw [List.getElem?_set_self hi] at z
      cases z
      exact h
    · rw [List.getElem?_set_ne hj] at z
      refine (R.ob j q z).keep (Wd.le.refl w) (fun lq => upd_ne fun z2 => hj (R.inj i j o q e z l lq z2.symm)) (fun lq => ((R.ob j q z).live lq).1)
  · obtain ⟨y1, p1, p2⟩ := old j q z1 l1
    obtain ⟨y2, p3, p4⟩ := old k r z2 l2
    exact R.inj j k y1 y2 p1 p3 p2 p4 z3
/-- .. and goes -/
theorem Rl.kill {w : Wd} {H : Hp} {S : Store} (R : Rl G w H S) (i : Nat) : Rl G w H (S.set i .dead) := by
  have old : ∀ m x, (S.set i Ob.dead)[m]? = some x → x ≠ Ob.dead → S[m]? = some x := fun m x zx lx => by
    by_cases hm : i = m
    · subst hm
      by_cases hl : i < S.length
      · rw [List.getElem?_set_self hl] at zx
        cases zx
        exact absurd rfl lx
      · rw [List.getElem?_eq_none (by simpa using hl)] at zx
        cases zx
    · rw [List.getElem?_set_ne hm] at zx
      exact zx
  refine ⟨by rw [List.length_set]; exact R.n, R.fz, R.tp, fun j q z lq => R.tl j q (old j q z lq) lq, R.tf, fun j q z => ?_, fun j k q r z1 z2 l1 l2 z3 => ?_⟩
  · by_cases hj : i = j
    · subst hj
      by_cases hl : i < S.length
      · rw [List.getElem?_set_self hl] at z
        cases z
        trivial
      · rw [List.getElem?_eq_none (by simpa using hl)] at z
        cases z
    · rw [List.getElem?_set_ne hj] at z
      exact R.ob j q z
  · exact R.inj j k q r (old j q z1 l1) (old k r z2 l2) l1 l2 z3
/-- a value's, an object's references lie below n -/
def vLt (n : Nat) : Val → Bool
  | .d _ => true
  | .r i => decide (i < n)
def obLt (n : Nat) : Ob → Bool
  | .lst xs => xs.all (vLt n)
  | .dct _ xs => xs.all (vLt n)
  | .ins _ _ xs => xs.all (vLt n)
  | .dead => true
/-- the store cut back -/
def Wd.cut (w : Wd) (n : Nat) : Wd := { w with n := n }
theorem VR.cut {w : Wd} {n : Nat} {x : Val} {v : V} (h : VR G w x v) (l : vLt n x = true) : VR G (w.cut n) x v := by
  cases x with
  | d x => exact h
  | r i => exact ⟨of_decide_eq_true l, h.2⟩
theorem VRs.cut {w : Wd} {n : Nat} : ∀ {xs : List Val} {vs : List V}, VRs G w xs vs → xs.all (vLt n) = true → VRs G (w.cut n) xs vs
  | [], _, h, _ => h
  | x :: xs, _, ⟨v, r, h1, h2, h3⟩, l => by
    rw [List.all_cons, Bool.and_eq_true] at l
    exact ⟨v, r, h1, h2.cut l.1, VRs.cut h3 l.2⟩
theorem VRs.lt {w : Wd} : ∀ {xs : List Val} {vs : List V}, VRs G w xs vs → xs.all (vLt w.n) = true
  | [], _, _ => rfl
  | x :: xs, _, ⟨v, r, h1, h2, h3⟩ => by
    rw [List.all_cons, VRs.lt h3, Bool.and_true]
    cases x with
    | d x => rfl
    | r i => exact decide_eq_true h2.1
theorem ObR.lt {w : Wd} {H : Hp} {a : Addr} {o : Ob} (h : ObR G w H a o) : obLt w.n o = true := by
  cases o with
  | lst xs => obtain ⟨_, _, _, h⟩ := h; exact h.lt
  | dct ks xs => obtain ⟨_, _, _, _, h⟩ := h; exact h.lt
  | ins C ks xs => obtain ⟨_, _, _, _, _, h⟩ := h; exact h.lt
  | dead => rfl
theorem ObR.cut {w : Wd} {H : Hp} {a : Addr} {o : Ob} {n : Nat} (h : ObR G w H a o) (l : obLt n o = true) : ObR G (w.cut n) H a o := by
  cases o with
  | lst xs => obtain ⟨h1, vs, h2, h⟩ := h; exact ⟨h1, vs, h2, h.cut l⟩
  | dct ks xs => obtain ⟨h1, vs, h2, h3, h⟩ := h; exact ⟨h1, vs, h2, h3, h.cut l⟩
  | ins C ks xs => obtain ⟨h1, dx, vs, h2, h3, h⟩ := h; exact ⟨h1, dx, vs, h2, h3, h.cut l⟩
  | dead => trivial
/-- what may be forgotten at a def's end: the objects it made, where none of the elder ones names them -/
def cutOk (S S' : Store) : Prop := S.length ≤ S'.length ∧ ∀ i o, i < S.length → S'[i]? = some o → S[i]? = some o ∨ obLt S.length o = true
theorem Rl.cut {w w' : Wd} {H H' : Hp} {S S' : Store} (R : Rl G w H S) (R' : Rl G w' H' S') (l : w.le w') (c : cutOk S S') : Rl G (w'.cut S.length) H' (S'.take S.length) ∧ w.le (w'.cut S.length) := by
  have at_ : ∀ i o, (S'.take S.length)[i]? = some o → i < S.length ∧ S'[i]? = some o := fun i o e => by
    have hi := (List.getElem?_eq_some_iff.mp e).1
    rw [List.length_take] at hi
    have hi2 : i < S.length := by omega
    rw [List.getElem?_take_of_lt hi2] at e
    exact ⟨hi2, e⟩
  refine ⟨⟨?_, R'.fz, R'.tp, fun i o e lo => R'.tl i o (at_ i o e).2 lo, R'.tf, fun i o e => ?_, fun i j o p e1 e2 l1 l2 e3 => ?_⟩, l.1, l.2.1, ?_, l.2.2.2⟩
  · show S.length = _
    rw [List.length_take]
    have := c.1
    omega
  · obtain ⟨hi, e'⟩ := at_ i o e
    refine (R'.ob i o e').cut ?_
    rcases c.2 i o hi e' with z | z
    · rw [← R.n]; exact (R.ob i o z).lt
    · exact z
  · exact R'.inj i j o p (at_ i o e1).2 (at_ j p e2).2 l1 l2 e3
  · show w.n ≤ S.length
    rw [R.n]
    exact Nat.le_refl _
/-- the same world, with other temporaries -/
abbrev Wd.wT (w : Wd) (t : Hp) : Wd := { w with T := t }
theorem VR.wT {w : Wd} {t : Hp} : ∀ {x : Val} {v : V}, VR G w x v → VR G (w.wT t) x v
  | .d _, _, h => h
  | .r _, _, h => h
theorem VRs.wT {w : Wd} {t : Hp} : ∀ {xs : List Val} {vs : List V}, VRs G w xs vs → VRs G (w.wT t) xs vs
  | [], _, h => h
  | _ :: _, _, ⟨v, r, h1, h2, h3⟩ => ⟨v, r, h1, h2.wT, VRs.wT h3⟩
theorem EnvR.wT {w : Wd} {t : Hp} {env : Env} {σ : St} (h : EnvR G w env σ) : EnvR G (w.wT t) env σ := ⟨h.1, fun i x e => let ⟨v, h1, h2⟩ := h.2 i x e; ⟨v, h1, h2.wT⟩⟩
theorem ObR.wT {w : Wd} {t : Hp} {H H' : Hp} {a : Addr} {o : Ob} (h : ObR G w H a o) (e : o ≠ .dead → H' a = H a) : ObR G (w.wT t) H' a o := by
  cases o with
  | lst xs => obtain ⟨h1, vs, h2, h3⟩ := h; exact ⟨h1, vs, by rw [e (by simp)]; exact h2, h3.wT⟩
  | dct ks xs => obtain ⟨h1, vs, h2, h3, h4⟩ := h; exact ⟨h1, vs, by rw [e (by simp)]; exact h2, h3, h4.wT⟩
  | ins C ks xs => obtain ⟨h1, dx, vs, h2, h3, h4⟩ := h; exact ⟨h1, dx, vs, by rw [e (by simp)]; exact h2, h3, h4.wT⟩
  | dead => trivial
theorem Rl.untmp {w : Wd} {H : Hp} {S : Store} {t : Hp} (R : Rl G w H S) (s : Same t w.T) : Rl G (w.wT t) H S :=
  ⟨R.n, R.fz, s.trans R.tp, fun i o e l => s.free (R.tl i o e l), fun a u e => R.tf a u (s a u e), fun i o e => (R.ob i o e).wT fun _ => rfl, R.inj⟩
/-- a temporary is made, or changed -/
theorem Rl.tmp {w : Wd} {H : Hp} {S : Store} {p : Addr} {o : HO} (R : Rl G w H S) (f : w.F p = none) (nl : ∀ i q, S[i]? = some q → q ≠ Ob.dead → w.ι i ≠ p) : Rl G (w.wT (upd w.T p o)) (upd H p o) S :=
  ⟨R.n, fun b u e => by rw [upd_ne (ne_of_none e f)]; exact R.fz b u e, fun b u e => by
    by_cases hb : b = p
    · subst hb
      have e' : upd w.T b o b = some u := e
      rw [upd_same] at e' ⊢
      exact e'
    · have e' : upd w.T p o b = some u := e
      rw [upd_ne hb] at e' ⊢
      exact R.tp b u e', fun i q e l => by
    show upd w.T p o (w.ι i) = none
    rw [upd_ne (nl i q e l)]
    exact R.tl i q e l, fun a u e => by
    by_cases ha : a = p
    · subst ha
      exact f
    · have e' : upd w.T p o a = some u := e
      rw [upd_ne ha] at e'
      exact R.tf a u e', fun i q e => (R.ob i q e).wT fun l => upd_ne (nl i q e l), R.inj⟩
/-- later, whatever the temporaries -/
def Wd.le0 (w w' : Wd) : Prop := Same w.F w'.F ∧ (∀ i, i < w.n → w'.ι i = w.ι i) ∧ w.n ≤ w'.n
theorem Wd.le.le0 {w w' : Wd} (h : w.le w') : w.le0 w' := ⟨h.1, h.2.1, h.2.2.1⟩
theorem Wd.le0.refl (w : Wd) : w.le0 w := (Wd.le.refl w).le0
theorem Wd.le0.trans {a b c : Wd} (h : a.le0 b) (k : b.le0 c) : a.le0 c := ⟨h.1.trans k.1, fun i hi => (k.2.1 i (Nat.lt_of_lt_of_le hi h.2.2)).trans (h.2.1 i hi), Nat.le_trans h.2.2 k.2.2⟩
theorem VR.mono0 {w w' : Wd} (l : w.le0 w') : ∀ {x : Val} {v : V}, VR G w x v → VR G w' x v
  | .d _, _, h => Rep.mono l.1 h
  | .r i, _, ⟨h1, h2⟩ => ⟨Nat.lt_of_lt_of_le h1 l.2.2, by rw [h2, l.2.1 i h1]⟩
theorem VRs.mono0 {w w' : Wd} (l : w.le0 w') : ∀ {xs : List Val} {vs : List V}, VRs G w xs vs → VRs G w' xs vs
  | [], _, h => h
  | _ :: _, _, ⟨v, r, h1, h2, h3⟩ => ⟨v, r, h1, h2.mono0 l, VRs.mono0 l h3⟩
theorem EnvR.mono0 {w w' : Wd} (l : w.le0 w') {env : Env} {σ : St} (h : EnvR G w env σ) : EnvR G w' env σ := ⟨h.1, fun i x e => let ⟨v, h1, h2⟩ := h.2 i x e; ⟨v, h1, h2.mono0 l⟩⟩
end Y

set_option Elab.async false
set_option linter.all false
set_option maxRecDepth 100000
set_option maxHeartbeats 4000000
namespace Y
open PySem PySem.Spec L2
variable {G : Gx} {E : XK} {X : Cx}

/-! ### outcomes -/
def XR (G : Gx) (w : Wd) (e : Exc) (c : Value) (d : Option Addr) (H : Hp) : Prop := c = .ref (G.cA e.cls)
theorem XR.mono {w w' : Wd} {e : Exc} {c : Value} {d : Option Addr} {H : Hp} (l : w.le w') (h : XR G w e c d H) : XR G w' e c d H := h
def Res (G : Gx) (E : XK) (w : Wd) {α : Type} (o : Option (Ex α × Store)) (P : α → Store → Prop) : Prop := match o with
  | none => False
  | some (.exc e, S') => ∀ c d H' w', w.le w' → Rl G w' H' S' → XR G w' e c d H' → E c d H'
  | some (.ok a, S') => P a S'
theorem Res.imp {w : Wd} {α : Type} {o : Option (Ex α × Store)} {P P' : α → Store → Prop} (h : Res G E w o P) (k : ∀ a S, P a S → P' a S) : Res G E w o P' := by
  match o, h with
  | some (.exc e, S'), h => exact h
  | some (.ok a, S'), h => exact k _ _ h
theorem Res.mono {w w' : Wd} {α : Type} {o : Option (Ex α × Store)} {P P' : α → Store → Prop} (h : Res G E w o P) (l : w.le w') (k : ∀ a S, P a S → P' a S) : Res G E w' o P' := by
  match o, h with
  | some (.exc e, S'), h => exact fun c d H' w2 l2 => h c d H' w2 (l.trans l2)
  | some (.ok a, S'), h => exact k _ _ h
theorem Res.bnd {w : Wd} {α β : Type} {x : M α} {g : α → M β} {S : Store} {P : β → Store → Prop} (h : Res G E w (bnd x g S) P) : Res G E w (x S) (fun a S' => Res G E w (g a S') P) := by
  unfold Y.bnd at h
  cases e : x S with
  | none => rw [e] at h; exact h
  | some p =>
    obtain ⟨o, S'⟩ := p
    rw [e] at h
    cases o with
    | ok a => exact h
    | exc e => exact h
theorem Res.ok {w : Wd} {α : Type} {a : α} {S : Store} {P : α → Store → Prop} (h : Res G E w (ret a S) P) : P a S := h
/-- what is wanted of a value; of a truth value; of a list of values; of a new list that is no one's yet -/
def VP (G : Gx) (w : Wd) (Q : VK) : Val → Store → Prop := fun a S' => ∀ v H' w', w.le w' → Rl G w' H' S' → VR G w' a v → Q v H'
def BP (G : Gx) (w : Wd) (Q : Bool → Hp → Prop) : Bool → Store → Prop := fun b S' => ∀ H' w', w.le w' → Rl G w' H' S' → Q b H'
def AP' (G : Gx) (w : Wd) (Q : List V → Hp → Prop) : List Val → Store → Prop := fun xs S' => ∀ vs H' w', w.le w' → Rl G w' H' S' → VRs G w' xs vs → Q vs H'
def FP (G : Gx) (w : Wd) (Q : VK) : List Val → Store → Prop := fun xs S' => ∀ a vs H' w', w.le w' → Rl G w' H' S' → H' a = some (.lst vs) → w'.F a = none → (∀ i q, S'[i]? = some q → q ≠ Ob.dead → w'.ι i ≠ a) → w'.T a = none → VRs G w' xs vs → Q (.ref a) H'
theorem VP.mono {w w1 : Wd} (l : w.le w1) {Q : VK} {a : Val} {S : Store} (h : VP G w Q a S) : VP G w1 Q a S := fun v H' w' l2 => h v H' w' (l.trans l2)
theorem BP.mono {w w1 : Wd} (l : w.le w1) {Q : Bool → Hp → Prop} {a : Bool} {S : Store} (h : BP G w Q a S) : BP G w1 Q a S := fun H' w' l2 => h H' w' (l.trans l2)
theorem AP'.mono {w w1 : Wd} (l : w.le w1) {Q : List V → Hp → Prop} {a : List Val} {S : Store} (h : AP' G w Q a S) : AP' G w1 Q a S := fun v H' w' l2 => h v H' w' (l.trans l2)
theorem FP.mono {w w1 : Wd} (l : w.le w1) {Q : VK} {a : List Val} {S : Store} (h : FP G w Q a S) : FP G w1 Q a S := fun a v H' w' l2 => h a v H' w' (l.trans l2)

/-! ### the judgements -/
abbrev FA := Env → M (List Val)
abbrev FB := Env → M Bool
def TEx (G : Gx) (E : XK) (f : FE) : TE := fun σ H Q => ∃ w env S, EnvR G w env σ ∧ Rl G w H S ∧ Res G E w (f env S) (VP G w Q)
def TTx (G : Gx) (E : XK) (f : FB) : TT := fun σ H Q => ∃ w env S, EnvR G w env σ ∧ Rl G w H S ∧ Res G E w (f env S) (BP G w Q)
def TAx (G : Gx) (E : XK) (f : FA) : TA := fun σ H Q => ∃ w env S, EnvR G w env σ ∧ Rl G w H S ∧ Res G E w (f env S) (AP' G w Q)
def TFx (G : Gx) (E : XK) (f : FA) : TE := fun σ H Q => ∃ w env S, EnvR G w env σ ∧ Rl G w H S ∧ Res G E w (f env S) (FP G w Q)
abbrev QE (X : Cx) (G : Gx) (E : XK) (e : Expr) (f : FE) : Prop := PE X e (TEx G E f)
abbrev QT (X : Cx) (G : Gx) (E : XK) (e : Expr) (f : FB) : Prop := PT X e (TTx G E f)
abbrev QA (X : Cx) (G : Gx) (E : XK) (es : List Expr) (f : FA) : Prop := PA X es (TAx G E f)
abbrev QF (X : Cx) (G : Gx) (E : XK) (e : Expr) (f : FA) : Prop := PE X e (TFx G E f)
theorem PE.imp {e : Expr} {t t' : TE} (h : PE X e t) (k : ∀ σ H Q, t' σ H Q → t σ H Q) : PE X e t' := ⟨fun pins s σ H Q I q => h.run pins s σ H Q I (k σ H Q q)⟩
theorem PT.imp {e : Expr} {t t' : TT} (h : PT X e t) (k : ∀ σ H Q, t' σ H Q → t σ H Q) : PT X e t' := ⟨fun pins s σ H Q I q => h.run pins s σ H Q I (k σ H Q q)⟩
theorem PW.imp {e : Expr} {t t' : TT} (h : PW X e t) (k : ∀ σ H Q, t' σ H Q → t σ H Q) : PW X e t' := ⟨fun wh pins s σ H Q I q => h.run wh pins s σ H Q I (k σ H Q q)⟩
theorem PA.imp {e : List Expr} {t t' : TA} (h : PA X e t) (k : ∀ σ H Q, t' σ H Q → t σ H Q) : PA X e t' := ⟨fun pos pins s σ H Q I q => h.run pos pins s σ H Q I (k σ H Q q)⟩
theorem PS.imp {e : Stmt} {t t' : TS} (h : PS X e t) (k : ∀ D σ H, t' D σ H → t D σ H) : PS X e t' := ⟨fun pins s σ H D I q => h.run pins s σ H D I (k D σ H q)⟩
theorem PSs.imp {e : List Stmt} {t t' : TS} (h : PSs X e t) (k : ∀ D σ H, t' D σ H → t D σ H) : PSs X e t' := ⟨fun pins s σ H D I q => h.run pins s σ H D I (k D σ H q)⟩
theorem OpR.imp {f : Value → Value → Sem Value} {r r' : R2} (h : OpR X f r) (k : ∀ x y H Q, r' x y H Q → r x y H Q) : OpR X f r' := fun pins s σ H x y v u Q I a b q => h pins s σ H x y v u Q I a b (k x y H Q q)
/-- a sub-expression in its place -/
theorem TEx.sub {f : FE} {g : Val → M β} {w : Wd} {env : Env} {σ : St} {H : Hp} {S : Store} {P : β → Store → Prop} {R : VK} (hE : EnvR G w env σ) (hR : Rl G w H S) (h : Res G E w (bnd (f env) g S) P)
    (k : ∀ x v H1 w1 S1, w.le w1 → Rl G w1 H1 S1 → VR G w1 x v → Res G E w1 (g x S1) P → R v H1) : TEx G E f σ H R :=
  ⟨w, env, S, hE, hR, h.bnd.imp fun x S1 q v H1 w1 l R1 r => k x v H1 w1 S1 l R1 r (q.mono l fun _ _ z => z)⟩
theorem TTx.sub {f : FB} {g : Bool → M β} {w : Wd} {env : Env} {σ : St} {H : Hp} {S : Store} {P : β → Store → Prop} {R : Bool → Hp → Prop} (hE : EnvR G w env σ) (hR : Rl G w H S) (h : Res G E w (bnd (f env) g S) P)
    (k : ∀ x H1 w1 S1, w.le w1 → Rl G w1 H1 S1 → Res G E w1 (g x S1) P → R x H1) : TTx G E f σ H R :=
  ⟨w, env, S, hE, hR, h.bnd.imp fun x S1 q H1 w1 l R1 => k x H1 w1 S1 l R1 (q.mono l fun _ _ z => z)⟩
theorem TAx.sub {f : FA} {g : List Val → M β} {w : Wd} {env : Env} {σ : St} {H : Hp} {S : Store} {P : β → Store → Prop} {R : List V → Hp → Prop} (hE : EnvR G w env σ) (hR : Rl G w H S) (h : Res G E w (bnd (f env) g S) P)
    (k : ∀ x v H1 w1 S1, w.le w1 → Rl G w1 H1 S1 → VRs G w1 x v → Res G E w1 (g x S1) P → R v H1) : TAx G E f σ H R :=
  ⟨w, env, S, hE, hR, h.bnd.imp fun x S1 q v H1 w1 l R1 r => k x v H1 w1 S1 l R1 r (q.mono l fun _ _ z => z)⟩

/-! ### names, constants -/
def fVar (i : Nat) : FE := fun env => lift ((env[i]?).join)
theorem qe_var {i : Nat} {x : Str} {pos : Pos} (h : PE X (.Name x pos) (tVar i)) : QE X G E (.Name x pos) (fVar i) := PE.imp h fun σ H Q ⟨w, env, S, hE, hR, h⟩ => by
  unfold fVar lift at h
  cases e : env[i]? with
  | none => rw [e] at h; exact h.elim
  | some o =>
    cases o with
    | none => rw [e] at h; exact h.elim
    | some x =>
      rw [e] at h
      obtain ⟨v, h1, h2⟩ := hE.2 i x e
      exact ⟨v, h1, h v H w (Wd.le.refl w) hR h2⟩
def fC (x : D) : FE := fun _ => ret (.d x)
theorem qe_const {e : Expr} {x : D} {v : V} (h : PE X e (tC v)) (r : ∀ H, Rep G H x v) : QE X G E e (fC x) := PE.imp h fun σ H Q ⟨w, env, S, hE, hR, h⟩ => h v H w (Wd.le.refl w) hR (r w.F)
theorem qe_int {i j pos} : QE X G E (.Constant (.int i) j pos) (fC (.int i)) := qe_const pe_int fun _ => rfl
theorem qe_bl {b j pos} : QE X G E (.Constant (.bool b) j pos) (fC (.bl b)) := qe_const pe_bl fun _ => rfl
theorem qe_non {j pos} : QE X G E (.Constant .none j pos) (fC .non) := qe_const pe_non fun _ => rfl
theorem qe_str {x j pos} : QE X G E (.Constant (.str x) j pos) (fC (.str x)) := qe_const pe_str fun _ => rfl
/-- nothing is said of it: it is not run -/
def fStk {α : Type} : Env → M α := fun _ _ => none
theorem qe_stk {e : Expr} : QE X G E e fStk := ⟨fun _ _ _ _ _ _ ⟨_, _, _, _, _, h⟩ => h.elim⟩

/-! ### operators on values -/
def rOp (G : Gx) (E : XK) (op : Val → Val → M Val) : R2 := fun v u H Q => ∃ w S x y, Rl G w H S ∧ VR G w x v ∧ VR G w y u ∧ Res G E w (op x y S) (VP G w Q)
def rOpF (G : Gx) (E : XK) (op : Val → Val → M (List Val)) : R2 := fun v u H Q => ∃ w S x y, Rl G w H S ∧ VR G w x v ∧ VR G w y u ∧ Res G E w (op x y S) (FP G w Q)
def fBin (op : Val → Val → M α) (fa fb : FE) : Env → M α := fun env => bnd (fa env) fun x => bnd (fb env) fun y => op x y
theorem tOp_of {op : Val → Val → M Val} {fa fb : FE} {σ : St} {H : Hp} {Q : VK} (h : TEx G E (fBin op fa fb) σ H Q) : tOp (rOp G E op) (TEx G E fa) (TEx G E fb) σ H Q := by
  obtain ⟨w, env, S, hE, hR, h⟩ := h
  refine TEx.sub hE hR h fun x v H1 w1 S1 l R1 r q => ?_
  refine TEx.sub (hE.mono l) R1 q fun y u H2 w2 S2 l2 R2 r2 q2 => ?_
  exact ⟨w2, S2, x, y, R2, r.mono l2, r2, q2.imp fun _ _ z => (z.mono l).mono l2⟩
theorem tOp_ofF {op : Val → Val → M (List Val)} {fa fb : FE} {σ : St} {H : Hp} {Q : VK} (h : TFx G E (fBin op fa fb) σ H Q) : tOp (rOpF G E op) (TEx G E fa) (TEx G E fb) σ H Q := by
  obtain ⟨w, env, S, hE, hR, h⟩ := h
  refine TEx.sub hE hR h fun x v H1 w1 S1 l R1 r q => ?_
  refine TEx.sub (hE.mono l) R1 q fun y u H2 w2 S2 l2 R2 r2 q2 => ?_
  exact ⟨w2, S2, x, y, R2, r.mono l2, r2, q2.imp fun _ _ z => (z.mono l).mono l2⟩
theorem qe_bin {a b : Expr} {op : Operator} {pos : Pos} {fa fb : FE} {o : Val → Val → M Val} (h : OpR X (binaryOp op) (rOp G E o)) (ha : QE X G E a fa) (hb : QE X G E b fb) : QE X G E (.BinOp a op b pos) (fBin o fa fb) :=
  PE.imp (pe_op h ha hb) fun _ _ _ => tOp_of
theorem qf_bin {a b : Expr} {op : Operator} {pos : Pos} {fa fb : FE} {o : Val → Val → M (List Val)} (h : OpR X (binaryOp op) (rOpF G E o)) (ha : QE X G E a fa) (hb : QE X G E b fb) : QF X G E (.BinOp a op b pos) (fBin o fa fb) :=
  PE.imp (pe_op h ha hb) fun _ _ _ => tOp_ofF
theorem qe_cmp {a b : Expr} {op : CmpOp} {pos : Pos} {fa fb : FE} {o : Val → Val → M Val} (h : OpR X (compareOp op) (rOp G E o)) (ha : QE X G E a fa) (hb : QE X G E b fb) (hm : behindInMarks op b = false) : QE X G E (.Compare a [op] [b] pos) (fBin o fa fb) :=
  PE.imp (pe_cmpR h ha hb hm) fun _ _ _ => tOp_of
/-- as a test -/
def asB : Val → M Bool
  | .d (.bl b) => ret b
  | _ => stk
def fT (f : FE) : FB := fun env => bnd (f env) asB
theorem asB_inv {w : Wd} {x : Val} {S : Store} {P : Bool → Store → Prop} (h : Res G E w (asB x S) P) : ∃ b, x = .d (.bl b) ∧ P b S := by
  cases x with
  | r i => exact h.elim
  | d x =>
    cases x with
    | bl b => exact ⟨b, rfl, h⟩
    | _ => exact h.elim
/-- two ints, or nothing -/
def asI : Val → Option Int
  | .d (.int i) => some i
  | _ => none
theorem asI_inv {x : Val} {i : Int} (h : asI x = some i) : x = .d (.int i) := by
  cases x with
  | r i => cases h
  | d x =>
    cases x with
    | int j => cases h; rfl
    | _ => cases h
theorem TTx.of {f : FE} {σ : St} {H : Hp} {Q : Bool → Hp → Prop} (h : TTx G E (fT f) σ H Q) : TEx G E f σ H (fun x H1 => ∃ k, x = .bl k ∧ Q k H1) := by
  obtain ⟨w, env, S, hE, hR, h⟩ := h
  refine TEx.sub hE hR h fun x v H1 w1 S1 l R1 r q => ?_
  obtain ⟨b, rfl, q⟩ := asB_inv q
  exact ⟨b, r, q _ w1 l R1⟩
theorem qt_cmp {a b : Expr} {op : CmpOp} {pos : Pos} {fa fb : FE} {o : Val → Val → M Val} (h : OpR X (compareOp op) (rOp G E o)) (ha : QE X G E a fa) (hb : QE X G E b fb) (hm : behindInMarks op b = false) : QT X G E (.Compare a [op] [b] pos) (fT (fBin o fa fb)) :=
  PT.imp (pt_cmpR h ha hb hm) fun _ _ _ q => tOp_of (TTx.of q)
theorem qt_val {e : Expr} {f : FE} (h : QE X G E e f) (he : ∀ whole, isTrue e X.env whole = (do let v ← whole; standAt e.pos; holding [v] (truthy v)) := by intro _; rfl) : QT X G E e (fT f) :=
  PT.imp (pt_val h he) fun _ _ _ q => TTx.of q
theorem qt_stk {e : Expr} : QT X G E e fStk := ⟨fun _ _ _ _ _ _ ⟨_, _, _, _, _, h⟩ => h.elim⟩

/-! ints -/
def oI2 (k : Int → Int → M Val) : Val → Val → M Val := fun x y => match asI x, asI y with
  | some i, some j => k i j
  | _, _ => stk
theorem oI2_inv {k : Int → Int → M Val} {x y : Val} {w : Wd} {S : Store} {P : Val → Store → Prop} (h : Res G E w (oI2 k x y S) P) : ∃ i j, x = .d (.int i) ∧ y = .d (.int j) ∧ Res G E w (k i j S) P := by
  unfold oI2 at h
  cases e1 : asI x with
  | none => rw [e1] at h; exact h.elim
  | some i =>
    cases e2 : asI y with
    | none => rw [e1, e2] at h; exact h.elim
    | some j => rw [e1, e2] at h; exact ⟨i, j, asI_inv e1, asI_inv e2, h⟩
def oInt (g : Int → Int → Int) : Val → Val → M Val := oI2 fun i j => ret (.d (.int (g i j)))
def oIntC (C : Int → Int → Bool) (g : Int → Int → Int) : Val → Val → M Val := oI2 fun i j => if C i j = true then ret (.d (.int (g i j))) else stk
def oCmp (g : Int → Int → Bool) : Val → Val → M Val := oI2 fun i j => ret (.d (.bl (g i j)))
theorem opI_of {f : Value → Value → Sem Value} {g : Int → Int → Int} (h : OpR X f (rI0 fun i j => .int (g i j))) : OpR X f (rOp G E (oInt g)) := OpR.imp h fun v u H Q ⟨w, S, x, y, R, r1, r2, q⟩ => by
  obtain ⟨i, j, rfl, rfl, q⟩ := oI2_inv q
  exact ⟨i, j, r1, r2, q.ok _ H w (Wd.le.refl w) R rfl⟩
theorem opIC_of {f : Value → Value → Sem Value} {C : Int → Int → Bool} {C' : Int → Int → Prop} {g : Int → Int → Int} (h : OpR X f (rI C' fun i j => .int (g i j))) (k : ∀ i j, C i j = true → C' i j) : OpR X f (rOp G E (oIntC C g)) := OpR.imp h fun v u H Q ⟨w, S, x, y, R, r1, r2, q⟩ => by
  obtain ⟨i, j, rfl, rfl, q2⟩ := oI2_inv q
  by_cases c : C i j = true
  · rw [if_pos c] at q2
    exact ⟨i, j, r1, r2, k i j c, q2.ok _ H w (Wd.le.refl w) R rfl⟩
  · rw [if_neg c] at q2
    exact q2.elim
theorem opB_of {f : Value → Value → Sem Value} {g : Int → Int → Bool} (h : OpR X f (rI0 fun i j => .bl (g i j))) : OpR X f (rOp G E (oCmp g)) := OpR.imp h fun v u H Q ⟨w, S, x, y, R, r1, r2, q⟩ => by
  obtain ⟨i, j, rfl, rfl, q⟩ := oI2_inv q
  exact ⟨i, j, r1, r2, q.ok _ H w (Wd.le.refl w) R rfl⟩
def cMul (i j : Int) : Bool := (decide (-(2 ^ 64) < i) && decide (i < 2 ^ 64)) || (decide (-(2 ^ 64) < j) && decide (j < 2 ^ 64))
abbrev oAdd := oInt fun i j => i + j
abbrev oSub := oInt fun i j => i - j
abbrev oMul := oIntC cMul fun i j => i * j
abbrev oMod := oIntC (fun _ j => decide (0 < j)) fun i j => i % j
abbrev oDiv := oIntC (fun _ j => decide (0 < j) && decide (j < 1073741824)) fun i j => i / j
abbrev oLt := oCmp fun i j => decide (i < j)
abbrev oLe := oCmp fun i j => decide (i ≤ j)
abbrev oGt := oCmp fun i j => decide (j < i)
abbrev oGe := oCmp fun i j => decide (j ≤ i)
theorem q_add : OpR X (binaryOp .Add) (rOp G E oAdd) := opI_of op_add
theorem q_sub : OpR X (binaryOp .Sub) (rOp G E oSub) := opI_of op_sub
theorem q_mul : OpR X (binaryOp .Mult) (rOp G E oMul) := opIC_of op_mul fun i j c => by
  unfold cMul at c
  simp only [Bool.or_eq_true, Bool.and_eq_true, decide_eq_true_eq] at c
  exact c
theorem q_mod : OpR X (binaryOp .Mod) (rOp G E oMod) := opIC_of op_mod fun i j c => of_decide_eq_true c
theorem q_div : OpR X (binaryOp .FloorDiv) (rOp G E oDiv) := opIC_of op_fdiv fun i j c => by
  simp only [Bool.and_eq_true, decide_eq_true_eq] at c
  exact c
theorem q_lt : OpR X (compareOp .Lt) (rOp G E oLt) := opB_of op_lt
theorem q_le : OpR X (compareOp .LtE) (rOp G E oLe) := opB_of op_le
theorem q_gt : OpR X (compareOp .Gt) (rOp G E oGt) := opB_of op_gt
theorem q_ge : OpR X (compareOp .GtE) (rOp G E oGe) := opB_of op_ge

/-! equality of data -/
mutual
def D.toP : D → Option PyData
  | .non => some .none
  | .bl b => some (.bool b)
  | .int i => some (.int i)
  | .str s => some (.str s)
  | .tup ds => (D.toPs ds).map .tuple
  | .lst ds => (D.toPs ds).map .list
  | .dct _ _ => none
  | .fn _ => none
  | .ro _ => none
def D.toPs : List D → Option (List PyData)
  | [] => some []
  | d :: ds => match D.toP d, D.toPs ds with
    | some a, some b => some (a :: b)
    | _, _ => none
end
mutual
theorem Rep.dp {H H' : Hp} (e : Same H H') : ∀ {d : D} {v : V} {p : PyData}, Rep G H d v → d.toP = some p → Dp G.K H' v p
  | .non, v, p, h, k => by cases k; rw [show v = _ from h]; exact .non
  | .bl b, v, p, h, k => by cases k; rw [show v = _ from h]; exact .bl b
  | .int i, v, p, h, k => by cases k; rw [show v = _ from h]; exact .int i
  | .str s, v, p, h, k => by cases k; rw [show v = _ from h]; exact .str s
  | .tup ds, v, p, ⟨a, vs, h1, h2, h3⟩, k => by
    unfold D.toP at k
    cases q : D.toPs ds with
    | none => rw [q] at k; cases k
    | some ps =>
      rw [q] at k
      cases k
      rw [h1]
      exact .tup (same_sqT e h2) (Reps.dp e h3 q)
  | .lst ds, v, p, ⟨a, vs, h1, h2, h3⟩, k => by
    unfold D.toP at k
    cases q : D.toPs ds with
    | none => rw [q] at k; cases k
    | some ps =>
      rw [q] at k
      cases k
      rw [h1]
      exact .lst (.inl (.inl (e _ _ h2))) (Reps.dp e h3 q)
  | .dct _ _, _, _, _, k => by unfold D.toP at k; cases k
  | .fn _, _, _, _, k => by unfold D.toP at k; cases k
  | .ro _, _, _, _, k => by unfold D.toP at k; cases k
theorem Reps.dp {H H' : Hp} (e : Same H H') : ∀ {ds : List D} {vs : List V} {ps : List PyData}, Reps G H ds vs → D.toPs ds = some ps → DpAll G.K H' vs ps
  | [], vs, ps, h, k => by cases k; rw [show vs = _ from h]; exact .nil
  | d :: ds, vs, ps, ⟨v, r, h1, h2, h3⟩, k => by
    unfold D.toPs at k
    cases q1 : d.toP with
    | none => rw [q1] at k; cases k
    | some a =>
      cases q2 : D.toPs ds with
      | none => rw [q1, q2] at k; cases k
      | some b =>
        rw [q1, q2] at k
        cases k
        rw [h1]
        exact .cons (Rep.dp e h2 q1) (Reps.dp e h3 q2)
end
/-- == where it is told -/
def eqD (a b : D) : Option Bool := match a.toP, b.toP with
  | some p, some q => if (SeqAt.shaped p && SeqAt.shaped q) = true then some (PyData.eqv p q) else none
  | _, _ => none
def asD : Val → Option D
  | .d x => some x
  | .r _ => none
theorem asD_inv {x : Val} {a : D} (h : asD x = some a) : x = .d a := by
  cases x with
  | r i => cases h
  | d x => cases h; rfl
def oEq (neg : Bool) : Val → Val → M Val := fun x y => match asD x, asD y with
  | some a, some b => lift ((eqD a b).map fun k => .d (.bl (k != neg)))
  | _, _ => stk
theorem oEq_inv {neg : Bool} {x y : Val} {w : Wd} {S : Store} {P : Val → Store → Prop} (h : Res G E w (oEq neg x y S) P) : ∃ a b k, x = .d a ∧ y = .d b ∧ eqD a b = some k ∧ P (.d (.bl (k != neg))) S := by
  unfold oEq at h
  cases e1 : asD x with
  | none => rw [e1] at h; exact h.elim
  | some a =>
    cases e2 : asD y with
    | none => rw [e1, e2] at h; exact h.elim
    | some b =>
      rw [e1, e2] at h
      unfold lift at h
      cases e : eqD a b with
      | none => dsimp only at h; rw [e] at h; exact h.elim
      | some k => dsimp only at h; rw [e] at h; exact ⟨a, b, k, asD_inv e1, asD_inv e2, e, h⟩
theorem eqD_dp {a b : D} {k : Bool} (h : eqD a b = some k) : ∃ p q, a.toP = some p ∧ b.toP = some q ∧ SeqAt.shaped p = true ∧ SeqAt.shaped q = true ∧ PyData.eqv p q = k := by
  unfold eqD at h
  cases e1 : a.toP with
  | none => rw [e1] at h; cases h
  | some p =>
    cases e2 : b.toP with
    | none => rw [e1, e2] at h; cases h
    | some q =>
      rw [e1, e2] at h
      dsimp only at h
      split at h
      · rename_i c
        rw [Bool.and_eq_true] at c
        exact ⟨p, q, rfl, rfl, c.1, c.2, Option.some.inj h⟩
      · cases h
theorem q_eq (hK : X.K = G.K) (hu : X.A.units + 64 < cLine) : OpR X (compareOp .Eq) (rOp G E (oEq false)) := OpR.imp (op_eqD hu) fun v u H Q ⟨w, S, x, y, R, r1, r2, q⟩ => by
  obtain ⟨a, b, k, rfl, rfl, e, q⟩ := oEq_inv q
  obtain ⟨p1, p2, e1, e2, s1, s2, e3⟩ := eqD_dp e
  rw [hK]
  exact ⟨p1, p2, Rep.dp R.fz r1 e1, Rep.dp R.fz r2 e2, s1, s2, q _ H w (Wd.le.refl w) R (by rw [e3]; show _ = V.bl (k != false); cases k <;> rfl)⟩
theorem q_ne (hK : X.K = G.K) (hu : X.A.units + 64 < cLine) : OpR X (compareOp .NotEq) (rOp G E (oEq true)) := OpR.imp (op_neD hu) fun v u H Q ⟨w, S, x, y, R, r1, r2, q⟩ => by
  obtain ⟨a, b, k, rfl, rfl, e, q⟩ := oEq_inv q
  obtain ⟨p1, p2, e1, e2, s1, s2, e3⟩ := eqD_dp e
  rw [hK]
  exact ⟨p1, p2, Rep.dp R.fz r1 e1, Rep.dp R.fz r2 e2, s1, s2, q _ H w (Wd.le.refl w) R (by rw [e3]; show _ = V.bl (k != true); cases k <;> rfl)⟩
/-- is None, is not None -/
def isNon : Val → Option Bool
  | .d .non => some true
  | .d (.fn _) => none
  | .d (.ro _) => none
  | _ => some false
theorem isNon_inv {x : Val} {k : Bool} {v : V} {w : Wd} (h : isNon x = some k) (r : VR G w x v) : k = decide (v = .non) := by
  cases x with
  | r i =>
    cases h
    rw [show v = _ from r.2]
    rfl
  | d x =>
    cases x with
    | non => cases h; rw [show v = _ from r]; rfl
    | fn f => cases h
    | ro f => cases h
    | bl b => cases h; rw [show v = _ from r]; rfl
    | int b => cases h; rw [show v = _ from r]; rfl
    | str b => cases h; rw [show v = _ from r]; rfl
    | tup b => cases h; obtain ⟨a, vs, e, _⟩ := r; rw [e]; rfl
    | lst b => cases h; obtain ⟨a, vs, e, _⟩ := r; rw [e]; rfl
    | dct b _ => cases h; obtain ⟨a, vs, e, _⟩ := r; rw [e]; rfl
def fIsN (neg : Bool) (fa : FE) : FE := fun env => bnd (fa env) fun x => lift ((isNon x).map fun k => .d (.bl (k != neg)))
theorem isN_res {neg : Bool} {fa : FE} {σ : St} {H : Hp} {Q : VK} (h : TEx G E (fIsN neg fa) σ H Q) : TEx G E fa σ H fun x H1 => Q (.bl (decide (x = .non) != neg)) H1 := by
  obtain ⟨w, env, S, hE, hR, h⟩ := h
  refine TEx.sub hE hR h fun x v H1 w1 S1 l R1 r q => ?_
  unfold lift at q
  cases e : isNon x with
  | none => rw [e] at q; exact q.elim
  | some k =>
    rw [e] at q
    rw [← isNon_inv e r]
    exact q _ H1 w1 l R1 rfl
theorem qe_isN {a : Expr} {fa : FE} {j pos pos'} (ha : QE X G E a fa) : QE X G E (.Compare a [.Is] [.Constant .none j pos'] pos) (fIsN false fa) :=
  PE.imp (pe_cmp (pc_isN ha)) fun _ _ Q h => (isN_res h : TEx G E fa _ _ _) |> fun ⟨w, env, S, a, b, c⟩ => ⟨w, env, S, a, b, c.imp fun _ _ z v H' w' l R r => by
    have q := z v H' w' l R r
    dsimp only at q
    rw [Bool.bne_false] at q
    exact q⟩
theorem qe_notN {a : Expr} {fa : FE} {j pos pos'} (ha : QE X G E a fa) : QE X G E (.Compare a [.IsNot] [.Constant .none j pos'] pos) (fIsN true fa) :=
  PE.imp (pe_cmp (pc_notN ha)) fun _ _ Q h => (isN_res h : TEx G E fa _ _ _) |> fun ⟨w, env, S, a, b, c⟩ => ⟨w, env, S, a, b, c.imp fun _ _ z v H' w' l R r => by
    have q := z v H' w' l R r
    dsimp only at q
    rw [Bool.bne_true] at q
    exact q⟩
theorem qt_isN {a : Expr} {fa : FE} {j pos pos'} (ha : QE X G E a fa) : QT X G E (.Compare a [.Is] [.Constant .none j pos'] pos) (fT (fIsN false fa)) :=
  PT.imp (pt_cmp (pc_isN ha)) fun _ _ Q h => (isN_res (TTx.of h) : TEx G E fa _ _ _) |> fun ⟨w, env, S, a, b, c⟩ => ⟨w, env, S, a, b, c.imp fun _ _ z v H' w' l R r => by
    have q := z v H' w' l R r
    dsimp only at q
    rw [Bool.bne_false] at q
    exact q⟩
theorem qt_notN {a : Expr} {fa : FE} {j pos pos'} (ha : QE X G E a fa) : QT X G E (.Compare a [.IsNot] [.Constant .none j pos'] pos) (fT (fIsN true fa)) :=
  PT.imp (pt_cmp (pc_notN ha)) fun _ _ Q h => (isN_res (TTx.of h) : TEx G E fa _ _ _) |> fun ⟨w, env, S, a, b, c⟩ => ⟨w, env, S, a, b, c.imp fun _ _ z v H' w' l R r => by
    have q := z v H' w' l R r
    dsimp only at q
    rw [Bool.bne_true] at q
    exact q⟩

/-! ### and, or, not, if else -/
variable {a b c : Expr} {rest : List Expr} {pos : Pos} {fa fb fc : FE} {ga gb : FB}
def fAnd (fa fb : FE) : FE := fun env => bnd (fT fa env) fun k => if k = true then fb env else ret (.d (.bl false))
def fOr (fa fb : FE) : FE := fun env => bnd (fT fa env) fun k => if k = true then ret (.d (.bl true)) else fb env
def fNot (fa : FE) : FE := fun env => bnd (fT fa env) fun k => ret (.d (.bl (!k)))
def gAnd (ga gb : FB) : FB := fun env => bnd (ga env) fun k => if k = true then gb env else ret false
def gOr (ga gb : FB) : FB := fun env => bnd (ga env) fun k => if k = true then ret true else gb env
def gNot (ga : FB) : FB := fun env => bnd (ga env) fun k => ret (!k)
def fIf (gc : FB) (fa fb : Env → M α) : Env → M α := fun env => bnd (gc env) fun k => if k = true then fa env else fb env
theorem qe_one {op} (h : QE X G E a fa) : QE X G E (.BoolOp op [a] pos) fa := pe_one h
theorem subB {f : FE} {g : Bool → M β} {w : Wd} {env : Env} {σ : St} {H : Hp} {S : Store} {P : β → Store → Prop} {R : VK} (hE : EnvR G w env σ) (hR : Rl G w H S) (h : Res G E w (bnd (fT f env) g S) P)
    (k : ∀ b H1 w1 S1, w.le w1 → Rl G w1 H1 S1 → Res G E w1 (g b S1) P → R (.bl b) H1) : TEx G E f σ H R := by
  have h2 := h.bnd
  unfold fT at h2
  refine TEx.sub hE hR h2 fun x v H1 w1 S1 l R1 r q => ?_
  obtain ⟨b, rfl, q2⟩ := asB_inv q
  rw [show v = .bl b from r]
  have q3 : Res G E w (g b S1) P := q2
  exact k b H1 w1 S1 l R1 (q3.mono l fun _ _ z => z)
theorem qe_and (ha : QE X G E a fa) (hb : QE X G E (.BoolOp .And (b :: rest) pos) fb) : QE X G E (.BoolOp .And (a :: b :: rest) pos) (fAnd fa fb) :=
  PE.imp (pe_and ha hb) fun σ H Q ⟨w, env, S, hE, hR, h⟩ => subB hE hR h fun k H1 w1 S1 l R1 q => ⟨k, rfl, by
    cases k with
    | true => rw [if_pos rfl]; exact ⟨w1, env, S1, hE.mono l, R1, q.imp fun _ _ z => z.mono l⟩
    | false => rw [if_neg (by decide)]; exact q _ H1 w1 l R1 rfl⟩
theorem qe_or (ha : QE X G E a fa) (hb : QE X G E (.BoolOp .Or (b :: rest) pos) fb) : QE X G E (.BoolOp .Or (a :: b :: rest) pos) (fOr fa fb) :=
  PE.imp (pe_or ha hb) fun σ H Q ⟨w, env, S, hE, hR, h⟩ => subB hE hR h fun k H1 w1 S1 l R1 q => ⟨k, rfl, by
    cases k with
    | false => rw [if_neg (by decide)]; exact ⟨w1, env, S1, hE.mono l, R1, q.imp fun _ _ z => z.mono l⟩
    | true => rw [if_pos rfl]; exact q _ H1 w1 l R1 rfl⟩
theorem qe_not (ha : QE X G E a fa) : QE X G E (.UnaryOp .Not a pos) (fNot fa) :=
  PE.imp (pe_not ha) fun σ H Q ⟨w, env, S, hE, hR, h⟩ => subB hE hR h fun k H1 w1 S1 l R1 q => ⟨k, rfl, q _ H1 w1 l R1 rfl⟩
abbrev QW (X : Cx) (G : Gx) (E : XK) (e : Expr) (f : FB) : Prop := PW X e (TTx G E f)
theorem qw_and1 (h : QT X G E a ga) : QW X G E (.BoolOp .And [a] pos) ga := pw_and1 h
theorem qw_or1 (h : QT X G E a ga) : QW X G E (.BoolOp .Or [a] pos) ga := pw_or1 h
theorem qw_and (ha : QT X G E a ga) (hb : QW X G E (.BoolOp .And (b :: rest) pos) gb) : QW X G E (.BoolOp .And (a :: b :: rest) pos) (gAnd ga gb) :=
  PW.imp (pw_and ha hb) fun σ H Q ⟨w, env, S, hE, hR, h⟩ => TTx.sub hE hR h fun k H1 w1 S1 l R1 q => by
    cases k with
    | true => rw [if_pos rfl]; exact ⟨w1, env, S1, hE.mono l, R1, q.imp fun _ _ z => z.mono l⟩
    | false => rw [if_neg (by decide)]; exact q H1 w1 l R1
theorem qw_or (ha : QT X G E a ga) (hb : QW X G E (.BoolOp .Or (b :: rest) pos) gb) : QW X G E (.BoolOp .Or (a :: b :: rest) pos) (gOr ga gb) :=
  PW.imp (pw_or ha hb) fun σ H Q ⟨w, env, S, hE, hR, h⟩ => TTx.sub hE hR h fun k H1 w1 S1 l R1 q => by
    cases k with
    | false => rw [if_neg (by decide)]; exact ⟨w1, env, S1, hE.mono l, R1, q.imp fun _ _ z => z.mono l⟩
    | true => rw [if_pos rfl]; exact q H1 w1 l R1
theorem qt_w {f : FB} (h : QW X G E a f) : QT X G E a f := h.pt
theorem qt_not (ha : QT X G E a ga) : QT X G E (.UnaryOp .Not a pos) (gNot ga) :=
  PT.imp (pt_not ha) fun σ H Q ⟨w, env, S, hE, hR, h⟩ => TTx.sub hE hR h fun k H1 w1 S1 l R1 q => q H1 w1 l R1
theorem qe_if (hc : QT X G E c ga) (ha : QE X G E a fa) (hb : QE X G E b fb) : QE X G E (.IfExp c a b pos) (fIf ga fa fb) :=
  PE.imp (pe_ifExp hc ha hb) fun σ H Q ⟨w, env, S, hE, hR, h⟩ => TTx.sub hE hR h fun k H1 w1 S1 l R1 q => by
    cases k with
    | true => rw [if_pos rfl]; exact ⟨w1, env, S1, hE.mono l, R1, q.imp fun _ _ z => z.mono l⟩
    | false => rw [if_neg (by decide)]; exact ⟨w1, env, S1, hE.mono l, R1, q.imp fun _ _ z => z.mono l⟩
theorem qf_if {fa fb : FA} (hc : QT X G E c ga) (ha : QF X G E a fa) (hb : QF X G E b fb) : QF X G E (.IfExp c a b pos) (fIf ga fa fb) :=
  PE.imp (pe_ifExp hc ha hb) fun σ H Q ⟨w, env, S, hE, hR, h⟩ => TTx.sub hE hR h fun k H1 w1 S1 l R1 q => by
    cases k with
    | true => rw [if_pos rfl]; exact ⟨w1, env, S1, hE.mono l, R1, q.imp fun _ _ z => z.mono l⟩
    | false => rw [if_neg (by decide)]; exact ⟨w1, env, S1, hE.mono l, R1, q.imp fun _ _ z => z.mono l⟩
/-- chains: a op b op' c -/
def fChain (o o' : Val → Val → M Val) (fa fb fc : FE) : FE := fun env => bnd (fa env) fun x => bnd (fb env) fun y => bnd (bnd (o x y) asB) fun k => if k = true then bnd (fc env) fun z => o' y z else ret (.d (.bl false))
theorem chain_of {o o' : Val → Val → M Val} {σ : St} {H : Hp} {Q : VK} (h : TEx G E (fChain o o' fa fb fc) σ H Q) : tChain (rOp G E o) (rOp G E o') (TEx G E fa) (TEx G E fb) (TEx G E fc) σ H Q := by
  obtain ⟨w, env, S, hE, hR, h⟩ := h
  refine TEx.sub hE hR h fun x v H1 w1 S1 l R1 r q => ?_
  refine TEx.sub (hE.mono l) R1 q fun y u H2 w2 S2 l2 R2 r2 q2 => ?_
  refine ⟨w2, S2, x, y, R2, r.mono l2, r2, q2.bnd.bnd.imp fun z S3 q3 t H3 w3 l3 R3 r3 => ?_⟩
  obtain ⟨k, rfl, q5⟩ := asB_inv q3
  refine ⟨k, r3, ?_⟩
  cases k with
  | false =>
    rw [if_neg (by decide)] at q5 ⊢
    exact q5.ok _ H3 w3 ((l.trans l2).trans l3) R3 rfl
  | true =>
    rw [if_pos rfl] at q5 ⊢
    have q6 := q5.mono l3 fun _ _ z => z
    refine TEx.sub (hE.mono ((l.trans l2).trans l3)) R3 q6 fun z t H4 w4 S4 l4 R4 r4 q4 => ?_
    exact ⟨w4, S4, y, z, R4, (r2.mono l3).mono l4, r4, q4.imp fun _ _ z => z.mono (((l.trans l2).trans l3).trans l4)⟩
theorem qe_chain {op op' : CmpOp} {o o' : Val → Val → M Val} (ho : OpR X (compareOp op) (rOp G E o)) (ho' : OpR X (compareOp op') (rOp G E o')) (ha : QE X G E a fa) (hb : QE X G E b fb) (hc : QE X G E c fc)
    (hm : lastMarks [op, op'] [b, c] = false := by with_unfolding_all rfl) : QE X G E (.Compare a [op, op'] [b, c] pos) (fChain o o' fa fb fc) := PE.imp (pe_chain ho ho' ha hb hc hm) fun _ _ _ => chain_of
theorem qt_chain {op op' : CmpOp} {o o' : Val → Val → M Val} (ho : OpR X (compareOp op) (rOp G E o)) (ho' : OpR X (compareOp op') (rOp G E o')) (ha : QE X G E a fa) (hb : QE X G E b fb) (hc : QE X G E c fc)
    (hm : lastMarks [op, op'] [b, c] = false := by with_unfolding_all rfl) : QT X G E (.Compare a [op, op'] [b, c] pos) (fT (fChain o o' fa fb fc)) := PT.imp (pt_chain ho ho' ha hb hc hm) fun _ _ _ q => chain_of (TTx.of q)
end Y

set_option Elab.async false
set_option linter.all false
set_option maxRecDepth 100000
set_option maxHeartbeats 4000000
namespace Y
open PySem PySem.Spec L2
variable {G : Gx} {E : XK} {X : Cx}

/-! ### sequences -/
/-- the items of a list (plain, or of the store) -/
def lstV : Val → Store → Option (List Val)
  | .d (.lst ds), _ => some (ds.map .d)
  | .r i, S => match S[i]? with
    | some (.lst xs) => some xs
    | _ => none
  | _, _ => none
/-- of a list or a tuple -/
def seqV : Val → Store → Option (List Val)
  | .d (.tup ds), _ => some (ds.map .d)
  | .d (.ro ns), _ => some (ns.map fun n => .d (.int n))
  | x, S => lstV x S
theorem lstV_of {w : Wd} {H : Hp} {S : Store} {x : Val} {v : V} {xs : List Val} (R : Rl G w H S) (r : VR G w x v) (h : lstV x S = some xs) : ∃ a vs, v = .ref a ∧ H a = some (.lst vs) ∧ VRs G w xs vs := by
  cases x with
  | d x =>
    cases x with
    | lst ds =>
      cases h
      obtain ⟨a, vs, h1, h2, h3⟩ := r
      exact ⟨a, vs, h1, R.fz _ _ h2, Reps.vrs h3⟩
    | _ => cases h
  | r i =>
    unfold lstV at h
    cases e : S[i]? with
    | none => dsimp only at h; rw [e] at h; cases h
    | some o =>
      dsimp only at h
      rw [e] at h
      cases o with
      | lst ys =>
        cases h
        obtain ⟨_, vs, h2, h3⟩ := R.ob i _ e
        exact ⟨_, vs, r.2, h2, h3⟩
      | _ => cases h
theorem ints_vrs {w : Wd} : ∀ ns : List Int, VRs G w (ns.map fun n => .d (.int n)) (ns.map V.int)
  | [] => rfl
  | n :: r => ⟨_, _, rfl, rfl, ints_vrs r⟩
theorem seqV_of {w : Wd} {H : Hp} {S : Store} {x : Val} {v : V} {xs : List Val} (R : Rl G w H S) (r : VR G w x v) (h : seqV x S = some xs) : ∃ a vs, v = .ref a ∧ (SqL G.K H a vs ∨ SqT G.K H a vs) ∧ VRs G w xs vs := by
  have go : lstV x S = some xs → ∃ a vs, v = .ref a ∧ (SqL G.K H a vs ∨ SqT G.K H a vs) ∧ VRs G w xs vs := fun h => by
    obtain ⟨a, vs, h1, h2, h3⟩ := lstV_of R r h
    exact ⟨a, vs, h1, .inl (SqL.of h2), h3⟩
  cases x with
  | r i => exact go h
  | d x =>
    cases x with
    | tup ds =>
      cases h
      obtain ⟨a, vs, h1, h2, h3⟩ := r
      exact ⟨a, vs, h1, .inr (same_sqT R.fz h2), Reps.vrs h3⟩
    | ro ns =>
      cases h
      obtain ⟨a, h1, h2⟩ := r
      exact ⟨a, _, h1, .inl (R.fz.seq h2), ints_vrs ns⟩
    | lst ds => exact go h
    | _ => cases h
/-- a tuple's items -/
def tupV : Val → Option (List D)
  | .d (.tup ds) => some ds
  | _ => none
theorem tupV_of {w : Wd} {H : Hp} {S : Store} {x : Val} {v : V} {ds : List D} (R : Rl G w H S) (r : VR G w x v) (h : tupV x = some ds) : ∃ a vs, v = .ref a ∧ SqT G.K H a vs ∧ Reps G w.F ds vs := by
  cases x with
  | r i => cases h
  | d x =>
    cases x with
    | tup es =>
      cases h
      obtain ⟨a, vs, h1, h2, h3⟩ := r
      exact ⟨a, vs, h1, same_sqT R.fz h2, h3⟩
    | _ => cases h

/-! ### new objects -/
theorem Rl.newF {w : Wd} {H : Hp} {S : Store} {p : Addr} (R : Rl G w H S) (n : H p = none) : w.F p = none := R.fz.free n
theorem Rl.newS {w : Wd} {H : Hp} {S : Store} {p : Addr} (R : Rl G w H S) (n : H p = none) : ∀ i q, S[i]? = some q → q ≠ Ob.dead → w.ι i ≠ p := fun i q e l => by
  obtain ⟨_, u, h2, _⟩ := (R.ob i q e).live l
  exact ne_of_none h2 n
theorem FP.fresh {w w0 : Wd} {H : Hp} {S : Store} {Q : VK} {xs : List Val} {vs : List V} (h : FP G w0 Q xs S) (l : w0.le w) (R : Rl G w H S) (r : VRs G w xs vs) : ∀ p, H p = none → Q (.ref p) (upd H p (.lst vs)) := fun p n =>
  h p vs _ w l (R.laid n) upd_same (R.newF n) (R.newS n) (R.tp.free n) r
theorem VP.tup {w w0 : Wd} {H : Hp} {S : Store} {Q : VK} {ds : List D} {vs : List V} (h : VP G w0 Q (.d (.tup ds)) S) (l : w0.le w) (R : Rl G w H S) (r : Reps G w.F ds vs) : ∀ p, H p = none → Q (.ref p) (upd H p (.tup vs)) := fun p n =>
  have l2 : w.le (w.frz p (.tup vs)) := Wd.frz_le (R.newF n)
  h _ _ (w.frz p (.tup vs)) (l.trans l2) ((R.laid n).freeze upd_same (R.newF n) (R.newS n) (R.tp.free n)) ⟨p, vs, rfl, .inl (.inl upd_same), r.mono l2.1⟩
/-- a new list that is no one's becomes plain data, or an object of the store -/
def frz : List Val → M Val := fun xs => lift ((datas xs).map fun ds => .d (.lst ds))
def new : List Val → M Val := fun xs S => some (.ok (.r S.length), S ++ [.lst xs])
theorem FP.frz {w : Wd} {S : Store} {Q : VK} {xs : List Val} (h : Res G E w (frz xs S) (VP G w Q)) : FP G w Q xs S := fun a vs H' w' l R ha hf hl ht r => by
  unfold Y.frz lift at h
  cases e : datas xs with
  | none => rw [e] at h; exact h.elim
  | some ds =>
    rw [e] at h
    have l2 : w'.le (w'.frz a (.lst vs)) := Wd.frz_le hf
    have r2 := VRs.reps e r
    exact h _ H' (w'.frz a (.lst vs)) (l.trans l2) (R.freeze ha hf hl ht) ⟨a, vs, rfl, upd_same, r2.mono l2.1⟩
theorem FP.new {w : Wd} {S : Store} {Q : VK} {xs : List Val} (h : Res G E w (new xs S) (VP G w Q)) : FP G w Q xs S := fun a vs H' w' l R ha hf hl ht r => by
  have h2 : VP G w Q (.r S.length) (S ++ [.lst xs]) := h
  refine h2 _ H' (w'.join a) (l.trans Wd.join_le) (R.joins ⟨hf, vs, ha, r⟩ hl ht) ⟨?_, ?_⟩
  · show S.length < w'.n + 1
    rw [R.n]
    exact Nat.lt_succ_self _
  · show _ = V.ref (if S.length = w'.n then a else _)
    rw [if_pos R.n.symm]
def fFrz (f : FA) : FE := fun env => bnd (f env) frz
def fNew (f : FA) : FE := fun env => bnd (f env) new
theorem qe_frz {e : Expr} {f : FA} (h : QF X G E e f) : QE X G E e (fFrz f) := PE.imp h fun σ H Q ⟨w, env, S, hE, hR, h⟩ => ⟨w, env, S, hE, hR, h.bnd.imp fun _ _ z => FP.frz z⟩
theorem qe_new {e : Expr} {f : FA} (h : QF X G E e f) : QE X G E e (fNew f) := PE.imp h fun σ H Q ⟨w, env, S, hE, hR, h⟩ => ⟨w, env, S, hE, hR, h.bnd.imp fun _ _ z => FP.new z⟩

/-! ### displays -/
variable {a b c e : Expr} {es : List Expr} {pos : Pos} {fa fb : FE} {fs : FA}
def fNil : FA := fun _ => ret []
def fCons (fa : FE) (fs : FA) : FA := fun env => bnd (fa env) fun x => bnd (fs env) fun xs => ret (x :: xs)
theorem qa_nil : QA X G E [] fNil := PA.imp pa_nil fun σ H Q ⟨w, env, S, hE, hR, h⟩ => h [] H w (Wd.le.refl w) hR rfl
theorem qa_cons (ha : QE X G E e fa) (hr : QA X G E es fs) (hs : starEach (e :: es) X.env = (false, eval e X.env) :: starEach es X.env := by rfl) : QA X G E (e :: es) (fCons fa fs) :=
  PA.imp (pa_cons ha hr hs) fun σ H Q ⟨w, env, S, hE, hR, h⟩ => TEx.sub hE hR h fun x v H1 w1 S1 l R1 r q => TAx.sub (hE.mono l) R1 q fun y u H2 w2 S2 l2 R2 r2 q2 =>
    q2.ok _ H2 w2 (l.trans l2) R2 ⟨v, u, rfl, r.mono l2, r2⟩
def mkTup : List Val → M Val := fun xs => if xs.length ≤ sizeLine then lift ((datas xs).map fun ds => .d (.tup ds)) else stk
theorem mkTup_inv {w : Wd} {S : Store} {xs : List Val} {P : Val → Store → Prop} (h : Res G E w (mkTup xs S) P) : xs.length ≤ sizeLine ∧ ∃ ds, datas xs = some ds ∧ P (.d (.tup ds)) S := by
  unfold mkTup at h
  by_cases c : xs.length ≤ sizeLine
  · rw [if_pos c] at h
    unfold lift at h
    cases e : datas xs with
    | none => rw [e] at h; exact h.elim
    | some ds => rw [e] at h; exact ⟨c, ds, rfl, h⟩
  · rw [if_neg c] at h
    exact h.elim
def fTup (fs : FA) : FE := fun env => bnd (fs env) mkTup
theorem qe_tup {x1} (h : QA X G E es fs) : QE X G E (.Tuple es x1 pos) (fTup fs) := PE.imp (pe_tup h) fun σ H Q ⟨w, env, S, hE, hR, h⟩ => TAx.sub hE hR h fun xs vs H1 w1 S1 l R1 r q => by
  obtain ⟨c, ds, e, q⟩ := mkTup_inv q
  exact ⟨by rw [← r.len]; exact c, q.tup l R1 (VRs.reps e r)⟩
def okL (xs : List Val) : M (List Val) := if xs.length ≤ sizeLine then ret xs else stk
theorem okL_inv {w : Wd} {S : Store} {xs : List Val} {P : List Val → Store → Prop} (h : Res G E w (okL xs S) P) : xs.length ≤ sizeLine ∧ P xs S := by
  unfold okL at h
  by_cases c : xs.length ≤ sizeLine
  · rw [if_pos c] at h
    exact ⟨c, h⟩
  · rw [if_neg c] at h
    exact h.elim
def fLst (fs : FA) : FA := fun env => bnd (fs env) okL
theorem qf_lst (h : QA X G E es fs) : QF X G E (.List es pos) (fLst fs) := PE.imp (pe_lst h) fun σ H Q ⟨w, env, S, hE, hR, h⟩ => TAx.sub hE hR h fun xs vs H1 w1 S1 l R1 r q => by
  obtain ⟨c, q⟩ := okL_inv q
  exact ⟨by rw [← r.len]; exact c, q.fresh l R1 r⟩

/-! ### subscripts -/
theorem VRs.at {w : Wd} {xs : List Val} {vs : List V} {i : Int} {x : Val} (r : VRs G w xs vs) (h : atI xs i = some x) : ∃ v, atI vs i = some v ∧ VR G w x v := by
  unfold atI at h ⊢
  rw [← r.len]
  cases e : ixN xs.length i with
  | none => rw [e] at h; cases h
  | some j => rw [e] at h; exact r.get h
/-- a one-sign text -/
def signAt (z : Str) (i : Int) : Option Str := if z.length ≤ sizeLine then (atI z.cps.toList i).map fun c => ⟨#[c]⟩ else none
def oIx : Val → Val → M Val := fun x y => fun S => match asI y with
  | none => none
  | some i => match x with
    | .d (.str z) => (signAt z i).map fun s => (.ok (.d (.str s)), S)
    | x => match seqV x S with
      | none => none
      | some xs => (atI xs i).map fun x => (.ok x, S)
theorem q_ix (hK : X.K = G.K) : IxR X (rOp G E oIx) := fun value slice pins s σ H v u vv uu Q I rx ry ⟨w, S, x, y, R, r1, r2, q⟩ hs => by
  refine ix_seq value slice pins s σ H v u vv uu Q I rx ry ?_ hs
  unfold oIx at q
  cases e : asI y with
  | none => rw [e] at q; exact q.elim
  | some i =>
    rw [e] at q
    obtain rfl := asI_inv e
    have hu : u = .int i := r2
    have seq : (match seqV x S with
      | none => none
      | some xs => (atI xs i).map fun x => (Ex.ok x, S)) = none ∨ rIx X.K v u H Q ∨ ¬ Res G E w (match seqV x S with
      | none => none
      | some xs => (atI xs i).map fun x => (Ex.ok x, S)) (VP G w Q) := by
      cases e2 : seqV x S with
      | none => exact .inl rfl
      | some xs =>
        dsimp only
        cases e3 : atI xs i with
        | none => exact .inl rfl
        | some z =>
          refine .inr ?_
          by_cases q : VP G w Q z S
          · refine .inl ?_
            obtain ⟨p, vs, h1, h2, h3⟩ := seqV_of R r1 e2
            obtain ⟨t, h4, h5⟩ := h3.at e3
            have q2 := q t H w (Wd.le.refl w) R h5
            rw [hK]
            rcases h2 with h2 | h2
            · exact .inl ⟨p, vs, i, t, h1, hu, h2, h4, q2⟩
            · exact .inr (.inl ⟨p, vs, i, t, h1, hu, h2, h4, q2⟩)
          · exact .inr fun z => q z
    have fin : Res G E w (match seqV x S with
      | none => none
      | some xs => (atI xs i).map fun x => (Ex.ok x, S)) (VP G w Q) → rIx X.K v u H Q := fun q => by
      rcases seq with z | z | z
      · rw [z] at q; exact q.elim
      · exact z
      · exact absurd q z
    cases x with
    | r j => exact fin q
    | d x =>
      cases x with
      | str z =>
        dsimp only at q
        unfold signAt at q
        by_cases c : z.length ≤ sizeLine
        · rw [if_pos c] at q
          cases e3 : atI z.cps.toList i with
          | none => rw [e3] at q; exact q.elim
          | some t =>
            rw [e3] at q
            exact .inr (.inr ⟨z, i, t, r1, hu, c, e3, q _ H w (Wd.le.refl w) R rfl⟩)
        · rw [if_neg c] at q
          exact q.elim
      | _ => exact fin q
theorem qe_ix (hK : X.K = G.K) (ha : QE X G E a fa) (hb : QE X G E b fb) (hs : PlainIx b := by intro _ _; rfl) : QE X G E (.Subscript a b pos) (fBin oIx fa fb) := PE.imp (pe_ix (q_ix hK) ha hb hs) fun _ _ _ => tOp_of

/-! ### slices -/
abbrev FO := Env → M (Option Int)
def TOx (G : Gx) (E : XK) (f : FO) : TO := fun σ H Q => ∃ w env S, EnvR G w env σ ∧ Rl G w H S ∧ Res G E w (f env S) (fun o S' => ∀ H' w', w.le w' → Rl G w' H' S' → Q o H')
abbrev QO (X : Cx) (G : Gx) (E : XK) (e : Option Expr) (f : FO) : Prop := PO X e (TOx G E f)
theorem PO.imp {e : Option Expr} {t t' : TO} (h : PO X e t) (k : ∀ σ H Q, t' σ H Q → t σ H Q) : PO X e t' := by
  obtain ⟨r⟩ := h
  constructor
  intros
  apply r
  · assumption
  · apply k; assumption
def fNo : FO := fun _ => ret none
def fPart (f : FE) : FO := fun env => bnd (f env) fun x => lift ((asI x).map some)
theorem qo_none : QO X G E none fNo := PO.imp po_none fun σ H Q ⟨w, env, S, hE, hR, h⟩ => h H w (Wd.le.refl w) hR
theorem qo_some (h : QE X G E e fa) : QO X G E (some e) (fPart fa) := PO.imp (po_some h) fun σ H Q ⟨w, env, S, hE, hR, h⟩ => TEx.sub hE hR h fun x v H1 w1 S1 l R1 r q => by
  unfold lift at q
  cases e : asI x with
  | none => rw [e] at q; exact q.elim
  | some i =>
    rw [e] at q
    obtain rfl := asI_inv e
    exact ⟨i, r, q H1 w1 l R1⟩
def cutL {α : Type} (xs : List α) (lo hi : Option Int) : List α := (xs.drop (HT.sIx xs.length 0 lo)).take (HT.sIx xs.length xs.length hi - HT.sIx xs.length 0 lo)
theorem cutV_eq (xs : List V) (lo hi : Option Int) : cutV xs lo hi = cutL xs lo hi := rfl
theorem VRs.cutL {w : Wd} {xs : List Val} {vs : List V} (r : VRs G w xs vs) (lo hi : Option Int) : VRs G w (cutL xs lo hi) (Y.cutL vs lo hi) := by
  unfold Y.cutL
  rw [← r.len]
  exact (r.drop _).take _
theorem Reps.cutL {H : Hp} {xs : List D} {vs : List V} (r : Reps G H xs vs) (lo hi : Option Int) : Reps G H (cutL xs lo hi) (Y.cutL vs lo hi) := by
  unfold Y.cutL
  rw [← r.len]
  exact (r.drop _).take _
def fSlT (fa : FE) (lo hi : FO) : FE := fun env => bnd (fa env) fun x => bnd (lo env) fun l => bnd (hi env) fun h => lift ((tupV x).map fun ds => .d (.tup (cutL ds l h)))
theorem TOx.sub {f : FO} {g : Option Int → M β} {w : Wd} {env : Env} {σ : St} {H : Hp} {S : Store} {P : β → Store → Prop} {R : Option Int → Hp → Prop} (hE : EnvR G w env σ) (hR : Rl G w H S) (h : Res G E w (bnd (f env) g S) P)
    (k : ∀ x H1 w1 S1, w.le w1 → Rl G w1 H1 S1 → Res G E w1 (g x S1) P → R x H1) : TOx G E f σ H R :=
  ⟨w, env, S, hE, hR, h.bnd.imp fun x S1 q H1 w1 l R1 => k x H1 w1 S1 l R1 (q.mono l fun _ _ z => z)⟩
theorem whole_cut {α : Type} {xs : List α} {lo hi : Option Int} (h : HT.sIx xs.length 0 lo = 0 ∧ HT.sIx xs.length xs.length hi = xs.length) : cutL xs lo hi = xs := by
  unfold cutL
  rw [h.1, h.2, List.drop_zero, Nat.sub_zero, List.take_length]
theorem qe_slT (hK : X.K = G.K) {lo hi : Option Expr} {p2 : Pos} {fl fh : FO} (ha : QE X G E a fa) (hl : QO X G E lo fl) (hh : QO X G E hi fh) : QE X G E (.Subscript a (.Slice lo hi none p2) pos) (fSlT fa fl fh) :=
  PE.imp (pe_slice sl_tupA ha hl hh) fun σ H Q ⟨w, env, S, hE, hR, h⟩ => TEx.sub hE hR h fun x v H1 w1 S1 l R1 r q => TOx.sub (hE.mono l) R1 q fun lo H2 w2 S2 l2 R2 q2 => TOx.sub (hE.mono (l.trans l2)) R2 q2 fun hi H3 w3 S3 l3 R3 q3 => by
    unfold lift at q3
    cases e : tupV x with
    | none => rw [e] at q3; exact q3.elim
    | some ds =>
      rw [e] at q3
      have q4 : VP G w Q (.d (.tup (cutL ds lo hi))) S3 := q3
      obtain ⟨a, vs, h1, h2, h3⟩ := tupV_of R3 ((r.mono l2).mono l3) e
      rw [hK]
      refine ⟨a, vs, h1, h2, fun hw => ?_, fun _ => ?_⟩
      · have hw' : cutL ds lo hi = ds := whole_cut (by rw [h3.len]; exact hw)
        rw [hw'] at q4
        have rr := (r.mono l2).mono l3
        rw [h1] at rr
        cases x with
        | r i => cases e
        | d x =>
          cases x with
          | tup es => cases e; exact q4 _ H3 w3 ((l.trans l2).trans l3) R3 rr
          | _ => cases e
      · rw [cutV_eq]
        exact q4.tup ((l.trans l2).trans l3) R3 (h3.cutL lo hi)
/-- a list's part: a new list -/
def listV : Val → Store → Option (List Val)
  | .d (.ro ns), _ => some (ns.map fun n => .d (.int n))
  | x, S => lstV x S
theorem listV_of {w : Wd} {H : Hp} {S : Store} {x : Val} {v : V} {xs : List Val} (R : Rl G w H S) (r : VR G w x v) (h : listV x S = some xs) : ∃ a vs, v = .ref a ∧ SqL G.K H a vs ∧ VRs G w xs vs := by
  have go : lstV x S = some xs → ∃ a vs, v = .ref a ∧ SqL G.K H a vs ∧ VRs G w xs vs := fun h => by
    obtain ⟨a, vs, h1, h2, h3⟩ := lstV_of R r h
    exact ⟨a, vs, h1, SqL.of h2, h3⟩
  cases x with
  | r i => exact go h
  | d x =>
    cases x with
    | ro ns =>
      cases h
      obtain ⟨a, h1, h2⟩ := r
      exact ⟨a, _, h1, R.fz.seq h2, ints_vrs ns⟩
    | lst ds => exact go h
    | _ => cases h
def fSlL (fa : FE) (lo hi : FO) : FA := fun env => bnd (fa env) fun x => bnd (lo env) fun l => bnd (hi env) fun h => fun S => match listV x S with
  | none => none
  | some xs => some (.ok (cutL xs l h), S)
theorem qf_slL (hK : X.K = G.K) {lo hi : Option Expr} {p2 : Pos} {fl fh : FO} (ha : QE X G E a fa) (hl : QO X G E lo fl) (hh : QO X G E hi fh) : QF X G E (.Subscript a (.Slice lo hi none p2) pos) (fSlL fa fl fh) :=
  PE.imp (pe_slice sl_list ha hl hh) fun σ H Q ⟨w, env, S, hE, hR, h⟩ => TEx.sub hE hR h fun x v H1 w1 S1 l R1 r q => TOx.sub (hE.mono l) R1 q fun lo H2 w2 S2 l2 R2 q2 => TOx.sub (hE.mono (l.trans l2)) R2 q2 fun hi H3 w3 S3 l3 R3 q3 => by
    cases e : listV x S3 with
    | none => rw [e] at q3; exact q3.elim
    | some xs =>
      rw [e] at q3
      obtain ⟨a, vs, h1, h2, h3⟩ := listV_of R3 ((r.mono l2).mono l3) e
      rw [hK]
      refine ⟨a, vs, h1, h2, ?_⟩
      rw [cutV_eq]
      exact FP.fresh q3 ((l.trans l2).trans l3) R3 (h3.cutL lo hi)
end Y

set_option Elab.async false
set_option linter.all false
set_option maxRecDepth 100000
set_option maxHeartbeats 4000000
namespace Y
open PySem PySem.Spec L2
variable {G : Gx} {E : XK} {X : Cx}

/-! ### + -/
def asS : Val → Option Str
  | .d (.str z) => some z
  | _ => none
theorem asS_inv {x : Val} {z : Str} (h : asS x = some z) : x = .d (.str z) := by
  cases x with
  | r i => cases h
  | d x =>
    cases x with
    | str y => cases h; rfl
    | _ => cases h
theorem tupV_inv {x : Val} {ds : List D} (h : tupV x = some ds) : x = .d (.tup ds) := by
  cases x with
  | r i => cases h
  | d x =>
    cases x with
    | tup y => cases h; rfl
    | _ => cases h
/-- two lists: a new one -/
def oCat : Val → Val → M (List Val) := fun x y S => match lstV x S, lstV y S with
  | some a, some b => okL (a ++ b) S
  | _, _ => none
theorem oCat_inv {w : Wd} {x y : Val} {S : Store} {P : List Val → Store → Prop} (h : Res G E w (oCat x y S) P) : ∃ a b, lstV x S = some a ∧ lstV y S = some b ∧ (a ++ b).length ≤ sizeLine ∧ P (a ++ b) S := by
  unfold oCat at h
  cases e1 : lstV x S with
  | none => rw [e1] at h; exact h.elim
  | some a =>
    cases e2 : lstV y S with
    | none => rw [e1, e2] at h; exact h.elim
    | some b =>
      rw [e1, e2] at h
      obtain ⟨c, q⟩ := okL_inv h
      exact ⟨a, b, rfl, rfl, c, q⟩
theorem q_cat : OpR X (binaryOp .Add) (rOpF G E oCat) := OpR.imp op_cat fun v u H Q ⟨w, S, x, y, R, r1, r2, q⟩ => by
  obtain ⟨a, b, e1, e2, c, q⟩ := oCat_inv q
  obtain ⟨p, vs, h1, h2, h3⟩ := lstV_of R r1 e1
  obtain ⟨p', vs', k1, k2, k3⟩ := lstV_of R r2 e2
  refine ⟨p, p', vs, vs', h1, k1, h2, k2, ?_, q.fresh (Wd.le.refl w) R (h3.app k3)⟩
  rw [← h3.len, ← k3.len, ← List.length_append]
  exact c
/-- ints, tuples, texts, lists -/
def oPlus : Val → Val → M Val := fun x y => match asI x, asI y with
  | some i, some j => ret (.d (.int (i + j)))
  | _, _ => match tupV x, tupV y with
    | some a, some b => if a.length + b.length ≤ sizeLine then ret (.d (.tup (a ++ b))) else stk
    | _, _ => match asS x, asS y with
      | some a, some b => if a.length + b.length ≤ sizeLine then ret (.d (.str (a ++ b))) else stk
      | _, _ => bnd (oCat x y) frz
theorem op_plus : OpR X (binaryOp .Add) (fun x y H Q => (rI0 (fun i j => .int (i + j)) x y H Q ∨ rCatA X.K x y H Q) ∨ ((∃ i j, x = .str i ∧ y = .str j ∧ i.length + j.length ≤ sizeLine ∧ Q (.str (i ++ j)) H) ∨ rCat x y H Q)) :=
  OpR.or (OpR.or op_add op_catA) (OpR.or op_add_str op_cat)
theorem q_plus (hK : X.K = G.K) : OpR X (binaryOp .Add) (rOp G E oPlus) := OpR.imp op_plus fun v u H Q ⟨w, S, x, y, R, r1, r2, q⟩ => by
  unfold oPlus at q
  have lists : Res G E w (bnd (oCat x y) frz S) (VP G w Q) → rCat v u H Q := fun ql => by
    obtain ⟨a, b, e1, e2, c, ql⟩ := oCat_inv ql.bnd
    obtain ⟨p, vs, h1, h2, h3⟩ := lstV_of R r1 e1
    obtain ⟨p', vs', k1, k2, k3⟩ := lstV_of R r2 e2
    refine ⟨p, p', vs, vs', h1, k1, h2, k2, ?_, (FP.frz ql).fresh (Wd.le.refl w) R (h3.app k3)⟩
    rw [← h3.len, ← k3.len, ← List.length_append]
    exact c
  have texts : Res G E w ((match asS x, asS y with
      | some a, some b => if a.length + b.length ≤ sizeLine then ret (Val.d (D.str (a ++ b))) else stk
      | _, _ => bnd (oCat x y) frz) S) (VP G w Q) → (∃ i j, v = .str i ∧ u = .str j ∧ i.length + j.length ≤ sizeLine ∧ Q (.str (i ++ j)) H) ∨ rCat v u H Q := fun qt => by
    cases e1 : asS x with
    | none => rw [e1] at qt; exact .inr (lists qt)
    | some a =>
      cases e2 : asS y with
      | none => rw [e1, e2] at qt; exact .inr (lists qt)
      | some b =>
        rw [e1, e2] at qt
        dsimp only at qt
        obtain rfl := asS_inv e1
        obtain rfl := asS_inv e2
        by_cases c : a.length + b.length ≤ sizeLine
        · rw [if_pos c] at qt
          exact .inl ⟨a, b, r1, r2, c, qt.ok _ H w (Wd.le.refl w) R rfl⟩
        · rw [if_neg c] at qt
          exact qt.elim
  have tups : Res G E w ((match tupV x, tupV y with
    | some a, some b => if a.length + b.length ≤ sizeLine then ret (Val.d (D.tup (a ++ b))) else stk
    | _, _ => match asS x, asS y with
      | some a, some b => if a.length + b.length ≤ sizeLine then ret (Val.d (D.str (a ++ b))) else stk
      | _, _ => bnd (oCat x y) frz) S) (VP G w Q) → rCatA X.K v u H Q ∨ ((∃ i j, v = .str i ∧ u = .str j ∧ i.length + j.length ≤ sizeLine ∧ Q (.str (i ++ j)) H) ∨ rCat v u H Q) := fun qu => by
    cases e1 : tupV x with
    | none => rw [e1] at qu; exact .inr (texts qu)
    | some a =>
      cases e2 : tupV y with
      | none => rw [e1, e2] at qu; exact .inr (texts qu)
      | some b =>
        rw [e1, e2] at qu
        dsimp only at qu
        by_cases c : a.length + b.length ≤ sizeLine
        · rw [if_pos c] at qu
          have qu := qu.ok
          obtain ⟨p, vs, h1, h2, h3⟩ := tupV_of R r1 e1
          obtain ⟨p', vs', k1, k2, k3⟩ := tupV_of R r2 e2
          refine .inl ⟨p, p', vs, vs', h1, k1, by rw [hK]; exact h2, by rw [hK]; exact k2, by rw [← h3.len, ← k3.len]; exact c, fun z => ?_, fun z1 z2 => ?_, fun _ _ => qu.tup (Wd.le.refl w) R (h3.app k3)⟩
          · have ea : a = [] := List.eq_nil_of_length_eq_zero (by rw [h3.len, z]; rfl)
            subst ea
            obtain rfl := tupV_inv e2
            rw [k1] at r2
            exact qu _ H w (Wd.le.refl w) R r2
          · have eb : b = [] := List.eq_nil_of_length_eq_zero (by rw [k3.len, z2]; rfl)
            subst eb
            obtain rfl := tupV_inv e1
            rw [h1] at r1
            rw [List.append_nil] at qu
            exact qu _ H w (Wd.le.refl w) R r1
        · rw [if_neg c] at qu
          exact qu.elim
  cases e1 : asI x with
  | none =>
    rw [e1] at q
    rcases tups q with z | z
    · exact .inl (.inr z)
    · exact .inr z
  | some i =>
    cases e2 : asI y with
    | none =>
      rw [e1, e2] at q
      rcases tups q with z | z
      · exact .inl (.inr z)
      · exact .inr z
    | some j =>
      rw [e1, e2] at q
      obtain rfl := asI_inv e1
      obtain rfl := asI_inv e2
      exact .inl (.inl ⟨i, j, r1, r2, q.ok _ H w (Wd.le.refl w) R rfl⟩)

/-! ### in, not in (flat items) -/
def flatD : D → Option V
  | .non => some .non
  | .bl b => some (.bl b)
  | .int i => some (.int i)
  | .str z => some (.str z)
  | _ => none
theorem flatD_of {d : D} {t v : V} {H : Hp} (h : flatD d = some t) (r : Rep G H d v) : v = t ∧ flatV v = true := by
  cases d with
  | non => cases h; exact ⟨r, by rw [show v = _ from r]; rfl⟩
  | bl b => cases h; exact ⟨r, by rw [show v = _ from r]; rfl⟩
  | int b => cases h; exact ⟨r, by rw [show v = _ from r]; rfl⟩
  | str b => cases h; exact ⟨r, by rw [show v = _ from r]; rfl⟩
  | _ => cases h
def flats : List Val → Option (List V)
  | [] => some []
  | .d x :: r => match flatD x, flats r with
    | some a, some b => some (a :: b)
    | _, _ => none
  | .r _ :: _ => none
theorem flats_of {w : Wd} : ∀ {xs : List Val} {ts vs : List V}, flats xs = some ts → VRs G w xs vs → vs = ts ∧ vs.all flatV = true
  | [], ts, vs, h, r => by cases h; rw [show vs = _ from r]; exact ⟨rfl, rfl⟩
  | .d x :: xs, ts, vs, h, ⟨v, q, h1, h2, h3⟩ => by
    unfold flats at h
    cases e1 : flatD x with
    | none => rw [e1] at h; cases h
    | some a =>
      cases e2 : flats xs with
      | none => rw [e1, e2] at h; cases h
      | some b =>
        rw [e1, e2] at h
        cases h
        obtain ⟨k1, k2⟩ := flatD_of e1 h2
        obtain ⟨k3, k4⟩ := flats_of e2 h3
        subst h1
        exact ⟨by rw [k1, k3], by rw [List.all_cons, k2, k4]; rfl⟩
  | .r _ :: _, _, _, h, _ => by cases h
def oIn (neg : Bool) : Val → Val → M Val := fun x y S => match x with
  | .r _ => none
  | .d x => match flatD x, (seqV y S).bind flats with
    | some t, some ts => some (.ok (.d (.bl (if neg then !inV t ts else inV t ts))), S)
    | _, _ => none
theorem oIn_of {neg : Bool} {v u : V} {H : Hp} {Q : VK} (hK : X.K = G.K) (h : rOp G E (oIn neg) v u H Q) : rIn X.K neg v u H Q := by
  obtain ⟨w, S, x, y, R, r1, r2, q⟩ := h
  unfold oIn at q
  cases x with
  | r i => exact q.elim
  | d x =>
    dsimp only at q
    cases e1 : flatD x with
    | none => rw [e1] at q; exact q.elim
    | some t =>
      cases e2 : (seqV y S).bind flats with
      | none => rw [e1, e2] at q; exact q.elim
      | some ts =>
        rw [e1, e2] at q
        obtain ⟨ys, e3, e4⟩ := Option.bind_eq_some_iff.mp e2
        obtain ⟨p, vs, h1, h2, h3⟩ := seqV_of R r2 e3
        obtain ⟨k1, k2⟩ := flatD_of e1 r1
        obtain ⟨k3, k4⟩ := flats_of e4 h3
        rw [hK]
        refine ⟨p, vs, h1, h2, k2, k4, ?_⟩
        rw [k1, k3]
        exact q _ H w (Wd.le.refl w) R rfl
theorem q_in (hK : X.K = G.K) : OpR X (compareOp .In) (rOp G E (oIn false)) := OpR.imp op_in_seq fun v u H Q h => oIn_of hK h
theorem q_notin (hK : X.K = G.K) : OpR X (compareOp .NotIn) (rOp G E (oIn true)) := OpR.imp op_notIn_seq fun v u H Q h => oIn_of hK h

/-! ### calls of built-ins by values -/
def rCall (G : Gx) (E : XK) (op : List Val → M Val) : List V → Hp → VK → Prop := fun vs H Q => ∃ w S xs, Rl G w H S ∧ VRs G w xs vs ∧ Res G E w (op xs S) (VP G w Q)
def rCallF (G : Gx) (E : XK) (op : List Val → M (List Val)) : List V → Hp → VK → Prop := fun vs H Q => ∃ w S xs, Rl G w H S ∧ VRs G w xs vs ∧ Res G E w (op xs S) (FP G w Q)
theorem CallR.imp {f : Value} {r r' : List V → Hp → VK → Prop} (h : CallR X f r) (k : ∀ vs H Q, r' vs H Q → r vs H Q) : CallR X f r' := fun pins s σ H xs us Q I a q => h pins s σ H xs us Q I a (k xs H Q q)
variable {a b c e : Expr} {es : List Expr} {pos p : Pos} {fa fb : FE} {fs : FA}
def fCall (op : List Val → M α) (fs : FA) : Env → M α := fun env => bnd (fs env) op
theorem tCB_of {op : List Val → M Val} {σ : St} {H : Hp} {Q : VK} (h : TEx G E (fCall op fs) σ H Q) : tCB (rCall G E op) (TAx G E fs) σ H Q := by
  obtain ⟨w, env, S, hE, hR, h⟩ := h
  exact TAx.sub hE hR h fun xs vs H1 w1 S1 l R1 r q => ⟨w1, S1, xs, R1, r, q.imp fun _ _ z => z.mono l⟩
theorem tCB_ofF {op : List Val → M (List Val)} {σ : St} {H : Hp} {Q : VK} (h : TFx G E (fCall op fs) σ H Q) : tCB (rCallF G E op) (TAx G E fs) σ H Q := by
  obtain ⟨w, env, S, hE, hR, h⟩ := h
  exact TAx.sub hE hR h fun xs vs H1 w1 S1 l R1 r q => ⟨w1, S1, xs, R1, r, q.imp fun _ _ z => z.mono l⟩
theorem qe_callB {x : Str} {id : String} {op : List Val → M Val} (hc : CallR X (.builtin id) (rCall G E op)) (hg : Gl X x) (hm : X.mg x = none) (hv : bootBuiltins x = some (.builtin id)) (ha : QA X G E (e :: es) fs) (hn : x ≠ "__name__" := by decide) (hdb : (x == ("__debug__" : Str)) = false := by decide)
    (he : starEach (e :: es) X.env = (false, eval e X.env) :: starEach es X.env := by rfl) (hpl : (backTo pos (starEach es X.env)).any (·.1) = false := by rfl) : QE X G E (.Call (.Name x p) (e :: es) [] pos) (fCall op fs) :=
  PE.imp (pe_callB hc hg hm hv ha hn hdb he hpl) fun _ _ _ => tCB_of
theorem qf_callB {x : Str} {id : String} {op : List Val → M (List Val)} (hc : CallR X (.builtin id) (rCallF G E op)) (hg : Gl X x) (hm : X.mg x = none) (hv : bootBuiltins x = some (.builtin id)) (ha : QA X G E (e :: es) fs) (hn : x ≠ "__name__" := by decide) (hdb : (x == ("__debug__" : Str)) = false := by decide)
    (he : starEach (e :: es) X.env = (false, eval e X.env) :: starEach es X.env := by rfl) (hpl : (backTo pos (starEach es X.env)).any (·.1) = false := by rfl) : QF X G E (.Call (.Name x p) (e :: es) [] pos) (fCall op fs) :=
  PE.imp (pe_callB hc hg hm hv ha hn hdb he hpl) fun _ _ _ => tCB_ofF
theorem qe_callTy {x : Str} {T : String} {op : List Val → M Val} (hc : CallR X (.type T) (rCall G E op)) (hg : Gl X x) (hm : X.mg x = none) (hv : bootBuiltins x = some (.type T)) (ha : QA X G E (e :: es) fs) (hn : x ≠ "__name__" := by decide) (hdb : (x == ("__debug__" : Str)) = false := by decide)
    (he : starEach (e :: es) X.env = (false, eval e X.env) :: starEach es X.env := by rfl) (hpl : (backTo pos (starEach es X.env)).any (·.1) = false := by rfl) : QE X G E (.Call (.Name x p) (e :: es) [] pos) (fCall op fs) :=
  PE.imp (pe_callTy hc hg hm hv ha hn hdb he hpl) fun _ _ _ => tCB_of
theorem qf_callTy {x : Str} {T : String} {op : List Val → M (List Val)} (hc : CallR X (.type T) (rCallF G E op)) (hg : Gl X x) (hm : X.mg x = none) (hv : bootBuiltins x = some (.type T)) (ha : QA X G E (e :: es) fs) (hn : x ≠ "__name__" := by decide) (hdb : (x == ("__debug__" : Str)) = false := by decide)
    (he : starEach (e :: es) X.env = (false, eval e X.env) :: starEach es X.env := by rfl) (hpl : (backTo pos (starEach es X.env)).any (·.1) = false := by rfl) : QF X G E (.Call (.Name x p) (e :: es) [] pos) (fCall op fs) :=
  PE.imp (pe_callTy hc hg hm hv ha hn hdb he hpl) fun _ _ _ => tCB_ofF
/-- of one argument, by what is read off it -/
def c1 {α β : Type} (g : Val → Store → Option α) (k : α → M β) : List Val → M β := fun xs S => match xs with
  | [x] => match g x S with
    | some a => k a S
    | none => none
  | _ => none
theorem c1_inv {α β : Type} {g : Val → Store → Option α} {k : α → M β} {xs : List Val} {S : Store} {w : Wd} {P : β → Store → Prop} (h : Res G E w (c1 g k xs S) P) : ∃ x a, xs = [x] ∧ g x S = some a ∧ Res G E w (k a S) P := by
  unfold c1 at h
  match xs, h with
  | [], h => exact h.elim
  | [x], h =>
    dsimp only at h
    cases e : g x S with
    | none => rw [e] at h; exact h.elim
    | some a => rw [e] at h; exact ⟨x, a, rfl, e, h⟩
  | _ :: _ :: _, h => exact h.elim
theorem VRs.one {w : Wd} {x : Val} {vs : List V} (h : VRs G w [x] vs) : ∃ v, vs = [v] ∧ VR G w x v := by
  obtain ⟨v, r, h1, h2, h3⟩ := h
  exact ⟨v, by rw [h1, show r = [] from h3], h2⟩
theorem VRs.two {w : Wd} {x y : Val} {vs : List V} (h : VRs G w [x, y] vs) : ∃ v u, vs = [v, u] ∧ VR G w x v ∧ VR G w y u := by
  obtain ⟨v, r, h1, h2, h3⟩ := h
  obtain ⟨u, e, h4⟩ := h3.one
  exact ⟨v, u, by rw [h1, e], h2, h4⟩
/-- len -/
def lenV (x : Val) (S : Store) : Option Nat := match x with
  | .d (.str z) => if z.length ≤ sizeLine then some z.length else none
  | x => (seqV x S).map List.length
def oLen : List Val → M Val := c1 lenV fun n => ret (.d (.int n))
theorem q_len (hK : X.K = G.K) : CallR X (.builtin "len") (rCall G E oLen) := CallR.imp call_len fun vs H Q ⟨w, S, xs, R, r, q⟩ => by
  obtain ⟨x, n, rfl, e, q⟩ := c1_inv q
  obtain ⟨v, rfl, r'⟩ := r.one
  replace r := r'
  refine ⟨v, n, rfl, ?_, q.ok _ H w (Wd.le.refl w) R rfl⟩
  have go : (seqV x S).map List.length = some n → LenV X.K v H n := fun e => by
    cases e2 : seqV x S with
    | none => rw [e2] at e; cases e
    | some ys =>
      rw [e2] at e
      cases e
      obtain ⟨p, us, h1, h2, h3⟩ := seqV_of R r e2
      rw [hK, h1, h3.len]
      rcases h2 with h2 | h2
      · exact .inl ⟨us, h2, rfl⟩
      · exact .inr ⟨us, h2, rfl⟩
  cases x with
  | r i => exact go e
  | d x =>
    cases x with
    | str z =>
      unfold lenV at e
      dsimp only at e
      split at e
      · rename_i c
        cases e
        rw [show v = _ from r]
        exact ⟨c, rfl⟩
      · cases e
    | _ => exact go e
/-- ints of a list -/
def intsL (x : Val) (S : Store) : Option (List Int) := (lstV x S).bind fun xs => xs.mapM asI
theorem mapM_asI {w : Wd} : ∀ {xs : List Val} {ns : List Int} {vs : List V}, xs.mapM asI = some ns → VRs G w xs vs → vs = ns.map V.int
  | [], ns, vs, h, r => by
    simp only [List.mapM_nil] at h
    cases h
    exact r
  | x :: xs, ns, vs, h, ⟨v, q, h1, h2, h3⟩ => by
    simp only [List.mapM_cons] at h
    obtain ⟨i, e1, h⟩ := Option.bind_eq_some_iff.mp h
    obtain ⟨is, e2, h⟩ := Option.bind_eq_some_iff.mp h
    cases h
    obtain rfl := asI_inv e1
    rw [h1, mapM_asI e2 h3, show v = _ from h2]
    rfl
theorem intsL_of {w : Wd} {H : Hp} {S : Store} {x : Val} {v : V} {ns : List Int} (R : Rl G w H S) (r : VR G w x v) (h : intsL x S = some ns) : ∃ a, v = .ref a ∧ H a = some (.lst (ns.map V.int)) := by
  obtain ⟨xs, e1, e2⟩ := Option.bind_eq_some_iff.mp h
  obtain ⟨a, vs, h1, h2, h3⟩ := lstV_of R r e1
  rw [mapM_asI e2 h3] at h2
  exact ⟨a, h1, h2⟩
def oSum : List Val → M Val := c1 intsL fun ns => ret (.d (.int ns.sum))
theorem q_sum (hc : X.calm = true) : CallR X (.builtin "sum") (rCall G E oSum) := CallR.imp (cr_sum hc) fun vs H Q ⟨w, S, xs, R, r, q⟩ => by
  obtain ⟨x, n, rfl, e, q⟩ := c1_inv q
  obtain ⟨v, rfl, r'⟩ := r.one
  replace r := r'
  obtain ⟨a, h1, h2⟩ := intsL_of R r e
  rw [h1]
  exact ⟨a, n, rfl, SqL.of h2, q.ok _ H w (Wd.le.refl w) R rfl⟩
def maxI : List Int → Int
  | [] => 0
  | [x] => x
  | x :: y :: r => max x (maxI (y :: r))
theorem maxI_mem : ∀ {ns : List Int}, ns ≠ [] → maxI ns ∈ ns
  | [], h => absurd rfl h
  | [x], _ => by simp [maxI]
  | x :: y :: r, _ => by
    have := maxI_mem (ns := y :: r) (by simp)
    show max x (maxI (y :: r)) ∈ _
    by_cases c : x ≤ maxI (y :: r)
    · rw [Int.max_eq_right c]; exact List.mem_cons_of_mem _ this
    · rw [Int.max_eq_left (by omega)]; exact List.mem_cons_self
theorem maxI_le : ∀ {ns : List Int} {m : Int}, m ∈ ns → m ≤ maxI ns
  | [x], m, h => by simp at h; rw [h]; exact Int.le_refl _
  | x :: y :: r, m, h => by
    show m ≤ max x (maxI (y :: r))
    rcases List.mem_cons.mp h with h | h
    · rw [h]; omega
    · have := maxI_le h
      omega
def minI : List Int → Int
  | [] => 0
  | [x] => x
  | x :: y :: r => min x (minI (y :: r))
theorem minI_mem : ∀ {ns : List Int}, ns ≠ [] → minI ns ∈ ns
  | [], h => absurd rfl h
  | [x], _ => by simp [minI]
  | x :: y :: r, _ => by
    have := minI_mem (ns := y :: r) (by simp)
    show min x (minI (y :: r)) ∈ _
    by_cases c : x ≤ minI (y :: r)
    · rw [Int.min_eq_left c]; exact List.mem_cons_self
    · rw [Int.min_eq_right (by omega)]; exact List.mem_cons_of_mem _ this
theorem minI_le : ∀ {ns : List Int} {m : Int}, m ∈ ns → minI ns ≤ m
  | [x], m, h => by simp at h; rw [h]; exact Int.le_refl _
  | x :: y :: r, m, h => by
    show min x (minI (y :: r)) ≤ m
    rcases List.mem_cons.mp h with h | h
    · rw [h]; omega
    · have := minI_le h
      omega
/-- max, min: of a list of ints, not empty, or of two ints -/
def oMx (g : List Int → Int) : List Val → M Val := fun xs S => match xs with
  | [x] => match intsL x S with
    | some (n :: ns) => some (.ok (.d (.int (g (n :: ns)))), S)
    | _ => none
  | [x, y] => match asI x, asI y with
    | some i, some j => some (.ok (.d (.int (g [i, j]))), S)
    | _, _ => none
  | _ => none
theorem oMx_inv {g : List Int → Int} {xs : List Val} {S : Store} {w : Wd} {P : Val → Store → Prop} (h : Res G E w (oMx g xs S) P) : (∃ x n ns, xs = [x] ∧ intsL x S = some (n :: ns) ∧ P (.d (.int (g (n :: ns)))) S) ∨ ∃ i j, xs = [.d (.int i), .d (.int j)] ∧ P (.d (.int (g [i, j]))) S := by
  unfold oMx at h
  match xs, h with
  | [], h => exact h.elim
  | [x], h =>
    dsimp only at h
    cases e : intsL x S with
    | none => rw [e] at h; exact h.elim
    | some l =>
      rw [e] at h
      cases l with
      | nil => exact h.elim
      | cons n ns => exact .inl ⟨x, n, ns, rfl, e, h⟩
  | [x, y], h =>
    dsimp only at h
    cases e1 : asI x with
    | none => rw [e1] at h; exact h.elim
    | some i =>
      cases e2 : asI y with
      | none => rw [e1, e2] at h; exact h.elim
      | some j =>
        rw [e1, e2] at h
        exact .inr ⟨i, j, by rw [asI_inv e1, asI_inv e2], h⟩
  | _ :: _ :: _ :: _, h => exact h.elim
theorem q_max (hc : X.calm = true) : CallR X (.builtin "max") (rCall G E (oMx maxI)) := CallR.imp (CallR.or (cr_max hc) (call_max2 hc)) fun vs H Q ⟨w, S, xs, R, r, q⟩ => by
  rcases oMx_inv q with ⟨x, n, ns, rfl, e, q1⟩ | ⟨i, j, rfl, q1⟩
  · obtain ⟨v, rfl, r'⟩ := r.one
    replace r := r'
    obtain ⟨a, h1, h2⟩ := intsL_of R r e
    rw [h1]
    refine .inl ⟨a, n :: ns, rfl, SqL.of h2, by simp, fun m hm hl => ?_⟩
    have em : m = maxI (n :: ns) := Int.le_antisymm (maxI_le hm) (hl _ (maxI_mem (by simp)))
    rw [em]
    exact q1 _ H w (Wd.le.refl w) R rfl
  · obtain ⟨v, u, rfl, r1, r2⟩ := r.two
    refine .inr ⟨i, j, by rw [show v = _ from r1, show u = _ from r2], ?_⟩
    have em : (if j > i then j else i) = maxI [i, j] := by
      show _ = max i j
      split <;> omega
    rw [em]
    exact q1 _ H w (Wd.le.refl w) R rfl
theorem q_min (hc : X.calm = true) : CallR X (.builtin "min") (rCall G E (oMx minI)) := CallR.imp (CallR.or (cr_min hc) (call_min2 hc)) fun vs H Q ⟨w, S, xs, R, r, q⟩ => by
  rcases oMx_inv q with ⟨x, n, ns, rfl, e, q1⟩ | ⟨i, j, rfl, q1⟩
  · obtain ⟨v, rfl, r'⟩ := r.one
    replace r := r'
    obtain ⟨a, h1, h2⟩ := intsL_of R r e
    rw [h1]
    refine .inl ⟨a, n :: ns, rfl, SqL.of h2, by simp, fun m hm hl => ?_⟩
    have em : m = minI (n :: ns) := Int.le_antisymm (hl _ (minI_mem (by simp))) (minI_le hm)
    rw [em]
    exact q1 _ H w (Wd.le.refl w) R rfl
  · obtain ⟨v, u, rfl, r1, r2⟩ := r.two
    refine .inr ⟨i, j, by rw [show v = _ from r1, show u = _ from r2], ?_⟩
    have em : (if j < i then j else i) = minI [i, j] := by
      show _ = min i j
      split <;> omega
    rw [em]
    exact q1 _ H w (Wd.le.refl w) R rfl
/-- sorted of ints -/
def insI (x : Int) : List Int → List Int
  | [] => [x]
  | y :: r => if x ≤ y then x :: y :: r else y :: insI x r
def sortI : List Int → List Int
  | [] => []
  | x :: r => insI x (sortI r)
theorem insI_perm (x : Int) : ∀ l, (insI x l).Perm (x :: l)
  | [] => .refl _
  | y :: r => by
    unfold insI
    split
    · exact .refl _
    · exact ((insI_perm x r).cons y).trans (.swap x y r)
theorem sortI_perm : ∀ l, (sortI l).Perm l
  | [] => .refl _
  | x :: r => (insI_perm x _).trans ((sortI_perm r).cons x)
theorem insI_sorted (x : Int) : ∀ {l : List Int}, l.Pairwise (· ≤ ·) → (insI x l).Pairwise (· ≤ ·)
  | [], _ => by simp [insI]
  | y :: r, h => by
    unfold insI
    split
    · rename_i c
      refine List.pairwise_cons.mpr ⟨fun z hz => ?_, h⟩
      rcases List.mem_cons.mp hz with e | e
      · omega
      · have := (List.pairwise_cons.mp h).1 z e
        omega
    · rename_i c
      refine List.pairwise_cons.mpr ⟨fun z hz => ?_, insI_sorted x (List.pairwise_cons.mp h).2⟩
      rcases List.mem_cons.mp ((insI_perm x r).mem_iff.mp hz) with e | e
      · omega
      · exact (List.pairwise_cons.mp h).1 z e
theorem sortI_sorted : ∀ l, (sortI l).Pairwise (· ≤ ·)
  | [] => .nil
  | x :: r => insI_sorted x (sortI_sorted r)
theorem sorted_unique : ∀ {a b : List Int}, a.Perm b → a.Pairwise (· ≤ ·) → b.Pairwise (· ≤ ·) → a = b
  | [], b, h, _, _ => by rw [h.nil_eq]
  | x :: r, [], h, _, _ => by simp at h
  | x :: r, y :: q, h, ha, hb => by
    have h1 : x ≤ y := by
      rcases List.mem_cons.mp (h.mem_iff.mpr (List.mem_cons_self : y ∈ y :: q)) with e | e
      · omega
      · exact (List.pairwise_cons.mp ha).1 y e
    have h2 : y ≤ x := by
      rcases List.mem_cons.mp (h.mem_iff.mp (List.mem_cons_self : x ∈ x :: r)) with e | e
      · omega
      · exact (List.pairwise_cons.mp hb).1 x e
    have e : x = y := by omega
    subst e
    rw [sorted_unique (List.Perm.cons_inv h) (List.pairwise_cons.mp ha).2 (List.pairwise_cons.mp hb).2]
def intsV (ns : List Int) : List Val := ns.map fun n => .d (.int n)
def oSorted : List Val → M (List Val) := c1 intsL fun ns => ret (intsV (sortI ns))
theorem q_sorted : CallR X (.builtin "sorted") (rCallF G E oSorted) := CallR.imp cr_sortedI fun vs H Q ⟨w, S, xs, R, r, q⟩ => by
  obtain ⟨x, n, rfl, e, q⟩ := c1_inv q
  obtain ⟨v, rfl, r'⟩ := r.one
  replace r := r'
  obtain ⟨a, h1, h2⟩ := intsL_of R r e
  rw [h1]
  refine ⟨a, n, rfl, SqL.of h2, fun ns' p pm pw hp => ?_⟩
  have em : ns' = sortI n := sorted_unique (pm.trans (sortI_perm n).symm) pw (sortI_sorted n)
  rw [em]
  exact q.ok.fresh (Wd.le.refl w) R (ints_vrs _) p hp
/-- all, any of truth values -/
def asBl : Val → Option Bool
  | .d (.bl b) => some b
  | _ => none
theorem asBl_inv {x : Val} {b : Bool} (h : asBl x = some b) : x = .d (.bl b) := by
  cases x with
  | r i => cases h
  | d x =>
    cases x with
    | bl y => cases h; rfl
    | _ => cases h
def blsL (x : Val) (S : Store) : Option (List Bool) := (lstV x S).bind fun xs => xs.mapM asBl
theorem mapM_asBl {w : Wd} : ∀ {xs : List Val} {ns : List Bool} {vs : List V}, xs.mapM asBl = some ns → VRs G w xs vs → vs = ns.map V.bl
  | [], ns, vs, h, r => by
    simp only [List.mapM_nil] at h
    cases h
    exact r
  | x :: xs, ns, vs, h, ⟨v, q, h1, h2, h3⟩ => by
    simp only [List.mapM_cons] at h
    obtain ⟨i, e1, h⟩ := Option.bind_eq_some_iff.mp h
    obtain ⟨is, e2, h⟩ := Option.bind_eq_some_iff.mp h
    cases h
    obtain rfl := asBl_inv e1
    rw [h1, mapM_asBl e2 h3, show v = _ from h2]
    rfl
theorem blsL_of {w : Wd} {H : Hp} {S : Store} {x : Val} {v : V} {ns : List Bool} (R : Rl G w H S) (r : VR G w x v) (h : blsL x S = some ns) : ∃ a, v = .ref a ∧ H a = some (.lst (ns.map V.bl)) := by
  obtain ⟨xs, e1, e2⟩ := Option.bind_eq_some_iff.mp h
  obtain ⟨a, vs, h1, h2, h3⟩ := lstV_of R r e1
  rw [mapM_asBl e2 h3] at h2
  exact ⟨a, h1, h2⟩
def oAll : List Val → M Val := c1 blsL fun ns => ret (.d (.bl (ns.all id)))
def oAny : List Val → M Val := c1 blsL fun ns => ret (.d (.bl (ns.any id)))
theorem q_all (hc : X.calm = true) : CallR X (.builtin "all") (rCall G E oAll) := CallR.imp (cr_all hc) fun vs H Q ⟨w, S, xs, R, r, q⟩ => by
  obtain ⟨x, n, rfl, e, q⟩ := c1_inv q
  obtain ⟨v, rfl, r'⟩ := r.one
  replace r := r'
  obtain ⟨a, h1, h2⟩ := blsL_of R r e
  rw [h1]
  exact ⟨a, n, rfl, SqL.of h2, q.ok _ H w (Wd.le.refl w) R rfl⟩
theorem q_any (hc : X.calm = true) : CallR X (.builtin "any") (rCall G E oAny) := CallR.imp (cr_any hc) fun vs H Q ⟨w, S, xs, R, r, q⟩ => by
  obtain ⟨x, n, rfl, e, q⟩ := c1_inv q
  obtain ⟨v, rfl, r'⟩ := r.one
  replace r := r'
  obtain ⟨a, h1, h2⟩ := blsL_of R r e
  rw [h1]
  exact ⟨a, n, rfl, SqL.of h2, q.ok _ H w (Wd.le.refl w) R rfl⟩
/-- int of an int, of a truth value -/
def intV (x : Val) (_ : Store) : Option Int := match asI x with
  | some i => some i
  | none => (asBl x).map fun b => if b = true then 1 else 0
def oInt1 : List Val → M Val := c1 intV fun n => ret (.d (.int n))
theorem q_int : CallR X (.type "int") (rCall G E oInt1) := CallR.imp call_int1 fun vs H Q ⟨w, S, xs, R, r, q⟩ => by
  obtain ⟨x, n, rfl, e, q⟩ := c1_inv q
  obtain ⟨v, rfl, r'⟩ := r.one
  replace r := r'
  have qq : Q (.int n) H := q.ok (.int n) H w (Wd.le.refl w) R rfl
  unfold intV at e
  cases e1 : asI x with
  | some i =>
    rw [e1] at e
    cases e
    obtain rfl := asI_inv e1
    exact .inl ⟨n, by rw [show v = _ from r], qq⟩
  | none =>
    rw [e1] at e
    dsimp only at e
    cases e2 : asBl x with
    | none => rw [e2] at e; cases e
    | some b =>
      rw [e2] at e
      cases e
      obtain rfl := asBl_inv e2
      exact .inr ⟨b, by rw [show v = _ from r], qq⟩
/-- tuple(..), list(..) of a list, a tuple -/
def tplV (x : Val) (S : Store) : Option (List D) := match tupV x with
  | some ds => some ds
  | none => (listV x S).bind datas
def oTuple : List Val → M Val := c1 tplV fun ds => ret (.d (.tup ds))
theorem q_tuple (hK : X.K = G.K) : CallR X (.type "tuple") (rCall G E oTuple) := CallR.imp call_tuple_of fun vs H Q ⟨w, S, xs, R, r, q⟩ => by
  obtain ⟨x, ds, rfl, e, q⟩ := c1_inv q
  obtain ⟨v, rfl, r'⟩ := r.one
  replace r := r'
  have q := q.ok
  unfold tplV at e
  cases e1 : tupV x with
  | some es =>
    rw [e1] at e
    cases e
    obtain ⟨p, us, h1, h2, h3⟩ := tupV_of R r e1
    obtain rfl := tupV_inv e1
    rw [hK, h1]
    rw [h1] at r
    exact ⟨p, us, rfl, .inr ⟨h2, q _ H w (Wd.le.refl w) R r⟩⟩
  | none =>
    rw [e1] at e
    obtain ⟨ys, e1, e2⟩ := Option.bind_eq_some_iff.mp (show (listV x S).bind datas = some ds from e)
    obtain ⟨p, us, h1, h2, h3⟩ := listV_of R r e1
    rw [hK, h1]
    exact ⟨p, us, rfl, .inl ⟨h2, q.tup (Wd.le.refl w) R (VRs.reps e2 h3)⟩⟩
def oList : List Val → M (List Val) := c1 seqV fun xs => ret xs
theorem q_list (hK : X.K = G.K) : CallR X (.type "list") (rCallF G E oList) := CallR.imp call_list_of fun vs H Q ⟨w, S, xs, R, r, q⟩ => by
  obtain ⟨x, ys, rfl, e, q⟩ := c1_inv q
  obtain ⟨v, rfl, r'⟩ := r.one
  replace r := r'
  obtain ⟨p, us, h1, h2, h3⟩ := seqV_of R r e
  rw [hK, h1]
  exact ⟨p, us, rfl, h2, q.ok.fresh (Wd.le.refl w) R h3⟩
/-- str of an int -/
def oStr : List Val → M Val := c1 (fun x _ => (asI x).bind fun i => if i.natAbs.log2 < 1920 then some i else none) fun n => ret (.d (.str (toString n)))
theorem q_str : CallR X (.type "str") (rCall G E oStr) := CallR.imp call_str_int fun vs H Q ⟨w, S, xs, R, r, q⟩ => by
  obtain ⟨x, n, rfl, e, q1⟩ := c1_inv q
  obtain ⟨v, rfl, r'⟩ := r.one
  replace r := r'
  obtain ⟨i, e1, e2⟩ := Option.bind_eq_some_iff.mp e
  split at e2
  · rename_i c
    cases e2
    obtain rfl := asI_inv e1
    exact ⟨n, by rw [show v = _ from r], c, q1.ok _ H w (Wd.le.refl w) R rfl⟩
  · cases e2

/-! ### isinstance(x, T), T one of tuple, list, int, bool, str -/
def tyD : Val → Store → Option String
  | .d .non, _ => some "NoneType"
  | .d (.bl _), _ => some "bool"
  | .d (.int _), _ => some "int"
  | .d (.str _), _ => some "str"
  | .d (.tup _), _ => some "tuple"
  | .d (.lst _), _ => some "list"
  | .d (.dct _ _), _ => some "dict"
  | _, _ => none
theorem tyD_of {w : Wd} {H : Hp} {S : Store} {x : Val} {v : V} {t : String} (R : Rl G w H S) (r : VR G w x v) (h : tyD x S = some t) : TyX G.K H v (.type t) := by
  cases x with
  | r i => cases h
  | d x =>
    cases x with
    | non => cases h; rw [show v = _ from r]; exact .base .non
    | bl b => cases h; rw [show v = _ from r]; exact .base (.bl b)
    | int b => cases h; rw [show v = _ from r]; exact .base (.int b)
    | str b => cases h; rw [show v = _ from r]; exact .base (.str b)
    | tup b =>
      cases h
      obtain ⟨a, vs, e, h2, _⟩ := r
      rw [e]
      rcases same_sqT R.fz h2 with (z | ⟨o, z⟩) | ⟨o, its, n, k, c, _⟩
      · exact .base (.tup z)
      · exact .fTuple z
      · exact .kTuple k c
    | lst b => cases h; obtain ⟨a, vs, e, h2, _⟩ := r; rw [e]; exact .base (.lst (R.fz _ _ h2))
    | dct b _ => cases h; obtain ⟨a, vs, e, h2, _⟩ := r; rw [e]; exact .base (.dK (R.fz _ _ h2))
    | _ => cases h
/-- the answers, a table -/
def isaT (t T : String) : Option Bool := kitB t T
def fIsa (T : String) (fa : FE) : FE := fun env => bnd (fa env) fun x S => match (tyD x S).bind fun t => isaT t T with
  | some k => some (.ok (.d (.bl k)), S)
  | none => none
theorem qe_isa {T : String} {x : Str} {t2 : Pos} (hg : Gl X "isinstance") (hm : X.mg "isinstance" = none) (hK : X.K = G.K) (hT : PE X (.Name x t2) (tC (.ty T))) (ha : QE X G E a fa)
    (he : starEach [a, .Name x t2] X.env = (false, eval a X.env) :: starEach [.Name x t2] X.env := by rfl) (hpl : (backTo pos (starEach [.Name x t2] X.env)).any (·.1) = false := by rfl) (he2 : starEach [.Name x t2] X.env = (false, eval (.Name x t2) X.env) :: starEach [] X.env := by rfl) :
    QE X G E (.Call (.Name "isinstance" p) [a, .Name x t2] [] pos) (fIsa T fa) :=
  PE.imp (pe_callB call_isi hg hm PyProof.Rows.boot_isinstance (pa_cons ha (pa_cons hT pa_nil he2) he) (by decide) (by decide) he hpl) fun σ H Q ⟨w, env, S, hE, hR, h⟩ => TEx.sub hE hR h fun x v H1 w1 S1 l R1 r q => by
    cases e : (tyD x S1).bind fun t => isaT t T with
    | none => rw [e] at q; exact q.elim
    | some k =>
      rw [e] at q
      obtain ⟨t, e1, e2⟩ := Option.bind_eq_some_iff.mp e
      refine ⟨v, .ty T, .type t, .type T, k, rfl, .ty T, by rw [hK]; exact tyD_of R1 r e1, kit_ty e2, ?_⟩
      exact q _ H1 w1 l R1 rfl
end Y

set_option Elab.async false
set_option linter.all false
set_option maxRecDepth 100000
set_option maxHeartbeats 4000000
namespace Y
open PySem PySem.Spec L2
variable {G : Gx} {E : XK} {X : Cx}

/-! ### statements -/
abbrev SO := Option (Fl × Env × Store)
def SRes (G : Gx) (E : XK) (w : Wd) (o : SO) (D : Ends) : Prop := match o with
  | none => False
  | some (.nx, env', S') => ∀ σ' H' w', w.le w' → EnvR G w' env' σ' → Rl G w' H' S' → D.nx σ' H'
  | some (.bk, env', S') => ∀ σ' H' w', w.le w' → EnvR G w' env' σ' → Rl G w' H' S' → D.bk σ' H'
  | some (.ct, env', S') => ∀ σ' H' w', w.le w' → EnvR G w' env' σ' → Rl G w' H' S' → D.ct σ' H'
  | some (.rt r, env', S') => ∀ v H' w', w.le w' → Rl G w' H' S' → VR G w' r v → D.rt v H'
  | some (.xc e, env', S') => ∀ c d H' w', w.le w' → Rl G w' H' S' → XR G w' e c d H' → E c d H'
theorem SRes.mono {w w' : Wd} {o : SO} {D : Ends} (l : w.le w') (h : SRes G E w o D) : SRes G E w' o D := by
  match o, h with
  | some (.nx, env', S'), h => exact fun σ' H' w2 l2 => h σ' H' w2 (l.trans l2)
  | some (.bk, env', S'), h => exact fun σ' H' w2 l2 => h σ' H' w2 (l.trans l2)
  | some (.ct, env', S'), h => exact fun σ' H' w2 l2 => h σ' H' w2 (l.trans l2)
  | some (.rt r, env', S'), h => exact fun σ' H' w2 l2 => h σ' H' w2 (l.trans l2)
  | some (.xc e, env', S'), h => exact fun c d H' w2 l2 => h c d H' w2 (l.trans l2)
def TSx (G : Gx) (E : XK) (g : FS) : TS := fun D σ H => ∃ w env S, EnvR G w env σ ∧ Rl G w H S ∧ SRes G E w (g env S) D
abbrev QS (X : Cx) (G : Gx) (E : XK) (st : Stmt) (g : FS) : Prop := PS X st (TSx G E g)
abbrev QSs (X : Cx) (G : Gx) (E : XK) (st : List Stmt) (g : FS) : Prop := PSs X st (TSx G E g)
/-- an expression first -/
def bS {α : Type} (o : Option (Ex α × Store)) (env : Env) (k : α → Store → SO) : SO := match o with
  | none => none
  | some (.exc e, S') => some (.xc e, env, S')
  | some (.ok a, S') => k a S'
theorem SRes.bS {α : Type} {w : Wd} {o : Option (Ex α × Store)} {env : Env} {k : α → Store → SO} {D : Ends} (h : SRes G E w (bS o env k) D) : Res G E w o (fun a S' => SRes G E w (k a S') D) := by
  match o, h with
  | some (.exc e, S'), h => exact h
  | some (.ok a, S'), h => exact h
theorem TEx.subS {f : FE} {k : Val → Store → SO} {w : Wd} {env env0 : Env} {σ : St} {H : Hp} {S : Store} {D : Ends} {R : VK} (hE : EnvR G w env σ) (hR : Rl G w H S) (h : SRes G E w (bS (f env S) env0 k) D)
    (kk : ∀ x v H1 w1 S1, w.le w1 → Rl G w1 H1 S1 → VR G w1 x v → SRes G E w1 (k x S1) D → R v H1) : TEx G E f σ H R :=
  ⟨w, env, S, hE, hR, h.bS.imp fun x S1 q v H1 w1 l R1 r => kk x v H1 w1 S1 l R1 r (q.mono l)⟩
theorem TTx.subS {f : FB} {k : Bool → Store → SO} {w : Wd} {env env0 : Env} {σ : St} {H : Hp} {S : Store} {D : Ends} {R : Bool → Hp → Prop} (hE : EnvR G w env σ) (hR : Rl G w H S) (h : SRes G E w (bS (f env S) env0 k) D)
    (kk : ∀ x H1 w1 S1, w.le w1 → Rl G w1 H1 S1 → SRes G E w1 (k x S1) D → R x H1) : TTx G E f σ H R :=
  ⟨w, env, S, hE, hR, h.bS.imp fun x S1 q H1 w1 l R1 => kk x H1 w1 S1 l R1 (q.mono l)⟩
def sNil : FS := fun env S => some (.nx, env, S)
def sSeq (g1 g2 : FS) : FS := fun env S => match g1 env S with
  | some (.nx, env', S') => g2 env' S'
  | o => o
theorem qss_nil : QSs X G E [] sNil := PSs.imp pss_nil fun D σ H ⟨w, env, S, hE, hR, h⟩ => h σ H w (Wd.le.refl w) hE hR
variable {st : Stmt} {rest : List Stmt} {g1 g2 : FS} {pos : Pos} {a b c e : Expr} {fa fb : FE} {gc : FB}
theorem SRes.seq {w : Wd} {env : Env} {S : Store} {D : Ends} (h : SRes G E w (sSeq g1 g2 env S) D) : SRes G E w (g1 env S) { D with nx := TSx G E g2 D } := by
  unfold sSeq at h
  match g1 env S, h with
  | none, h => exact h
  | some (.nx, env', S'), h => exact fun σ' H' w' l hE hR => ⟨w', env', S', hE, hR, h.mono l⟩
  | some (.bk, env', S'), h => exact h
  | some (.ct, env', S'), h => exact h
  | some (.rt r, env', S'), h => exact h
  | some (.xc e, env', S'), h => exact h
theorem qss_cons (h1 : QS X G E st g1) (h2 : QSs X G E rest g2) : QSs X G E (st :: rest) (sSeq g1 g2) := PSs.imp (pss_cons h1 h2) fun D σ H ⟨w, env, S, hE, hR, h⟩ => ⟨w, env, S, hE, hR, h.seq⟩
theorem qss_one (h1 : QS X G E st g1) : QSs X G E [st] g1 := pss_one h1
def sStk : FS := fun _ _ => none
/-- what is not run -/
theorem qs_stk : QS X G E st sStk := PS.imp ps_never fun D σ H ⟨w, env, S, hE, hR, h⟩ => h
theorem qs_pass : QS X G E (.Pass pos) sNil := PS.imp ps_pass fun D σ H ⟨w, env, S, hE, hR, h⟩ => h σ H w (Wd.le.refl w) hE hR
def sCont : FS := fun env S => some (.ct, env, S)
theorem qs_cont : QS X G E (.Continue pos) sCont := PS.imp ps_continue fun D σ H ⟨w, env, S, hE, hR, h⟩ => h σ H w (Wd.le.refl w) hE hR
def sRet (f : FE) : FS := fun env S => bS (f env S) env fun x S' => some (.rt x, env, S')
theorem qs_ret (h : QE X G E e fa) : QS X G E (.Return (some e) pos) (sRet fa) := PS.imp (ps_ret h) fun D σ H ⟨w, env, S, hE, hR, h⟩ => TEx.subS hE hR h fun x v H1 w1 S1 l R1 r q => q v H1 w1 (Wd.le.refl w1) R1 r
def sDo (f : FE) : FS := fun env S => bS (f env S) env fun _ S' => some (.nx, env, S')
theorem qs_do (h : QE X G E e fa) (hs : swapsWith e none pos.line X.env = pure false := by rfl) : QS X G E (.Expr e pos) (sDo fa) := PS.imp (ps_expr h hs) fun D σ H ⟨w, env, S, hE, hR, h⟩ => TEx.subS hE hR h fun x v H1 w1 S1 l R1 r q => q σ H1 w1 (Wd.le.refl w1) (hE.mono l) R1
def sIf (gc : FB) (g1 g2 : FS) : FS := fun env S => bS (gc env S) env fun k S' => if k = true then g1 env S' else g2 env S'
theorem qs_if {p q : List Stmt} (hc : QT X G E c gc) (h1 : QSs X G E p g1) (h2 : QSs X G E q g2) : QS X G E (.If c p q pos) (sIf gc g1 g2) := PS.imp (ps_if hc h1 h2) fun D σ H ⟨w, env, S, hE, hR, h⟩ => TTx.subS hE hR h fun k H1 w1 S1 l R1 q => by
  cases k with
  | true => rw [if_pos rfl]; exact ⟨w1, env, S1, hE.mono l, R1, q⟩
  | false => rw [if_neg (by decide)]; exact ⟨w1, env, S1, hE.mono l, R1, q⟩
def sSet (i : Nat) (f : FE) : FS := fun env S => bS (f env S) env fun x S' => some (.nx, env.set i (some x), S')
theorem qs_set {i : Nat} {x : Str} {pos' : Pos} (hN : X.N.Nodup) (hi : X.N[i]? = some x) (hx : Loc X.env.scope x) (he : QE X G E e fa) (hs : swapsWith e (some (.Name x pos')) pos.line X.env = pure false := by rfl) (hf : X.fn x = true ∨ X.env.scope.names.lookup x = some .local := by first | exact .inl rfl | exact .inr rfl | assumption) :
    QS X G E (.Assign [.Name x pos'] e pos) (sSet i fa) := PS.imp (ps_set hN hi hx he hs hf) fun D σ H ⟨w, env, S, hE, hR, h⟩ => TEx.subS hE hR h fun x v H1 w1 S1 l R1 r q => q _ H1 w1 (Wd.le.refl w1) ((hE.mono l).set i r) R1
/-- a list of the store, plain again (what is handed back, or kept, and not written any more) -/
def unN : Val → M Val
  | .d x => ret (.d x)
  | .r i => fun S => match S[i]? with
    | some (.lst xs) => (datas xs).map fun ds => (.ok (.d (.lst ds)), S.set i .dead)
    | _ => none
theorem VP.unN {w : Wd} {x : Val} {S : Store} {Q : VK} (h : Res G E w (unN x S) (VP G w Q)) : VP G w Q x S := fun v H' w' l R r => by
  cases x with
  | d x => exact h v H' w' l R r
  | r i =>
    unfold Y.unN at h
    dsimp only at h
    cases e : S[i]? with
    | none => rw [e] at h; exact h.elim
    | some o =>
      rw [e] at h
      cases o with
      | lst xs =>
        dsimp only at h
        cases e2 : datas xs with
        | none => rw [e2] at h; exact h.elim
        | some ds =>
          rw [e2] at h
          obtain ⟨f0, vs, h2, h3⟩ := R.ob i _ e
          have hi := (List.getElem?_eq_some_iff.mp e).1
          have K := R.kill i
          have l2 : w'.le (w'.frz (w'.ι i) (.lst vs)) := Wd.frz_le f0
          have nl : ∀ j q, (S.set i Ob.dead)[j]? = some q → q ≠ Ob.dead → w'.ι j ≠ w'.ι i := fun j q z lq ej => by
            by_cases hj : i = j
            · subst hj
              rw [List.getElem?_set_self hi] at z
              cases z
              exact lq rfl
            · rw [List.getElem?_set_ne hj] at z
              exact hj (R.inj i j _ q e z (by simp) lq ej.symm)
          have h4 : VP G w Q (.d (.lst ds)) (S.set i .dead) := h
          rw [r.2]
          exact h4 _ H' _ (l.trans l2) (K.freeze h2 f0 nl (R.tl i _ e (by simp))) ⟨w'.ι i, vs, rfl, upd_same, (VRs.reps e2 h3).mono l2.1⟩
      | _ => exact h.elim
def fUn (f : FE) : FE := fun env => bnd (f env) unN
theorem qe_un (h : QE X G E e fa) : QE X G E e (fUn fa) := PE.imp h fun σ H Q ⟨w, env, S, hE, hR, h⟩ => ⟨w, env, S, hE, hR, h.bnd.imp fun _ _ z => VP.unN z⟩

/-! ### targets: which slots are written (ts), how -/
def TGx (G : Gx) (ts : List Nat) (gt : Val → Env → Option Env) : TG := fun v σ H Q => ∃ w env S x env', EnvR G w env σ ∧ Rl G w H S ∧ VR G w x v ∧ gt x env = some env' ∧
  ∀ σ', EnvR G w env' σ' → (∀ vs : List Nat, (∀ i, i ∈ ts → i ∈ vs) → wipe σ' vs = wipe σ vs) → Q σ' H
abbrev QG (X : Cx) (G : Gx) (tg : Expr) (ts : List Nat) (gt : Val → Env → Option Env) : Prop := PG X tg (TGx G ts gt)
theorem wipe_set' {σ : St} {i : Nat} {v : Option V} : ∀ vs : List Nat, (wipe (σ.set i v) vs).set i none = (wipe σ vs).set i none
  | [] => by show (σ.set i v).set i none = σ.set i none; rw [List.set_set]
  | j :: vs => by
    show ((wipe (σ.set i v) vs).set j none).set i none = ((wipe σ vs).set j none).set i none
    by_cases e : j = i
    · subst e
      rw [List.set_set, List.set_set]
      exact wipe_set' vs
    · rw [List.set_comm _ _ e, wipe_set' vs, List.set_comm _ _ (Ne.symm e)]
theorem wipe_set {σ : St} {i : Nat} {v : Option V} : ∀ {vs : List Nat}, i ∈ vs → wipe (σ.set i v) vs = wipe σ vs
  | j :: vs, h => by
    show (wipe (σ.set i v) vs).set j none = (wipe σ vs).set j none
    by_cases e : i = j
    · subst e
      exact wipe_set' vs
    · rw [wipe_set (by
        rcases List.mem_cons.mp h with z | z
        · exact absurd z e
        · exact z)]
def gN (i : Nat) : Val → Env → Option Env := fun x env => some (env.set i (some x))
theorem PG.imp {tg : Expr} {t t' : TG} (h : PG X tg t) (k : ∀ v σ H Q, t' v σ H Q → t v σ H Q) : PG X tg t' := by
  obtain ⟨r⟩ := h
  constructor
  intros
  apply r
  · assumption
  · assumption
  · apply k; assumption
theorem qg_name {i : Nat} {x : Str} (hN : X.N.Nodup) (hi : X.N[i]? = some x) (hx : Loc X.env.scope x) (hf : X.fn x = true ∨ X.env.scope.names.lookup x = some .local := by first | exact .inl rfl | exact .inr rfl | assumption) : QG X G (.Name x pos) [i] (gN i) :=
  PG.imp (pg_name hN hi hx hf) fun v σ H Q ⟨w, env, S, x, env', hE, hR, r, e, k⟩ => by
    cases e
    exact k _ (hE.set i r) fun vs h => wipe_set (h i List.mem_cons_self)
/-- several names, from a tuple -/
def setsE : List Nat → List D → Env → Option Env
  | [], [], env => some env
  | i :: is, d :: ds, env => setsE is ds (env.set i (some (.d d)))
  | _, _, _ => none
def gT (ts : List Nat) : Val → Env → Option Env := fun x env => (tupV x).bind fun ds => setsE ts ds env
def TGsx (G : Gx) (ts : List Nat) : TGs := fun vs σ H Q => ∃ w env S ds env', EnvR G w env σ ∧ Rl G w H S ∧ Reps G w.F ds vs ∧ setsE ts ds env = some env' ∧
  ∀ σ', EnvR G w env' σ' → (∀ vs : List Nat, (∀ i, i ∈ ts → i ∈ vs) → wipe σ' vs = wipe σ vs) → Q σ' H
abbrev QGs (X : Cx) (G : Gx) (tg : List Expr) (ts : List Nat) : Prop := PGs X tg (TGsx G ts)
theorem PGs.imp {tg : List Expr} {t t' : TGs} (h : PGs X tg t) (k : ∀ v σ H Q, t' v σ H Q → t v σ H Q) : PGs X tg t' := by
  obtain ⟨r⟩ := h
  constructor
  intros
  apply r
  · assumption
  · assumption
  · apply k; assumption
theorem qgs_nil : QGs X G [] [] := PGs.imp pgs_nil fun vs σ H Q ⟨w, env, S, ds, env', hE, hR, r, e, k⟩ => by
  cases ds with
  | nil =>
    cases e
    exact ⟨r, k σ hE fun _ _ => rfl⟩
  | cons d ds => cases e
theorem qgs_cons {i : Nat} {is : List Nat} {tg : Expr} {tgs : List Expr} (h1 : PG X tg (gName i)) (h2 : QGs X G tgs is) (hs : (assignEach (tg :: tgs) X.env).map (·.2) = assign tg X.env :: (assignEach tgs X.env).map (·.2) := by rfl) : QGs X G (tg :: tgs) (i :: is) :=
  PGs.imp (pgs_cons h1 h2 hs) fun vs σ H Q ⟨w, env, S, ds, env', hE, hR, r, e, k⟩ => by
    cases ds with
    | nil => cases e
    | cons d ds =>
      obtain ⟨v, q, h1, h2, h3⟩ := r
      exact ⟨v, q, h1, w, env.set i (some (.d d)), S, ds, env', hE.set i h2, hR, h3, e, fun σ' hE' hw => k σ' hE' fun vs hv => by
        rw [hw vs fun j hj => hv j (List.mem_cons_of_mem _ hj)]
        exact wipe_set (hv i List.mem_cons_self)⟩
theorem setsE_len : ∀ {ts : List Nat} {ds : List D} {env env' : Env}, setsE ts ds env = some env' → ds.length = ts.length
  | [], [], _, _, _ => rfl
  | i :: is, d :: ds, env, env', h => by rw [List.length_cons, List.length_cons, setsE_len (ts := is) h]
  | [], _ :: _, _, _, h => by cases h
  | _ :: _, [], _, _, h => by cases h
theorem qg_tup {es : List Expr} {k : Nat} {ts : List Nat} (hK : X.K = G.K) (hc : X.calm = true) (h : QGs X G es ts) (hn : (assignEach es X.env).length = ts.length := by rfl) (hst : (assignEach es X.env).findIdx? (·.1) = none := by rfl) : QG X G (.Tuple es k pos) ts (gT ts) :=
  PG.imp (pg_tup hc h hn hst) fun v σ H Q ⟨w, env, S, x, env', hE, hR, r, e, k⟩ => by
    obtain ⟨ds, e1, e2⟩ := Option.bind_eq_some_iff.mp e
    obtain ⟨a, vs, h1, h2, h3⟩ := tupV_of hR r e1
    exact ⟨a, vs, h1, by rw [hK]; exact h2, by rw [← h3.len]; exact setsE_len e2, w, env, S, ds, env', hE, hR, h3, e2, k⟩
/-- a, b = e with e a tuple by value -/
def sAsg (gt : Val → Env → Option Env) (f : FE) : FS := fun env S => bS (f env S) env fun x S' => (gt x env).map fun env' => (.nx, env', S')
theorem qs_asg {tg : Expr} {ts : List Nat} {gt : Val → Env → Option Env} (he : QE X G E e fa) (hg : QG X G tg ts gt) (hs : swapsWithSole [tg] e pos.line X.env = pure false := by rfl) (hw : swappedStores [tg] e X.env = pure none := by rfl)
    (h1 : (assignEach [tg] X.env).map (·.2) = [assign tg X.env] := by rfl) : QS X G E (.Assign [tg] e pos) (sAsg gt fa) := PS.imp (ps_asg he hg hs hw h1) fun D σ H ⟨w, env, S, hE, hR, h⟩ => TEx.subS hE hR h fun x v H1 w1 S1 l R1 r q => by
  cases e : gt x env with
  | none => rw [e] at q; exact q.elim
  | some env' =>
    rw [e] at q
    exact ⟨w1, env, S1, x, env', hE.mono l, R1, r, e, fun σ' hE' _ => q σ' H1 w1 (Wd.le.refl w1) hE' R1⟩

/-! ### what is walked: the values, each as it comes -/
def WalkR (G : Gx) (w : Wd) (J : It) (xs : List Val) : Prop := ∀ H2 w2 S2, w.le0 w2 → Rl G w2 H2 S2 →
  (∀ i, i < xs.length → J.go i H2) ∧ J.stop xs.length H2 ∧ ∀ i x H3, i < xs.length → J.yld i H2 x H3 → ∃ y w3, xs[i]? = some y ∧ w2.le w3 ∧ Rl G w3 H3 S2 ∧ VR G w3 y x
def TIx (G : Gx) (E : XK) (f : FA) : TI := fun σ H R => ∃ w env S, EnvR G w env σ ∧ Rl G w H S ∧ Res G E w (f env S) (fun xs S' => ∀ J H' w', w.le w' → Rl G w' H' S' → WalkR G w' J xs → R J H')
abbrev QI (X : Cx) (G : Gx) (E : XK) (tg iter : Expr) (f : FA) : Prop := PI X tg iter (TIx G E f)
theorem PI.imp {tg it : Expr} {t t' : TI} (h : PI X tg it t) (k : ∀ σ H R, t' σ H R → t σ H R) : PI X tg it t' := by
  obtain ⟨r⟩ := h
  constructor
  intros
  apply r
  · assumption
  · apply k; assumption
/-- a list or a tuple, whichever the value is -/
def iSeq (K : PySem.W.Frag) (tl : TE) : TI := fun σ H R => tl σ H fun x H1 => ∃ a, x = .ref a ∧ (((∃ xs, SqL K H1 a xs) ∧ R (Itl K a) H1) ∨ ((∃ xs, SqT K H1 a xs) ∧ R (Itt K a) H1))
theorem pi_seq {tg l : Expr} {tl : TE} (hl : PE X l tl) : PI X tg l (iSeq X.K tl) := by
  refine ⟨fun pins s σ H R I h => ?_⟩
  refine thn (hl.run pins s σ H _ I h) fun v s1 ⟨x, H1, I1, r1, q1⟩ => ?_
  obtain ⟨a, e, q⟩ := q1
  subst e
  cases r1
  have fp : ∀ b ∈ [s1.heap.objs.size], FpOk X pins H1 b := fun b hb => by
    have e : b = s1.heap.objs.size := by simpa using hb
    subst e
    exact I1.fpOk (Nat.le_refl _) (I1.hok.fresh (Nat.le_refl _))
  rcases q with ⟨⟨xs, hq⟩, q⟩ | ⟨⟨xs, hq⟩, q⟩
  · obtain ⟨its, rv, p, hz⟩ := I1.list hq
    refine wpAny_pyIter_list p.isList ?_
    exact ⟨s1.heap.objs.size, [s1.heap.objs.size], _, _, H1, rfl, I1.kept (t' := s1.toks) fun b o e => Heap.get?_push_of_some _ e, turn_list a _, ⟨_, Heap.get?_push_size _ rfl, rfl, rfl⟩, fp, q⟩
  · obtain ⟨its, rv, p, hz⟩ := I1.tuple hq
    refine PySem.wpAny_pyIter_tuple (show s1.heap.IsTuple a its.toArray from p) ?_
    exact ⟨s1.heap.objs.size, [s1.heap.objs.size], _, _, H1, rfl, I1.kept (t' := s1.toks) fun b o e => Heap.get?_push_of_some _ e, turn_tuple a _, ⟨_, Heap.get?_push_size _ rfl, rfl, rfl⟩, fp, q⟩
/-- plain sequences -/
def fzV : Val → Option (List Val)
  | .d (.tup ds) => some (ds.map .d)
  | .d (.lst ds) => some (ds.map .d)
  | .d (.ro ns) => some (ns.map fun n => .d (.int n))
  | _ => none
def fSeq (f : FE) : FA := fun env => bnd (f env) fun x => lift (fzV x)
theorem walkR_list {w : Wd} {a : Addr} {vs : List V} {xs : List Val} (h : ∀ H2 w2 S2, w.le0 w2 → Rl G w2 H2 S2 → SqL G.K H2 a vs) (r : VRs G w xs vs) : WalkR G w (Itl G.K a) xs := fun H2 w2 S2 l R => by
  have q := h H2 w2 S2 l R
  refine ⟨fun i hi => ⟨vs, vs[i]'(by rw [← r.len]; exact hi), q, by simp⟩, ⟨vs, q, by rw [r.len]; exact Nat.le_refl _⟩, fun i x H3 hi y => ?_⟩
  obtain ⟨e, k⟩ := y
  obtain ⟨v, h1, h2⟩ := r.get (List.getElem?_eq_getElem hi)
  have h3 := k vs q
  rw [h1] at h3
  cases h3
  exact ⟨_, w2, List.getElem?_eq_getElem hi, Wd.le.refl _, by rw [e]; exact R, h2.mono0 l⟩
theorem walkR_tup {w : Wd} {a : Addr} {vs : List V} {xs : List Val} (h : ∀ H2 w2 S2, w.le0 w2 → Rl G w2 H2 S2 → SqT G.K H2 a vs) (r : VRs G w xs vs) : WalkR G w (Itt G.K a) xs := fun H2 w2 S2 l R => by
  have q := h H2 w2 S2 l R
  refine ⟨fun i hi => ⟨vs, vs[i]'(by rw [← r.len]; exact hi), q, by simp⟩, ⟨vs, q, by rw [r.len]; exact Nat.le_refl _⟩, fun i x H3 hi y => ?_⟩
  obtain ⟨e, k⟩ := y
  obtain ⟨v, h1, h2⟩ := r.get (List.getElem?_eq_getElem hi)
  have h3 := k vs q
  rw [h1] at h3
  cases h3
  exact ⟨_, w2, List.getElem?_eq_getElem hi, Wd.le.refl _, by rw [e]; exact R, h2.mono0 l⟩
theorem qi_seq {tg : Expr} (hK : X.K = G.K) (h : QE X G E e fa) : QI X G E tg e (fSeq fa) := PI.imp (pi_seq h) fun σ H R ⟨w, env, S, hE, hR, h⟩ => TEx.sub hE hR h fun x v H1 w1 S1 l R1 r q => by
  have q2 : ∀ xs, fzV x = some xs → ∀ J, WalkR G w1 J xs → R J H1 := fun xs e J hJ => by
    unfold lift at q
    rw [e] at q
    exact q J H1 w1 l R1 hJ
  rw [hK]
  cases x with
  | r i => exact q.elim
  | d x =>
    cases x with
    | tup ds =>
      obtain ⟨a, vs, h1, h2, h3⟩ := r
      refine ⟨a, h1, .inr ⟨⟨vs, same_sqT R1.fz h2⟩, q2 _ rfl _ (walkR_tup (fun H2 w2 S2 l2 R2 => same_sqT (l2.1.trans R2.fz) h2) (Reps.vrs h3))⟩⟩
    | lst ds =>
      obtain ⟨a, vs, h1, h2, h3⟩ := r
      refine ⟨a, h1, .inl ⟨⟨vs, SqL.of (R1.fz _ _ h2)⟩, q2 _ rfl _ (walkR_list (fun H2 w2 S2 l2 R2 => SqL.of (R2.fz _ _ (l2.1 _ _ h2))) (Reps.vrs h3))⟩⟩
    | ro ns =>
      obtain ⟨a, h1, h2⟩ := r
      refine ⟨a, h1, .inl ⟨⟨_, R1.fz.seq h2⟩, q2 _ rfl _ (walkR_list (fun H2 w2 S2 l2 R2 => (l2.1.trans R2.fz).seq h2) (ints_vrs ns))⟩⟩
    | _ => exact q.elim
/-- range -/
def rngV (lo hi : Int) : List Val := (List.range (hi - lo).toNat).map fun (i : Nat) => .d (.int (lo + i))
def inR (i : Int) : Bool := decide (-(2 ^ 62) ≤ i) && decide (i < 2 ^ 62)
theorem inR_iff {i : Int} (h : inR i = true) : -(2 ^ 62) ≤ i ∧ i < 2 ^ 62 := by
  unfold inR at h
  rw [Bool.and_eq_true, decide_eq_true_eq, decide_eq_true_eq] at h
  exact h
def rng1 : List Val → M (List Val) := fun xs => match xs with
  | [x] => fun S => match asI x with
    | some j => if inR j = true then some (.ok (rngV 0 j), S) else none
    | none => none
  | _ => stk
def rng2 : List Val → M (List Val) := fun xs => match xs with
  | [x, y] => fun S => match asI x, asI y with
    | some i, some j => if (inR i && inR j) = true then some (.ok (rngV i j), S) else none
    | _, _ => none
  | _ => stk
theorem rngV_get {lo hi : Int} {i : Nat} (h : i < (hi - lo).toNat) : (rngV lo hi)[i]? = some (.d (.int (lo + i))) := by
  unfold rngV
  rw [List.getElem?_map, List.getElem?_range h]
  rfl
theorem rngV_len (lo hi : Int) : (rngV lo hi).length = (hi - lo).toNat := by unfold rngV; rw [List.length_map, List.length_range]
theorem walkR_rng {w : Wd} (lo hi : Int) : WalkR G w (Itr lo (hi - lo).toNat) (rngV lo hi) := fun H2 w2 S2 l R => by
  rw [rngV_len]
  refine ⟨fun i hi => hi, Nat.le_refl _, fun i x H3 hi y => ?_⟩
  obtain ⟨e, k⟩ := y
  exact ⟨_, w2, rngV_get hi, Wd.le.refl _, by rw [e]; exact R, k⟩
variable {fs : FA}
theorem qi_rng1 {tg : Expr} {p : Pos} (hg : Gl X "range") (hm : X.mg "range" = none) (ha : QA X G E [a] fs) (hs : starEach [a] X.env = [(false, eval a X.env)] := by rfl) : QI X G E tg (.Call (.Name "range" p) [a] [] pos) (fCall rng1 fs) :=
  PI.imp (pi_range1 hg hm ha hs) fun σ H R ⟨w, env, S, hE, hR, h⟩ => TAx.sub hE hR h fun xs vs H1 w1 S1 l R1 r q => by
    unfold rng1 at q
    match xs, r, q with
    | [], _, q => exact q.elim
    | [x], r, q =>
      dsimp only at q
      cases e : asI x with
      | none => rw [e] at q; exact q.elim
      | some j =>
        rw [e] at q
        dsimp only at q
        by_cases c : inR j = true
        · rw [if_pos c] at q
          obtain ⟨v, h1, r1⟩ := r.one
          obtain rfl := asI_inv e
          obtain ⟨c1, c2⟩ := inR_iff c
          have q2 := q (Itr 0 (j - 0).toNat) H1 w1 l R1 (walkR_rng 0 j)
          rw [Int.sub_zero] at q2
          exact ⟨j, by rw [h1, show v = _ from r1], c1, c2, q2⟩
        · rw [if_neg c] at q
          exact q.elim
    | _ :: _ :: _, _, q => exact q.elim
theorem qi_rng2 {tg : Expr} {p : Pos} (hg : Gl X "range") (hm : X.mg "range" = none) (ha : QA X G E [a, b] fs) (hs : starEach [a, b] X.env = [(false, eval a X.env), (false, eval b X.env)] := by rfl) (hs2 : starEach [b] X.env = [(false, eval b X.env)] := by rfl) : QI X G E tg (.Call (.Name "range" p) [a, b] [] pos) (fCall rng2 fs) :=
  PI.imp (pi_range2 hg hm ha hs hs2) fun σ H R ⟨w, env, S, hE, hR, h⟩ => TAx.sub hE hR h fun xs vs H1 w1 S1 l R1 r q => by
    unfold rng2 at q
    match xs, r, q with
    | [], _, q => exact q.elim
    | [_], _, q => exact q.elim
    | [x, y], r, q =>
      dsimp only at q
      cases e : asI x with
      | none => rw [e] at q; exact q.elim
      | some i =>
        cases e2 : asI y with
        | none => rw [e, e2] at q; exact q.elim
        | some j =>
          rw [e, e2] at q
          dsimp only at q
          by_cases c : (inR i && inR j) = true
          · rw [if_pos c] at q
            rw [Bool.and_eq_true] at c
            obtain ⟨v, u, h1, r1, r2⟩ := r.two
            obtain rfl := asI_inv e
            obtain rfl := asI_inv e2
            obtain ⟨c1, c2⟩ := inR_iff c.1
            obtain ⟨c3, c4⟩ := inR_iff c.2
            exact ⟨i, j, by rw [h1, show v = _ from r1, show u = _ from r2], ⟨c1, c2, c3, c4⟩, q (Itr i (j - i).toNat) H1 w1 l R1 (walkR_rng i j)⟩
          · rw [if_neg c] at q
            exact q.elim
    | _ :: _ :: _ :: _, _, q => exact q.elim

/-! ### for -/
def forL (gt : Val → Env → Option Env) (body : FS) : List Val → FS
  | [], env, S => some (.nx, env, S)
  | x :: xs, env, S => match gt x env with
    | none => none
    | some env1 => match body env1 S with
      | none => none
      | some (.nx, env', S') => forL gt body xs env' S'
      | some (.ct, env', S') => forL gt body xs env' S'
      | some (.bk, env', S') => some (.nx, env', S')
      | some (.rt r, env', S') => some (.rt r, env', S')
      | some (.xc e, env', S') => some (.xc e, env', S')
def sFor (fi : FA) (gt : Val → Env → Option Env) (body : FS) : FS := fun env S => bS (fi env S) env fun xs S' => forL gt body xs env S'
theorem TIx.subS {f : FA} {k : List Val → Store → SO} {w : Wd} {env env0 : Env} {σ : St} {H : Hp} {S : Store} {D : Ends} {R : It → Hp → Prop} (hE : EnvR G w env σ) (hR : Rl G w H S) (h : SRes G E w (bS (f env S) env0 k) D)
    (kk : ∀ xs J H1 w1 S1, w.le w1 → Rl G w1 H1 S1 → WalkR G w1 J xs → SRes G E w1 (k xs S1) D → R J H1) : TIx G E f σ H R :=
  ⟨w, env, S, hE, hR, h.bS.imp fun xs S1 q J H1 w1 l R1 r => kk xs J H1 w1 S1 l R1 r (q.mono l)⟩
theorem forL_cons {gt : Val → Env → Option Env} {body : FS} {x : Val} {xs : List Val} {env : Env} {S : Store} {w : Wd} {D : Ends} (h : SRes G E w (forL gt body (x :: xs) env S) D) :
    ∃ env1, gt x env = some env1 ∧ SRes G E w (body env1 S) { D with nx := TSx G E (forL gt body xs) D, ct := TSx G E (forL gt body xs) D, bk := D.nx } := by
  unfold forL at h
  cases e : gt x env with
  | none => rw [e] at h; exact h.elim
  | some env1 =>
    rw [e] at h
    dsimp only at h
    refine ⟨env1, rfl, ?_⟩
    match body env1 S, h with
    | none, h => exact h
    | some (.nx, env', S'), h => exact fun σ' H' w' l hE hR => ⟨w', env', S', hE, hR, h.mono l⟩
    | some (.ct, env', S'), h => exact fun σ' H' w' l hE hR => ⟨w', env', S', hE, hR, h.mono l⟩
    | some (.bk, env', S'), h => exact h
    | some (.rt r, env', S'), h => exact h
    | some (.xc e, env', S'), h => exact h
theorem qs_for {tg iter : Expr} {body : List Stmt} {ts : List Nat} {fi : FA} {gt : Val → Env → Option Env} {g : FS} (hp : PassesOwn (model X.prog X.w) X.A X.env X.xe) (hc : X.calm = true) (hi : QI X G E tg iter fi) (hg : QG X G tg ts gt) (hb : QSs X G E body g)
    (hs : ∀ x, foldedSetIterable iter X.env x = pure x := by intro _; rfl) : QS X G E (.For tg iter body [] pos) (sFor fi gt g) :=
  PS.imp (ps_for hp hc hi hg hb hs) fun D σ H ⟨w, env, S, hE, hR, h⟩ => TIx.subS hE hR h fun xs J H1 w1 S1 l R1 hJ q => by
    refine ⟨fun i m σ H => m = xs.length - i ∧ i ≤ xs.length ∧ ∃ w2 env S, w1.le w2 ∧ EnvR G w2 env σ ∧ Rl G w2 H S ∧ SRes G E w2 (forL gt g (xs.drop i) env S) D, ⟨xs.length, by simp, Nat.zero_le _, w1, env, S1, Wd.le.refl _, hE.mono l, R1, q⟩, ?_⟩
    rintro i m σ2 H2 ⟨rfl, hi, w2, env2, S2, l2, hE2, R2, q2⟩
    obtain ⟨j1, j2, j3⟩ := hJ H2 w2 S2 l2.le0 R2
    by_cases hlt : i < xs.length
    · refine .inr ⟨j1 i hlt, fun σ' H' => (i + 1 ≤ xs.length ∧ ∃ w3 env S, w1.le w3 ∧ EnvR G w3 env σ' ∧ Rl G w3 H' S ∧ SRes G E w3 (forL gt g (xs.drop (i + 1)) env S) D), fun σ' H' hN => ⟨xs.length - (i + 1), by omega, rfl, hN.1, hN.2⟩, fun x H3 y => ?_⟩
      obtain ⟨yv, w3, e1, l3, R3, r3⟩ := j3 i x H3 hlt y
      rw [List.drop_eq_getElem_cons hlt] at q2
      have ey : xs[i] = yv := by rw [List.getElem?_eq_getElem hlt] at e1; exact Option.some.inj e1
      rw [ey] at q2
      obtain ⟨env1, e2, q3⟩ := forL_cons (q2.mono l3)
      refine ⟨w3, env2, S2, yv, env1, hE2.mono l3, R3, r3, e2, fun σ' hE' _ => ⟨w3, env1, S2, hE', R3, ?_⟩⟩
      have up : ∀ σ' H' w', w3.le w' → TSx G E (forL gt g (xs.drop (i + 1))) D σ' H' → True := fun _ _ _ _ _ => trivial
      match hbody : g env1 S2, q3 with
      | none, q3 => exact q3.elim
      | some (.nx, env', S'), q3 =>
        exact fun σ' H' w' l' hE' R' => ⟨hlt, w', env', S', (l2.trans l3).trans l', hE', R', by
          have z := forL_cons (q2.mono l3)
          obtain ⟨env9, e9, q9⟩ := z
          rw [e2] at e9
          cases e9
          unfold forL at q2
          rw [e2] at q2
          dsimp only at q2
          rw [hbody] at q2
          exact (q2.mono l3).mono l'⟩
      | some (.ct, env', S'), q3 =>
        exact fun σ' H' w' l' hE' R' => ⟨hlt, w', env', S', (l2.trans l3).trans l', hE', R', by
          unfold forL at q2
          rw [e2] at q2
          dsimp only at q2
          rw [hbody] at q2
          exact (q2.mono l3).mono l'⟩
      | some (.bk, env', S'), q3 => exact q3
      | some (.rt r, env', S'), q3 => exact q3
      | some (.xc e, env', S'), q3 => exact q3
    · have ei : i = xs.length := by omega
      subst ei
      rw [List.drop_length] at q2
      exact .inl ⟨j2, q2 σ2 H2 w2 (Wd.le.refl _) hE2 R2⟩

/-! ### while -/
def whileN (gc : FB) (body : FS) : Nat → FS
  | 0, _, _ => none
  | n + 1, env, S => bS (gc env S) env fun k S' => if k = true then (match body env S' with
      | none => none
      | some (.nx, env', S') => whileN gc body n env' S'
      | some (.ct, env', S') => whileN gc body n env' S'
      | some (.bk, env', S') => some (.nx, env', S')
      | some (.rt r, env', S') => some (.rt r, env', S')
      | some (.xc e, env', S') => some (.xc e, env', S')) else some (.nx, env, S')
open Classical in
noncomputable def sWhile (gc : FB) (body : FS) : FS := fun env S => if h : ∃ n r, whileN gc body n env S = some r then whileN gc body h.choose env S else none
theorem sWhile_some {gc : FB} {body : FS} {env : Env} {S : Store} {r : Fl × Env × Store} (h : sWhile gc body env S = some r) : ∃ n, whileN gc body n env S = some r := by
  unfold sWhile at h
  split at h
  · rename_i q
    exact ⟨_, h⟩
  · cases h
theorem qs_while {body : List Stmt} {g : FS} (hp : PassesOwn (model X.prog X.w) X.A X.env X.xe) (hc : QT X G E c gc) (hb : QSs X G E body g) : QS X G E (.While c body [] pos) (sWhile gc g) :=
  PS.imp (ps_while hp hc hb) fun D σ H ⟨w, env, S, hE, hR, h⟩ => by
    have h2 : ∃ n, SRes G E w (whileN gc g n env S) D := by
      cases e : sWhile gc g env S with
      | none => rw [e] at h; exact h.elim
      | some r =>
        obtain ⟨n, hn⟩ := sWhile_some e
        exact ⟨n, by rw [hn, ← e]; exact h⟩
    obtain ⟨n, h2⟩ := h2
    refine ⟨fun m σ H => ∃ w env S, EnvR G w env σ ∧ Rl G w H S ∧ SRes G E w (whileN gc g m env S) D, ⟨n, w, env, S, hE, hR, h2⟩, ?_⟩
    rintro m σ2 H2 ⟨w2, env2, S2, hE2, R2, q2⟩
    cases m with
    | zero => exact q2.elim
    | succ m =>
      refine TTx.subS hE2 R2 q2 fun k H3 w3 S3 l3 R3 q3 => ?_
      cases k with
      | false =>
        rw [if_neg (by decide)] at q3 ⊢
        exact q3 σ2 H3 w3 (Wd.le.refl _) (hE2.mono l3) R3
      | true =>
        rw [if_pos rfl] at q3 ⊢
        refine ⟨fun σ H => ∃ w env S, EnvR G w env σ ∧ Rl G w H S ∧ SRes G E w (whileN gc g m env S) D, fun σ' H' hN => ⟨m, Nat.lt_succ_self _, hN⟩, w3, env2, S3, hE2.mono l3, R3, ?_⟩
        match g env2 S3, q3 with
        | none, q3 => exact q3.elim
        | some (.nx, env', S'), q3 => exact fun σ' H' w' l' hE' R' => ⟨w', env', S', hE', R', q3.mono l'⟩
        | some (.ct, env', S'), q3 => exact fun σ' H' w' l' hE' R' => ⟨w', env', S', hE', R', q3.mono l'⟩
        | some (.bk, env', S'), q3 => exact q3
        | some (.rt r, env', S'), q3 => exact q3
        | some (.xc e, env', S'), q3 => exact q3
end Y

set_option Elab.async false
set_option linter.all false
set_option maxRecDepth 100000
set_option maxHeartbeats 4000000
namespace Y
open PySem PySem.Spec L2
variable {G : Gx} {E : XK} {X : Cx}

/-! ### list comprehensions -/
abbrev E0 : XK := fun _ _ _ => False
def wipeE (env : Env) : List Nat → Env
  | [] => env
  | v :: vs => (wipeE env vs).set v none
theorem EnvR.wipe {w : Wd} {env : Env} {σ : St} (h : EnvR G w env σ) : ∀ vs : List Nat, EnvR G w (wipeE env vs) (wipe σ vs)
  | [] => h
  | v :: vs => by
    have ih := EnvR.wipe h vs
    refine ⟨by show ((wipeE env vs).set v none).length = ((L2.wipe σ vs).set v none).length; rw [List.length_set, List.length_set]; exact ih.1, fun i x e => ?_⟩
    have e' : ((wipeE env vs).set v none)[i]? = some (some x) := e
    by_cases hv : v = i
    · subst hv
      by_cases hl : v < (wipeE env vs).length
      · rw [List.getElem?_set_self hl] at e'
        cases e'
      · rw [List.getElem?_eq_none (by simpa using hl)] at e'
        cases e'
    · rw [List.getElem?_set_ne hv] at e'
      obtain ⟨u, h1, h2⟩ := ih.2 i x e'
      exact ⟨u, by show ((L2.wipe σ vs).set v none)[i]? = _; rw [List.getElem?_set_ne hv]; exact h1, h2⟩
/-- within a comprehension nothing is raised -/
def noX {α : Type} (m : M α) : M α := fun S => match m S with
  | some (.exc _, _) => none
  | o => o
def lcL (gt : Val → Env → Option Env) (gc : FB) (f : FE) (env0 : Env) : List Val → List Val → M (List Val)
  | [], acc => ret acc
  | x :: xs, acc => fun S => match gt x env0 with
    | none => none
    | some env1 => bnd (gc env1) (fun k => if k = true then bnd (f env1) (fun y S' => if acc.length < sizeLine then lcL gt gc f env0 xs (acc ++ [y]) S' else none) else lcL gt gc f env0 xs acc) S
def fLc (fi : FA) (gt : Val → Env → Option Env) (gc : FB) (f : FE) (vs : List Nat) : FA := fun env => bnd (fi env) fun xs => noX (lcL gt gc f (wipeE env vs) xs [])
def gYes : FB := fun _ => ret true
def gNo (c : Bool) : FB := fun _ => ret c
theorem qts_nil : PTs X [] (TTx G E gYes) := by
  have h : PTs X [] tYes := pts_nil
  obtain ⟨r⟩ := h
  constructor
  intro pins s σ H Q I ⟨w, env, S, hE, hR, h⟩
  exact r pins s σ H Q I (h H w (Wd.le.refl _) hR)
theorem qts_one {c : Expr} {gc : FB} (h : QT X G E c gc) : PTs X [c] (TTx G E gc) := pts_one h
theorem TIx.sub {f : FA} {g : List Val → M β} {w : Wd} {env : Env} {σ : St} {H : Hp} {S : Store} {P : β → Store → Prop} {R : It → Hp → Prop} (hE : EnvR G w env σ) (hR : Rl G w H S) (h : Res G E w (bnd (f env) g S) P)
    (k : ∀ xs J H1 w1 S1, w.le w1 → Rl G w1 H1 S1 → WalkR G w1 J xs → Res G E w1 (g xs S1) P → R J H1) : TIx G E f σ H R :=
  ⟨w, env, S, hE, hR, h.bnd.imp fun xs S1 q J H1 w1 l R1 r => k xs J H1 w1 S1 l R1 r (q.mono l fun _ _ z => z)⟩
/-- the temporaries of a loop within a comprehension: D the list that is made -/
structure Mk (G : Gx) (w1 w2 : Wd) (H : Hp) (S : Store) (D : Addr) (acc : List Val) : Prop where
  R : Rl G w2 H S
  le : w1.le (w2.wT w1.T)
  d : ∃ avs, w2.T = upd w1.T D (.lst avs) ∧ VRs G w2 acc avs
theorem Mk.start {w1 : Wd} {H : Hp} {S : Store} {D : Addr} (R : Rl G w1 H S) (n : H D = none) : Mk G w1 (w1.wT (upd w1.T D (.lst []))) (upd H D (.lst [])) S D [] :=
  ⟨R.tmp (R.newF n) (R.newS n), Wd.le.refl _, [], rfl, rfl⟩
theorem Mk.step {w1 w2 w3 : Wd} {H H3 : Hp} {S S3 : Store} {D : Addr} {acc : List Val} (m : Mk G w1 w2 H S D acc) (l : w2.le w3) (R : Rl G w3 H3 S3) : Mk G w1 w3 H3 S3 D acc := by
  obtain ⟨avs, h1, h2⟩ := m.d
  exact ⟨R, m.le.trans ⟨l.1, l.2.1, l.2.2.1, rfl⟩, avs, l.2.2.2.trans h1, h2.mono l⟩
theorem Mk.at {w1 w2 : Wd} {H : Hp} {S : Store} {D : Addr} {acc : List Val} (m : Mk G w1 w2 H S D acc) : ∃ avs, H D = some (.lst avs) ∧ acc.length = avs.length ∧ VRs G w2 acc avs ∧ w2.T D = some (.lst avs) := by
  obtain ⟨avs, h1, h2⟩ := m.d
  have h3 : w2.T D = some (.lst avs) := by rw [h1, upd_same]
  exact ⟨avs, m.R.tp D _ h3, h2.len, h2, h3⟩
theorem Mk.push {w1 w2 : Wd} {H : Hp} {S : Store} {D : Addr} {acc : List Val} {y : Val} {v : V} (m : Mk G w1 w2 H S D acc) (r : VR G w2 y v) : ∀ avs, H D = some (.lst avs) → ∃ w3, Mk G w1 w3 (upd H D (.lst (avs ++ [v]))) S D (acc ++ [y]) := fun avs e => by
  obtain ⟨avs', e', _, h2, h3⟩ := m.at
  rw [e] at e'
  cases e'
  obtain ⟨_, k1, _⟩ := m.d
  have nl : ∀ i q, S[i]? = some q → q ≠ Ob.dead → w2.ι i ≠ D := fun i q z l c => by
    have := m.R.tl i q z l
    rw [c, h3] at this
    cases this
  refine ⟨w2.wT (upd w2.T D (.lst (avs ++ [v]))), m.R.tmp (m.R.tf D _ h3) nl, m.le, avs ++ [v], ?_, ?_⟩
  · show upd w2.T D _ = _
    rw [k1, upd_upd]
  · exact (h2.app (show VRs G w2 [y] [v] from ⟨v, [], rfl, r, rfl⟩)).wT
theorem Mk.push0 {w1 w2 : Wd} {H : Hp} {S : Store} {D : Addr} {acc : List Val} {y : Val} {v : V} (m : Mk G w1 w2 H S D acc) (r : VR G w2 y v) : ∀ avs, H D = some (.lst avs) → ∃ w3, Mk G w1 w3 (upd H D (.lst (avs ++ [v]))) S D (acc ++ [y]) ∧ w2.le0 w3 := fun avs e => by
  obtain ⟨avs', e', _, h2, h3⟩ := m.at
  rw [e] at e'
  cases e'
  obtain ⟨_, k1, _⟩ := m.d
  have nl : ∀ i q, S[i]? = some q → q ≠ Ob.dead → w2.ι i ≠ D := fun i q z l c => by
    have := m.R.tl i q z l
    rw [c, h3] at this
    cases this
  refine ⟨w2.wT (upd w2.T D (.lst (avs ++ [v]))), ⟨m.R.tmp (m.R.tf D _ h3) nl, m.le, avs ++ [v], ?_, ?_⟩, Wd.le0.refl _⟩
  · show upd w2.T D _ = _
    rw [k1, upd_upd]
  · exact (h2.app (show VRs G w2 [y] [v] from ⟨v, [], rfl, r, rfl⟩)).wT
/-- the list is done: no one's -/
theorem Mk.done {w1 w2 : Wd} {H : Hp} {S : Store} {D : Addr} {acc : List Val} {Q : VK} (m : Mk G w1 w2 H S D acc) (n : w1.T D = none) (q : FP G w1 Q acc S) : Q (.ref D) H := by
  obtain ⟨avs, e, _, h2, h3⟩ := m.at
  obtain ⟨_, k1, _⟩ := m.d
  refine q D avs H (w2.wT w1.T) m.le (m.R.untmp ?_) e (m.R.tf D _ h3) (fun i q z l c => ?_) n h2.wT
  · intro b u eb
    rw [k1, upd_ne (ne_of_none eb n)]
    exact eb
  · have := m.R.tl i q z l
    have c' : w2.ι i = D := c
    rw [c', h3] at this
    cases this
theorem wipe_wipe {σ : St} : ∀ vs : List Nat, wipe (wipe σ vs) vs = wipe σ vs := fun vs => by
  have go : ∀ us : List Nat, (∀ i, i ∈ us → i ∈ vs) → wipe (wipe σ us) vs = wipe σ vs := by
    intro us
    induction us with
    | nil => intro _; rfl
    | cons i us ih =>
      intro h
      show wipe ((wipe σ us).set i none) vs = _
      rw [wipe_set (h i List.mem_cons_self)]
      exact ih fun j hj => h j (List.mem_cons_of_mem _ hj)
  exact go vs fun _ h => h
/-- it ends with a value -/
def ORes {α : Type} (o : Option (Ex α × Store)) (P : α → Store → Prop) : Prop := match o with
  | some (.ok a, S') => P a S'
  | _ => False
theorem ORes.res {α : Type} {w : Wd} {o : Option (Ex α × Store)} {P : α → Store → Prop} (h : ORes o P) : Res G E w o P := by
  match o, h with
  | some (.ok a, S'), h => exact h
  | some (.exc e, S'), h => exact h.elim
theorem ORes.bnd {α β : Type} {x : M α} {g : α → M β} {S : Store} {P : β → Store → Prop} (h : ORes (bnd x g S) P) : ORes (x S) (fun a S' => ORes (g a S') P) := by
  unfold Y.bnd at h
  match x S, h with
  | none, h => exact h
  | some (.exc e, S'), h => exact h
  | some (.ok a, S'), h => exact h
theorem Res.noX {α : Type} {w : Wd} {m : M α} {S : Store} {P : α → Store → Prop} (h : Res G E w (noX m S) P) : ORes (m S) P := by
  unfold Y.noX at h
  match m S, h with
  | none, h => exact h
  | some (.exc e, S'), h => exact h
  | some (.ok a, S'), h => exact h
theorem lcL_cons {gt : Val → Env → Option Env} {gc : FB} {f : FE} {env0 : Env} {x : Val} {xs acc : List Val} {S : Store} {P : List Val → Store → Prop} (h : ORes (lcL gt gc f env0 (x :: xs) acc S) P) :
    ∃ env1, gt x env0 = some env1 ∧ ORes (bnd (gc env1) (fun k => if k = true then bnd (f env1) (fun y S' => if acc.length < sizeLine then lcL gt gc f env0 xs (acc ++ [y]) S' else none) else lcL gt gc f env0 xs acc) S) P := by
  unfold lcL at h
  cases e : gt x env0 with
  | none => rw [e] at h; exact h.elim
  | some env1 => rw [e] at h; exact ⟨env1, rfl, h⟩
theorem lc_read {fi : FA} {gt : Val → Env → Option Env} {gc : FB} {f : FE} {vs ts : List Nat} (hts : ∀ i, i ∈ ts → i ∈ vs) {σ : St} {H : Hp} {Q : VK} (h : TFx G E (fLc fi gt gc f vs) σ H Q) :
    tLc (TIx G E fi) (TGx G ts gt) (TTx G E0 gc) (TEx G E0 f) vs σ H Q := by
  obtain ⟨w, env, S, hE, hR, h⟩ := h
  refine TIx.sub hE hR h fun xs J H1 w1 S1 l R1 hJ q D nD => ?_
  have nT : w1.T D = none := R1.tp.free nD
  have q0 : FP G w Q = FP G w Q := rfl
  refine ⟨fun i m H => m = xs.length - i ∧ i ≤ xs.length ∧ ∃ w2 S2 acc, Mk G w1 w2 H S2 D acc ∧ ORes (lcL gt gc f (wipeE env vs) (xs.drop i) acc S2) (FP G w Q), ⟨xs.length, by simp, Nat.zero_le _, _, S1, [], Mk.start R1 nD, q.noX⟩, ?_⟩
  rintro i m H2 ⟨rfl, hi, w2, S2, acc, mk, q2⟩
  obtain ⟨j1, j2, j3⟩ := hJ H2 w2 S2 mk.le.le0 mk.R
  by_cases hlt : i < xs.length
  · refine .inr ⟨j1 i hlt, fun H' => (i + 1 ≤ xs.length ∧ ∃ w3 S3 acc, Mk G w1 w3 H' S3 D acc ∧ ORes (lcL gt gc f (wipeE env vs) (xs.drop (i + 1)) acc S3) (FP G w Q)), fun H' hN => ⟨xs.length - (i + 1), by omega, rfl, hN.1, hN.2⟩, fun x H3 y => ?_⟩
    obtain ⟨yv, w3, e1, l3, R3, r3⟩ := j3 i x H3 hlt y
    rw [List.drop_eq_getElem_cons hlt] at q2
    have ey : xs[i] = yv := by rw [List.getElem?_eq_getElem hlt] at e1; exact Option.some.inj e1
    rw [ey] at q2
    have mk3 := mk.step l3 R3
    obtain ⟨env1, e2, q3⟩ := lcL_cons q2
    have hE3 : EnvR G w3 (wipeE env vs) (wipe σ vs) := ((hE.mono l).wipe vs).mono0 mk3.le.le0
    refine ⟨w3, wipeE env vs, S2, yv, env1, hE3, R3, r3, e2, fun σ' hE' hw => ⟨?_, ?_⟩⟩
    · rw [hw vs hts, wipe_wipe]
    · refine ⟨w3, env1, S2, hE', R3, q3.bnd.res.imp fun k S4 q4 H4 w4 l4 R4 => ?_⟩
      have mk4 := mk3.step l4 R4
      cases k with
      | false =>
        dsimp only at q4 ⊢
        rw [if_neg (by decide)] at q4 ⊢
        exact ⟨hlt, w4, S4, acc, mk4, q4⟩
      | true =>
        dsimp only at q4 ⊢
        rw [if_pos rfl] at q4 ⊢
        refine ⟨w4, env1, S4, hE'.mono l4, R4, q4.bnd.res.imp fun y S5 q5 v H5 w5 l5 R5 r5 => ?_⟩
        have mk5 := mk4.step l5 R5
        obtain ⟨avs, d1, d2, _, _⟩ := mk5.at
        by_cases c : acc.length < sizeLine
        · rw [if_pos c] at q5
          obtain ⟨w6, mk6⟩ := mk5.push r5 avs d1
          exact ⟨avs, d1, by rw [← d2]; exact c, hlt, w6, S5, acc ++ [y], mk6, q5⟩
        · rw [if_neg c] at q5
          exact q5.elim
  · have ei : i = xs.length := by omega
    subst ei
    rw [List.drop_length] at q2
    have q3 : FP G w Q acc S2 := q2
    exact .inl ⟨j2, mk.done nT (q3.mono l)⟩
theorem qf_lc {elt tg iter : Expr} {ifs : List Expr} {scope : Scope} {own : List (Str × Nat)} {pos : Pos} {ts : List Nat} {fi : FA} {gt : Val → Env → Option Env} {gc : FB} {f : FE} (hc : X.calm = true) (hN : X.N.Nodup) (hi : QI X G E tg iter fi) (ok : BlkOk X.N X.env.scope scope own)
    (hg : ∀ (s : Shared) (H : Hp) (C : Addr) (cl : List (Str × Addr)) (fp : List Addr), QG (X.blk s H scope (compEnvC scope cl C X.env) fp) G tg ts gt) (ht : ∀ (s : Shared) (H : Hp) (C : Addr) (cl : List (Str × Addr)) (fp : List Addr), PTs (X.blk s H scope (compEnvC scope cl C X.env) fp) ifs (TTx G E0 gc))
    (he : ∀ (s : Shared) (H : Hp) (C : Addr) (cl : List (Str × Addr)) (fp : List Addr), QE (X.blk s H scope (compEnvC scope cl C X.env) fp) G E0 elt f) (hts : ∀ i, i ∈ ts → i ∈ own.map (·.2)) (hs : ∀ x, foldedSetIterable iter X.env x = pure x := by intro _; rfl) :
    QF X G E (.ListComp elt [⟨tg, iter, ifs, 0⟩] scope pos) (fLc fi gt gc f (own.map (·.2))) := PE.imp (pe_lc hc hN hi ok hg ht he hs) fun σ H Q h => lc_read hts h
/-- name = [..] -/
theorem qs_setLc {i : Nat} {y : Str} {py : Pos} {elt tg iter : Expr} {ifs : List Expr} {scope : Scope} {own : List (Str × Nat)} {pos spos : Pos} {ts : List Nat} {fi : FA} {gt : Val → Env → Option Env} {gc : FB} {f F : FE} (conv : ∀ σ H Q, TEx G E F σ H Q → TFx G E (fLc fi gt gc f (own.map (·.2))) σ H Q)
    (hc : X.calm = true) (hN : X.N.Nodup) (hy : X.N[i]? = some y) (hyl : X.env.scope.names.lookup y = some .local)
    (hsw : swapsWith (.ListComp elt [⟨tg, iter, ifs, 0⟩] scope pos) (some (.Name y py)) spos.line X.env = pure true) (hi : QI X G E tg iter fi) (ok : BlkOk X.N X.env.scope scope own)
    (hg : ∀ (s : Shared) (H : Hp) (C : Addr) (cl : List (Str × Addr)) (fp : List Addr), QG (X.blk s H scope (compEnvC scope cl C X.env) fp) G tg ts gt) (ht : ∀ (s : Shared) (H : Hp) (C : Addr) (cl : List (Str × Addr)) (fp : List Addr), PTs (X.blk s H scope (compEnvC scope cl C X.env) fp) ifs (TTx G E0 gc))
    (he : ∀ (s : Shared) (H : Hp) (C : Addr) (cl : List (Str × Addr)) (fp : List Addr), QE (X.blk s H scope (compEnvC scope cl C X.env) fp) G E0 elt f) (hts : ∀ i, i ∈ ts → i ∈ own.map (·.2)) (hs : ∀ x, foldedSetIterable iter X.env x = pure x := by intro _; rfl) :
    QS X G E (.Assign [.Name y py] (.ListComp elt [⟨tg, iter, ifs, 0⟩] scope pos) spos) (sSet i F) := PS.imp (ps_setLc hc hN hy hyl hsw hi ok hg ht he hs) fun D σ H ⟨w, env, S, hE, hR, h⟩ => by
  have h2 : TEx G E F σ H (fun x H1 => gName i x σ H1 D.nx) := TEx.subS hE hR h fun x v H1 w1 S1 l R1 r q => q _ H1 w1 (Wd.le.refl w1) ((hE.mono l).set i r) R1
  exact lc_read hts (conv _ _ _ h2)
theorem frz_conv {f : FA} : ∀ σ H Q, TEx G E (fFrz f) σ H Q → TFx G E f σ H Q := fun σ H Q ⟨w, env, S, hE, hR, h⟩ => ⟨w, env, S, hE, hR, h.bnd.imp fun _ _ z => FP.frz z⟩
theorem new_conv {f : FA} : ∀ σ H Q, TEx G E (fNew f) σ H Q → TFx G E f σ H Q := fun σ H Q ⟨w, env, S, hE, hR, h⟩ => ⟨w, env, S, hE, hR, h.bnd.imp fun _ _ z => FP.new z⟩
end Y

set_option Elab.async false
set_option linter.all false
set_option maxRecDepth 100000
set_option maxHeartbeats 4000000
namespace Y
open PySem PySem.Spec L2
variable {G : Gx} {E : XK} {X : Cx}

/-! ### two clauses -/
def lc2L (gt : Val → Env → Option Env) (gc : FB) (fi1 : FA) (gt1 : Val → Env → Option Env) (gc1 : FB) (f : FE) (vs1 : List Nat) (env0 : Env) : List Val → List Val → M (List Val)
  | [], acc => ret acc
  | x :: xs, acc => fun S => match gt x env0 with
    | none => none
    | some env1 => bnd (gc env1) (fun k => if k = true then bnd (fi1 env1) (fun ys => bnd (lcL gt1 gc1 f (wipeE env1 vs1) ys acc) (fun acc' => lc2L gt gc fi1 gt1 gc1 f vs1 env0 xs acc')) else lc2L gt gc fi1 gt1 gc1 f vs1 env0 xs acc) S
def fLc2 (fi : FA) (gt : Val → Env → Option Env) (gc : FB) (fi1 : FA) (gt1 : Val → Env → Option Env) (gc1 : FB) (f : FE) (vs vs1 : List Nat) : FA := fun env => bnd (fi env) fun xs => noX (lc2L gt gc fi1 gt1 gc1 f vs1 (wipeE env vs) xs [])
theorem lc2L_cons {gt : Val → Env → Option Env} {gc : FB} {fi1 : FA} {gt1 : Val → Env → Option Env} {gc1 : FB} {f : FE} {vs1 : List Nat} {env0 : Env} {x : Val} {xs acc : List Val} {S : Store} {P : List Val → Store → Prop} (h : ORes (lc2L gt gc fi1 gt1 gc1 f vs1 env0 (x :: xs) acc S) P) :
    ∃ env1, gt x env0 = some env1 ∧ ORes (bnd (gc env1) (fun k => if k = true then bnd (fi1 env1) (fun ys => bnd (lcL gt1 gc1 f (wipeE env1 vs1) ys acc) (fun acc' => lc2L gt gc fi1 gt1 gc1 f vs1 env0 xs acc')) else lc2L gt gc fi1 gt1 gc1 f vs1 env0 xs acc) S) P := by
  unfold lc2L at h
  cases e : gt x env0 with
  | none => rw [e] at h; exact h.elim
  | some env1 => rw [e] at h; exact ⟨env1, rfl, h⟩
theorem lc2_read {fi fi1 : FA} {gt gt1 : Val → Env → Option Env} {gc gc1 : FB} {f : FE} {vs vs1 ts ts1 : List Nat} (hts : ∀ i, i ∈ ts → i ∈ vs) (hts1 : ∀ i, i ∈ ts1 → i ∈ vs1) {σ : St} {H : Hp} {Q : VK} (h : TFx G E (fLc2 fi gt gc fi1 gt1 gc1 f vs vs1) σ H Q) :
    tLc2 (TIx G E fi) (TGx G ts gt) (TTx G E0 gc) (TIx G E0 fi1) (TGx G ts1 gt1) (TTx G E0 gc1) (TEx G E0 f) vs vs1 σ H Q := by
  obtain ⟨w, env, S, hE, hR, h⟩ := h
  refine TIx.sub hE hR h fun xs J H1 w1 S1 l R1 hJ q D nD => ?_
  have nT : w1.T D = none := R1.tp.free nD
  refine ⟨fun i m H => m = xs.length - i ∧ i ≤ xs.length ∧ ∃ w2 S2 acc, Mk G w1 w2 H S2 D acc ∧ ORes (lc2L gt gc fi1 gt1 gc1 f vs1 (wipeE env vs) (xs.drop i) acc S2) (FP G w Q), ⟨xs.length, by simp, Nat.zero_le _, _, S1, [], Mk.start R1 nD, q.noX⟩, ?_⟩
  rintro i m H2 ⟨rfl, hi, w2, S2, acc, mk, q2⟩
  obtain ⟨j1, j2, j3⟩ := hJ H2 w2 S2 mk.le.le0 mk.R
  by_cases hlt : i < xs.length
  · refine .inr ⟨j1 i hlt, fun H' => (i + 1 ≤ xs.length ∧ ∃ w3 S3 acc, Mk G w1 w3 H' S3 D acc ∧ ORes (lc2L gt gc fi1 gt1 gc1 f vs1 (wipeE env vs) (xs.drop (i + 1)) acc S3) (FP G w Q)), fun H' hN => ⟨xs.length - (i + 1), by omega, rfl, hN.1, hN.2⟩, fun x H3 y => ?_⟩
    obtain ⟨yv, w3, e1, l3, R3, r3⟩ := j3 i x H3 hlt y
    rw [List.drop_eq_getElem_cons hlt] at q2
    have ey : xs[i] = yv := by rw [List.getElem?_eq_getElem hlt] at e1; exact Option.some.inj e1
    rw [ey] at q2
    have mk3 := mk.step l3 R3
    obtain ⟨env1, e2, q3⟩ := lc2L_cons q2
    have hE3 : EnvR G w3 (wipeE env vs) (wipe σ vs) := ((hE.mono l).wipe vs).mono0 mk3.le.le0
    refine ⟨w3, wipeE env vs, S2, yv, env1, hE3, R3, r3, e2, fun σ' hE' hw => ⟨?_, ?_⟩⟩
    · rw [hw vs hts, wipe_wipe]
    · refine ⟨w3, env1, S2, hE', R3, q3.bnd.res.imp fun k S4 q4 H4 w4 l4 R4 => ?_⟩
      have mk4 := mk3.step l4 R4
      cases k with
      | false =>
        dsimp only at q4 ⊢
        rw [if_neg (by decide)] at q4 ⊢
        exact ⟨hlt, w4, S4, acc, mk4, q4⟩
      | true =>
        dsimp only at q4 ⊢
        rw [if_pos rfl] at q4 ⊢
        refine ⟨w4, env1, S4, hE'.mono l4, R4, q4.bnd.res.imp fun ys S5 q5 J1 H5 w5 l5 R5 hJ1 => ?_⟩
        have mk5 := mk4.step l5 R5
        refine ⟨fun j k H => k = ys.length - j ∧ j ≤ ys.length ∧ ∃ w6 S6 acc, w5.le0 w6 ∧ Mk G w1 w6 H S6 D acc ∧ ORes (lcL gt1 gc1 f (wipeE env1 vs1) (ys.drop j) acc S6) (fun acc' S' => ORes (lc2L gt gc fi1 gt1 gc1 f vs1 (wipeE env vs) (xs.drop (i + 1)) acc' S') (FP G w Q)), ⟨ys.length, by simp, Nat.zero_le _, w5, S5, acc, Wd.le0.refl _, mk5, q5.bnd⟩, ?_⟩
        rintro j k H6 ⟨rfl, hj, w6, S6, acc6, l6, mk6, q6⟩
        obtain ⟨k1, k2, k3⟩ := hJ1 H6 w6 S6 l6 mk6.R
        by_cases hlt1 : j < ys.length
        · refine .inr ⟨k1 j hlt1, fun H' => (j + 1 ≤ ys.length ∧ ∃ w7 S7 acc, w5.le0 w7 ∧ Mk G w1 w7 H' S7 D acc ∧ ORes (lcL gt1 gc1 f (wipeE env1 vs1) (ys.drop (j + 1)) acc S7) (fun acc' S' => ORes (lc2L gt gc fi1 gt1 gc1 f vs1 (wipeE env vs) (xs.drop (i + 1)) acc' S') (FP G w Q))), fun H' hN => ⟨ys.length - (j + 1), by omega, rfl, hN.1, hN.2⟩, fun x1 H7 y1 => ?_⟩
          obtain ⟨yv1, w7, e7, l7, R7, r7⟩ := k3 j x1 H7 hlt1 y1
          rw [List.drop_eq_getElem_cons hlt1] at q6
          have ey1 : ys[j] = yv1 := by rw [List.getElem?_eq_getElem hlt1] at e7; exact Option.some.inj e7
          rw [ey1] at q6
          have mk7 := mk6.step l7 R7
          obtain ⟨env2, e8, q7⟩ := lcL_cons q6
          have hE7 : EnvR G w7 (wipeE env1 vs1) (wipe σ' vs1) := (((hE'.mono l4).mono l5).wipe vs1).mono0 (l6.trans l7.le0)
          refine ⟨w7, wipeE env1 vs1, S6, yv1, env2, hE7, R7, r7, e8, fun σ2 hE2 hw2 => ⟨?_, ?_⟩⟩
          · rw [hw2 vs1 hts1, wipe_wipe]
          · refine ⟨w7, env2, S6, hE2, R7, q7.bnd.res.imp fun k S8 q8 H8 w8 l8 R8 => ?_⟩
            have mk8 := mk7.step l8 R8
            cases k with
            | false =>
              dsimp only at q8 ⊢
              rw [if_neg (by decide)] at q8 ⊢
              exact ⟨hlt1, w8, S8, acc6, (l6.trans l7.le0).trans l8.le0, mk8, q8⟩
            | true =>
              dsimp only at q8 ⊢
              rw [if_pos rfl] at q8 ⊢
              refine ⟨w8, env2, S8, hE2.mono l8, R8, q8.bnd.res.imp fun y S9 q9 v H9 w9 l9 R9 r9 => ?_⟩
              have mk9 := mk8.step l9 R9
              obtain ⟨avs, d1, d2, _, _⟩ := mk9.at
              by_cases c : acc6.length < sizeLine
              · rw [if_pos c] at q9
                obtain ⟨wz, mkz, lz⟩ := mk9.push0 r9 avs d1
                exact ⟨avs, d1, by rw [← d2]; exact c, hlt1, wz, S9, acc6 ++ [y], (((l6.trans l7.le0).trans l8.le0).trans l9.le0).trans lz, mkz, q9⟩
              · rw [if_neg c] at q9
                exact q9.elim
        · have ej : j = ys.length := by omega
          subst ej
          rw [List.drop_length] at q6
          exact .inl ⟨k2, hlt, w6, S6, acc6, mk6, q6⟩
  · have ei : i = xs.length := by omega
    subst ei
    rw [List.drop_length] at q2
    have q3 : FP G w Q acc S2 := q2
    exact .inl ⟨j2, mk.done nT (q3.mono l)⟩
theorem qf_lc2 {elt tg iter tg1 iter1 : Expr} {ifs ifs1 : List Expr} {scope : Scope} {own : List (Str × Nat)} {vs1 : List Nat} {pos : Pos} {ts ts1 : List Nat} {fi fi1 : FA} {gt gt1 : Val → Env → Option Env} {gc gc1 : FB} {f : FE} (hc : X.calm = true) (hN : X.N.Nodup) (hi : QI X G E tg iter fi) (ok : BlkOk X.N X.env.scope scope own) (hv : ∀ i ∈ vs1, i ∈ own.map (·.2))
    (hg : ∀ (s : Shared) (H : Hp) (C : Addr) (cl : List (Str × Addr)) (fp : List Addr), QG (X.blk s H scope (compEnvC scope cl C X.env) fp) G tg ts gt) (ht : ∀ (s : Shared) (H : Hp) (C : Addr) (cl : List (Str × Addr)) (fp : List Addr), PTs (X.blk s H scope (compEnvC scope cl C X.env) fp) ifs (TTx G E0 gc))
    (hi1 : ∀ (s : Shared) (H : Hp) (C : Addr) (cl : List (Str × Addr)) (fp : List Addr), QI (X.blk s H scope (compEnvC scope cl C X.env) fp) G E0 tg1 iter1 fi1)
    (hg1 : ∀ (s : Shared) (H : Hp) (C : Addr) (cl : List (Str × Addr)) (fp : List Addr), QG (X.blk s H scope (compEnvC scope cl C X.env) fp) G tg1 ts1 gt1) (ht1 : ∀ (s : Shared) (H : Hp) (C : Addr) (cl : List (Str × Addr)) (fp : List Addr), PTs (X.blk s H scope (compEnvC scope cl C X.env) fp) ifs1 (TTx G E0 gc1))
    (he : ∀ (s : Shared) (H : Hp) (C : Addr) (cl : List (Str × Addr)) (fp : List Addr), QE (X.blk s H scope (compEnvC scope cl C X.env) fp) G E0 elt f) (hts : ∀ i, i ∈ ts → i ∈ own.map (·.2)) (hts1 : ∀ i, i ∈ ts1 → i ∈ vs1) (hs : ∀ x, foldedSetIterable iter X.env x = pure x := by intro _; rfl) (hs1 : ∀ env x, foldedSetIterable iter1 env x = pure x := by intro _ _; rfl) :
    QF X G E (.ListComp elt [⟨tg, iter, ifs, 0⟩, ⟨tg1, iter1, ifs1, 0⟩] scope pos) (fLc2 fi gt gc fi1 gt1 gc1 f (own.map (·.2)) vs1) := PE.imp (pe_lc2 hc hN hi ok hv hg ht hi1 hg1 ht1 he hs hs1) fun σ H Q h => lc2_read hts hts1 h
theorem qs_setLc2 {i : Nat} {y : Str} {py : Pos} {elt tg iter tg1 iter1 : Expr} {ifs ifs1 : List Expr} {scope : Scope} {own : List (Str × Nat)} {vs1 : List Nat} {pos spos : Pos} {ts ts1 : List Nat} {fi fi1 : FA} {gt gt1 : Val → Env → Option Env} {gc gc1 : FB} {f F : FE} (conv : ∀ σ H Q, TEx G E F σ H Q → TFx G E (fLc2 fi gt gc fi1 gt1 gc1 f (own.map (·.2)) vs1) σ H Q)
    (hc : X.calm = true) (hN : X.N.Nodup) (hy : X.N[i]? = some y) (hyl : X.env.scope.names.lookup y = some .local)
    (hsw : swapsWith (.ListComp elt [⟨tg, iter, ifs, 0⟩, ⟨tg1, iter1, ifs1, 0⟩] scope pos) (some (.Name y py)) spos.line X.env = pure true) (hi : QI X G E tg iter fi) (ok : BlkOk X.N X.env.scope scope own) (hv : ∀ i ∈ vs1, i ∈ own.map (·.2))
    (hg : ∀ (s : Shared) (H : Hp) (C : Addr) (cl : List (Str × Addr)) (fp : List Addr), QG (X.blk s H scope (compEnvC scope cl C X.env) fp) G tg ts gt) (ht : ∀ (s : Shared) (H : Hp) (C : Addr) (cl : List (Str × Addr)) (fp : List Addr), PTs (X.blk s H scope (compEnvC scope cl C X.env) fp) ifs (TTx G E0 gc))
    (hi1 : ∀ (s : Shared) (H : Hp) (C : Addr) (cl : List (Str × Addr)) (fp : List Addr), QI (X.blk s H scope (compEnvC scope cl C X.env) fp) G E0 tg1 iter1 fi1)
    (hg1 : ∀ (s : Shared) (H : Hp) (C : Addr) (cl : List (Str × Addr)) (fp : List Addr), QG (X.blk s H scope (compEnvC scope cl C X.env) fp) G tg1 ts1 gt1) (ht1 : ∀ (s : Shared) (H : Hp) (C : Addr) (cl : List (Str × Addr)) (fp : List Addr), PTs (X.blk s H scope (compEnvC scope cl C X.env) fp) ifs1 (TTx G E0 gc1))
    (he : ∀ (s : Shared) (H : Hp) (C : Addr) (cl : List (Str × Addr)) (fp : List Addr), QE (X.blk s H scope (compEnvC scope cl C X.env) fp) G E0 elt f) (hts : ∀ i, i ∈ ts → i ∈ own.map (·.2)) (hts1 : ∀ i, i ∈ ts1 → i ∈ vs1) (hs : ∀ x, foldedSetIterable iter X.env x = pure x := by intro _; rfl) (hs1 : ∀ env x, foldedSetIterable iter1 env x = pure x := by intro _ _; rfl) :
    QS X G E (.Assign [.Name y py] (.ListComp elt [⟨tg, iter, ifs, 0⟩, ⟨tg1, iter1, ifs1, 0⟩] scope pos) spos) (sSet i F) := PS.imp (ps_setLc2 hc hN hy hyl hsw hi ok hv hg ht hi1 hg1 ht1 he hs hs1) fun D σ H ⟨w, env, S, hE, hR, h⟩ => by
  have h2 : TEx G E F σ H (fun x H1 => gName i x σ H1 D.nx) := TEx.subS hE hR h fun x v H1 w1 S1 l R1 r q => q _ H1 w1 (Wd.le.refl w1) ((hE.mono l).set i r) R1
  exact lc2_read hts hts1 (conv _ _ _ h2)
end Y

set_option Elab.async false
set_option linter.all false
set_option maxRecDepth 100000
set_option maxHeartbeats 4000000
namespace Y
open PySem PySem.Spec L2
variable {G : Gx} {E : XK} {X : Cx}

/-! ### defs -/
abbrev Fn := List Val → M Val
open Classical in
/-- a def's end: what it made is forgotten, where nothing names it -/
noncomputable def cutF (cut : Bool) (S : Store) (x : Ex Val) (S' : Store) : Option (Ex Val × Store) :=
  if cut = true then (if cutOk S S' ∧ (∀ r, x = .ok r → vLt S.length r = true) then some (x, S'.take S.length) else none) else some (x, S')
noncomputable def fin (cut : Bool) (S : Store) (o : SO) : Option (Ex Val × Store) := match o with
  | some (.nx, _, S') => cutF cut S (.ok (.d .non)) S'
  | some (.rt r, _, S') => cutF cut S (.ok r) S'
  | some (.xc e, _, S') => cutF cut S (.exc e) S'
  | _ => none
def envOf (N : Nat) (args : List Val) : Env := args.map some ++ List.replicate (N - args.length) none
noncomputable def fnM (n N : Nat) (cut : Bool) (body : FS) : Fn := fun args S => if args.length = n then fin cut S (body (envOf N args) S) else none
/-- the promise of a def -/
def spF (G : Gx) (n : Nat) (F : Fn) : Sp := fun vs H Q E => ∃ w S args, Rl G w H S ∧ VRs G w args vs ∧ args.length = n ∧ Res G E w (F args S) (VP G w Q)
theorem envOf_r {w : Wd} {N : List Str} {args : List Val} {vs : List V} (r : VRs G w args vs) : EnvR G w (envOf N.length args) (L2.start N vs) := by
  unfold envOf L2.start
  refine ⟨by rw [List.length_append, List.length_append, List.length_map, List.length_map, List.length_replicate, List.length_replicate, r.len], fun i x e => ?_⟩
  by_cases hi : i < args.length
  · rw [List.getElem?_append_left (by simpa using hi), List.getElem?_map] at e
    cases e2 : args[i]? with
    | none => rw [e2] at e; cases e
    | some a =>
      rw [e2] at e
      cases e
      obtain ⟨v, h1, h2⟩ := r.get e2
      refine ⟨v, ?_, h2⟩
      rw [List.getElem?_append_left (by rw [List.length_map, ← r.len]; exact hi), List.getElem?_map, h1]
      rfl
  · rw [List.getElem?_append_right (by simpa using Nat.le_of_not_lt hi), List.getElem?_replicate] at e
    split at e <;> cases e
theorem cutF_res {w : Wd} {cut : Bool} {H0 : Hp} {S S' : Store} {x : Ex Val} {Q : VK} (R : Rl G w H0 S) (h : Res G E w (cutF cut S x S') (VP G w Q)) :
    (∀ r, x = .ok r → ∀ v H' w', w.le w' → Rl G w' H' S' → VR G w' r v → Q v H') ∧ (∀ e, x = .exc e → ∀ c d H' w', w.le w' → Rl G w' H' S' → XR G w' e c d H' → E c d H') := by
  unfold cutF at h
  cases cut with
  | false =>
    rw [if_neg (by decide)] at h
    refine ⟨fun r e => ?_, fun e ee => ?_⟩
    · subst e; exact h
    · subst ee; exact h
  | true =>
    rw [if_pos rfl] at h
    by_cases c : cutOk S S' ∧ (∀ r, x = .ok r → vLt S.length r = true)
    · rw [if_pos c] at h
      refine ⟨fun r e v H' w' l R' rr => ?_, fun e ee c1 d H' w' l R' rr => ?_⟩
      · subst e
        obtain ⟨R2, l2⟩ := Rl.cut R R' l c.1
        exact h v H' _ l2 R2 (rr.cut (c.2 r rfl))
      · subst ee
        obtain ⟨R2, l2⟩ := Rl.cut R R' l c.1
        exact h c1 d H' _ l2 R2 rr
    · rw [if_neg c] at h
      exact h.elim
theorem fin_res {w : Wd} {cut : Bool} {H0 : Hp} {S : Store} {o : SO} {Q : VK} (R : Rl G w H0 S) (h : Res G E w (fin cut S o) (VP G w Q)) : SRes G E w o { nx := fun _ H' => Q .non H', rt := Q } := by
  match o, h with
  | none, h => exact h
  | some (.nx, env', S'), h => exact fun σ' H' w' l _ R' => (cutF_res R h).1 _ rfl .non H' w' l R' rfl
  | some (.rt r, env', S'), h => exact (cutF_res R h).1 _ rfl
  | some (.xc e, env', S'), h => exact (cutF_res R h).2 _ rfl
  | some (.bk, env', S'), h => exact h.elim
  | some (.ct, env', S'), h => exact h.elim
section
variable {P : Program} {w : World} {mg : Str → Option Value} {base : Heap}
/-- THE RULE: a def by its body -/
theorem fn_ok {x qual : Str} {st : Stmt} {f : Addr} {fd : FuncData} {N ps : List Str} {k n NN : Nat} {g : FS} {cut : Bool} (F : Fun G.K x qual st f fd) (S : FnScope N ps (defScope st)) (hn : ps.length = n) (hN : N.length = NN)
    (hb : ∀ (cdv : Value) (A : Around) (outer : List PySem.Env) (s : Shared) (H : Hp) (E : XK), Room k (A.deeper (PyProof.Rows.envOfC qual (defScope st) s.heap.objs.size f cdv)) →
      QSs (cxOf (L2.CX P w) P w G.K mg base N qual (defScope st) f cdv A outer s H E) G E (defBody st) g) : FnOk P w G.K mg base (L2.CX P w) (k + 1) f fd ps (spF G n (fnM n NN cut g)) := by
  refine F.okX S (fun vs H Q E h => ?_) (fun cdv A outer s H vs Q E hr h => ?_)
  · obtain ⟨w, S, args, R, r, e, _⟩ := h
    rw [← r.len, e, hn]
  · obtain ⟨w1, S1, args, R, r, e, q⟩ := h
    unfold fnM at q
    rw [if_pos e] at q
    refine ⟨_, hb cdv A outer s H E hr, w1, _, S1, ?_, R, fin_res R q⟩
    rw [← hN]
    exact envOf_r r
/-- the module's name x holds a def that keeps F -/
def Has (P : Program) (w : World) (G : Gx) (mg : Str → Option Value) (base : Heap) (k : Nat) (x : Str) (n : Nat) (F : Fn) : Prop :=
  ∃ f fd ps, mg x = some (.ref f) ∧ PySem.W.keepIn G.K (.ref f) = true ∧ Binds G.K fd ps [] ∧ FnOk P w G.K mg base (L2.CX P w) k f fd ps (spF G n F)
end
def ck (n : Nat) (F : Fn) : Fn := fun args S => if args.length = n then F args S else none
variable {a b c e : Expr} {es : List Expr} {pos p : Pos} {fa fb : FE} {fs : FA} {k n : Nat} {x : Str} {F : Fn}
theorem tCall_of {σ : St} {H : Hp} {Q : VK} (h : TEx G E (fCall (ck n F) fs) σ H Q) : tCall (spF G n F) [] E (TAx G E fs) σ H Q := by
  obtain ⟨w, env, S, hE, hR, h⟩ := h
  refine TAx.sub hE hR h fun xs vs H1 w1 S1 l R1 r q => ?_
  rw [List.append_nil]
  unfold ck at q
  by_cases c : xs.length = n
  · rw [if_pos c] at q
    exact ⟨w1, S1, xs, R1, r, c, q.imp fun _ _ z => z.mono l⟩
  · rw [if_neg c] at q
    exact q.elim
theorem qe_call (h : Has X.prog X.w G X.mg X.base k x n F) (hK : X.K = G.K) (hr : Room k X.A) (hg : Gl X x) (hx : Passes (L2.CX X.prog X.w) X E) (ha : QA X G E (e :: es) fs)
    (hdb : (x == ("__debug__" : Str)) = false := by decide) (he : starEach (e :: es) X.env = (false, eval e X.env) :: starEach es X.env := by rfl) (hpl : (backTo pos (starEach es X.env)).any (·.1) = false := by rfl) : QE X G E (.Call (.Name x p) (e :: es) [] pos) (fCall (ck n F) fs) := by
  obtain ⟨f, fd, ps, h1, h2, h3, h4⟩ := h
  rw [← hK] at h2 h3 h4
  exact PE.imp (pe_call h4 hr hg h1 h2 h3 .nil hx ha hdb he hpl) fun σ H Q h => tCall_of h
theorem qe_call0 (h : Has X.prog X.w G X.mg X.base k x n F) (hK : X.K = G.K) (hr : Room k X.A) (hg : Gl X x) (hx : Passes (L2.CX X.prog X.w) X E) (hdb : (x == ("__debug__" : Str)) = false := by decide) : QE X G E (.Call (.Name x p) [] [] pos) (fCall (ck n F) fNil) := by
  obtain ⟨f, fd, ps, h1, h2, h3, h4⟩ := h
  rw [← hK] at h2 h3 h4
  refine PE.imp (pe_call0 h4 hr hg h1 h2 h3 .nil hx hdb) fun σ H Q h => ?_
  obtain ⟨w, env, S, hE, hR, h⟩ := h
  have h := h.bnd
  unfold ck at h
  show spF G n F ([] ++ []) H Q E
  have h2 : Res G E w ((if ([] : List Val).length = n then F [] S else none)) (VP G w Q) := h
  by_cases c : ([] : List Val).length = n
  · rw [if_pos c] at h2
    exact ⟨w, S, [], hR, rfl, c, h2⟩
  · rw [if_neg c] at h2
    exact h2.elim

/-! ### writing lists of the store -/
def oApp : Val → Val → M Val := fun x y S => match x with
  | .r i => match S[i]? with
    | some (.lst xs) => if xs.length < sizeLine then some (.ok (.d .non), S.set i (.lst (xs ++ [y]))) else none
    | _ => none
  | _ => none
theorem oApp_inv {w : Wd} {x y : Val} {S : Store} {P : Val → Store → Prop} (h : Res G E w (oApp x y S) P) : ∃ i xs, x = .r i ∧ S[i]? = some (.lst xs) ∧ xs.length < sizeLine ∧ P (.d .non) (S.set i (.lst (xs ++ [y]))) := by
  unfold oApp at h
  cases x with
  | d x => exact h.elim
  | r i =>
    dsimp only at h
    cases e : S[i]? with
    | none => rw [e] at h; exact h.elim
    | some o =>
      rw [e] at h
      cases o with
      | lst xs =>
        dsimp only at h
        by_cases c : xs.length < sizeLine
        · rw [if_pos c] at h
          exact ⟨i, xs, rfl, e, c, h⟩
        · rw [if_neg c] at h
          exact h.elim
      | _ => exact h.elim
/-- it is a list of the store -/
def isL : Val → M Unit := fun x S => match x with
  | .r i => match S[i]? with
    | some (.lst _) => some (.ok (), S)
    | _ => none
  | _ => none
theorem isL_inv {w : Wd} {x : Val} {S : Store} {P : Unit → Store → Prop} (h : Res G E w (isL x S) P) : ∃ i xs, x = .r i ∧ S[i]? = some (.lst xs) ∧ P () S := by
  unfold isL at h
  cases x with
  | d x => exact h.elim
  | r i =>
    dsimp only at h
    cases e : S[i]? with
    | none => rw [e] at h; exact h.elim
    | some o =>
      rw [e] at h
      cases o with
      | lst xs => exact ⟨i, xs, rfl, e, h⟩
      | _ => exact h.elim
def fApp (fa fb : FE) : FE := fun env => bnd (fa env) fun x => bnd (isL x) fun _ => bnd (fb env) fun y => oApp x y
theorem VRs.one' {w : Wd} {x : Val} {v : V} (r : VR G w x v) : VRs G w [x] [v] := ⟨v, [], rfl, r, rfl⟩
theorem qe_app {apos cpos : Pos} (ha : QE X G E a fa) (hb : QE X G E b fb) (hs2 : starEach [b] X.env = (false, eval b X.env) :: starEach [] X.env := by rfl)
    (hbase : attributeBase a "append" X.env (eval a X.env) = eval a X.env := by rfl)
    (hfew : ((backTo cpos (starEach [b] X.env)).all (fun x => !x.1) && (backToKw cpos (keywordEach [] X.env)).all (fun x => x.1.isSome)
      && decide (([b] : List Expr).length + ([] : List Keyword).length + (if ([] : List Keyword).isEmpty then 0 else 1) < 30)) = true := by rfl)
    (hline : (apos.endLine == cpos.line) = true := by rfl) (hplain : (backTo cpos (starEach [] X.env)).any (·.1) = false := by rfl) :
    QE X G E (.Call (.Attribute a "append" apos) [b] [] cpos) (fApp fa fb) :=
  PE.imp (pe_bm PySem.F.plainAttrs_list PySem.F.slot_list_append PySem.F.type_list_append mt_append ha (pa_cons hb pa_nil hs2) hbase hfew hline hs2 hplain) fun σ H Q ⟨w, env, S, hE, hR, h⟩ => TEx.sub hE hR h fun x v H1 w1 S1 l R1 r q => by
    obtain ⟨j, ys, e0, e1, q1⟩ := isL_inv q.bnd
    refine ⟨?_, TEx.sub (hE.mono l) R1 q1 fun y u H2 w2 S2 l2 R2 r2 q2 => ?_⟩
    · subst e0
      obtain ⟨f0, vs, h2, h3⟩ := R1.ob j _ e1
      rw [r.2]
      exact .inl ⟨rfl, vs, SqL.of h2⟩
    · obtain ⟨i, xs, rfl, e, c, q3⟩ := oApp_inv q2
      obtain ⟨f0, vs, h2, h3⟩ := R2.ob i _ e
      have rr := r.mono l2
      refine ⟨w2.ι i, vs, u, rr.2, rfl, h2, by rw [← h3.len]; exact c, ?_⟩
      exact q3 _ _ w2 (l.trans l2) (R2.write e (by simp) ⟨f0, _, upd_same, h3.app (VRs.one' r2)⟩) rfl
/-- xs[i] = v, xs a list of the store -/
def oPut : Val → Val → Val → Store → Option Store := fun x i v S => match x, asI i with
  | .r j, some k => match S[j]? with
    | some (.lst xs) => (ixN xs.length k).map fun m => S.set j (.lst (xs.set m v))
    | _ => none
  | _, _ => none
def sPut (fo fi fv : FE) : FS := fun env S => bS (bnd (fv env) (fun v => bnd (fo env) fun o => bnd (fi env) fun i => fun S => (oPut o i v S).map fun S' => (.ok (), S')) S) env fun _ S' => some (.nx, env, S')
theorem oPut_inv {x i v : Val} {S S' : Store} (h : oPut x i v S = some S') : ∃ j k xs m, x = .r j ∧ i = .d (.int k) ∧ S[j]? = some (.lst xs) ∧ ixN xs.length k = some m ∧ S' = S.set j (.lst (xs.set m v)) := by
  unfold oPut at h
  cases x with
  | d x => cases h
  | r j =>
    cases e : asI i with
    | none => rw [e] at h; cases h
    | some k =>
      rw [e] at h
      dsimp only at h
      cases e2 : S[j]? with
      | none => rw [e2] at h; cases h
      | some o =>
        rw [e2] at h
        cases o with
        | lst xs =>
          dsimp only at h
          cases e3 : ixN xs.length k with
          | none => rw [e3] at h; cases h
          | some m =>
            rw [e3] at h
            cases h
            exact ⟨j, k, xs, m, rfl, asI_inv e, e2, e3, rfl⟩
        | _ => cases h
theorem qs_put {i o : Expr} {fo fi fv : FE} {pos' : Pos} (hv : QE X G E e fv) (ho : QE X G E o fo) (hi : QE X G E i fi) (hs : swapsWithSole [.Subscript o i pos'] e pos.line X.env = pure false := by rfl) (hw : swappedStores [.Subscript o i pos'] e X.env = pure none := by rfl)
    (h1 : (assignEach [.Subscript o i pos'] X.env).map (·.2) = [assign (.Subscript o i pos') X.env] := by rfl)
    (ha : ∀ v, assign (.Subscript o i pos') X.env v = (do
      let ov ← holding [v] (eval o X.env)
      let iv ← holding [v, ov] (eval i X.env)
      standAt pos'
      holding [v, ov, iv] (setItem ov iv v)
      release [v, ov, iv] []) := by intro _; rfl) : QS X G E (.Assign [.Subscript o i pos'] e pos) (sPut fo fi fv) :=
  PS.imp (ps_asg hv (pg_sub ho hi set_list ha) hs hw h1) fun D σ H ⟨w, env, S, hE, hR, h⟩ => by
    have h2 := h.bS
    refine TEx.sub hE hR h2 fun x v H1 w1 S1 l R1 r q => ?_
    refine TEx.sub (hE.mono l) R1 q fun y u H2 w2 S2 l2 R2 r2 q2 => ?_
    refine TEx.sub ((hE.mono l).mono l2) R2 q2 fun z t H3 w3 S3 l3 R3 r3 q3 => ?_
    cases e : oPut y z x S3 with
    | none => rw [e] at q3; exact q3.elim
    | some S' =>
      rw [e] at q3
      obtain ⟨j, k, xs, m, rfl, rfl, e1, e2, rfl⟩ := oPut_inv e
      obtain ⟨f0, vs, h4, h5⟩ := R3.ob j _ e1
      refine ⟨w3.ι j, vs, k, m, (r2.mono l3).2, r3, h4, by rw [← h5.len]; exact e2, ?_⟩
      have q4 : SRes G E w (some (Fl.nx, env, S3.set j (.lst (xs.set m x)))) D := q3
      exact q4 σ _ w3 ((l.trans l2).trans l3) (((hE.mono l).mono l2).mono l3) (R3.write e1 (by simp) ⟨f0, _, upd_same, h5.set m ((r.mono l2).mono l3)⟩)
end Y

set_option Elab.async false
set_option linter.all false
set_option maxRecDepth 100000
set_option maxHeartbeats 4000000
namespace Y
open PySem PySem.Spec L2
variable {G : Gx} {E : XK} {X : Cx} {a b c e : Expr} {es : List Expr} {pos p : Pos} {fa fb : FE} {fs : FA} {k n : Nat} {x : Str} {F : Fn}

/-! ### module constants -/
theorem qe_glob {x : Str} {d : D} {v : V} {u : Value} (hg : Gl X x) (hm : X.mg x = some u) (r : RelV v u) (h : ∀ H, Rep G H d v) (hd : (x == ("__debug__" : Str)) = false := by decide) : QE X G E (.Name x pos) (fC d) := qe_const (pe_glob hg hm r hd) h

/-! ### a written dict: what its keys stand for -/
def oInTab (neg : Bool) (tab : List (Str × Bool)) : Val → M Val := fun z => lift (((asS z).bind fun z => tab.lookup z).map fun k => .d (.bl (k != neg)))
def fInTab (neg : Bool) (tab : List (Str × Bool)) (fb : FE) : FE := fun env => bnd (fb env) (oInTab neg tab)
theorem oInTab_inv {neg : Bool} {tab : List (Str × Bool)} {z : Val} {w : Wd} {S : Store} {P : Val → Store → Prop} (h : Res G E w (oInTab neg tab z S) P) : ∃ s k, z = .d (.str s) ∧ tab.lookup s = some k ∧ P (.d (.bl (k != neg))) S := by
  unfold oInTab lift at h
  cases e : (asS z).bind fun z => tab.lookup z with
  | none => rw [e] at h; exact h.elim
  | some k =>
    rw [e] at h
    obtain ⟨s, e1, e2⟩ := Option.bind_eq_some_iff.mp e
    exact ⟨s, k, asS_inv e1, e2, h⟩
theorem qe_notinTab {T : Str} {d : Addr} {tab : List (Str × Bool)} {p0 : Pos} (hT : PE X (.Name T p0) (tC (.ref d))) (KD : ∃ des dn, KDict X.K X.w d des dn)
    (hall : ∀ z r, tab.lookup z = some r → ∃ o, PySem.W.nsIn X.K d z = some o ∧ o.isSome = r) (hb : QE X G E b fb) (hm : behindInMarks .NotIn (.Name T p0) = false := by with_unfolding_all rfl) : QE X G E (.Compare b [.NotIn] [.Name T p0] pos) (fInTab true tab fb) := by
  obtain ⟨des, dn, KD⟩ := KD
  exact PE.imp (pe_cmpR (op_notIn_kd KD) hb hT hm) fun σ H Q ⟨w, env, S, hE, hR, h⟩ => TEx.sub hE hR h fun z v H1 w1 S1 l R1 r q => by
    obtain ⟨s, k, rfl, e, q⟩ := oInTab_inv q
    obtain ⟨o, e1, e2⟩ := hall s k e
    refine ⟨s, o, r, rfl, e1, ?_⟩
    rw [e2]
    exact q _ H1 w1 l R1 (by cases k <;> rfl)
theorem qt_notinTab {T : Str} {d : Addr} {tab : List (Str × Bool)} {p0 : Pos} (hT : PE X (.Name T p0) (tC (.ref d))) (KD : ∃ des dn, KDict X.K X.w d des dn)
    (hall : ∀ z r, tab.lookup z = some r → ∃ o, PySem.W.nsIn X.K d z = some o ∧ o.isSome = r) (hb : QE X G E b fb) (hm : behindInMarks .NotIn (.Name T p0) = false := by with_unfolding_all rfl) : QT X G E (.Compare b [.NotIn] [.Name T p0] pos) (fT (fInTab true tab fb)) := by
  obtain ⟨des, dn, KD⟩ := KD
  exact PT.imp (pt_cmpR (op_notIn_kd KD) hb hT hm) fun σ H Q h => by
    obtain ⟨w, env, S, hE, hR, h⟩ := TTx.of h
    refine TEx.sub hE hR h fun z v H1 w1 S1 l R1 r q => ?_
    obtain ⟨s, k, rfl, e, q⟩ := oInTab_inv q
    obtain ⟨o, e1, e2⟩ := hall s k e
    refine ⟨s, o, r, rfl, e1, ?_⟩
    rw [e2]
    exact q _ H1 w1 l R1 (by cases k <;> rfl)
/-- T[b](..), T a written dict of defs -/
def fTab (n : Nat) (tab : List (Str × Fn)) (fb : FE) (fs : FA) : FE := fun env => bnd (fb env) fun z => bnd (lift ((asS z).bind fun z => tab.lookup z)) fun F => bnd (fs env) (ck n F)
theorem qe_tab {T : Str} {d : Addr} {tab : List (Str × Fn)} {p0 p1 : Pos} (hT : PE X (.Name T p0) (tC (.ref d)))
    (hall : ∀ z F, tab.lookup z = some F → ∃ f fd ps, KDct X.K X.w d z (.ref f) ∧ PySem.W.keepIn X.K (.ref f) = true ∧ Binds X.K fd ps [] ∧ FnOk X.prog X.w X.K X.mg X.base (L2.CX X.prog X.w) k f fd ps (spF G n F))
    (hr : Room k X.A) (hx : Passes (L2.CX X.prog X.w) X E) (hb : QE X G E b fb) (ha : QA X G E (e :: es) fs) (hs : PlainIx b := by intro _ _; rfl)
    (he : starEach (e :: es) X.env = (false, eval e X.env) :: starEach es X.env := by rfl) (hpl : (backTo pos (starEach es X.env)).any (·.1) = false := by rfl)
    (hev : eval (.Call (.Subscript (.Name T p0) b p1) (e :: es) [] pos) X.env = (do callWith pos (← eval (.Subscript (.Name T p0) b p1) X.env) [] (backTo pos (starEach (e :: es) X.env)) (backToKw pos (keywordEach [] X.env))) := by rfl) :
    QE X G E (.Call (.Subscript (.Name T p0) b p1) (e :: es) [] pos) (fTab n tab fb fs) := by
  have h1 := pe_ix (pos := p1) ix_kdict hT hb hs
  refine ⟨fun pins s σ H Q I h => ?_⟩
  obtain ⟨w, env, S, hE, hR, h⟩ := h
  refine PyProof.Rows.Call_ (thn (h1.run pins s σ H (fun x H1 => ∃ f fd ps F w1 S1, x = .ref f ∧ PySem.W.keepIn X.K (.ref f) = true ∧ Binds X.K fd ps [] ∧ FnOk X.prog X.w X.K X.mg X.base (L2.CX X.prog X.w) k f fd ps (spF G n F) ∧ w.le w1 ∧ Rl G w1 H1 S1 ∧ Res G E w1 (bnd (fs env) (ck n F) S1) (VP G w Q)) I ?_) fun v s1 ⟨x, H1, I1, r1, f, fd, ps, F, w1, S1, ex, hk, hbd, hF, l1, R1, q1⟩ => ?_) hev
  · refine TEx.sub hE hR h fun z v H1 w1 S1 l R1 r q => ?_
    have q2 := q.bnd
    unfold lift at q2
    cases e1 : (asS z).bind fun z => tab.lookup z with
    | none => rw [e1] at q2; exact q2.elim
    | some F =>
      rw [e1] at q2
      obtain ⟨s2, e2, e3⟩ := Option.bind_eq_some_iff.mp e1
      obtain rfl := asS_inv e2
      obtain ⟨f, fd, ps, k1, k2, k3, k4⟩ := hall s2 F e3
      exact ⟨d, s2, .ref f, rfl, r, k1, f, fd, ps, F, w1, S1, rfl, k2, k3, k4, l, R1, q2⟩
  · subst ex
    cases r1
    have h3 : TEx G E (fCall (ck n F) fs) σ H1 Q := ⟨w1, env, S1, hE.mono l1, R1, q1.imp fun _ _ z => z.mono l1⟩
    have h4 := tCall_of h3
    refine PySem.W.callWith_K (h₀ := X.base) I1.ok.mod.kin hk (thn (ha.run pos pins s1 σ _ _ I1 h4) fun us s2 ⟨vs, H2, I2, r, q⟩ => ⟨I2.kIn, ?_⟩) he hpl
    exact run_fn hF hr hbd .nil hx I2 r q
end Y
namespace Y
open PySem PySem.Spec L2
variable {G : Gx} {E : XK} {X : Cx} {a b c e : Expr} {es : List Expr} {pos p : Pos} {fa fb : FE} {fs : FA} {k n : Nat} {x : Str} {F : Fn}
/-! ### - i -/
def fNeg (fa : FE) : FE := fun env => bnd (fa env) fun x => lift ((asI x).map fun i => .d (.int (-i)))
theorem qe_neg (ha : QE X G E a fa) : QE X G E (.UnaryOp .USub a pos) (fNeg fa) := PE.imp (pe_un un_neg ha) fun σ H Q ⟨w, env, S, hE, hR, h⟩ => TEx.sub hE hR h fun z v H1 w1 S1 l R1 r q => by
  unfold lift at q
  cases e : asI z with
  | none => rw [e] at q; exact q.elim
  | some i =>
    rw [e] at q
    obtain rfl := asI_inv e
    exact ⟨i, r, q _ H1 w1 l R1 rfl⟩
/-! ### slices of whatever it is -/
def oSl : Val → Option Int → Option Int → M Val := fun x lo hi S => match tupV x with
  | some ds => some (.ok (.d (.tup (cutL ds lo hi))), S)
  | none => match listV x S with
    | some xs => frz (cutL xs lo hi) S
    | none => none
def fSl (fa : FE) (lo hi : FO) : FE := fun env => bnd (fa env) fun x => bnd (lo env) fun l => bnd (hi env) fun h => oSl x l h
theorem qe_sl (hK : X.K = G.K) {lo hi : Option Expr} {p2 : Pos} {fl fh : FO} (ha : QE X G E a fa) (hl : QO X G E lo fl) (hh : QO X G E hi fh) : QE X G E (.Subscript a (.Slice lo hi none p2) pos) (fSl fa fl fh) :=
  PE.imp (pe_slice (SlR.or sl_tupA sl_list) ha hl hh) fun σ H Q ⟨w, env, S, hE, hR, h⟩ => TEx.sub hE hR h fun x v H1 w1 S1 l R1 r q => TOx.sub (hE.mono l) R1 q fun lo H2 w2 S2 l2 R2 q2 => TOx.sub (hE.mono (l.trans l2)) R2 q2 fun hi H3 w3 S3 l3 R3 q3 => by
    unfold oSl at q3
    cases e : tupV x with
    | some ds =>
      rw [e] at q3
      have q4 : VP G w Q (.d (.tup (cutL ds lo hi))) S3 := q3
      obtain ⟨a, vs, h1, h2, h3⟩ := tupV_of R3 ((r.mono l2).mono l3) e
      rw [hK]
      refine .inl ⟨a, vs, h1, h2, fun hw => ?_, fun _ => ?_⟩
      · have hw' : cutL ds lo hi = ds := whole_cut (by rw [h3.len]; exact hw)
        rw [hw'] at q4
        have rr := (r.mono l2).mono l3
        obtain rfl := tupV_inv e
        rw [h1] at rr
        exact q4 _ H3 w3 ((l.trans l2).trans l3) R3 rr
      · rw [cutV_eq]
        exact q4.tup ((l.trans l2).trans l3) R3 (h3.cutL lo hi)
    | none =>
      rw [e] at q3
      dsimp only at q3
      cases e2 : listV x S3 with
      | none => rw [e2] at q3; exact q3.elim
      | some xs =>
        rw [e2] at q3
        obtain ⟨a, vs, h1, h2, h3⟩ := listV_of R3 ((r.mono l2).mono l3) e2
        rw [hK]
        refine .inr ⟨a, vs, h1, h2, ?_⟩
        rw [cutV_eq]
        have q5 : Res G E w3 (frz (cutL xs lo hi) S3) (VP G w3 Q) := Res.imp (show Res G E w3 (frz (cutL xs lo hi) S3) (VP G w Q) from q3) fun _ _ z => z.mono ((l.trans l2).trans l3)
        exact (FP.frz q5).fresh (Wd.le.refl _) R3 (h3.cutL lo hi)
/-! ### i, j = a, b with plain local names -/
def sPar (i j : Nat) (fs : FA) : FS := fun env S => bS (fs env S) env fun xs S' => match xs with
  | [x, y] => some (.nx, (env.set i (some x)).set j (some y), S')
  | _ => none
theorem qs_par {i j : Nat} {x y : Str} {px py pt : Pos} {kt k2 pt2} (hc : X.calm = true) (hN : X.N.Nodup) (hi : X.N[i]? = some x) (hj : X.N[j]? = some y) (hij : i ≠ j)
    (hx : X.env.scope.names.lookup x = some .local) (hy : X.env.scope.names.lookup y = some .local) (ha : QA X G E [a, b] fs)
    (hw : swappedStores [.Tuple [.Name x px, .Name y py] kt pt] (.Tuple [a, b] k2 pt2) X.env = pure (some [x, y]) := by rfl)
    (hs : swapsWithSole [.Tuple [.Name x px, .Name y py] kt pt] (.Tuple [a, b] k2 pt2) pos.line X.env = pure false := by rfl) : QS X G E (.Assign [.Tuple [.Name x px, .Name y py] kt pt] (.Tuple [a, b] k2 pt2) pos) (sPar i j fs) :=
  PS.imp (ps_par hc hN hi hj hij hx hy ha hw hs) fun D σ H ⟨w, env, S, hE, hR, h⟩ => by
    have h2 := h.bS
    refine ⟨w, env, S, hE, hR, h2.imp fun xs S1 q vs H1 w1 l R1 r => ?_⟩
    match xs, r, q with
    | [], _, q => exact q.elim
    | [_], _, q => exact q.elim
    | [u, v], r, q =>
      obtain ⟨uu, vv, e, r1, r2⟩ := r.two
      exact ⟨uu, vv, e, q _ H1 w1 l (((hE.mono l).set i r1).set j r2) R1⟩
    | _ :: _ :: _ :: _, _, q => exact q.elim
end Y
namespace Y
open PySem PySem.Spec L2
theorem lookup_map {α β γ : Type} [BEq α] {l : List (α × β)} {f : β → γ} {z : α} {F : γ} (h : (l.map fun p => (p.1, f p.2)).lookup z = some F) : ∃ n, l.lookup z = some n ∧ F = f n := by
  induction l with
  | nil => cases h
  | cons p r ih =>
    obtain ⟨a, b⟩ := p
    rw [List.map_cons] at h
    dsimp only at h
    rw [List.lookup_cons] at h ⊢
    cases e : z == a with
    | true => rw [e] at h; cases h; exact ⟨b, rfl, rfl⟩
    | false => rw [e] at h; exact ih h
theorem tab_ar {α β : Type} [BEq α] {l : List (α × β)} {ar : β → Nat} {k : Nat} (h : l.all (fun p => ar p.2 == k) = true) {z : α} {n : β} (e : l.lookup z = some n) : ar n = k := by
  induction l with
  | nil => cases e
  | cons p r ih =>
    obtain ⟨a, b⟩ := p
    rw [List.all_cons, Bool.and_eq_true] at h
    rw [List.lookup_cons] at e
    cases e2 : z == a with
    | true => rw [e2] at e; cases e; exact beq_iff_eq.mp h.1
    | false => rw [e2] at e; exact ih h.2 e
theorem scope_blk {X0 : Cx} {s : Shared} {H : Hp} {scope0 sc0 : Scope} {cl : List (Str × Addr)} {C : Addr} {fp : List Addr} (h : X0.env.scope = sc0) : (X0.blk s H scope0 (compEnvC scope0 cl C X0.env) fp).env.scope = relS scope0 sc0 := by subst h; rfl
theorem blk_in {N : List Str} {sc1 sc scope : Scope} {own : List (Str × Nat)} (h : sc1 = sc) (ok : BlkOk N sc scope own) : BlkOk N sc1 scope own := h ▸ ok
end Y

set_option Elab.async false
set_option linter.all false
set_option maxRecDepth 100000
set_option maxHeartbeats 4000000
namespace Y
open PySem PySem.Spec L2
theorem fun_of {K : PySem.W.Frag} {x qual : Str} {st : Stmt} {f : Addr} {fd : FuncData} (F : FunD K x qual (defArgs st) (defBody st) (defScope st) [] [] f fd) : Fun K x qual st f fd := by
  obtain ⟨⟨oc, od, dV, kV, doc, pm, an, cdv, ct, osl, h1, h2, h3, h4, h5⟩, kp⟩ := F
  rcases h4 with ⟨_, rfl⟩ | ⟨e, _⟩
  · exact ⟨⟨oc, od, kV, doc, pm, an, cdv, ct, osl, h1, h2, h3⟩, kp⟩
  · exact absurd rfl e
theorem has_0 {P : Program} {w : World} {G : Gx} {mg : Str → Option Value} {base : Heap} {x : Str} {n : Nat} {f : Addr} {fd : FuncData} {ps : List Str} (hm : mg x = some (.ref f)) (hk : PySem.W.keepIn G.K (.ref f) = true) (hb : Binds G.K fd ps []) (hn : ps.length = n) :
    Has P w G mg base 0 x n (fun _ _ => none) := by
  refine ⟨f, fd, ps, hm, hk, hb, ⟨fun vs H Q E h => ?_, fun A outer s H args us vs Q E _ _ _ _ h => ?_⟩⟩
  · obtain ⟨w, S, args, R, r, e, _⟩ := h
    rw [← r.len, e, hn]
  · obtain ⟨w, S, args, R, r, e, q⟩ := h
    exact q.elim
/-- the law's promise, from what the mirror answers -/
theorem law_sp {G : Gx} {F : Fn} {n : Nat} (h : ∀ ns : List Int, ns.length ≤ n → ∃ S, F [.d (.ro ns)] [] = some (.ok (.d (.bl true)), S)) (H : Hp) (a : Addr) (ns : List Int) (hl : ns.length ≤ n) (hS : SqL G.K H a (ns.map V.int)) :
    spF G 1 F [.ref a] H (fun v _ => v = .bl true) fun _ _ _ => False := by
  obtain ⟨S, e⟩ := h ns hl
  refine ⟨⟨fun _ => 0, H, fun _ => none, 0⟩, [], [.d (.ro ns)], ⟨rfl, Same.refl _, (fun _ _ e => nomatch e), (fun i o e => by simp at e), (fun _ _ e => nomatch e), (fun i o e => by simp at e), (fun i j o p e => by simp at e)⟩, ⟨_, _, rfl, ⟨a, rfl, hS⟩, rfl⟩, rfl, ?_⟩
  rw [e]
  exact fun v H' w' l R r => r
theorem cx_no {P : Program} {w : World} (H : Hp) (s : Shared) (e : Value) (s' : Shared) : L2.CX P w [] H s (fun _ _ _ => False) e s' → False := fun ⟨_, _, _, _, _, _, _, _, _, _, _, _, f⟩ => f
theorem lookup_memS {α : Type} {z : Str} {r : α} : ∀ {l : List (Str × α)}, l.lookup z = some r → (z, r) ∈ l
  | [], h => by cases h
  | (b, u) :: l, h => by
    rw [List.lookup_cons] at h
    cases q : (z == b) with
    | true =>
      rw [q] at h
      cases h
      rw [eq_of_beq q]
      exact List.mem_cons_self
    | false =>
      rw [q] at h
      exact List.mem_cons_of_mem _ (lookup_memS h)
theorem tk_mem {tk : List (Str × Bool)} {vs : List (Str × He.Dv)} {z : Str} {r : Bool} (h : tk = vs.map fun q => (q.1, true)) (e : tk.lookup z = some r) : ∃ q, q ∈ vs ∧ q.1 = z ∧ r = true := by
  have m := lookup_memS e
  rw [h] at m
  obtain ⟨q, hq, e2⟩ := List.mem_map.mp m
  cases e2
  exact ⟨q, hq, rfl, rfl⟩
def tnOk {F : Type} (nm : F → Str) (tn : List (Str × F)) (vs : List (Str × He.Dv)) : Bool := tn.all fun p => match vs.lookup p.1 with
  | some (.glo x) => decide (x = nm p.2)
  | _ => false
theorem tn_mem {F : Type} {nm : F → Str} {tn : List (Str × F)} {vs : List (Str × He.Dv)} {z : Str} {n : F} (h : tnOk nm tn vs = true) (e : tn.lookup z = some n) : ∃ q, q ∈ vs ∧ q.1 = z ∧ q.2 = .glo (nm n) := by
  have h2 := List.all_eq_true.mp h _ (lookup_memS e)
  dsimp only at h2
  cases e2 : vs.lookup z with
  | none => rw [e2] at h2; cases h2
  | some v =>
    rw [e2] at h2
    cases v with
    | glo x =>
      have h3 : x = nm n := of_decide_eq_true h2
      subst h3
      exact ⟨_, lookup_memS e2, rfl, rfl⟩
    | _ => cases h2
end Y
namespace Y
open PySem PySem.Spec PyProof.Rows L2
theorem walk_ofW {l : PySem.W.OpenLaw} {n k : Nat} {q : Program} {loose : List Str} {XP : (Str → Option Value) → Heap → Prop} {YP : World → Heap → Prop} {d : DefRec} {x : Str}
    (hn : l.most = some n) (hn2 : n ≤ sizeLine) (hdf : d.params.defaults = []) (hr : Room k callerA)
    (F : ∀ (w : World) (mg : Str → Option Value) (fa : Addr) (h : Heap), YP w h → h.Ns mainGlobals mg → mg d.name = some (.ref fa) →
      ∃ (K : PySem.W.Frag) (fd : FuncData) (sp : Sp), K.In h ∧ (∀ (s : Shared) (u : Value), BindsTo s fd ⟨[u], []⟩ [(x, u)]) ∧
        (∀ (H : Hp) (a : Addr) (ns : List Int), ns.length ≤ n → Only H → SqL K H a (ns.map V.int) → sp [.ref a] H (fun v _ => v = .bl true) fun _ _ _ => False) ∧
        ∀ base : Heap, K.In base → base.Ns mainGlobals mg → FnOk l.prog w K mg base (L2.CX l.prog w) k fa fd [x] sp) :
    PySem.W.WalkO q loose XP YP l.row.toRowW d [] (fun f vs => PySem.call f vs) := by
  refine Att.attach_call hn hdf fun w s₀ s₁ mg mb fa o pm cd doc a vs ns G Y ho hd hcd hmg hobj hints hlen hg => ?_
  obtain ⟨K, fd, sp, KX, hb, hsp, hF⟩ := F w mg fa _ Y G.T.g hmg
  exact law_call KX G.T.g G.T.b G.T.builtins G.T.nolimit hg hobj hints (Nat.le_trans hlen hn2) hr hF hb (fun H hO hS => hsp H a ns hlen hO hS) fun H e s' => cx_no H s₁ e s'
end Y

set_option Elab.async false
set_option linter.all false
set_option maxRecDepth 100000
set_option maxHeartbeats 4000000
namespace Y
open PySem PySem.Spec L2
/-! the mirror: printed by gen.py -/
inductive Fnm where
  | f_size
  | f_must_be_few
  | f_must_be_short
  | f_lines_of
  | f_from_trees_lines
  | f_need
  | f_code_of_boxes
  | f_code_of_line_boxes
  | f_from_lines_boxes
  | f_boxes_in
  | f_code_of_stacks
  | f_code_of_line_stacks
  | f_from_lines_stacks
  | f_deeds_in
  | f_boxes_of
  | f_stacks_of
  | f_must_be_form
  | f_from_trees_registry
  | f_law_same
  | f_law_pool
  | f_law_spread
  | f_law_draw
  | f_law_pick
  | f_law_expression
  | f_law_block
  | f_law_deed
  | f_law_program
  | f_law_need
  | f_law_deeds_of
  | f_law_lines_of
  | f_law_expressions_of
  | f_law_size_of
  | f_law
def nm : Fnm → Str
  | .f_size => "size"
  | .f_must_be_few => "must_be_few"
  | .f_must_be_short => "must_be_short"
  | .f_lines_of => "lines_of"
  | .f_from_trees_lines => "from_trees_lines"
  | .f_need => "need"
  | .f_code_of_boxes => "code_of_boxes"
  | .f_code_of_line_boxes => "code_of_line_boxes"
  | .f_from_lines_boxes => "from_lines_boxes"
  | .f_boxes_in => "boxes_in"
  | .f_code_of_stacks => "code_of_stacks"
  | .f_code_of_line_stacks => "code_of_line_stacks"
  | .f_from_lines_stacks => "from_lines_stacks"
  | .f_deeds_in => "deeds_in"
  | .f_boxes_of => "boxes_of"
  | .f_stacks_of => "stacks_of"
  | .f_must_be_form => "must_be_form"
  | .f_from_trees_registry => "from_trees_registry"
  | .f_law_same => "_law_same"
  | .f_law_pool => "_law_pool"
  | .f_law_spread => "_law_spread"
  | .f_law_draw => "_law_draw"
  | .f_law_pick => "_law_pick"
  | .f_law_expression => "_law_expression"
  | .f_law_block => "_law_block"
  | .f_law_deed => "_law_deed"
  | .f_law_program => "_law_program"
  | .f_law_need => "_law_need"
  | .f_law_deeds_of => "_law_deeds_of"
  | .f_law_lines_of => "_law_lines_of"
  | .f_law_expressions_of => "_law_expressions_of"
  | .f_law_size_of => "_law_size_of"
  | .f_law => "law"
def ar : Fnm → Nat
  | .f_size => 1
  | .f_must_be_few => 1
  | .f_must_be_short => 1
  | .f_lines_of => 2
  | .f_from_trees_lines => 1
  | .f_need => 1
  | .f_code_of_boxes => 2
  | .f_code_of_line_boxes => 1
  | .f_from_lines_boxes => 1
  | .f_boxes_in => 1
  | .f_code_of_stacks => 1
  | .f_code_of_line_stacks => 1
  | .f_from_lines_stacks => 1
  | .f_deeds_in => 1
  | .f_boxes_of => 1
  | .f_stacks_of => 1
  | .f_must_be_form => 1
  | .f_from_trees_registry => 2
  | .f_law_same => 2
  | .f_law_pool => 1
  | .f_law_spread => 1
  | .f_law_draw => 2
  | .f_law_pick => 2
  | .f_law_expression => 2
  | .f_law_block => 2
  | .f_law_deed => 2
  | .f_law_program => 1
  | .f_law_need => 1
  | .f_law_deeds_of => 1
  | .f_law_lines_of => 1
  | .f_law_expressions_of => 1
  | .f_law_size_of => 1
  | .f_law => 1
def tn_FAULTS : List (Str × Fnm) := []
def tab_FAULTS (c : Fnm → Fn) : List (Str × Fn) := tn_FAULTS.map fun p => (p.1, c p.2)
def tk_FAULTS : List (Str × Bool) := [("boxes", true), ("graphs", true), ("lines", true), ("singles", true), ("stacks", true), ("trees", true)]
def tn_FROM_TREES : List (Str × Fnm) := [("boxes", .f_boxes_of), ("lines", .f_from_trees_lines), ("stacks", .f_stacks_of)]
def tab_FROM_TREES (c : Fnm → Fn) : List (Str × Fn) := tn_FROM_TREES.map fun p => (p.1, c p.2)
def tk_FROM_TREES : List (Str × Bool) := [("boxes", true), ("graphs", true), ("lines", true), ("singles", true), ("stacks", true), ("trees", true)]
def k_LONGEST : D := .int 100000
def k_PAIRS : D := .tup [.str "plus", .str "minus", .str "times", .str "less", .str "same"]
noncomputable def m_size (c : Fnm → Fn) : FS := sSeq (sIf (fT (fBin (oIn false) (fBin oIx (fVar 0) (fC (.int 0))) (fTup (fCons (fC (.str "number")) (fCons (fC (.str "name")) (fNil)))))) (sSeq (sRet (fC (.int 1))) (sNil)) (sNil)) (sSeq (sRet (fBin oPlus (fC (.int 1)) (fCall oSum (fCons (fFrz (fLc (fSeq (fSl (fVar 0) (fPart (fC (.int 1))) (fNo))) (gN 1) (gYes) (fCall (ck 1 (c .f_size)) (fCons (fVar 1) (fNil))) [1])) (fNil))))) (sNil))
noncomputable def m_must_be_few (c : Fnm → Fn) : FS := sSeq (sIf (fT (fBin oGt (fVar 0) (fC k_LONGEST))) (sSeq (sStk) (sNil)) (sNil)) (sNil)
noncomputable def m_must_be_short (c : Fnm → Fn) : FS := sSeq (sDo (fCall (ck 1 (c .f_must_be_few)) (fCons (fCall oLen (fCons (fVar 0) (fNil))) (fNil)))) (sSeq (sRet (fVar 0)) (sNil))
noncomputable def b_lines_of_1 (c : Fnm → Fn) : FS := sSeq (sSet 4 (fBin oPlus (fVar 1) (fCall oLen (fCons (fVar 2) (fNil))))) (sSeq (sIf (fT (fBin (oIn false) (fBin oIx (fVar 3) (fC (.int 0))) (fTup (fCons (fC (.str "set")) (fCons (fC (.str "tell")) (fNil)))))) (sSeq (sDo (fApp (fVar 2) (fVar 3))) (sNil)) (sSeq (sIf (fT (fBin (oEq false) (fBin oIx (fVar 3) (fC (.int 0))) (fC (.str "if")))) (sSeq (sSet 5 (fCall (ck 2 (c .f_lines_of)) (fCons (fBin oIx (fVar 3) (fC (.int 2))) (fCons (fBin oPlus (fVar 4) (fC (.int 1))) (fNil))))) (sSeq (sSet 6 (fCall (ck 2 (c .f_lines_of)) (fCons (fBin oIx (fVar 3) (fC (.int 3))) (fCons (fBin oPlus (fBin oPlus (fVar 4) (fC (.int 2))) (fCall oLen (fCons (fVar 5) (fNil)))) (fNil))))) (sSeq (sSet 7 (fBin oPlus (fBin oPlus (fBin oPlus (fVar 4) (fC (.int 2))) (fCall oLen (fCons (fVar 5) (fNil)))) (fCall oLen (fCons (fVar 6) (fNil))))) (sSeq (sSet 2 (fNew (fBin oCat (fBin oPlus (fBin oPlus (fBin oPlus (fVar 2) (fFrz (fLst (fCons (fTup (fCons (fC (.str "unless")) (fCons (fBin oIx (fVar 3) (fC (.int 1))) (fCons (fBin oPlus (fBin oPlus (fVar 4) (fC (.int 2))) (fCall oLen (fCons (fVar 5) (fNil)))) (fNil))))) (fNil))))) (fVar 5)) (fFrz (fLst (fCons (fTup (fCons (fC (.str "jump")) (fCons (fVar 7) (fNil)))) (fNil))))) (fVar 6)))) (sNil))))) (sSeq (sSet 8 (fCall (ck 2 (c .f_lines_of)) (fCons (fBin oIx (fVar 3) (fC (.int 2))) (fCons (fBin oPlus (fVar 4) (fC (.int 2))) (fNil))))) (sSeq (sSet 2 (fNew (fBin oCat (fBin oPlus (fBin oPlus (fVar 2) (fFrz (fLst (fCons (fTup (fCons (fC (.str "turn")) (fNil))) (fCons (fTup (fCons (fC (.str "unless")) (fCons (fBin oIx (fVar 3) (fC (.int 1))) (fCons (fBin oPlus (fBin oPlus (fVar 4) (fC (.int 3))) (fCall oLen (fCons (fVar 8) (fNil)))) (fNil))))) (fNil)))))) (fVar 8)) (fFrz (fLst (fCons (fTup (fCons (fC (.str "jump")) (fCons (fVar 4) (fNil)))) (fNil))))))) (sNil)))) (sNil))) (sNil))
noncomputable def m_lines_of (c : Fnm → Fn) : FS := sSeq (sSet 2 (fNew (fLst (fNil)))) (sSeq (sFor (fSeq (fVar 0)) (gN 3) (b_lines_of_1 c)) (sSeq (sRet (fUn (fVar 2))) (sNil)))
noncomputable def m_from_trees_lines (c : Fnm → Fn) : FS := sSeq (sRet (fCall (ck 1 (c .f_must_be_short)) (fCons (fCall oTuple (fCons (fCall (ck 2 (c .f_lines_of)) (fCons (fVar 0) (fCons (fC (.int 0)) (fNil)))) (fNil))) (fNil)))) (sNil)
noncomputable def m_need (c : Fnm → Fn) : FS := sSeq (sIf (fT (fBin (oIn false) (fBin oIx (fVar 0) (fC (.int 0))) (fTup (fCons (fC (.str "number")) (fCons (fC (.str "name")) (fNil)))))) (sSeq (sRet (fC (.int 1))) (sNil)) (sNil)) (sSeq (sIf (fT (fBin (oEq false) (fBin oIx (fVar 0) (fC (.int 0))) (fC (.str "not")))) (sSeq (sRet (fCall (ck 1 (c .f_need)) (fCons (fBin oIx (fVar 0) (fC (.int 1))) (fNil)))) (sNil)) (sNil)) (sSeq (sPar 1 2 (fCons (fCall (ck 1 (c .f_need)) (fCons (fBin oIx (fVar 0) (fC (.int 1))) (fNil))) (fCons (fCall (ck 1 (c .f_need)) (fCons (fBin oIx (fVar 0) (fC (.int 2))) (fNil))) (fNil)))) (sSeq (sRet (fIf (fT (fBin (oEq false) (fVar 1) (fVar 2))) (fBin oPlus (fVar 1) (fC (.int 1))) (fCall (oMx maxI) (fCons (fVar 1) (fCons (fVar 2) (fNil)))))) (sNil))))
noncomputable def m_code_of_boxes (c : Fnm → Fn) : FS := sSeq (sIf (fT (fBin (oEq false) (fBin oIx (fVar 0) (fC (.int 0))) (fC (.str "number")))) (sSeq (sRet (fFrz (fLst (fCons (fTup (fCons (fC (.str "put")) (fCons (fVar 1) (fCons (fBin oIx (fVar 0) (fC (.int 1))) (fNil))))) (fNil))))) (sNil)) (sNil)) (sSeq (sIf (fT (fBin (oEq false) (fBin oIx (fVar 0) (fC (.int 0))) (fC (.str "name")))) (sSeq (sRet (fFrz (fLst (fCons (fTup (fCons (fC (.str "load")) (fCons (fVar 1) (fCons (fBin oIx (fVar 0) (fC (.int 1))) (fNil))))) (fNil))))) (sNil)) (sNil)) (sSeq (sIf (fT (fBin (oEq false) (fBin oIx (fVar 0) (fC (.int 0))) (fC (.str "not")))) (sSeq (sRet (fBin oPlus (fCall (ck 2 (c .f_code_of_boxes)) (fCons (fBin oIx (fVar 0) (fC (.int 1))) (fCons (fVar 1) (fNil)))) (fFrz (fLst (fCons (fTup (fCons (fC (.str "not")) (fCons (fVar 1) (fCons (fVar 1) (fNil))))) (fNil)))))) (sNil)) (sNil)) (sSeq (sPar 2 3 (fCons (fBin oIx (fVar 0) (fC (.int 1))) (fCons (fBin oIx (fVar 0) (fC (.int 2))) (fNil)))) (sSeq (sIf (fT (fBin oGe (fCall (ck 1 (c .f_need)) (fCons (fVar 2) (fNil))) (fCall (ck 1 (c .f_need)) (fCons (fVar 3) (fNil))))) (sSeq (sRet (fBin oPlus (fBin oPlus (fCall (ck 2 (c .f_code_of_boxes)) (fCons (fVar 2) (fCons (fVar 1) (fNil)))) (fCall (ck 2 (c .f_code_of_boxes)) (fCons (fVar 3) (fCons (fBin oPlus (fVar 1) (fC (.int 1))) (fNil))))) (fFrz (fLst (fCons (fTup (fCons (fBin oIx (fVar 0) (fC (.int 0))) (fCons (fVar 1) (fCons (fVar 1) (fCons (fBin oPlus (fVar 1) (fC (.int 1))) (fNil)))))) (fNil)))))) (sNil)) (sNil)) (sSeq (sRet (fBin oPlus (fBin oPlus (fCall (ck 2 (c .f_code_of_boxes)) (fCons (fVar 3) (fCons (fVar 1) (fNil)))) (fCall (ck 2 (c .f_code_of_boxes)) (fCons (fVar 2) (fCons (fBin oPlus (fVar 1) (fC (.int 1))) (fNil))))) (fFrz (fLst (fCons (fTup (fCons (fBin oIx (fVar 0) (fC (.int 0))) (fCons (fVar 1) (fCons (fBin oPlus (fVar 1) (fC (.int 1))) (fCons (fVar 1) (fNil)))))) (fNil)))))) (sNil))))))
noncomputable def m_code_of_line_boxes (c : Fnm → Fn) : FS := sSeq (sIf (fT (fBin (oEq false) (fBin oIx (fVar 0) (fC (.int 0))) (fC (.str "set")))) (sSeq (sRet (fBin oPlus (fCall (ck 2 (c .f_code_of_boxes)) (fCons (fBin oIx (fVar 0) (fC (.int 2))) (fCons (fC (.int 0)) (fNil)))) (fFrz (fLst (fCons (fTup (fCons (fC (.str "store")) (fCons (fC (.int 0)) (fCons (fBin oIx (fVar 0) (fC (.int 1))) (fNil))))) (fNil)))))) (sNil)) (sNil)) (sSeq (sIf (fT (fBin (oEq false) (fBin oIx (fVar 0) (fC (.int 0))) (fC (.str "tell")))) (sSeq (sRet (fBin oPlus (fCall (ck 2 (c .f_code_of_boxes)) (fCons (fBin oIx (fVar 0) (fC (.int 1))) (fCons (fC (.int 0)) (fNil)))) (fFrz (fLst (fCons (fTup (fCons (fC (.str "tell")) (fCons (fC (.int 0)) (fNil)))) (fNil)))))) (sNil)) (sNil)) (sSeq (sRet (fIf (fT (fBin (oEq false) (fBin oIx (fVar 0) (fC (.int 0))) (fC (.str "unless")))) (fBin oPlus (fCall (ck 2 (c .f_code_of_boxes)) (fCons (fBin oIx (fVar 0) (fC (.int 1))) (fCons (fC (.int 0)) (fNil)))) (fFrz (fLst (fCons (fTup (fCons (fC (.str "unless")) (fCons (fC (.int 0)) (fCons (fBin oIx (fVar 0) (fC (.int 2))) (fNil))))) (fNil))))) (fFrz (fLst (fCons (fVar 0) (fNil)))))) (sNil)))
noncomputable def b_from_lines_boxes_1 (c : Fnm → Fn) : FS := sSeq (sDo (fApp (fVar 2) (fBin oPlus (fBin oIx (fVar 2) (fNeg (fC (.int 1)))) (fCall oLen (fCons (fVar 3) (fNil)))))) (sNil)
noncomputable def m_from_lines_boxes (c : Fnm → Fn) : FS := sSeq (sSet 1 (fFrz (fLc (fSeq (fVar 0)) (gN 5) (gYes) (fCall (ck 1 (c .f_code_of_line_boxes)) (fCons (fVar 5) (fNil))) [5]))) (sSeq (sSet 2 (fNew (fLst (fCons (fC (.int 0)) (fNil))))) (sSeq (sFor (fSeq (fVar 1)) (gN 3) (b_from_lines_boxes_1 c)) (sSeq (sSet 4 (fCall (ck 1 (c .f_must_be_short)) (fCons (fFrz (fLc2 (fSeq (fVar 1)) (gN 3) (gYes) (fSeq (fVar 3)) (gN 6) (gYes) (fVar 6) [3, 6] [6])) (fNil)))) (sSeq (sRet (fCall oTuple (fCons (fFrz (fLc (fSeq (fVar 4)) (gN 6) (gYes) (fIf (fT (fBin (oIn false) (fBin oIx (fVar 6) (fC (.int 0))) (fTup (fCons (fC (.str "jump")) (fCons (fC (.str "unless")) (fNil)))))) (fBin oPlus (fSl (fVar 6) (fNo) (fPart (fNeg (fC (.int 1))))) (fTup (fCons (fBin oIx (fVar 2) (fBin oIx (fVar 6) (fNeg (fC (.int 1))))) (fNil)))) (fVar 6)) [6])) (fNil)))) (sNil)))))
noncomputable def m_boxes_in (c : Fnm → Fn) : FS := sSeq (sSet 1 (fFrz (fLc2 (fSeq (fVar 0)) (gN 2) (gYes) (fSeq (fSl (fVar 2) (fPart (fC (.int 1))) (fNo))) (gN 3) (gOr (fT (fBin (oEq false) (fBin oIx (fVar 2) (fC (.int 0))) (fC (.str "not")))) (fT (fBin (oIn false) (fBin oIx (fVar 2) (fC (.int 0))) (fC k_PAIRS)))) (fVar 3) [2, 3] [3]))) (sSeq (sSet 1 (fBin oPlus (fVar 1) (fFrz (fLc (fSeq (fVar 0)) (gN 2) (fT (fBin (oIn false) (fBin oIx (fVar 2) (fC (.int 0))) (fTup (fCons (fC (.str "put")) (fCons (fC (.str "load")) (fCons (fC (.str "store")) (fCons (fC (.str "tell")) (fCons (fC (.str "unless")) (fNil))))))))) (fBin oIx (fVar 2) (fC (.int 1))) [2])))) (sSeq (sRet (fBin oPlus (fCall (oMx maxI) (fCons (fBin oPlus (fFrz (fLst (fCons (fNeg (fC (.int 1))) (fNil)))) (fVar 1)) (fNil))) (fC (.int 1)))) (sNil)))
noncomputable def m_code_of_stacks (c : Fnm → Fn) : FS := sSeq (sIf (fT (fBin (oEq false) (fBin oIx (fVar 0) (fC (.int 0))) (fC (.str "number")))) (sSeq (sRet (fFrz (fLst (fCons (fTup (fCons (fC (.str "push")) (fCons (fBin oIx (fVar 0) (fC (.int 1))) (fNil)))) (fNil))))) (sNil)) (sNil)) (sSeq (sIf (fT (fBin (oEq false) (fBin oIx (fVar 0) (fC (.int 0))) (fC (.str "name")))) (sSeq (sRet (fFrz (fLst (fCons (fTup (fCons (fC (.str "load")) (fCons (fBin oIx (fVar 0) (fC (.int 1))) (fNil)))) (fNil))))) (sNil)) (sNil)) (sSeq (sRet (fBin oPlus (fFrz (fLc2 (fSeq (fSl (fVar 0) (fPart (fC (.int 1))) (fNo))) (gN 1) (gYes) (fSeq (fCall (ck 1 (c .f_code_of_stacks)) (fCons (fVar 1) (fNil)))) (gN 2) (gYes) (fVar 2) [1, 2] [2])) (fFrz (fLst (fCons (fTup (fCons (fBin oIx (fVar 0) (fC (.int 0))) (fNil))) (fNil)))))) (sNil)))
noncomputable def m_code_of_line_stacks (c : Fnm → Fn) : FS := sSeq (sIf (fT (fBin (oEq false) (fBin oIx (fVar 0) (fC (.int 0))) (fC (.str "set")))) (sSeq (sRet (fBin oPlus (fCall (ck 1 (c .f_code_of_stacks)) (fCons (fBin oIx (fVar 0) (fC (.int 2))) (fNil))) (fFrz (fLst (fCons (fTup (fCons (fC (.str "store")) (fCons (fBin oIx (fVar 0) (fC (.int 1))) (fNil)))) (fNil)))))) (sNil)) (sNil)) (sSeq (sIf (fT (fBin (oEq false) (fBin oIx (fVar 0) (fC (.int 0))) (fC (.str "tell")))) (sSeq (sRet (fBin oPlus (fCall (ck 1 (c .f_code_of_stacks)) (fCons (fBin oIx (fVar 0) (fC (.int 1))) (fNil))) (fFrz (fLst (fCons (fTup (fCons (fC (.str "tell")) (fNil))) (fNil)))))) (sNil)) (sNil)) (sSeq (sRet (fIf (fT (fBin (oEq false) (fBin oIx (fVar 0) (fC (.int 0))) (fC (.str "unless")))) (fBin oPlus (fCall (ck 1 (c .f_code_of_stacks)) (fCons (fBin oIx (fVar 0) (fC (.int 1))) (fNil))) (fFrz (fLst (fCons (fTup (fCons (fC (.str "unless")) (fCons (fBin oIx (fVar 0) (fC (.int 2))) (fNil)))) (fNil))))) (fFrz (fLst (fCons (fVar 0) (fNil)))))) (sNil)))
noncomputable def b_from_lines_stacks_1 (c : Fnm → Fn) : FS := sSeq (sDo (fApp (fVar 2) (fBin oPlus (fBin oIx (fVar 2) (fNeg (fC (.int 1)))) (fCall oLen (fCons (fVar 3) (fNil)))))) (sNil)
noncomputable def m_from_lines_stacks (c : Fnm → Fn) : FS := sSeq (sSet 1 (fFrz (fLc (fSeq (fVar 0)) (gN 5) (gYes) (fCall (ck 1 (c .f_code_of_line_stacks)) (fCons (fVar 5) (fNil))) [5]))) (sSeq (sSet 2 (fNew (fLst (fCons (fC (.int 0)) (fNil))))) (sSeq (sFor (fSeq (fVar 1)) (gN 3) (b_from_lines_stacks_1 c)) (sSeq (sSet 4 (fCall (ck 1 (c .f_must_be_short)) (fCons (fFrz (fLc2 (fSeq (fVar 1)) (gN 3) (gYes) (fSeq (fVar 3)) (gN 6) (gYes) (fVar 6) [3, 6] [6])) (fNil)))) (sSeq (sRet (fCall oTuple (fCons (fFrz (fLc (fSeq (fVar 4)) (gN 6) (gYes) (fIf (fT (fBin (oIn false) (fBin oIx (fVar 6) (fC (.int 0))) (fTup (fCons (fC (.str "jump")) (fCons (fC (.str "unless")) (fNil)))))) (fTup (fCons (fBin oIx (fVar 6) (fC (.int 0))) (fCons (fBin oIx (fVar 2) (fBin oIx (fVar 6) (fC (.int 1)))) (fNil)))) (fVar 6)) [6])) (fNil)))) (sNil)))))
noncomputable def m_deeds_in (c : Fnm → Fn) : FS := sSeq (sRet (fCall oSum (fCons (fFrz (fLc (fSeq (fVar 0)) (gN 1) (gYes) (fBin oPlus (fC (.int 1)) (fCall oSum (fCons (fFrz (fLc (fSeq (fSl (fVar 1) (fPart (fC (.int 2))) (fNo))) (gN 2) (fT (fBin (oIn false) (fBin oIx (fVar 1) (fC (.int 0))) (fTup (fCons (fC (.str "if")) (fCons (fC (.str "while")) (fNil)))))) (fCall (ck 1 (c .f_deeds_in)) (fCons (fVar 2) (fNil))) [2])) (fNil)))) [1])) (fNil)))) (sNil)
noncomputable def m_boxes_of (c : Fnm → Fn) : FS := sSeq (sRet (fCall (ck 1 (c .f_from_lines_boxes)) (fCons (fCall (ck 1 (c .f_from_trees_lines)) (fCons (fVar 0) (fNil))) (fNil)))) (sNil)
noncomputable def m_stacks_of (c : Fnm → Fn) : FS := sSeq (sRet (fCall (ck 1 (c .f_from_lines_stacks)) (fCons (fCall (ck 1 (c .f_from_trees_lines)) (fCons (fVar 0) (fNil))) (fNil)))) (sNil)
noncomputable def m_must_be_form (c : Fnm → Fn) : FS := sSeq (sIf (fT (fInTab true tk_FAULTS (fVar 0))) (sSeq (sStk) (sNil)) (sNil)) (sNil)
noncomputable def m_from_trees_registry (c : Fnm → Fn) : FS := sSeq (sDo (fCall (ck 1 (c .f_must_be_form)) (fCons (fVar 0) (fNil)))) (sSeq (sRet (fTab 1 (tab_FROM_TREES c) (fVar 0) (fCons (fVar 1) (fNil)))) (sNil))
noncomputable def m__law_same (c : Fnm → Fn) : FS := sSeq (sIf (gOr (fT (fIsa "tuple" (fVar 1))) (fT (fIsa "list" (fVar 1)))) (sSeq (sIf (gOr (fT (fBin (oEq true) (fIsa "tuple" (fVar 1)) (fIsa "tuple" (fVar 0)))) (gOr (fT (fBin (oEq true) (fIsa "list" (fVar 1)) (fIsa "list" (fVar 0)))) (fT (fBin (oEq true) (fCall oLen (fCons (fVar 0) (fNil))) (fCall oLen (fCons (fVar 1) (fNil))))))) (sSeq (sRet (fC (.bl false))) (sNil)) (sNil)) (sSeq (sRet (fBin (oEq false) (fCall oLen (fCons (fFrz (fLc (fCall rng1 (fCons (fCall oLen (fCons (fVar 1) (fNil))) (fNil))) (gN 2) (gNot (fT (fCall (ck 2 (c .f_law_same)) (fCons (fBin oIx (fVar 0) (fVar 2)) (fCons (fBin oIx (fVar 1) (fVar 2)) (fNil)))))) (fVar 2) [2])) (fNil))) (fC (.int 0)))) (sNil))) (sNil)) (sSeq (sIf (fT (fIsN false (fVar 1))) (sSeq (sRet (fIsN false (fVar 0))) (sNil)) (sNil)) (sSeq (sIf (gOr (fT (fIsa "bool" (fVar 1))) (fT (fIsa "bool" (fVar 0)))) (sSeq (sRet (fAnd (fIsa "bool" (fVar 1)) (fAnd (fIsa "bool" (fVar 0)) (fBin (oEq false) (fVar 0) (fVar 1))))) (sNil)) (sNil)) (sSeq (sIf (fT (fIsa "int" (fVar 1))) (sSeq (sRet (fAnd (fIsa "int" (fVar 0)) (fBin (oEq false) (fVar 0) (fVar 1)))) (sNil)) (sNil)) (sSeq (sRet (fAnd (fIsa "str" (fVar 0)) (fAnd (fIsa "str" (fVar 1)) (fBin (oEq false) (fVar 0) (fVar 1))))) (sNil)))))
noncomputable def b__law_pool_1 (c : Fnm → Fn) : FS := sSeq (sSet 1 (fBin oMod (fCall oInt1 (fCons (fBin oPlus (fBin oMul (fVar 1) (fC (.int 31))) (fVar 2)) (fNil))) (fC (.int 1000003)))) (sNil)
noncomputable def m__law_pool (c : Fnm → Fn) : FS := sSeq (sSet 1 (fC (.int 7))) (sSeq (sFor (fSeq (fSl (fVar 0) (fNo) (fPart (fC (.int 63))))) (gN 2) (b__law_pool_1 c)) (sSeq (sRet (fNew (fLst (fCons (fFrz (fCall oList (fCons (fVar 0) (fNil)))) (fCons (fC (.int 0)) (fCons (fC (.int 0)) (fCons (fC (.int 0)) (fCons (fVar 1) (fNil))))))))) (sNil)))
noncomputable def b__law_spread_1 (c : Fnm → Fn) : FS := sSeq (sSet 1 (fBin oMod (fCall oInt1 (fCons (fBin oPlus (fBin oPlus (fBin oMul (fVar 1) (fC (.int 48271))) (fC (.int 12345))) (fVar 3)) (fNil))) (fC (.int 2147483647)))) (sSeq (sSet 2 (fBin oPlus (fBin oMul (fVar 2) (fC (.int 2147483647))) (fVar 1))) (sNil))
noncomputable def m__law_spread (c : Fnm → Fn) : FS := sSeq (sSet 1 (fBin oMod (fCall oInt1 (fCons (fVar 0) (fNil))) (fC (.int 2147483647)))) (sSeq (sSet 2 (fC (.int 1))) (sSeq (sFor (fCall rng1 (fCons (fC (.int 4)) (fNil))) (gN 3) (b__law_spread_1 c)) (sSeq (sRet (fVar 2)) (sNil))))
noncomputable def m__law_draw (c : Fnm → Fn) : FS := sSeq (sIf (gAnd (fT (fBin oLe (fBin oIx (fVar 0) (fC (.int 2))) (fC (.int 0)))) (fT (fBin oLt (fBin oIx (fVar 0) (fC (.int 1))) (fCall oLen (fCons (fBin oIx (fVar 0) (fC (.int 0))) (fNil)))))) (sSeq (sSet 2 (fBin oIx (fBin oIx (fVar 0) (fC (.int 0))) (fBin oIx (fVar 0) (fC (.int 1))))) (sSeq (sPut (fVar 0) (fC (.int 1)) (fBin oPlus (fBin oIx (fVar 0) (fC (.int 1))) (fC (.int 1)))) (sSeq (sPut (fVar 0) (fC (.int 2)) (fVar 2)) (sSeq (sIf (fT (fBin oLt (fVar 2) (fC (.int 1000000000000000000)))) (sSeq (sPut (fVar 0) (fC (.int 2)) (fCall (ck 1 (c .f_law_spread)) (fCons (fVar 2) (fNil)))) (sNil)) (sNil)) (sNil))))) (sNil)) (sSeq (sPut (fVar 0) (fC (.int 3)) (fBin oPlus (fBin oIx (fVar 0) (fC (.int 3))) (fC (.int 1)))) (sSeq (sIf (fT (fBin oLe (fBin oIx (fVar 0) (fC (.int 2))) (fC (.int 0)))) (sSeq (sSet 3 (fBin oMod (fCall oInt1 (fCons (fBin oPlus (fBin oPlus (fBin oMul (fBin oIx (fVar 0) (fC (.int 4))) (fC (.int 48271))) (fBin oMul (fBin oIx (fVar 0) (fC (.int 3))) (fC (.int 69621)))) (fC (.int 1))) (fNil))) (fC (.int 2147483647)))) (sSeq (sSet 3 (fBin oMod (fCall oInt1 (fCons (fBin oPlus (fBin oMul (fVar 3) (fC (.int 16807))) (fBin oIx (fVar 0) (fC (.int 3)))) (fNil))) (fC (.int 2147483629)))) (sSeq (sRet (fBin oMod (fBin oDiv (fVar 3) (fC (.int 5))) (fVar 1))) (sNil)))) (sNil)) (sSeq (sSet 4 (fBin oMod (fCall oInt1 (fCons (fBin oIx (fVar 0) (fC (.int 2))) (fNil))) (fVar 1))) (sSeq (sPut (fVar 0) (fC (.int 2)) (fBin oDiv (fBin oIx (fVar 0) (fC (.int 2))) (fVar 1))) (sSeq (sRet (fVar 4)) (sNil))))))
noncomputable def m__law_pick (c : Fnm → Fn) : FS := sSeq (sRet (fBin oIx (fVar 1) (fCall (ck 2 (c .f_law_draw)) (fCons (fVar 0) (fCons (fCall oLen (fCons (fVar 1) (fNil))) (fNil)))))) (sNil)
noncomputable def m__law_expression (c : Fnm → Fn) : FS := sSeq (sIf (gOr (fT (fBin (oEq false) (fVar 1) (fC (.int 0)))) (fT (fBin (oEq false) (fCall (ck 2 (c .f_law_draw)) (fCons (fVar 0) (fCons (fC (.int 4)) (fNil)))) (fC (.int 0))))) (sSeq (sIf (fT (fBin oLt (fCall (ck 2 (c .f_law_draw)) (fCons (fVar 0) (fCons (fC (.int 5)) (fNil)))) (fC (.int 2)))) (sSeq (sRet (fTup (fCons (fC (.str "number")) (fCons (fBin oIx (fTup (fCons (fC (.int 0)) (fCons (fC (.int 1)) (fCons (fC (.int 2)) (fCons (fC (.int 3)) (fCons (fC (.int 5)) (fCons (fC (.int 9)) (fCons (fC (.int 998)) (fCons (fC (.int 999)) (fNil)))))))))) (fCall (ck 2 (c .f_law_draw)) (fCons (fVar 0) (fCons (fC (.int 8)) (fNil))))) (fNil))))) (sNil)) (sNil)) (sSeq (sRet (fTup (fCons (fC (.str "name")) (fCons (fCall (ck 2 (c .f_law_draw)) (fCons (fVar 0) (fCons (fC (.int 4)) (fNil)))) (fNil))))) (sNil))) (sNil)) (sSeq (sSet 2 (fCall (ck 2 (c .f_law_pick)) (fCons (fVar 0) (fCons (fFrz (fLst (fCons (fC (.str "plus")) (fCons (fC (.str "minus")) (fCons (fC (.str "times")) (fCons (fC (.str "less")) (fCons (fC (.str "same")) (fCons (fC (.str "not")) (fNil))))))))) (fNil))))) (sSeq (sIf (fT (fBin (oEq false) (fVar 2) (fC (.str "not")))) (sSeq (sRet (fTup (fCons (fC (.str "not")) (fCons (fCall (ck 2 (c .f_law_expression)) (fCons (fVar 0) (fCons (fBin oSub (fVar 1) (fC (.int 1))) (fNil)))) (fNil))))) (sNil)) (sNil)) (sSeq (sRet (fTup (fCons (fVar 2) (fCons (fCall (ck 2 (c .f_law_expression)) (fCons (fVar 0) (fCons (fBin oSub (fVar 1) (fC (.int 1))) (fNil)))) (fCons (fCall (ck 2 (c .f_law_expression)) (fCons (fVar 0) (fCons (fBin oSub (fVar 1) (fC (.int 1))) (fNil)))) (fNil)))))) (sNil))))
noncomputable def m__law_block (c : Fnm → Fn) : FS := sSeq (sRet (fCall oTuple (fCons (fFrz (fLc (fCall rng1 (fCons (fCall (ck 2 (c .f_law_draw)) (fCons (fVar 0) (fCons (fC (.int 4)) (fNil)))) (fNil))) (gN 2) (gYes) (fCall (ck 2 (c .f_law_deed)) (fCons (fVar 0) (fCons (fVar 1) (fNil)))) [2])) (fNil)))) (sNil)
noncomputable def m__law_deed (c : Fnm → Fn) : FS := sSeq (sSet 2 (fCall (ck 2 (c .f_law_draw)) (fCons (fVar 0) (fCons (fC (.int 8)) (fNil))))) (sSeq (sIf (gOr (fT (fBin (oEq false) (fVar 1) (fC (.int 0)))) (fT (fBin oLt (fVar 2) (fC (.int 4))))) (sSeq (sIf (fT (fBin (oEq false) (fBin oMod (fVar 2) (fC (.int 4))) (fC (.int 3)))) (sSeq (sRet (fTup (fCons (fC (.str "tell")) (fCons (fCall (ck 2 (c .f_law_expression)) (fCons (fVar 0) (fCons (fC (.int 2)) (fNil)))) (fNil))))) (sNil)) (sNil)) (sSeq (sRet (fTup (fCons (fC (.str "set")) (fCons (fCall (ck 2 (c .f_law_draw)) (fCons (fVar 0) (fCons (fC (.int 4)) (fNil)))) (fCons (fCall (ck 2 (c .f_law_expression)) (fCons (fVar 0) (fCons (fC (.int 2)) (fNil)))) (fNil)))))) (sNil))) (sNil)) (sSeq (sIf (fT (fBin oLt (fVar 2) (fC (.int 6)))) (sSeq (sRet (fTup (fCons (fC (.str "if")) (fCons (fCall (ck 2 (c .f_law_expression)) (fCons (fVar 0) (fCons (fC (.int 2)) (fNil)))) (fCons (fCall (ck 2 (c .f_law_block)) (fCons (fVar 0) (fCons (fBin oSub (fVar 1) (fC (.int 1))) (fNil)))) (fCons (fCall (ck 2 (c .f_law_block)) (fCons (fVar 0) (fCons (fBin oSub (fVar 1) (fC (.int 1))) (fNil)))) (fNil))))))) (sNil)) (sNil)) (sSeq (sSet 3 (fCall (ck 2 (c .f_law_draw)) (fCons (fVar 0) (fCons (fC (.int 4)) (fNil))))) (sSeq (sIf (fT (fBin oLt (fCall (ck 2 (c .f_law_draw)) (fCons (fVar 0) (fCons (fC (.int 5)) (fNil)))) (fC (.int 3)))) (sSeq (sSet 4 (fTup (fCons (fC (.str "set")) (fCons (fVar 3) (fCons (fTup (fCons (fC (.str "plus")) (fCons (fTup (fCons (fC (.str "name")) (fCons (fVar 3) (fNil)))) (fCons (fTup (fCons (fC (.str "number")) (fCons (fBin oPlus (fC (.int 1)) (fCall (ck 2 (c .f_law_draw)) (fCons (fVar 0) (fCons (fC (.int 3)) (fNil))))) (fNil)))) (fNil))))) (fNil)))))) (sSeq (sRet (fTup (fCons (fC (.str "while")) (fCons (fTup (fCons (fC (.str "less")) (fCons (fTup (fCons (fC (.str "name")) (fCons (fVar 3) (fNil)))) (fCons (fTup (fCons (fC (.str "number")) (fCons (fCall (ck 2 (c .f_law_draw)) (fCons (fVar 0) (fCons (fC (.int 12)) (fNil)))) (fNil)))) (fNil))))) (fCons (fBin oPlus (fCall (ck 2 (c .f_law_block)) (fCons (fVar 0) (fCons (fBin oSub (fVar 1) (fC (.int 1))) (fNil)))) (fTup (fCons (fVar 4) (fNil)))) (fNil)))))) (sNil))) (sNil)) (sSeq (sRet (fTup (fCons (fC (.str "while")) (fCons (fCall (ck 2 (c .f_law_expression)) (fCons (fVar 0) (fCons (fC (.int 2)) (fNil)))) (fCons (fCall (ck 2 (c .f_law_block)) (fCons (fVar 0) (fCons (fBin oSub (fVar 1) (fC (.int 1))) (fNil)))) (fNil)))))) (sNil))))))
noncomputable def b__law_program_1 (c : Fnm → Fn) : FS := sSeq (sSet 1 (fIf (fT (fBin oLe (fCall (ck 1 (c .f_law_deeds_of)) (fCons (fBin oPlus (fVar 1) (fTup (fCons (fVar 2) (fNil)))) (fNil))) (fC (.int 24)))) (fBin oPlus (fVar 1) (fTup (fCons (fVar 2) (fNil)))) (fVar 1))) (sNil)
noncomputable def m__law_program (c : Fnm → Fn) : FS := sSeq (sSet 1 (fTup (fNil))) (sSeq (sFor (fSeq (fCall (ck 2 (c .f_law_block)) (fCons (fVar 0) (fCons (fC (.int 3)) (fNil))))) (gN 2) (b__law_program_1 c)) (sSeq (sRet (fIf (fT (fBin (oEq true) (fVar 1) (fTup (fNil)))) (fVar 1) (fTup (fCons (fTup (fCons (fC (.str "tell")) (fCons (fTup (fCons (fC (.str "name")) (fCons (fCall (ck 2 (c .f_law_draw)) (fCons (fVar 0) (fCons (fC (.int 4)) (fNil)))) (fNil)))) (fNil)))) (fNil))))) (sNil)))
noncomputable def m__law_need (c : Fnm → Fn) : FS := sSeq (sSet 1 (fFrz (fCall oSorted (fCons (fFrz (fLc (fSeq (fSl (fVar 0) (fPart (fC (.int 1))) (fNo))) (gN 2) (fT (fIsa "tuple" (fVar 2))) (fCall (ck 1 (c .f_law_need)) (fCons (fVar 2) (fNil))) [2])) (fNil))))) (sSeq (sIf (fT (fBin (oEq false) (fVar 1) (fFrz (fLst (fNil))))) (sSeq (sRet (fC (.int 1))) (sNil)) (sNil)) (sSeq (sRet (fIf (gOr (fT (fBin (oEq false) (fCall oLen (fCons (fVar 1) (fNil))) (fC (.int 1)))) (fT (fBin oLt (fBin oIx (fVar 1) (fC (.int 0))) (fBin oIx (fVar 1) (fC (.int 1)))))) (fBin oIx (fVar 1) (fNeg (fC (.int 1)))) (fBin oPlus (fBin oIx (fVar 1) (fNeg (fC (.int 1)))) (fC (.int 1))))) (sNil)))
noncomputable def b__law_deeds_of_1 (c : Fnm → Fn) : FS := sSeq (sIf (fT (fBin (oIn false) (fBin oIx (fVar 2) (fC (.int 0))) (fTup (fCons (fC (.str "if")) (fCons (fC (.str "while")) (fNil)))))) (sSeq (sSet 1 (fBin oPlus (fVar 1) (fCall oSum (fCons (fFrz (fLc (fSeq (fSl (fVar 2) (fPart (fC (.int 2))) (fNo))) (gN 3) (gYes) (fCall (ck 1 (c .f_law_deeds_of)) (fCons (fVar 3) (fNil))) [3])) (fNil))))) (sNil)) (sNil)) (sNil)
noncomputable def m__law_deeds_of (c : Fnm → Fn) : FS := sSeq (sSet 1 (fCall oLen (fCons (fVar 0) (fNil)))) (sSeq (sFor (fSeq (fVar 0)) (gN 2) (b__law_deeds_of_1 c)) (sSeq (sRet (fVar 1)) (sNil)))
noncomputable def b__law_lines_of_1 (c : Fnm → Fn) : FS := sSeq (sIf (fT (fBin (oEq false) (fBin oIx (fVar 2) (fC (.int 0))) (fC (.str "if")))) (sSeq (sSet 1 (fBin oPlus (fBin oPlus (fBin oPlus (fVar 1) (fC (.int 2))) (fCall (ck 1 (c .f_law_lines_of)) (fCons (fBin oIx (fVar 2) (fC (.int 2))) (fNil)))) (fCall (ck 1 (c .f_law_lines_of)) (fCons (fBin oIx (fVar 2) (fC (.int 3))) (fNil))))) (sNil)) (sSeq (sIf (fT (fBin (oEq false) (fBin oIx (fVar 2) (fC (.int 0))) (fC (.str "while")))) (sSeq (sSet 1 (fBin oPlus (fBin oPlus (fVar 1) (fC (.int 3))) (fCall (ck 1 (c .f_law_lines_of)) (fCons (fBin oIx (fVar 2) (fC (.int 2))) (fNil))))) (sNil)) (sSeq (sSet 1 (fBin oPlus (fVar 1) (fC (.int 1)))) (sNil))) (sNil))) (sNil)
noncomputable def m__law_lines_of (c : Fnm → Fn) : FS := sSeq (sSet 1 (fC (.int 0))) (sSeq (sFor (fSeq (fVar 0)) (gN 2) (b__law_lines_of_1 c)) (sSeq (sRet (fVar 1)) (sNil)))
noncomputable def b__law_expressions_of_1 (c : Fnm → Fn) : FS := sSeq (sSet 1 (fNew (fBin oCat (fVar 1) (fCall (ck 1 (c .f_law_expressions_of)) (fCons (fVar 3) (fNil)))))) (sNil)
noncomputable def b__law_expressions_of_2 (c : Fnm → Fn) : FS := sSeq (sDo (fApp (fVar 1) (fIf (fT (fBin (oEq false) (fBin oIx (fVar 2) (fC (.int 0))) (fC (.str "set")))) (fBin oIx (fVar 2) (fC (.int 2))) (fBin oIx (fVar 2) (fC (.int 1)))))) (sSeq (sFor (fSeq (fIf (fT (fBin (oIn false) (fBin oIx (fVar 2) (fC (.int 0))) (fTup (fCons (fC (.str "if")) (fCons (fC (.str "while")) (fNil)))))) (fSl (fVar 2) (fPart (fC (.int 2))) (fNo)) (fTup (fNil)))) (gN 3) (b__law_expressions_of_1 c)) (sNil))
noncomputable def m__law_expressions_of (c : Fnm → Fn) : FS := sSeq (sSet 1 (fNew (fLst (fNil)))) (sSeq (sFor (fSeq (fVar 0)) (gN 2) (b__law_expressions_of_2 c)) (sSeq (sRet (fUn (fVar 1))) (sNil)))
noncomputable def m__law_size_of (c : Fnm → Fn) : FS := sSeq (sRet (fBin oPlus (fC (.int 1)) (fCall oSum (fCons (fFrz (fLc (fSeq (fSl (fVar 0) (fPart (fC (.int 1))) (fNo))) (gN 1) (fT (fIsa "tuple" (fVar 1))) (fCall (ck 1 (c .f_law_size_of)) (fCons (fVar 1) (fNil))) [1])) (fNil))))) (sNil)
noncomputable def m_law (c : Fnm → Fn) : FS := sSeq (sSet 1 (fCall (ck 1 (c .f_law_pool)) (fCons (fVar 0) (fNil)))) (sSeq (sSet 2 (fBin oPlus (fCall (ck 1 (c .f_law_program)) (fCons (fVar 1) (fNil))) (fTup (fCons (fTup (fCons (fC (.str "tell")) (fCons (fCall (ck 2 (c .f_law_expression)) (fCons (fVar 1) (fCons (fC (.int 4)) (fNil)))) (fNil)))) (fNil))))) (sSeq (sSet 3 (fCall (ck 1 (c .f_law_expressions_of)) (fCons (fVar 2) (fNil)))) (sSeq (sPar 4 5 (fCons (fCall (ck 1 (c .f_law_lines_of)) (fCons (fVar 2) (fNil))) (fCons (fCall oSum (fCons (fFrz (fLc (fSeq (fVar 3)) (gN 6) (gYes) (fCall (ck 1 (c .f_law_size_of)) (fCons (fVar 6) (fNil))) [6])) (fNil))) (fNil)))) (sSeq (sIf (gNot (fT (fCall (ck 2 (c .f_law_same)) (fCons (fFrz (fLst (fCons (fCall oLen (fCons (fCall (ck 2 (c .f_from_trees_registry)) (fCons (fC (.str "lines")) (fCons (fVar 2) (fNil)))) (fNil))) (fCons (fCall oLen (fCons (fCall (ck 2 (c .f_from_trees_registry)) (fCons (fC (.str "stacks")) (fCons (fVar 2) (fNil)))) (fNil))) (fCons (fCall oLen (fCons (fCall (ck 2 (c .f_from_trees_registry)) (fCons (fC (.str "boxes")) (fCons (fVar 2) (fNil)))) (fNil))) (fNil)))))) (fCons (fFrz (fLst (fCons (fVar 4) (fCons (fBin oPlus (fVar 4) (fVar 5)) (fCons (fBin oPlus (fVar 4) (fVar 5)) (fNil)))))) (fNil)))))) (sSeq (sRet (fC (.bl false))) (sNil)) (sNil)) (sSeq (sIf (gNot (fT (fCall (ck 2 (c .f_law_same)) (fCons (fFrz (fLc (fSeq (fVar 3)) (gN 6) (gYes) (fCall (ck 1 (c .f_size)) (fCons (fVar 6) (fNil))) [6])) (fCons (fFrz (fLc (fSeq (fVar 3)) (gN 6) (gYes) (fCall (ck 1 (c .f_law_size_of)) (fCons (fVar 6) (fNil))) [6])) (fNil)))))) (sSeq (sRet (fC (.bl false))) (sNil)) (sNil)) (sSeq (sIf (gNot (fT (fCall (ck 2 (c .f_law_same)) (fCons (fFrz (fLc (fSeq (fVar 3)) (gN 6) (gYes) (fCall (ck 1 (c .f_need)) (fCons (fVar 6) (fNil))) [6])) (fCons (fFrz (fLc (fSeq (fVar 3)) (gN 6) (gYes) (fCall (ck 1 (c .f_law_need)) (fCons (fVar 6) (fNil))) [6])) (fNil)))))) (sSeq (sRet (fC (.bl false))) (sNil)) (sNil)) (sSeq (sRet (fCall (ck 2 (c .f_law_same)) (fCons (fFrz (fLst (fCons (fCall (ck 1 (c .f_boxes_in)) (fCons (fCall (ck 2 (c .f_from_trees_registry)) (fCons (fC (.str "boxes")) (fCons (fVar 2) (fNil)))) (fNil))) (fCons (fCall (ck 1 (c .f_deeds_in)) (fCons (fVar 2) (fNil))) (fNil))))) (fCons (fFrz (fLst (fCons (fCall (oMx maxI) (fCons (fFrz (fLc (fSeq (fVar 3)) (gN 6) (gYes) (fCall (ck 1 (c .f_law_need)) (fCons (fVar 6) (fNil))) [6])) (fNil))) (fCons (fCall oLen (fCons (fVar 3) (fNil))) (fNil))))) (fNil))))) (sNil))))))))
noncomputable def bodies (c : Fnm → Fn) : Fnm → Fn
  | .f_size => fnM 1 2 true (m_size c)
  | .f_must_be_few => fnM 1 1 true (m_must_be_few c)
  | .f_must_be_short => fnM 1 1 true (m_must_be_short c)
  | .f_lines_of => fnM 2 9 true (m_lines_of c)
  | .f_from_trees_lines => fnM 1 1 true (m_from_trees_lines c)
  | .f_need => fnM 1 3 true (m_need c)
  | .f_code_of_boxes => fnM 2 4 true (m_code_of_boxes c)
  | .f_code_of_line_boxes => fnM 1 1 true (m_code_of_line_boxes c)
  | .f_from_lines_boxes => fnM 1 7 true (m_from_lines_boxes c)
  | .f_boxes_in => fnM 1 4 true (m_boxes_in c)
  | .f_code_of_stacks => fnM 1 3 true (m_code_of_stacks c)
  | .f_code_of_line_stacks => fnM 1 1 true (m_code_of_line_stacks c)
  | .f_from_lines_stacks => fnM 1 7 true (m_from_lines_stacks c)
  | .f_deeds_in => fnM 1 3 true (m_deeds_in c)
  | .f_boxes_of => fnM 1 1 true (m_boxes_of c)
  | .f_stacks_of => fnM 1 1 true (m_stacks_of c)
  | .f_must_be_form => fnM 1 1 true (m_must_be_form c)
  | .f_from_trees_registry => fnM 2 2 true (m_from_trees_registry c)
  | .f_law_same => fnM 2 3 true (m__law_same c)
  | .f_law_pool => fnM 1 3 false (m__law_pool c)
  | .f_law_spread => fnM 1 4 true (m__law_spread c)
  | .f_law_draw => fnM 2 5 true (m__law_draw c)
  | .f_law_pick => fnM 2 2 true (m__law_pick c)
  | .f_law_expression => fnM 2 3 true (m__law_expression c)
  | .f_law_block => fnM 2 3 true (m__law_block c)
  | .f_law_deed => fnM 2 5 true (m__law_deed c)
  | .f_law_program => fnM 1 3 true (m__law_program c)
  | .f_law_need => fnM 1 3 true (m__law_need c)
  | .f_law_deeds_of => fnM 1 4 true (m__law_deeds_of c)
  | .f_law_lines_of => fnM 1 3 true (m__law_lines_of c)
  | .f_law_expressions_of => fnM 1 4 true (m__law_expressions_of c)
  | .f_law_size_of => fnM 1 2 true (m__law_size_of c)
  | .f_law => fnM 1 7 true (m_law c)
noncomputable def prog : Nat → Fnm → Fn
  | 0, _ => fun _ _ => none
  | k + 1, f => bodies (prog k) f
def topS (i : Nat) : Stmt := PySem.Challenge.pw_everymeaning_k80_whole_sizes_of_forms.main.body.getD i (.Pass ⟨0, 0, 0, 0⟩)
/-- what the walk needs of the top -/
structure Txt (G : Gx) (w : World) (mg : Str → Option Value) : Prop where
  z_bool : mg "bool" = none
  z_int : mg "int" = none
  z_isinstance : mg "isinstance" = none
  z_len : mg "len" = none
  z_list : mg "list" = none
  z_max : mg "max" = none
  z_range : mg "range" = none
  z_sorted : mg "sorted" = none
  z_str : mg "str" = none
  z_sum : mg "sum" = none
  z_tuple : mg "tuple" = none
  m_FAULTS : ∃ d, mg "FAULTS" = some (.ref d) ∧ (∃ des dn, KDict G.K w d des dn) ∧ (∀ z r, tk_FAULTS.lookup z = some r → ∃ o, PySem.W.nsIn G.K d z = some o ∧ o.isSome = r) ∧ ∀ z n, tn_FAULTS.lookup z = some n → ∃ f, KDct G.K w d z (.ref f) ∧ mg (nm n) = some (.ref f)
  m_FROM_TREES : ∃ d, mg "FROM_TREES" = some (.ref d) ∧ (∃ des dn, KDict G.K w d des dn) ∧ (∀ z r, tk_FROM_TREES.lookup z = some r → ∃ o, PySem.W.nsIn G.K d z = some o ∧ o.isSome = r) ∧ ∀ z n, tn_FROM_TREES.lookup z = some n → ∃ f, KDct G.K w d z (.ref f) ∧ mg (nm n) = some (.ref f)
  g_LONGEST : ∃ t, mg "LONGEST" = some (.int 100000 t)
  g_PAIRS : ∃ a, mg "PAIRS" = some (.ref a) ∧ ∀ H, Rep G H k_PAIRS (.ref a)
section
variable {G : Gx} {w : World} {mg : Str → Option Value} {X : Cx} {E : XK} {P : Program} {base : Heap} {k : Nat} {c : Fnm → Fn}
abbrev HasAll (P : Program) (w : World) (G : Gx) (mg : Str → Option Value) (base : Heap) (k : Nat) (c : Fnm → Fn) : Prop := ∀ f, Has P w G mg base k (nm f) (ar f) (c f)
noncomputable def Txt.d_FAULTS (T : Txt G w mg) : Addr := T.m_FAULTS.choose
theorem Txt.v_FAULTS (T : Txt G w mg) (hg : Gl X "FAULTS") {p : Pos} (hm : X.mg = mg := by rfl) : PE X (.Name "FAULTS" p) (tC (.ref T.d_FAULTS)) := pe_glob hg (by rw [hm]; exact T.m_FAULTS.choose_spec.1) rfl
theorem Txt.kd_FAULTS (T : Txt G w mg) (hK : X.K = G.K := by rfl) (hw : X.w = w := by rfl) : ∃ des dn, KDict X.K X.w T.d_FAULTS des dn := by rw [hK, hw]; exact T.m_FAULTS.choose_spec.2.1
theorem Txt.in_FAULTS (T : Txt G w mg) (hK : X.K = G.K := by rfl) : ∀ z r, tk_FAULTS.lookup z = some r → ∃ o, PySem.W.nsIn X.K T.d_FAULTS z = some o ∧ o.isSome = r := by rw [hK]; exact T.m_FAULTS.choose_spec.2.2.1
noncomputable def Txt.d_FROM_TREES (T : Txt G w mg) : Addr := T.m_FROM_TREES.choose
theorem Txt.v_FROM_TREES (T : Txt G w mg) (hg : Gl X "FROM_TREES") {p : Pos} (hm : X.mg = mg := by rfl) : PE X (.Name "FROM_TREES" p) (tC (.ref T.d_FROM_TREES)) := pe_glob hg (by rw [hm]; exact T.m_FROM_TREES.choose_spec.1) rfl
theorem Txt.kd_FROM_TREES (T : Txt G w mg) (hK : X.K = G.K := by rfl) (hw : X.w = w := by rfl) : ∃ des dn, KDict X.K X.w T.d_FROM_TREES des dn := by rw [hK, hw]; exact T.m_FROM_TREES.choose_spec.2.1
theorem Txt.in_FROM_TREES (T : Txt G w mg) (hK : X.K = G.K := by rfl) : ∀ z r, tk_FROM_TREES.lookup z = some r → ∃ o, PySem.W.nsIn X.K T.d_FROM_TREES z = some o ∧ o.isSome = r := by rw [hK]; exact T.m_FROM_TREES.choose_spec.2.2.1
theorem Txt.tab_FROM_TREES (T : Txt G w mg) (hs : HasAll P w G mg base k c) : ∀ z F, (Y.tab_FROM_TREES c).lookup z = some F → ∃ f fd ps, KDct G.K w T.d_FROM_TREES z (.ref f) ∧ PySem.W.keepIn G.K (.ref f) = true ∧ Binds G.K fd ps [] ∧ FnOk P w G.K mg base (L2.CX P w) k f fd ps (spF G 1 F) := fun z F h => by
  obtain ⟨n, h1, rfl⟩ := lookup_map h
  obtain ⟨f, h2, h3⟩ := T.m_FROM_TREES.choose_spec.2.2.2 z n h1
  obtain ⟨f', fd, ps, k1, k2, k3, k4⟩ := hs n
  rw [h3] at k1
  cases k1
  have ha : ar n = 1 := tab_ar (l := tn_FROM_TREES) (by decide) h1
  rw [ha] at k4
  exact ⟨f, fd, ps, h2, k2, k3, k4⟩
theorem Txt.c_LONGEST (T : Txt G w mg) (hg : Gl X "LONGEST") {p : Pos} (hm : X.mg = mg := by rfl) : QE X G E (.Name "LONGEST" p) (fC k_LONGEST) := by obtain ⟨t, h⟩ := T.g_LONGEST; exact qe_glob (v := .int 100000) (u := .int 100000 t) hg (by rw [hm]; exact h) ⟨t, rfl⟩ fun _ => rfl
theorem Txt.c_PAIRS (T : Txt G w mg) (hg : Gl X "PAIRS") {p : Pos} (hm : X.mg = mg := by rfl) : QE X G E (.Name "PAIRS" p) (fC k_PAIRS) := by obtain ⟨a, h, r⟩ := T.g_PAIRS; exact qe_glob (v := .ref a) (u := .ref a) hg (by rw [hm]; exact h) rfl r
end
abbrev s_size : Stmt := topS 17
theorem sc_size : FnScope ["expression", "part"] ["expression"] (defScope s_size) := ⟨rfl, rfl, rfl, by decide +kernel, rfl, by decide +kernel, by decide +kernel⟩
abbrev s_must_be_few : Stmt := topS 23
theorem sc_must_be_few : FnScope ["count"] ["count"] (defScope s_must_be_few) := ⟨rfl, rfl, rfl, by decide +kernel, rfl, by decide +kernel, by decide +kernel⟩
abbrev s_must_be_short : Stmt := topS 24
theorem sc_must_be_short : FnScope ["found"] ["found"] (defScope s_must_be_short) := ⟨rfl, rfl, rfl, by decide +kernel, rfl, by decide +kernel, by decide +kernel⟩
abbrev s_lines_of : Stmt := topS 32
theorem sc_lines_of : FnScope ["block", "begin", "found", "deed", "at", "one", "two", "end", "body"] ["block", "begin"] (defScope s_lines_of) := ⟨rfl, rfl, rfl, by decide +kernel, rfl, by decide +kernel, by decide +kernel⟩
abbrev s_from_trees_lines : Stmt := topS 33
theorem sc_from_trees_lines : FnScope ["value"] ["value"] (defScope s_from_trees_lines) := ⟨rfl, rfl, rfl, by decide +kernel, rfl, by decide +kernel, by decide +kernel⟩
abbrev s_need : Stmt := topS 45
theorem sc_need : FnScope ["expression", "one", "two"] ["expression"] (defScope s_need) := ⟨rfl, rfl, rfl, by decide +kernel, rfl, by decide +kernel, by decide +kernel⟩
abbrev s_code_of_boxes : Stmt := topS 46
theorem sc_code_of_boxes : FnScope ["expression", "box", "one", "two"] ["expression", "box"] (defScope s_code_of_boxes) := ⟨rfl, rfl, rfl, by decide +kernel, rfl, by decide +kernel, by decide +kernel⟩
abbrev s_code_of_line_boxes : Stmt := topS 48
theorem sc_code_of_line_boxes : FnScope ["line"] ["line"] (defScope s_code_of_line_boxes) := ⟨rfl, rfl, rfl, by decide +kernel, rfl, by decide +kernel, by decide +kernel⟩
abbrev s_from_lines_boxes : Stmt := topS 50
theorem sc_from_lines_boxes : FnScope ["value", "parts", "begins", "part", "found", "line", "code"] ["value"] (defScope s_from_lines_boxes) := ⟨rfl, rfl, rfl, by decide +kernel, rfl, by decide +kernel, by decide +kernel⟩
abbrev s_boxes_in : Stmt := topS 52
theorem sc_boxes_in : FnScope ["value", "every", "code", "box"] ["value"] (defScope s_boxes_in) := ⟨rfl, rfl, rfl, by decide +kernel, rfl, by decide +kernel, by decide +kernel⟩
abbrev s_code_of_stacks : Stmt := topS 105
theorem sc_code_of_stacks : FnScope ["expression", "part", "code"] ["expression"] (defScope s_code_of_stacks) := ⟨rfl, rfl, rfl, by decide +kernel, rfl, by decide +kernel, by decide +kernel⟩
abbrev s_code_of_line_stacks : Stmt := topS 107
theorem sc_code_of_line_stacks : FnScope ["line"] ["line"] (defScope s_code_of_line_stacks) := ⟨rfl, rfl, rfl, by decide +kernel, rfl, by decide +kernel, by decide +kernel⟩
abbrev s_from_lines_stacks : Stmt := topS 109
theorem sc_from_lines_stacks : FnScope ["value", "parts", "begins", "part", "found", "line", "code"] ["value"] (defScope s_from_lines_stacks) := ⟨rfl, rfl, rfl, by decide +kernel, rfl, by decide +kernel, by decide +kernel⟩
abbrev s_deeds_in : Stmt := topS 119
theorem sc_deeds_in : FnScope ["block", "deed", "part"] ["block"] (defScope s_deeds_in) := ⟨rfl, rfl, rfl, by decide +kernel, rfl, by decide +kernel, by decide +kernel⟩
abbrev s_boxes_of : Stmt := topS 122
theorem sc_boxes_of : FnScope ["value"] ["value"] (defScope s_boxes_of) := ⟨rfl, rfl, rfl, by decide +kernel, rfl, by decide +kernel, by decide +kernel⟩
abbrev s_stacks_of : Stmt := topS 125
theorem sc_stacks_of : FnScope ["value"] ["value"] (defScope s_stacks_of) := ⟨rfl, rfl, rfl, by decide +kernel, rfl, by decide +kernel, by decide +kernel⟩
abbrev s_must_be_form : Stmt := topS 128
theorem sc_must_be_form : FnScope ["form"] ["form"] (defScope s_must_be_form) := ⟨rfl, rfl, rfl, by decide +kernel, rfl, by decide +kernel, by decide +kernel⟩
abbrev s_from_trees_registry : Stmt := topS 129
theorem sc_from_trees_registry : FnScope ["form", "value"] ["form", "value"] (defScope s_from_trees_registry) := ⟨rfl, rfl, rfl, by decide +kernel, rfl, by decide +kernel, by decide +kernel⟩
abbrev s__law_same : Stmt := topS 132
theorem sc__law_same : FnScope ["actual", "due", "k"] ["actual", "due"] (defScope s__law_same) := ⟨rfl, rfl, rfl, by decide +kernel, rfl, by decide +kernel, by decide +kernel⟩
abbrev s__law_pool : Stmt := topS 133
theorem sc__law_pool : FnScope ["script", "salt", "cell"] ["script"] (defScope s__law_pool) := ⟨rfl, rfl, rfl, by decide +kernel, rfl, by decide +kernel, by decide +kernel⟩
abbrev s__law_spread : Stmt := topS 134
theorem sc__law_spread : FnScope ["cell", "mixed", "total", "k"] ["cell"] (defScope s__law_spread) := ⟨rfl, rfl, rfl, by decide +kernel, rfl, by decide +kernel, by decide +kernel⟩
abbrev s__law_draw : Stmt := topS 135
theorem sc__law_draw : FnScope ["pool", "many", "cell", "mixed", "value"] ["pool", "many"] (defScope s__law_draw) := ⟨rfl, rfl, rfl, by decide +kernel, rfl, by decide +kernel, by decide +kernel⟩
abbrev s__law_pick : Stmt := topS 136
theorem sc__law_pick : FnScope ["pool", "items"] ["pool", "items"] (defScope s__law_pick) := ⟨rfl, rfl, rfl, by decide +kernel, rfl, by decide +kernel, by decide +kernel⟩
abbrev s__law_expression : Stmt := topS 137
theorem sc__law_expression : FnScope ["pool", "deep", "word"] ["pool", "deep"] (defScope s__law_expression) := ⟨rfl, rfl, rfl, by decide +kernel, rfl, by decide +kernel, by decide +kernel⟩
abbrev s__law_block : Stmt := topS 138
theorem sc__law_block : FnScope ["pool", "deep", "k"] ["pool", "deep"] (defScope s__law_block) := ⟨rfl, rfl, rfl, by decide +kernel, rfl, by decide +kernel, by decide +kernel⟩
abbrev s__law_deed : Stmt := topS 139
theorem sc__law_deed : FnScope ["pool", "deep", "turn", "name", "more"] ["pool", "deep"] (defScope s__law_deed) := ⟨rfl, rfl, rfl, by decide +kernel, rfl, by decide +kernel, by decide +kernel⟩
abbrev s__law_program : Stmt := topS 140
theorem sc__law_program : FnScope ["pool", "found", "deed"] ["pool"] (defScope s__law_program) := ⟨rfl, rfl, rfl, by decide +kernel, rfl, by decide +kernel, by decide +kernel⟩
abbrev s__law_need : Stmt := topS 141
theorem sc__law_need : FnScope ["expression", "parts", "part"] ["expression"] (defScope s__law_need) := ⟨rfl, rfl, rfl, by decide +kernel, rfl, by decide +kernel, by decide +kernel⟩
abbrev s__law_deeds_of : Stmt := topS 142
theorem sc__law_deeds_of : FnScope ["block", "found", "deed", "part"] ["block"] (defScope s__law_deeds_of) := ⟨rfl, rfl, rfl, by decide +kernel, rfl, by decide +kernel, by decide +kernel⟩
abbrev s__law_lines_of : Stmt := topS 143
theorem sc__law_lines_of : FnScope ["block", "found", "deed"] ["block"] (defScope s__law_lines_of) := ⟨rfl, rfl, rfl, by decide +kernel, rfl, by decide +kernel, by decide +kernel⟩
abbrev s__law_expressions_of : Stmt := topS 144
theorem sc__law_expressions_of : FnScope ["block", "found", "deed", "part"] ["block"] (defScope s__law_expressions_of) := ⟨rfl, rfl, rfl, by decide +kernel, rfl, by decide +kernel, by decide +kernel⟩
abbrev s__law_size_of : Stmt := topS 145
theorem sc__law_size_of : FnScope ["value", "part"] ["value"] (defScope s__law_size_of) := ⟨rfl, rfl, rfl, by decide +kernel, rfl, by decide +kernel, by decide +kernel⟩
abbrev s_law : Stmt := topS 146
theorem sc_law : FnScope ["script", "pool", "program", "every", "lines", "sizes", "value"] ["script"] (defScope s_law) := ⟨rfl, rfl, rfl, by decide +kernel, rfl, by decide +kernel, by decide +kernel⟩
end Y

set_option Elab.async false
set_option linter.all false
set_option maxRecDepth 100000
set_option maxHeartbeats 4000000
namespace Y
open PySem PySem.Spec L2
variable {G : Gx} {w : World} {mg : Str → Option Value} {P : Program} {base : Heap} {k : Nat} {c : Fnm → Fn}
theorem q_size {f : Addr} {cdv : Value} {A : Around} {outer : List PySem.Env} {s : Shared} {H : Hp} {E : XK} (T : Txt G w mg) (hs : HasAll P w G mg base k c) (hr : Room k (A.deeper (PyProof.Rows.envOfC "size" (defScope s_size) s.heap.objs.size f cdv))) :
    QSs (cxOf (L2.CX P w) P w G.K mg base ["expression", "part"] "size" (defScope s_size) f cdv A outer s H E) G E (defBody s_size) (m_size c) := by
  have hx : Passes (L2.CX P w) (cxOf (L2.CX P w) P w G.K mg base ["expression", "part"] "size" (defScope s_size) f cdv A outer s H E) E := passes_call (takes_of rfl rfl rfl rfl) fun _ _ _ _ h => h
  have hu := hr.units
  have nd := (sc_size).nd
  have hp : PassesOwn (model P w) (A.deeper (PyProof.Rows.envOfC "size" (defScope s_size) s.heap.objs.size f cdv)) (PyProof.Rows.envOfC "size" (defScope s_size) s.heap.objs.size f cdv) (cxOf (L2.CX P w) P w G.K mg base ["expression", "part"] "size" (defScope s_size) f cdv A outer s H E).xe := PassesOwn.leaving
  exact qss_cons (qs_if (qt_cmp (q_in rfl) (qe_ix rfl (qe_var (pv 0)) (qe_int)) (qe_tup (qa_cons (qe_str) (qa_cons (qe_str) (qa_nil)))) (by with_unfolding_all rfl)) (qss_cons (qs_ret (qe_int)) (qss_nil)) (qss_nil)) (qss_cons (qs_ret (qe_bin (q_plus rfl) (qe_int) (qe_callB (q_sum rfl) (by rfl) T.z_sum PyProof.Rows.boot_sum (qa_cons (qe_frz (qf_lc (own := [("part", 1)]) (ts := [1]) rfl nd (qi_seq rfl (qe_sl rfl (qe_var (pv 0)) (qo_some (qe_int)) (qo_none))) (blkOk_by (N := ["expression", "part"]) (sc := defScope s_size) (by decide +kernel)) (fun _ _ _ _ _ => qg_name (i := 1) nd rfl (by first | exact Or.inl rfl | exact Or.inr rfl)) (fun _ _ _ _ _ => qts_nil) (fun _ _ _ _ _ => qe_call (hs .f_size) rfl hr (by rfl) passL (qa_cons (qe_var (pv 1)) (qa_nil))) (by decide))) (qa_nil))))) (qss_nil))
theorem q_must_be_few {f : Addr} {cdv : Value} {A : Around} {outer : List PySem.Env} {s : Shared} {H : Hp} {E : XK} (T : Txt G w mg) (hs : HasAll P w G mg base k c) (hr : Room k (A.deeper (PyProof.Rows.envOfC "must_be_few" (defScope s_must_be_few) s.heap.objs.size f cdv))) :
    QSs (cxOf (L2.CX P w) P w G.K mg base ["count"] "must_be_few" (defScope s_must_be_few) f cdv A outer s H E) G E (defBody s_must_be_few) (m_must_be_few c) := by
  have hx : Passes (L2.CX P w) (cxOf (L2.CX P w) P w G.K mg base ["count"] "must_be_few" (defScope s_must_be_few) f cdv A outer s H E) E := passes_call (takes_of rfl rfl rfl rfl) fun _ _ _ _ h => h
  have hu := hr.units
  have nd := (sc_must_be_few).nd
  have hp : PassesOwn (model P w) (A.deeper (PyProof.Rows.envOfC "must_be_few" (defScope s_must_be_few) s.heap.objs.size f cdv)) (PyProof.Rows.envOfC "must_be_few" (defScope s_must_be_few) s.heap.objs.size f cdv) (cxOf (L2.CX P w) P w G.K mg base ["count"] "must_be_few" (defScope s_must_be_few) f cdv A outer s H E).xe := PassesOwn.leaving
  exact qss_cons (qs_if (qt_cmp q_gt (qe_var (pv 0)) (T.c_LONGEST (by rfl)) (nomark _)) (qss_cons (qs_stk) (qss_nil)) (qss_nil)) (qss_nil)
theorem q_must_be_short {f : Addr} {cdv : Value} {A : Around} {outer : List PySem.Env} {s : Shared} {H : Hp} {E : XK} (T : Txt G w mg) (hs : HasAll P w G mg base k c) (hr : Room k (A.deeper (PyProof.Rows.envOfC "must_be_short" (defScope s_must_be_short) s.heap.objs.size f cdv))) :
    QSs (cxOf (L2.CX P w) P w G.K mg base ["found"] "must_be_short" (defScope s_must_be_short) f cdv A outer s H E) G E (defBody s_must_be_short) (m_must_be_short c) := by
  have hx : Passes (L2.CX P w) (cxOf (L2.CX P w) P w G.K mg base ["found"] "must_be_short" (defScope s_must_be_short) f cdv A outer s H E) E := passes_call (takes_of rfl rfl rfl rfl) fun _ _ _ _ h => h
  have hu := hr.units
  have nd := (sc_must_be_short).nd
  have hp : PassesOwn (model P w) (A.deeper (PyProof.Rows.envOfC "must_be_short" (defScope s_must_be_short) s.heap.objs.size f cdv)) (PyProof.Rows.envOfC "must_be_short" (defScope s_must_be_short) s.heap.objs.size f cdv) (cxOf (L2.CX P w) P w G.K mg base ["found"] "must_be_short" (defScope s_must_be_short) f cdv A outer s H E).xe := PassesOwn.leaving
  exact qss_cons (qs_do (qe_call (hs .f_must_be_few) rfl hr (by rfl) hx (qa_cons (qe_callB (q_len rfl) (by rfl) T.z_len PySem.boot_len (qa_cons (qe_var (pv 0)) (qa_nil))) (qa_nil)))) (qss_cons (qs_ret (qe_var (pv 0))) (qss_nil))
theorem q_lines_of {f : Addr} {cdv : Value} {A : Around} {outer : List PySem.Env} {s : Shared} {H : Hp} {E : XK} (T : Txt G w mg) (hs : HasAll P w G mg base k c) (hr : Room k (A.deeper (PyProof.Rows.envOfC "lines_of" (defScope s_lines_of) s.heap.objs.size f cdv))) :
    QSs (cxOf (L2.CX P w) P w G.K mg base ["block", "begin", "found", "deed", "at", "one", "two", "end", "body"] "lines_of" (defScope s_lines_of) f cdv A outer s H E) G E (defBody s_lines_of) (m_lines_of c) := by
  have hx : Passes (L2.CX P w) (cxOf (L2.CX P w) P w G.K mg base ["block", "begin", "found", "deed", "at", "one", "two", "end", "body"] "lines_of" (defScope s_lines_of) f cdv A outer s H E) E := passes_call (takes_of rfl rfl rfl rfl) fun _ _ _ _ h => h
  have hu := hr.units
  have nd := (sc_lines_of).nd
  have hp : PassesOwn (model P w) (A.deeper (PyProof.Rows.envOfC "lines_of" (defScope s_lines_of) s.heap.objs.size f cdv)) (PyProof.Rows.envOfC "lines_of" (defScope s_lines_of) s.heap.objs.size f cdv) (cxOf (L2.CX P w) P w G.K mg base ["block", "begin", "found", "deed", "at", "one", "two", "end", "body"] "lines_of" (defScope s_lines_of) f cdv A outer s H E).xe := PassesOwn.leaving
  exact qss_cons (qs_set (i := 2) nd rfl (by first | exact Or.inl rfl | exact Or.inr rfl) (qe_new (qf_lst (qa_nil)))) (qss_cons (qs_for (ts := [3]) hp rfl (qi_seq rfl (qe_var (pv 0))) (qg_name (i := 3) nd rfl (by first | exact Or.inl rfl | exact Or.inr rfl)) (qss_cons (qs_set (i := 4) nd rfl (by first | exact Or.inl rfl | exact Or.inr rfl) (qe_bin (q_plus rfl) (qe_var (pv 1)) (qe_callB (q_len rfl) (by rfl) T.z_len PySem.boot_len (qa_cons (qe_var (pv 2)) (qa_nil))))) (qss_cons (qs_if (qt_cmp (q_in rfl) (qe_ix rfl (qe_var (pv 3)) (qe_int)) (qe_tup (qa_cons (qe_str) (qa_cons (qe_str) (qa_nil)))) (by with_unfolding_all rfl)) (qss_cons (qs_do (qe_app (qe_var (pv 2)) (qe_var (pv 3)))) (qss_nil)) (qss_cons (qs_if (qt_cmp (q_eq rfl hu) (qe_ix rfl (qe_var (pv 3)) (qe_int)) (qe_str) (nomark _)) (qss_cons (qs_set (i := 5) nd rfl (by first | exact Or.inl rfl | exact Or.inr rfl) (qe_call (hs .f_lines_of) rfl hr (by rfl) hx (qa_cons (qe_ix rfl (qe_var (pv 3)) (qe_int)) (qa_cons (qe_bin (q_plus rfl) (qe_var (pv 4)) (qe_int)) (qa_nil))))) (qss_cons (qs_set (i := 6) nd rfl (by first | exact Or.inl rfl | exact Or.inr rfl) (qe_call (hs .f_lines_of) rfl hr (by rfl) hx (qa_cons (qe_ix rfl (qe_var (pv 3)) (qe_int)) (qa_cons (qe_bin (q_plus rfl) (qe_bin (q_plus rfl) (qe_var (pv 4)) (qe_int)) (qe_callB (q_len rfl) (by rfl) T.z_len PySem.boot_len (qa_cons (qe_var (pv 5)) (qa_nil)))) (qa_nil))))) (qss_cons (qs_set (i := 7) nd rfl (by first | exact Or.inl rfl | exact Or.inr rfl) (qe_bin (q_plus rfl) (qe_bin (q_plus rfl) (qe_bin (q_plus rfl) (qe_var (pv 4)) (qe_int)) (qe_callB (q_len rfl) (by rfl) T.z_len PySem.boot_len (qa_cons (qe_var (pv 5)) (qa_nil)))) (qe_callB (q_len rfl) (by rfl) T.z_len PySem.boot_len (qa_cons (qe_var (pv 6)) (qa_nil))))) (qss_cons (qs_set (i := 2) nd rfl (by first | exact Or.inl rfl | exact Or.inr rfl) (qe_new (qf_bin q_cat (qe_bin (q_plus rfl) (qe_bin (q_plus rfl) (qe_bin (q_plus rfl) (qe_var (pv 2)) (qe_frz (qf_lst (qa_cons (qe_tup (qa_cons (qe_str) (qa_cons (qe_ix rfl (qe_var (pv 3)) (qe_int)) (qa_cons (qe_bin (q_plus rfl) (qe_bin (q_plus rfl) (qe_var (pv 4)) (qe_int)) (qe_callB (q_len rfl) (by rfl) T.z_len PySem.boot_len (qa_cons (qe_var (pv 5)) (qa_nil)))) (qa_nil))))) (qa_nil))))) (qe_var (pv 5))) (qe_frz (qf_lst (qa_cons (qe_tup (qa_cons (qe_str) (qa_cons (qe_var (pv 7)) (qa_nil)))) (qa_nil))))) (qe_var (pv 6))))) (qss_nil))))) (qss_cons (qs_set (i := 8) nd rfl (by first | exact Or.inl rfl | exact Or.inr rfl) (qe_call (hs .f_lines_of) rfl hr (by rfl) hx (qa_cons (qe_ix rfl (qe_var (pv 3)) (qe_int)) (qa_cons (qe_bin (q_plus rfl) (qe_var (pv 4)) (qe_int)) (qa_nil))))) (qss_cons (qs_set (i := 2) nd rfl (by first | exact Or.inl rfl | exact Or.inr rfl) (qe_new (qf_bin q_cat (qe_bin (q_plus rfl) (qe_bin (q_plus rfl) (qe_var (pv 2)) (qe_frz (qf_lst (qa_cons (qe_tup (qa_cons (qe_str) (qa_nil))) (qa_cons (qe_tup (qa_cons (qe_str) (qa_cons (qe_ix rfl (qe_var (pv 3)) (qe_int)) (qa_cons (qe_bin (q_plus rfl) (qe_bin (q_plus rfl) (qe_var (pv 4)) (qe_int)) (qe_callB (q_len rfl) (by rfl) T.z_len PySem.boot_len (qa_cons (qe_var (pv 8)) (qa_nil)))) (qa_nil))))) (qa_nil)))))) (qe_var (pv 8))) (qe_frz (qf_lst (qa_cons (qe_tup (qa_cons (qe_str) (qa_cons (qe_var (pv 4)) (qa_nil)))) (qa_nil))))))) (qss_nil)))) (qss_nil))) (qss_nil)))) (qss_cons (qs_ret (qe_un (qe_var (pv 2)))) (qss_nil)))
theorem q_from_trees_lines {f : Addr} {cdv : Value} {A : Around} {outer : List PySem.Env} {s : Shared} {H : Hp} {E : XK} (T : Txt G w mg) (hs : HasAll P w G mg base k c) (hr : Room k (A.deeper (PyProof.Rows.envOfC "from_trees" (defScope s_from_trees_lines) s.heap.objs.size f cdv))) :
    QSs (cxOf (L2.CX P w) P w G.K mg base ["value"] "from_trees" (defScope s_from_trees_lines) f cdv A outer s H E) G E (defBody s_from_trees_lines) (m_from_trees_lines c) := by
  have hx : Passes (L2.CX P w) (cxOf (L2.CX P w) P w G.K mg base ["value"] "from_trees" (defScope s_from_trees_lines) f cdv A outer s H E) E := passes_call (takes_of rfl rfl rfl rfl) fun _ _ _ _ h => h
  have hu := hr.units
  have nd := (sc_from_trees_lines).nd
  have hp : PassesOwn (model P w) (A.deeper (PyProof.Rows.envOfC "from_trees" (defScope s_from_trees_lines) s.heap.objs.size f cdv)) (PyProof.Rows.envOfC "from_trees" (defScope s_from_trees_lines) s.heap.objs.size f cdv) (cxOf (L2.CX P w) P w G.K mg base ["value"] "from_trees" (defScope s_from_trees_lines) f cdv A outer s H E).xe := PassesOwn.leaving
  exact qss_cons (qs_ret (qe_call (hs .f_must_be_short) rfl hr (by rfl) hx (qa_cons (qe_callTy (q_tuple rfl) (by rfl) T.z_tuple PyProof.Rows.boot_tuple (qa_cons (qe_call (hs .f_lines_of) rfl hr (by rfl) hx (qa_cons (qe_var (pv 0)) (qa_cons (qe_int) (qa_nil)))) (qa_nil))) (qa_nil)))) (qss_nil)
theorem q_need {f : Addr} {cdv : Value} {A : Around} {outer : List PySem.Env} {s : Shared} {H : Hp} {E : XK} (T : Txt G w mg) (hs : HasAll P w G mg base k c) (hr : Room k (A.deeper (PyProof.Rows.envOfC "need" (defScope s_need) s.heap.objs.size f cdv))) :
    QSs (cxOf (L2.CX P w) P w G.K mg base ["expression", "one", "two"] "need" (defScope s_need) f cdv A outer s H E) G E (defBody s_need) (m_need c) := by
  have hx : Passes (L2.CX P w) (cxOf (L2.CX P w) P w G.K mg base ["expression", "one", "two"] "need" (defScope s_need) f cdv A outer s H E) E := passes_call (takes_of rfl rfl rfl rfl) fun _ _ _ _ h => h
  have hu := hr.units
  have nd := (sc_need).nd
  have hp : PassesOwn (model P w) (A.deeper (PyProof.Rows.envOfC "need" (defScope s_need) s.heap.objs.size f cdv)) (PyProof.Rows.envOfC "need" (defScope s_need) s.heap.objs.size f cdv) (cxOf (L2.CX P w) P w G.K mg base ["expression", "one", "two"] "need" (defScope s_need) f cdv A outer s H E).xe := PassesOwn.leaving
  exact qss_cons (qs_if (qt_cmp (q_in rfl) (qe_ix rfl (qe_var (pv 0)) (qe_int)) (qe_tup (qa_cons (qe_str) (qa_cons (qe_str) (qa_nil)))) (by with_unfolding_all rfl)) (qss_cons (qs_ret (qe_int)) (qss_nil)) (qss_nil)) (qss_cons (qs_if (qt_cmp (q_eq rfl hu) (qe_ix rfl (qe_var (pv 0)) (qe_int)) (qe_str) (nomark _)) (qss_cons (qs_ret (qe_call (hs .f_need) rfl hr (by rfl) hx (qa_cons (qe_ix rfl (qe_var (pv 0)) (qe_int)) (qa_nil)))) (qss_nil)) (qss_nil)) (qss_cons (qs_par (i := 1) (j := 2) rfl nd rfl rfl (by decide) rfl rfl (qa_cons (qe_call (hs .f_need) rfl hr (by rfl) hx (qa_cons (qe_ix rfl (qe_var (pv 0)) (qe_int)) (qa_nil))) (qa_cons (qe_call (hs .f_need) rfl hr (by rfl) hx (qa_cons (qe_ix rfl (qe_var (pv 0)) (qe_int)) (qa_nil))) (qa_nil)))) (qss_cons (qs_ret (qe_if (qt_cmp (q_eq rfl hu) (qe_var (pv 1)) (qe_var (pv 2)) (nomark _)) (qe_bin (q_plus rfl) (qe_var (pv 1)) (qe_int)) (qe_callB (q_max rfl) (by rfl) T.z_max PyProof.Rows.boot_max (qa_cons (qe_var (pv 1)) (qa_cons (qe_var (pv 2)) (qa_nil)))))) (qss_nil))))
theorem q_code_of_boxes {f : Addr} {cdv : Value} {A : Around} {outer : List PySem.Env} {s : Shared} {H : Hp} {E : XK} (T : Txt G w mg) (hs : HasAll P w G mg base k c) (hr : Room k (A.deeper (PyProof.Rows.envOfC "code_of" (defScope s_code_of_boxes) s.heap.objs.size f cdv))) :
    QSs (cxOf (L2.CX P w) P w G.K mg base ["expression", "box", "one", "two"] "code_of" (defScope s_code_of_boxes) f cdv A outer s H E) G E (defBody s_code_of_boxes) (m_code_of_boxes c) := by
  have hx : Passes (L2.CX P w) (cxOf (L2.CX P w) P w G.K mg base ["expression", "box", "one", "two"] "code_of" (defScope s_code_of_boxes) f cdv A outer s H E) E := passes_call (takes_of rfl rfl rfl rfl) fun _ _ _ _ h => h
  have hu := hr.units
  have nd := (sc_code_of_boxes).nd
  have hp : PassesOwn (model P w) (A.deeper (PyProof.Rows.envOfC "code_of" (defScope s_code_of_boxes) s.heap.objs.size f cdv)) (PyProof.Rows.envOfC "code_of" (defScope s_code_of_boxes) s.heap.objs.size f cdv) (cxOf (L2.CX P w) P w G.K mg base ["expression", "box", "one", "two"] "code_of" (defScope s_code_of_boxes) f cdv A outer s H E).xe := PassesOwn.leaving
  exact qss_cons (qs_if (qt_cmp (q_eq rfl hu) (qe_ix rfl (qe_var (pv 0)) (qe_int)) (qe_str) (nomark _)) (qss_cons (qs_ret (qe_frz (qf_lst (qa_cons (qe_tup (qa_cons (qe_str) (qa_cons (qe_var (pv 1)) (qa_cons (qe_ix rfl (qe_var (pv 0)) (qe_int)) (qa_nil))))) (qa_nil))))) (qss_nil)) (qss_nil)) (qss_cons (qs_if (qt_cmp (q_eq rfl hu) (qe_ix rfl (qe_var (pv 0)) (qe_int)) (qe_str) (nomark _)) (qss_cons (qs_ret (qe_frz (qf_lst (qa_cons (qe_tup (qa_cons (qe_str) (qa_cons (qe_var (pv 1)) (qa_cons (qe_ix rfl (qe_var (pv 0)) (qe_int)) (qa_nil))))) (qa_nil))))) (qss_nil)) (qss_nil)) (qss_cons (qs_if (qt_cmp (q_eq rfl hu) (qe_ix rfl (qe_var (pv 0)) (qe_int)) (qe_str) (nomark _)) (qss_cons (qs_ret (qe_bin (q_plus rfl) (qe_call (hs .f_code_of_boxes) rfl hr (by rfl) hx (qa_cons (qe_ix rfl (qe_var (pv 0)) (qe_int)) (qa_cons (qe_var (pv 1)) (qa_nil)))) (qe_frz (qf_lst (qa_cons (qe_tup (qa_cons (qe_str) (qa_cons (qe_var (pv 1)) (qa_cons (qe_var (pv 1)) (qa_nil))))) (qa_nil)))))) (qss_nil)) (qss_nil)) (qss_cons (qs_par (i := 2) (j := 3) rfl nd rfl rfl (by decide) rfl rfl (qa_cons (qe_ix rfl (qe_var (pv 0)) (qe_int)) (qa_cons (qe_ix rfl (qe_var (pv 0)) (qe_int)) (qa_nil)))) (qss_cons (qs_if (qt_cmp q_ge (qe_call (hs .f_need) rfl hr (by rfl) hx (qa_cons (qe_var (pv 2)) (qa_nil))) (qe_call (hs .f_need) rfl hr (by rfl) hx (qa_cons (qe_var (pv 3)) (qa_nil))) (nomark _)) (qss_cons (qs_ret (qe_bin (q_plus rfl) (qe_bin (q_plus rfl) (qe_call (hs .f_code_of_boxes) rfl hr (by rfl) hx (qa_cons (qe_var (pv 2)) (qa_cons (qe_var (pv 1)) (qa_nil)))) (qe_call (hs .f_code_of_boxes) rfl hr (by rfl) hx (qa_cons (qe_var (pv 3)) (qa_cons (qe_bin (q_plus rfl) (qe_var (pv 1)) (qe_int)) (qa_nil))))) (qe_frz (qf_lst (qa_cons (qe_tup (qa_cons (qe_ix rfl (qe_var (pv 0)) (qe_int)) (qa_cons (qe_var (pv 1)) (qa_cons (qe_var (pv 1)) (qa_cons (qe_bin (q_plus rfl) (qe_var (pv 1)) (qe_int)) (qa_nil)))))) (qa_nil)))))) (qss_nil)) (qss_nil)) (qss_cons (qs_ret (qe_bin (q_plus rfl) (qe_bin (q_plus rfl) (qe_call (hs .f_code_of_boxes) rfl hr (by rfl) hx (qa_cons (qe_var (pv 3)) (qa_cons (qe_var (pv 1)) (qa_nil)))) (qe_call (hs .f_code_of_boxes) rfl hr (by rfl) hx (qa_cons (qe_var (pv 2)) (qa_cons (qe_bin (q_plus rfl) (qe_var (pv 1)) (qe_int)) (qa_nil))))) (qe_frz (qf_lst (qa_cons (qe_tup (qa_cons (qe_ix rfl (qe_var (pv 0)) (qe_int)) (qa_cons (qe_var (pv 1)) (qa_cons (qe_bin (q_plus rfl) (qe_var (pv 1)) (qe_int)) (qa_cons (qe_var (pv 1)) (qa_nil)))))) (qa_nil)))))) (qss_nil))))))
theorem q_code_of_line_boxes {f : Addr} {cdv : Value} {A : Around} {outer : List PySem.Env} {s : Shared} {H : Hp} {E : XK} (T : Txt G w mg) (hs : HasAll P w G mg base k c) (hr : Room k (A.deeper (PyProof.Rows.envOfC "code_of_line" (defScope s_code_of_line_boxes) s.heap.objs.size f cdv))) :
    QSs (cxOf (L2.CX P w) P w G.K mg base ["line"] "code_of_line" (defScope s_code_of_line_boxes) f cdv A outer s H E) G E (defBody s_code_of_line_boxes) (m_code_of_line_boxes c) := by
  have hx : Passes (L2.CX P w) (cxOf (L2.CX P w) P w G.K mg base ["line"] "code_of_line" (defScope s_code_of_line_boxes) f cdv A outer s H E) E := passes_call (takes_of rfl rfl rfl rfl) fun _ _ _ _ h => h
  have hu := hr.units
  have nd := (sc_code_of_line_boxes).nd
  have hp : PassesOwn (model P w) (A.deeper (PyProof.Rows.envOfC "code_of_line" (defScope s_code_of_line_boxes) s.heap.objs.size f cdv)) (PyProof.Rows.envOfC "code_of_line" (defScope s_code_of_line_boxes) s.heap.objs.size f cdv) (cxOf (L2.CX P w) P w G.K mg base ["line"] "code_of_line" (defScope s_code_of_line_boxes) f cdv A outer s H E).xe := PassesOwn.leaving
  exact qss_cons (qs_if (qt_cmp (q_eq rfl hu) (qe_ix rfl (qe_var (pv 0)) (qe_int)) (qe_str) (nomark _)) (qss_cons (qs_ret (qe_bin (q_plus rfl) (qe_call (hs .f_code_of_boxes) rfl hr (by rfl) hx (qa_cons (qe_ix rfl (qe_var (pv 0)) (qe_int)) (qa_cons (qe_int) (qa_nil)))) (qe_frz (qf_lst (qa_cons (qe_tup (qa_cons (qe_str) (qa_cons (qe_int) (qa_cons (qe_ix rfl (qe_var (pv 0)) (qe_int)) (qa_nil))))) (qa_nil)))))) (qss_nil)) (qss_nil)) (qss_cons (qs_if (qt_cmp (q_eq rfl hu) (qe_ix rfl (qe_var (pv 0)) (qe_int)) (qe_str) (nomark _)) (qss_cons (qs_ret (qe_bin (q_plus rfl) (qe_call (hs .f_code_of_boxes) rfl hr (by rfl) hx (qa_cons (qe_ix rfl (qe_var (pv 0)) (qe_int)) (qa_cons (qe_int) (qa_nil)))) (qe_frz (qf_lst (qa_cons (qe_tup (qa_cons (qe_str) (qa_cons (qe_int) (qa_nil)))) (qa_nil)))))) (qss_nil)) (qss_nil)) (qss_cons (qs_ret (qe_if (qt_cmp (q_eq rfl hu) (qe_ix rfl (qe_var (pv 0)) (qe_int)) (qe_str) (nomark _)) (qe_bin (q_plus rfl) (qe_call (hs .f_code_of_boxes) rfl hr (by rfl) hx (qa_cons (qe_ix rfl (qe_var (pv 0)) (qe_int)) (qa_cons (qe_int) (qa_nil)))) (qe_frz (qf_lst (qa_cons (qe_tup (qa_cons (qe_str) (qa_cons (qe_int) (qa_cons (qe_ix rfl (qe_var (pv 0)) (qe_int)) (qa_nil))))) (qa_nil))))) (qe_frz (qf_lst (qa_cons (qe_var (pv 0)) (qa_nil)))))) (qss_nil)))
theorem q_from_lines_boxes {f : Addr} {cdv : Value} {A : Around} {outer : List PySem.Env} {s : Shared} {H : Hp} {E : XK} (T : Txt G w mg) (hs : HasAll P w G mg base k c) (hr : Room k (A.deeper (PyProof.Rows.envOfC "from_lines" (defScope s_from_lines_boxes) s.heap.objs.size f cdv))) :
    QSs (cxOf (L2.CX P w) P w G.K mg base ["value", "parts", "begins", "part", "found", "line", "code"] "from_lines" (defScope s_from_lines_boxes) f cdv A outer s H E) G E (defBody s_from_lines_boxes) (m_from_lines_boxes c) := by
  have hx : Passes (L2.CX P w) (cxOf (L2.CX P w) P w G.K mg base ["value", "parts", "begins", "part", "found", "line", "code"] "from_lines" (defScope s_from_lines_boxes) f cdv A outer s H E) E := passes_call (takes_of rfl rfl rfl rfl) fun _ _ _ _ h => h
  have hu := hr.units
  have nd := (sc_from_lines_boxes).nd
  have hp : PassesOwn (model P w) (A.deeper (PyProof.Rows.envOfC "from_lines" (defScope s_from_lines_boxes) s.heap.objs.size f cdv)) (PyProof.Rows.envOfC "from_lines" (defScope s_from_lines_boxes) s.heap.objs.size f cdv) (cxOf (L2.CX P w) P w G.K mg base ["value", "parts", "begins", "part", "found", "line", "code"] "from_lines" (defScope s_from_lines_boxes) f cdv A outer s H E).xe := PassesOwn.leaving
  exact qss_cons (qs_setLc (i := 1) (own := [("line", 5)]) (ts := [5]) frz_conv rfl nd rfl rfl (sw_true rfl rfl rfl (by decide +kernel)) (qi_seq rfl (qe_var (pv 0))) (blkOk_by (N := ["value", "parts", "begins", "part", "found", "line", "code"]) (sc := defScope s_from_lines_boxes) (by decide +kernel)) (fun _ _ _ _ _ => qg_name (i := 5) nd rfl (by first | exact Or.inl rfl | exact Or.inr rfl)) (fun _ _ _ _ _ => qts_nil) (fun _ _ _ _ _ => qe_call (hs .f_code_of_line_boxes) rfl hr (by rfl) passL (qa_cons (qe_var (pv 5)) (qa_nil))) (by decide)) (qss_cons (qs_set (i := 2) nd rfl (by first | exact Or.inl rfl | exact Or.inr rfl) (qe_new (qf_lst (qa_cons (qe_int) (qa_nil))))) (qss_cons (qs_for (ts := [3]) hp rfl (qi_seq rfl (qe_var (pv 1))) (qg_name (i := 3) nd rfl (by first | exact Or.inl rfl | exact Or.inr rfl)) (qss_cons (qs_do (qe_app (qe_var (pv 2)) (qe_bin (q_plus rfl) (qe_ix rfl (qe_var (pv 2)) (qe_neg (qe_int))) (qe_callB (q_len rfl) (by rfl) T.z_len PySem.boot_len (qa_cons (qe_var (pv 3)) (qa_nil)))))) (qss_nil))) (qss_cons (qs_set (i := 4) nd rfl (by first | exact Or.inl rfl | exact Or.inr rfl) (qe_call (hs .f_must_be_short) rfl hr (by rfl) hx (qa_cons (qe_frz (qf_lc2 (own := [("part", 3), ("code", 6)]) (vs1 := [6]) (ts := [3]) (ts1 := [6]) rfl nd (qi_seq rfl (qe_var (pv 1))) (blkOk_by (N := ["value", "parts", "begins", "part", "found", "line", "code"]) (sc := defScope s_from_lines_boxes) (by decide +kernel)) (by decide) (fun _ _ _ _ _ => qg_name (i := 3) nd rfl (by first | exact Or.inl rfl | exact Or.inr rfl)) (fun _ _ _ _ _ => qts_nil) (fun _ _ _ _ _ => qi_seq rfl (qe_var (pv 3))) (fun _ _ _ _ _ => qg_name (i := 6) nd rfl (by first | exact Or.inl rfl | exact Or.inr rfl)) (fun _ _ _ _ _ => qts_nil) (fun _ _ _ _ _ => qe_var (pv 6)) (by decide) (by decide))) (qa_nil)))) (qss_cons (qs_ret (qe_callTy (q_tuple rfl) (by rfl) T.z_tuple PyProof.Rows.boot_tuple (qa_cons (qe_frz (qf_lc (own := [("code", 6)]) (ts := [6]) rfl nd (qi_seq rfl (qe_var (pv 4))) (blkOk_by (N := ["value", "parts", "begins", "part", "found", "line", "code"]) (sc := defScope s_from_lines_boxes) (by decide +kernel)) (fun _ _ _ _ _ => qg_name (i := 6) nd rfl (by first | exact Or.inl rfl | exact Or.inr rfl)) (fun _ _ _ _ _ => qts_nil) (fun _ _ _ _ _ => qe_if (qt_cmp (q_in rfl) (qe_ix rfl (qe_var (pv 6)) (qe_int)) (qe_tup (qa_cons (qe_str) (qa_cons (qe_str) (qa_nil)))) (by with_unfolding_all rfl)) (qe_bin (q_plus rfl) (qe_sl rfl (qe_var (pv 6)) (qo_none) (qo_some (qe_neg (qe_int)))) (qe_tup (qa_cons (qe_ix rfl (qe_var (pv 2)) (qe_ix rfl (qe_var (pv 6)) (qe_neg (qe_int)))) (qa_nil)))) (qe_var (pv 6))) (by decide))) (qa_nil)))) (qss_nil)))))
theorem q_boxes_in {f : Addr} {cdv : Value} {A : Around} {outer : List PySem.Env} {s : Shared} {H : Hp} {E : XK} (T : Txt G w mg) (hs : HasAll P w G mg base k c) (hr : Room k (A.deeper (PyProof.Rows.envOfC "boxes_in" (defScope s_boxes_in) s.heap.objs.size f cdv))) :
    QSs (cxOf (L2.CX P w) P w G.K mg base ["value", "every", "code", "box"] "boxes_in" (defScope s_boxes_in) f cdv A outer s H E) G E (defBody s_boxes_in) (m_boxes_in c) := by
  have hx : Passes (L2.CX P w) (cxOf (L2.CX P w) P w G.K mg base ["value", "every", "code", "box"] "boxes_in" (defScope s_boxes_in) f cdv A outer s H E) E := passes_call (takes_of rfl rfl rfl rfl) fun _ _ _ _ h => h
  have hu := hr.units
  have nd := (sc_boxes_in).nd
  have hp : PassesOwn (model P w) (A.deeper (PyProof.Rows.envOfC "boxes_in" (defScope s_boxes_in) s.heap.objs.size f cdv)) (PyProof.Rows.envOfC "boxes_in" (defScope s_boxes_in) s.heap.objs.size f cdv) (cxOf (L2.CX P w) P w G.K mg base ["value", "every", "code", "box"] "boxes_in" (defScope s_boxes_in) f cdv A outer s H E).xe := PassesOwn.leaving
  exact qss_cons (qs_setLc2 (i := 1) (own := [("code", 2), ("box", 3)]) (vs1 := [3]) (ts := [2]) (ts1 := [3]) frz_conv rfl nd rfl rfl (sw_true rfl rfl rfl (by decide +kernel)) (qi_seq rfl (qe_var (pv 0))) (blkOk_by (N := ["value", "every", "code", "box"]) (sc := defScope s_boxes_in) (by decide +kernel)) (by decide) (fun _ _ _ _ _ => qg_name (i := 2) nd rfl (by first | exact Or.inl rfl | exact Or.inr rfl)) (fun _ _ _ _ _ => qts_nil) (fun _ _ _ _ _ => qi_seq rfl (qe_sl rfl (qe_var (pv 2)) (qo_some (qe_int)) (qo_none))) (fun _ _ _ _ _ => qg_name (i := 3) nd rfl (by first | exact Or.inl rfl | exact Or.inr rfl)) (fun _ _ _ _ _ => qts_one (qt_w (qw_or (qt_cmp (q_eq rfl hu) (qe_ix rfl (qe_var (pv 2)) (qe_int)) (qe_str) (nomark _)) (qw_or1 (qt_cmp (q_in rfl) (qe_ix rfl (qe_var (pv 2)) (qe_int)) (T.c_PAIRS (by rfl)) (by with_unfolding_all rfl)))))) (fun _ _ _ _ _ => qe_var (pv 3)) (by decide) (by decide)) (qss_cons (qs_set (i := 1) nd rfl (by first | exact Or.inl rfl | exact Or.inr rfl) (qe_bin (q_plus rfl) (qe_var (pv 1)) (qe_frz (qf_lc (own := [("code", 2)]) (ts := [2]) rfl nd (qi_seq rfl (qe_var (pv 0))) (blkOk_by (N := ["value", "every", "code", "box"]) (sc := defScope s_boxes_in) (by decide +kernel)) (fun _ _ _ _ _ => qg_name (i := 2) nd rfl (by first | exact Or.inl rfl | exact Or.inr rfl)) (fun _ _ _ _ _ => qts_one (qt_cmp (q_in rfl) (qe_ix rfl (qe_var (pv 2)) (qe_int)) (qe_tup (qa_cons (qe_str) (qa_cons (qe_str) (qa_cons (qe_str) (qa_cons (qe_str) (qa_cons (qe_str) (qa_nil))))))) (by with_unfolding_all rfl))) (fun _ _ _ _ _ => qe_ix rfl (qe_var (pv 2)) (qe_int)) (by decide))))) (qss_cons (qs_ret (qe_bin (q_plus rfl) (qe_callB (q_max rfl) (by rfl) T.z_max PyProof.Rows.boot_max (qa_cons (qe_bin (q_plus rfl) (qe_frz (qf_lst (qa_cons (qe_neg (qe_int)) (qa_nil)))) (qe_var (pv 1))) (qa_nil))) (qe_int))) (qss_nil)))
theorem q_code_of_stacks {f : Addr} {cdv : Value} {A : Around} {outer : List PySem.Env} {s : Shared} {H : Hp} {E : XK} (T : Txt G w mg) (hs : HasAll P w G mg base k c) (hr : Room k (A.deeper (PyProof.Rows.envOfC "code_of" (defScope s_code_of_stacks) s.heap.objs.size f cdv))) :
    QSs (cxOf (L2.CX P w) P w G.K mg base ["expression", "part", "code"] "code_of" (defScope s_code_of_stacks) f cdv A outer s H E) G E (defBody s_code_of_stacks) (m_code_of_stacks c) := by
  have hx : Passes (L2.CX P w) (cxOf (L2.CX P w) P w G.K mg base ["expression", "part", "code"] "code_of" (defScope s_code_of_stacks) f cdv A outer s H E) E := passes_call (takes_of rfl rfl rfl rfl) fun _ _ _ _ h => h
  have hu := hr.units
  have nd := (sc_code_of_stacks).nd
  have hp : PassesOwn (model P w) (A.deeper (PyProof.Rows.envOfC "code_of" (defScope s_code_of_stacks) s.heap.objs.size f cdv)) (PyProof.Rows.envOfC "code_of" (defScope s_code_of_stacks) s.heap.objs.size f cdv) (cxOf (L2.CX P w) P w G.K mg base ["expression", "part", "code"] "code_of" (defScope s_code_of_stacks) f cdv A outer s H E).xe := PassesOwn.leaving
  exact qss_cons (qs_if (qt_cmp (q_eq rfl hu) (qe_ix rfl (qe_var (pv 0)) (qe_int)) (qe_str) (nomark _)) (qss_cons (qs_ret (qe_frz (qf_lst (qa_cons (qe_tup (qa_cons (qe_str) (qa_cons (qe_ix rfl (qe_var (pv 0)) (qe_int)) (qa_nil)))) (qa_nil))))) (qss_nil)) (qss_nil)) (qss_cons (qs_if (qt_cmp (q_eq rfl hu) (qe_ix rfl (qe_var (pv 0)) (qe_int)) (qe_str) (nomark _)) (qss_cons (qs_ret (qe_frz (qf_lst (qa_cons (qe_tup (qa_cons (qe_str) (qa_cons (qe_ix rfl (qe_var (pv 0)) (qe_int)) (qa_nil)))) (qa_nil))))) (qss_nil)) (qss_nil)) (qss_cons (qs_ret (qe_bin (q_plus rfl) (qe_frz (qf_lc2 (own := [("part", 1), ("code", 2)]) (vs1 := [2]) (ts := [1]) (ts1 := [2]) rfl nd (qi_seq rfl (qe_sl rfl (qe_var (pv 0)) (qo_some (qe_int)) (qo_none))) (blkOk_by (N := ["expression", "part", "code"]) (sc := defScope s_code_of_stacks) (by decide +kernel)) (by decide) (fun _ _ _ _ _ => qg_name (i := 1) nd rfl (by first | exact Or.inl rfl | exact Or.inr rfl)) (fun _ _ _ _ _ => qts_nil) (fun _ _ _ _ _ => qi_seq rfl (qe_call (hs .f_code_of_stacks) rfl hr (by rfl) passL (qa_cons (qe_var (pv 1)) (qa_nil)))) (fun _ _ _ _ _ => qg_name (i := 2) nd rfl (by first | exact Or.inl rfl | exact Or.inr rfl)) (fun _ _ _ _ _ => qts_nil) (fun _ _ _ _ _ => qe_var (pv 2)) (by decide) (by decide))) (qe_frz (qf_lst (qa_cons (qe_tup (qa_cons (qe_ix rfl (qe_var (pv 0)) (qe_int)) (qa_nil))) (qa_nil)))))) (qss_nil)))
theorem q_code_of_line_stacks {f : Addr} {cdv : Value} {A : Around} {outer : List PySem.Env} {s : Shared} {H : Hp} {E : XK} (T : Txt G w mg) (hs : HasAll P w G mg base k c) (hr : Room k (A.deeper (PyProof.Rows.envOfC "code_of_line" (defScope s_code_of_line_stacks) s.heap.objs.size f cdv))) :
    QSs (cxOf (L2.CX P w) P w G.K mg base ["line"] "code_of_line" (defScope s_code_of_line_stacks) f cdv A outer s H E) G E (defBody s_code_of_line_stacks) (m_code_of_line_stacks c) := by
  have hx : Passes (L2.CX P w) (cxOf (L2.CX P w) P w G.K mg base ["line"] "code_of_line" (defScope s_code_of_line_stacks) f cdv A outer s H E) E := passes_call (takes_of rfl rfl rfl rfl) fun _ _ _ _ h => h
  have hu := hr.units
  have nd := (sc_code_of_line_stacks).nd
  have hp : PassesOwn (model P w) (A.deeper (PyProof.Rows.envOfC "code_of_line" (defScope s_code_of_line_stacks) s.heap.objs.size f cdv)) (PyProof.Rows.envOfC "code_of_line" (defScope s_code_of_line_stacks) s.heap.objs.size f cdv) (cxOf (L2.CX P w) P w G.K mg base ["line"] "code_of_line" (defScope s_code_of_line_stacks) f cdv A outer s H E).xe := PassesOwn.leaving
  exact qss_cons (qs_if (qt_cmp (q_eq rfl hu) (qe_ix rfl (qe_var (pv 0)) (qe_int)) (qe_str) (nomark _)) (qss_cons (qs_ret (qe_bin (q_plus rfl) (qe_call (hs .f_code_of_stacks) rfl hr (by rfl) hx (qa_cons (qe_ix rfl (qe_var (pv 0)) (qe_int)) (qa_nil))) (qe_frz (qf_lst (qa_cons (qe_tup (qa_cons (qe_str) (qa_cons (qe_ix rfl (qe_var (pv 0)) (qe_int)) (qa_nil)))) (qa_nil)))))) (qss_nil)) (qss_nil)) (qss_cons (qs_if (qt_cmp (q_eq rfl hu) (qe_ix rfl (qe_var (pv 0)) (qe_int)) (qe_str) (nomark _)) (qss_cons (qs_ret (qe_bin (q_plus rfl) (qe_call (hs .f_code_of_stacks) rfl hr (by rfl) hx (qa_cons (qe_ix rfl (qe_var (pv 0)) (qe_int)) (qa_nil))) (qe_frz (qf_lst (qa_cons (qe_tup (qa_cons (qe_str) (qa_nil))) (qa_nil)))))) (qss_nil)) (qss_nil)) (qss_cons (qs_ret (qe_if (qt_cmp (q_eq rfl hu) (qe_ix rfl (qe_var (pv 0)) (qe_int)) (qe_str) (nomark _)) (qe_bin (q_plus rfl) (qe_call (hs .f_code_of_stacks) rfl hr (by rfl) hx (qa_cons (qe_ix rfl (qe_var (pv 0)) (qe_int)) (qa_nil))) (qe_frz (qf_lst (qa_cons (qe_tup (qa_cons (qe_str) (qa_cons (qe_ix rfl (qe_var (pv 0)) (qe_int)) (qa_nil)))) (qa_nil))))) (qe_frz (qf_lst (qa_cons (qe_var (pv 0)) (qa_nil)))))) (qss_nil)))
theorem q_from_lines_stacks {f : Addr} {cdv : Value} {A : Around} {outer : List PySem.Env} {s : Shared} {H : Hp} {E : XK} (T : Txt G w mg) (hs : HasAll P w G mg base k c) (hr : Room k (A.deeper (PyProof.Rows.envOfC "from_lines" (defScope s_from_lines_stacks) s.heap.objs.size f cdv))) :
    QSs (cxOf (L2.CX P w) P w G.K mg base ["value", "parts", "begins", "part", "found", "line", "code"] "from_lines" (defScope s_from_lines_stacks) f cdv A outer s H E) G E (defBody s_from_lines_stacks) (m_from_lines_stacks c) := by
  have hx : Passes (L2.CX P w) (cxOf (L2.CX P w) P w G.K mg base ["value", "parts", "begins", "part", "found", "line", "code"] "from_lines" (defScope s_from_lines_stacks) f cdv A outer s H E) E := passes_call (takes_of rfl rfl rfl rfl) fun _ _ _ _ h => h
  have hu := hr.units
  have nd := (sc_from_lines_stacks).nd
  have hp : PassesOwn (model P w) (A.deeper (PyProof.Rows.envOfC "from_lines" (defScope s_from_lines_stacks) s.heap.objs.size f cdv)) (PyProof.Rows.envOfC "from_lines" (defScope s_from_lines_stacks) s.heap.objs.size f cdv) (cxOf (L2.CX P w) P w G.K mg base ["value", "parts", "begins", "part", "found", "line", "code"] "from_lines" (defScope s_from_lines_stacks) f cdv A outer s H E).xe := PassesOwn.leaving
  exact qss_cons (qs_setLc (i := 1) (own := [("line", 5)]) (ts := [5]) frz_conv rfl nd rfl rfl (sw_true rfl rfl rfl (by decide +kernel)) (qi_seq rfl (qe_var (pv 0))) (blkOk_by (N := ["value", "parts", "begins", "part", "found", "line", "code"]) (sc := defScope s_from_lines_stacks) (by decide +kernel)) (fun _ _ _ _ _ => qg_name (i := 5) nd rfl (by first | exact Or.inl rfl | exact Or.inr rfl)) (fun _ _ _ _ _ => qts_nil) (fun _ _ _ _ _ => qe_call (hs .f_code_of_line_stacks) rfl hr (by rfl) passL (qa_cons (qe_var (pv 5)) (qa_nil))) (by decide)) (qss_cons (qs_set (i := 2) nd rfl (by first | exact Or.inl rfl | exact Or.inr rfl) (qe_new (qf_lst (qa_cons (qe_int) (qa_nil))))) (qss_cons (qs_for (ts := [3]) hp rfl (qi_seq rfl (qe_var (pv 1))) (qg_name (i := 3) nd rfl (by first | exact Or.inl rfl | exact Or.inr rfl)) (qss_cons (qs_do (qe_app (qe_var (pv 2)) (qe_bin (q_plus rfl) (qe_ix rfl (qe_var (pv 2)) (qe_neg (qe_int))) (qe_callB (q_len rfl) (by rfl) T.z_len PySem.boot_len (qa_cons (qe_var (pv 3)) (qa_nil)))))) (qss_nil))) (qss_cons (qs_set (i := 4) nd rfl (by first | exact Or.inl rfl | exact Or.inr rfl) (qe_call (hs .f_must_be_short) rfl hr (by rfl) hx (qa_cons (qe_frz (qf_lc2 (own := [("part", 3), ("code", 6)]) (vs1 := [6]) (ts := [3]) (ts1 := [6]) rfl nd (qi_seq rfl (qe_var (pv 1))) (blkOk_by (N := ["value", "parts", "begins", "part", "found", "line", "code"]) (sc := defScope s_from_lines_stacks) (by decide +kernel)) (by decide) (fun _ _ _ _ _ => qg_name (i := 3) nd rfl (by first | exact Or.inl rfl | exact Or.inr rfl)) (fun _ _ _ _ _ => qts_nil) (fun _ _ _ _ _ => qi_seq rfl (qe_var (pv 3))) (fun _ _ _ _ _ => qg_name (i := 6) nd rfl (by first | exact Or.inl rfl | exact Or.inr rfl)) (fun _ _ _ _ _ => qts_nil) (fun _ _ _ _ _ => qe_var (pv 6)) (by decide) (by decide))) (qa_nil)))) (qss_cons (qs_ret (qe_callTy (q_tuple rfl) (by rfl) T.z_tuple PyProof.Rows.boot_tuple (qa_cons (qe_frz (qf_lc (own := [("code", 6)]) (ts := [6]) rfl nd (qi_seq rfl (qe_var (pv 4))) (blkOk_by (N := ["value", "parts", "begins", "part", "found", "line", "code"]) (sc := defScope s_from_lines_stacks) (by decide +kernel)) (fun _ _ _ _ _ => qg_name (i := 6) nd rfl (by first | exact Or.inl rfl | exact Or.inr rfl)) (fun _ _ _ _ _ => qts_nil) (fun _ _ _ _ _ => qe_if (qt_cmp (q_in rfl) (qe_ix rfl (qe_var (pv 6)) (qe_int)) (qe_tup (qa_cons (qe_str) (qa_cons (qe_str) (qa_nil)))) (by with_unfolding_all rfl)) (qe_tup (qa_cons (qe_ix rfl (qe_var (pv 6)) (qe_int)) (qa_cons (qe_ix rfl (qe_var (pv 2)) (qe_ix rfl (qe_var (pv 6)) (qe_int))) (qa_nil)))) (qe_var (pv 6))) (by decide))) (qa_nil)))) (qss_nil)))))
theorem q_deeds_in {f : Addr} {cdv : Value} {A : Around} {outer : List PySem.Env} {s : Shared} {H : Hp} {E : XK} (T : Txt G w mg) (hs : HasAll P w G mg base k c) (hr : Room k (A.deeper (PyProof.Rows.envOfC "deeds_in" (defScope s_deeds_in) s.heap.objs.size f cdv))) :
    QSs (cxOf (L2.CX P w) P w G.K mg base ["block", "deed", "part"] "deeds_in" (defScope s_deeds_in) f cdv A outer s H E) G E (defBody s_deeds_in) (m_deeds_in c) := by
  have hx : Passes (L2.CX P w) (cxOf (L2.CX P w) P w G.K mg base ["block", "deed", "part"] "deeds_in" (defScope s_deeds_in) f cdv A outer s H E) E := passes_call (takes_of rfl rfl rfl rfl) fun _ _ _ _ h => h
  have hu := hr.units
  have nd := (sc_deeds_in).nd
  have hp : PassesOwn (model P w) (A.deeper (PyProof.Rows.envOfC "deeds_in" (defScope s_deeds_in) s.heap.objs.size f cdv)) (PyProof.Rows.envOfC "deeds_in" (defScope s_deeds_in) s.heap.objs.size f cdv) (cxOf (L2.CX P w) P w G.K mg base ["block", "deed", "part"] "deeds_in" (defScope s_deeds_in) f cdv A outer s H E).xe := PassesOwn.leaving
  exact qss_cons (qs_ret (qe_callB (q_sum rfl) (by rfl) T.z_sum PyProof.Rows.boot_sum (qa_cons (qe_frz (qf_lc (own := [("deed", 1)]) (ts := [1]) rfl nd (qi_seq rfl (qe_var (pv 0))) (blkOk_by (N := ["block", "deed", "part"]) (sc := defScope s_deeds_in) (by decide +kernel)) (fun _ _ _ _ _ => qg_name (i := 1) nd rfl (by first | exact Or.inl rfl | exact Or.inr rfl)) (fun _ _ _ _ _ => qts_nil) (fun _ _ _ _ _ => qe_bin (q_plus rfl) (qe_int) (qe_callB (q_sum rfl) (by rfl) T.z_sum PyProof.Rows.boot_sum (qa_cons (qe_frz (qf_lc (own := [("part", 2)]) (ts := [2]) rfl nd (qi_seq rfl (qe_sl rfl (qe_var (pv 1)) (qo_some (qe_int)) (qo_none))) (by refine blk_in (scope_blk (sc0 := defScope s_deeds_in) rfl) ?_; exact blkOk_by (N := ["block", "deed", "part"]) (by decide +kernel)) (fun _ _ _ _ _ => qg_name (i := 2) nd rfl (by first | exact Or.inl rfl | exact Or.inr rfl)) (fun _ _ _ _ _ => qts_one (qt_cmp (q_in rfl) (qe_ix rfl (qe_var (pv 1)) (qe_int)) (qe_tup (qa_cons (qe_str) (qa_cons (qe_str) (qa_nil)))) (by with_unfolding_all rfl))) (fun _ _ _ _ _ => qe_call (hs .f_deeds_in) rfl hr (by rfl) passL (qa_cons (qe_var (pv 2)) (qa_nil))) (by decide))) (qa_nil)))) (by decide))) (qa_nil)))) (qss_nil)
theorem q_boxes_of {f : Addr} {cdv : Value} {A : Around} {outer : List PySem.Env} {s : Shared} {H : Hp} {E : XK} (T : Txt G w mg) (hs : HasAll P w G mg base k c) (hr : Room k (A.deeper (PyProof.Rows.envOfC "boxes_of" (defScope s_boxes_of) s.heap.objs.size f cdv))) :
    QSs (cxOf (L2.CX P w) P w G.K mg base ["value"] "boxes_of" (defScope s_boxes_of) f cdv A outer s H E) G E (defBody s_boxes_of) (m_boxes_of c) := by
  have hx : Passes (L2.CX P w) (cxOf (L2.CX P w) P w G.K mg base ["value"] "boxes_of" (defScope s_boxes_of) f cdv A outer s H E) E := passes_call (takes_of rfl rfl rfl rfl) fun _ _ _ _ h => h
  have hu := hr.units
  have nd := (sc_boxes_of).nd
  have hp : PassesOwn (model P w) (A.deeper (PyProof.Rows.envOfC "boxes_of" (defScope s_boxes_of) s.heap.objs.size f cdv)) (PyProof.Rows.envOfC "boxes_of" (defScope s_boxes_of) s.heap.objs.size f cdv) (cxOf (L2.CX P w) P w G.K mg base ["value"] "boxes_of" (defScope s_boxes_of) f cdv A outer s H E).xe := PassesOwn.leaving
  exact qss_cons (qs_ret (qe_call (hs .f_from_lines_boxes) rfl hr (by rfl) hx (qa_cons (qe_call (hs .f_from_trees_lines) rfl hr (by rfl) hx (qa_cons (qe_var (pv 0)) (qa_nil))) (qa_nil)))) (qss_nil)
theorem q_stacks_of {f : Addr} {cdv : Value} {A : Around} {outer : List PySem.Env} {s : Shared} {H : Hp} {E : XK} (T : Txt G w mg) (hs : HasAll P w G mg base k c) (hr : Room k (A.deeper (PyProof.Rows.envOfC "stacks_of" (defScope s_stacks_of) s.heap.objs.size f cdv))) :
    QSs (cxOf (L2.CX P w) P w G.K mg base ["value"] "stacks_of" (defScope s_stacks_of) f cdv A outer s H E) G E (defBody s_stacks_of) (m_stacks_of c) := by
  have hx : Passes (L2.CX P w) (cxOf (L2.CX P w) P w G.K mg base ["value"] "stacks_of" (defScope s_stacks_of) f cdv A outer s H E) E := passes_call (takes_of rfl rfl rfl rfl) fun _ _ _ _ h => h
  have hu := hr.units
  have nd := (sc_stacks_of).nd
  have hp : PassesOwn (model P w) (A.deeper (PyProof.Rows.envOfC "stacks_of" (defScope s_stacks_of) s.heap.objs.size f cdv)) (PyProof.Rows.envOfC "stacks_of" (defScope s_stacks_of) s.heap.objs.size f cdv) (cxOf (L2.CX P w) P w G.K mg base ["value"] "stacks_of" (defScope s_stacks_of) f cdv A outer s H E).xe := PassesOwn.leaving
  exact qss_cons (qs_ret (qe_call (hs .f_from_lines_stacks) rfl hr (by rfl) hx (qa_cons (qe_call (hs .f_from_trees_lines) rfl hr (by rfl) hx (qa_cons (qe_var (pv 0)) (qa_nil))) (qa_nil)))) (qss_nil)
theorem q_must_be_form {f : Addr} {cdv : Value} {A : Around} {outer : List PySem.Env} {s : Shared} {H : Hp} {E : XK} (T : Txt G w mg) (hs : HasAll P w G mg base k c) (hr : Room k (A.deeper (PyProof.Rows.envOfC "must_be_form" (defScope s_must_be_form) s.heap.objs.size f cdv))) :
    QSs (cxOf (L2.CX P w) P w G.K mg base ["form"] "must_be_form" (defScope s_must_be_form) f cdv A outer s H E) G E (defBody s_must_be_form) (m_must_be_form c) := by
  have hx : Passes (L2.CX P w) (cxOf (L2.CX P w) P w G.K mg base ["form"] "must_be_form" (defScope s_must_be_form) f cdv A outer s H E) E := passes_call (takes_of rfl rfl rfl rfl) fun _ _ _ _ h => h
  have hu := hr.units
  have nd := (sc_must_be_form).nd
  have hp : PassesOwn (model P w) (A.deeper (PyProof.Rows.envOfC "must_be_form" (defScope s_must_be_form) s.heap.objs.size f cdv)) (PyProof.Rows.envOfC "must_be_form" (defScope s_must_be_form) s.heap.objs.size f cdv) (cxOf (L2.CX P w) P w G.K mg base ["form"] "must_be_form" (defScope s_must_be_form) f cdv A outer s H E).xe := PassesOwn.leaving
  exact qss_cons (qs_if (qt_notinTab (T.v_FAULTS (by rfl)) T.kd_FAULTS T.in_FAULTS (qe_var (pv 0))) (qss_cons (qs_stk) (qss_nil)) (qss_nil)) (qss_nil)
theorem q_from_trees_registry {f : Addr} {cdv : Value} {A : Around} {outer : List PySem.Env} {s : Shared} {H : Hp} {E : XK} (T : Txt G w mg) (hs : HasAll P w G mg base k c) (hr : Room k (A.deeper (PyProof.Rows.envOfC "from_trees" (defScope s_from_trees_registry) s.heap.objs.size f cdv))) :
    QSs (cxOf (L2.CX P w) P w G.K mg base ["form", "value"] "from_trees" (defScope s_from_trees_registry) f cdv A outer s H E) G E (defBody s_from_trees_registry) (m_from_trees_registry c) := by
  have hx : Passes (L2.CX P w) (cxOf (L2.CX P w) P w G.K mg base ["form", "value"] "from_trees" (defScope s_from_trees_registry) f cdv A outer s H E) E := passes_call (takes_of rfl rfl rfl rfl) fun _ _ _ _ h => h
  have hu := hr.units
  have nd := (sc_from_trees_registry).nd
  have hp : PassesOwn (model P w) (A.deeper (PyProof.Rows.envOfC "from_trees" (defScope s_from_trees_registry) s.heap.objs.size f cdv)) (PyProof.Rows.envOfC "from_trees" (defScope s_from_trees_registry) s.heap.objs.size f cdv) (cxOf (L2.CX P w) P w G.K mg base ["form", "value"] "from_trees" (defScope s_from_trees_registry) f cdv A outer s H E).xe := PassesOwn.leaving
  exact qss_cons (qs_do (qe_call (hs .f_must_be_form) rfl hr (by rfl) hx (qa_cons (qe_var (pv 0)) (qa_nil)))) (qss_cons (qs_ret (qe_tab (T.v_FROM_TREES (by rfl)) (T.tab_FROM_TREES hs) hr hx (qe_var (pv 0)) (qa_cons (qe_var (pv 1)) (qa_nil)))) (qss_nil))
theorem q__law_same {f : Addr} {cdv : Value} {A : Around} {outer : List PySem.Env} {s : Shared} {H : Hp} {E : XK} (T : Txt G w mg) (hs : HasAll P w G mg base k c) (hr : Room k (A.deeper (PyProof.Rows.envOfC "_law_same" (defScope s__law_same) s.heap.objs.size f cdv))) :
    QSs (cxOf (L2.CX P w) P w G.K mg base ["actual", "due", "k"] "_law_same" (defScope s__law_same) f cdv A outer s H E) G E (defBody s__law_same) (m__law_same c) := by
  have hx : Passes (L2.CX P w) (cxOf (L2.CX P w) P w G.K mg base ["actual", "due", "k"] "_law_same" (defScope s__law_same) f cdv A outer s H E) E := passes_call (takes_of rfl rfl rfl rfl) fun _ _ _ _ h => h
  have hu := hr.units
  have nd := (sc__law_same).nd
  have hp : PassesOwn (model P w) (A.deeper (PyProof.Rows.envOfC "_law_same" (defScope s__law_same) s.heap.objs.size f cdv)) (PyProof.Rows.envOfC "_law_same" (defScope s__law_same) s.heap.objs.size f cdv) (cxOf (L2.CX P w) P w G.K mg base ["actual", "due", "k"] "_law_same" (defScope s__law_same) f cdv A outer s H E).xe := PassesOwn.leaving
  exact qss_cons (qs_if (qt_w (qw_or (qt_val (qe_isa (by rfl) T.z_isinstance rfl (pe_bltn (by rfl) T.z_tuple PyProof.Rows.boot_tuple rfl) (qe_var (pv 1)))) (qw_or1 (qt_val (qe_isa (by rfl) T.z_isinstance rfl (pe_bltn (by rfl) T.z_list PyProof.Rows.boot_list rfl) (qe_var (pv 1))))))) (qss_cons (qs_if (qt_w (qw_or (qt_cmp (q_ne rfl hu) (qe_isa (by rfl) T.z_isinstance rfl (pe_bltn (by rfl) T.z_tuple PyProof.Rows.boot_tuple rfl) (qe_var (pv 1))) (qe_isa (by rfl) T.z_isinstance rfl (pe_bltn (by rfl) T.z_tuple PyProof.Rows.boot_tuple rfl) (qe_var (pv 0))) (nomark _)) (qw_or (qt_cmp (q_ne rfl hu) (qe_isa (by rfl) T.z_isinstance rfl (pe_bltn (by rfl) T.z_list PyProof.Rows.boot_list rfl) (qe_var (pv 1))) (qe_isa (by rfl) T.z_isinstance rfl (pe_bltn (by rfl) T.z_list PyProof.Rows.boot_list rfl) (qe_var (pv 0))) (nomark _)) (qw_or1 (qt_cmp (q_ne rfl hu) (qe_callB (q_len rfl) (by rfl) T.z_len PySem.boot_len (qa_cons (qe_var (pv 0)) (qa_nil))) (qe_callB (q_len rfl) (by rfl) T.z_len PySem.boot_len (qa_cons (qe_var (pv 1)) (qa_nil))) (nomark _)))))) (qss_cons (qs_ret (qe_bl)) (qss_nil)) (qss_nil)) (qss_cons (qs_ret (qe_cmp (q_eq rfl hu) (qe_callB (q_len rfl) (by rfl) T.z_len PySem.boot_len (qa_cons (qe_frz (qf_lc (own := [("k", 2)]) (ts := [2]) rfl nd (qi_rng1 (by rfl) T.z_range (qa_cons (qe_callB (q_len rfl) (by rfl) T.z_len PySem.boot_len (qa_cons (qe_var (pv 1)) (qa_nil))) (qa_nil))) (blkOk_by (N := ["actual", "due", "k"]) (sc := defScope s__law_same) (by decide +kernel)) (fun _ _ _ _ _ => qg_name (i := 2) nd rfl (by first | exact Or.inl rfl | exact Or.inr rfl)) (fun _ _ _ _ _ => qts_one (qt_not (qt_val (qe_call (hs .f_law_same) rfl hr (by rfl) passL (qa_cons (qe_ix rfl (qe_var (pv 0)) (qe_var (pv 2))) (qa_cons (qe_ix rfl (qe_var (pv 1)) (qe_var (pv 2))) (qa_nil))))))) (fun _ _ _ _ _ => qe_var (pv 2)) (by decide))) (qa_nil))) (qe_int) (nomark _))) (qss_nil))) (qss_nil)) (qss_cons (qs_if (qt_isN (qe_var (pv 1))) (qss_cons (qs_ret (qe_isN (qe_var (pv 0)))) (qss_nil)) (qss_nil)) (qss_cons (qs_if (qt_w (qw_or (qt_val (qe_isa (by rfl) T.z_isinstance rfl (pe_bltn (by rfl) T.z_bool PyProof.Rows.boot_bool rfl) (qe_var (pv 1)))) (qw_or1 (qt_val (qe_isa (by rfl) T.z_isinstance rfl (pe_bltn (by rfl) T.z_bool PyProof.Rows.boot_bool rfl) (qe_var (pv 0))))))) (qss_cons (qs_ret (qe_and (qe_isa (by rfl) T.z_isinstance rfl (pe_bltn (by rfl) T.z_bool PyProof.Rows.boot_bool rfl) (qe_var (pv 1))) (qe_and (qe_isa (by rfl) T.z_isinstance rfl (pe_bltn (by rfl) T.z_bool PyProof.Rows.boot_bool rfl) (qe_var (pv 0))) (qe_one (qe_cmp (q_eq rfl hu) (qe_var (pv 0)) (qe_var (pv 1)) (nomark _)))))) (qss_nil)) (qss_nil)) (qss_cons (qs_if (qt_val (qe_isa (by rfl) T.z_isinstance rfl (pe_bltn (by rfl) T.z_int PyProof.Rows.boot_int rfl) (qe_var (pv 1)))) (qss_cons (qs_ret (qe_and (qe_isa (by rfl) T.z_isinstance rfl (pe_bltn (by rfl) T.z_int PyProof.Rows.boot_int rfl) (qe_var (pv 0))) (qe_one (qe_cmp (q_eq rfl hu) (qe_var (pv 0)) (qe_var (pv 1)) (nomark _))))) (qss_nil)) (qss_nil)) (qss_cons (qs_ret (qe_and (qe_isa (by rfl) T.z_isinstance rfl (pe_bltn (by rfl) T.z_str PyProof.Rows.boot_str rfl) (qe_var (pv 0))) (qe_and (qe_isa (by rfl) T.z_isinstance rfl (pe_bltn (by rfl) T.z_str PyProof.Rows.boot_str rfl) (qe_var (pv 1))) (qe_one (qe_cmp (q_eq rfl hu) (qe_var (pv 0)) (qe_var (pv 1)) (nomark _)))))) (qss_nil)))))
theorem q__law_pool {f : Addr} {cdv : Value} {A : Around} {outer : List PySem.Env} {s : Shared} {H : Hp} {E : XK} (T : Txt G w mg) (hs : HasAll P w G mg base k c) (hr : Room k (A.deeper (PyProof.Rows.envOfC "_law_pool" (defScope s__law_pool) s.heap.objs.size f cdv))) :
    QSs (cxOf (L2.CX P w) P w G.K mg base ["script", "salt", "cell"] "_law_pool" (defScope s__law_pool) f cdv A outer s H E) G E (defBody s__law_pool) (m__law_pool c) := by
  have hx : Passes (L2.CX P w) (cxOf (L2.CX P w) P w G.K mg base ["script", "salt", "cell"] "_law_pool" (defScope s__law_pool) f cdv A outer s H E) E := passes_call (takes_of rfl rfl rfl rfl) fun _ _ _ _ h => h
  have hu := hr.units
  have nd := (sc__law_pool).nd
  have hp : PassesOwn (model P w) (A.deeper (PyProof.Rows.envOfC "_law_pool" (defScope s__law_pool) s.heap.objs.size f cdv)) (PyProof.Rows.envOfC "_law_pool" (defScope s__law_pool) s.heap.objs.size f cdv) (cxOf (L2.CX P w) P w G.K mg base ["script", "salt", "cell"] "_law_pool" (defScope s__law_pool) f cdv A outer s H E).xe := PassesOwn.leaving
  exact qss_cons (qs_set (i := 1) nd rfl (by first | exact Or.inl rfl | exact Or.inr rfl) (qe_int)) (qss_cons (qs_for (ts := [2]) hp rfl (qi_seq rfl (qe_sl rfl (qe_var (pv 0)) (qo_none) (qo_some (qe_int)))) (qg_name (i := 2) nd rfl (by first | exact Or.inl rfl | exact Or.inr rfl)) (qss_cons (qs_set (i := 1) nd rfl (by first | exact Or.inl rfl | exact Or.inr rfl) (qe_bin q_mod (qe_callTy (q_int) (by rfl) T.z_int PyProof.Rows.boot_int (qa_cons (qe_bin (q_plus rfl) (qe_bin q_mul (qe_var (pv 1)) (qe_int)) (qe_var (pv 2))) (qa_nil))) (qe_int))) (qss_nil))) (qss_cons (qs_ret (qe_new (qf_lst (qa_cons (qe_frz (qf_callTy (q_list rfl) (by rfl) T.z_list PyProof.Rows.boot_list (qa_cons (qe_var (pv 0)) (qa_nil)))) (qa_cons (qe_int) (qa_cons (qe_int) (qa_cons (qe_int) (qa_cons (qe_var (pv 1)) (qa_nil))))))))) (qss_nil)))
theorem q__law_spread {f : Addr} {cdv : Value} {A : Around} {outer : List PySem.Env} {s : Shared} {H : Hp} {E : XK} (T : Txt G w mg) (hs : HasAll P w G mg base k c) (hr : Room k (A.deeper (PyProof.Rows.envOfC "_law_spread" (defScope s__law_spread) s.heap.objs.size f cdv))) :
    QSs (cxOf (L2.CX P w) P w G.K mg base ["cell", "mixed", "total", "k"] "_law_spread" (defScope s__law_spread) f cdv A outer s H E) G E (defBody s__law_spread) (m__law_spread c) := by
  have hx : Passes (L2.CX P w) (cxOf (L2.CX P w) P w G.K mg base ["cell", "mixed", "total", "k"] "_law_spread" (defScope s__law_spread) f cdv A outer s H E) E := passes_call (takes_of rfl rfl rfl rfl) fun _ _ _ _ h => h
  have hu := hr.units
  have nd := (sc__law_spread).nd
  have hp : PassesOwn (model P w) (A.deeper (PyProof.Rows.envOfC "_law_spread" (defScope s__law_spread) s.heap.objs.size f cdv)) (PyProof.Rows.envOfC "_law_spread" (defScope s__law_spread) s.heap.objs.size f cdv) (cxOf (L2.CX P w) P w G.K mg base ["cell", "mixed", "total", "k"] "_law_spread" (defScope s__law_spread) f cdv A outer s H E).xe := PassesOwn.leaving
  exact qss_cons (qs_set (i := 1) nd rfl (by first | exact Or.inl rfl | exact Or.inr rfl) (qe_bin q_mod (qe_callTy (q_int) (by rfl) T.z_int PyProof.Rows.boot_int (qa_cons (qe_var (pv 0)) (qa_nil))) (qe_int))) (qss_cons (qs_set (i := 2) nd rfl (by first | exact Or.inl rfl | exact Or.inr rfl) (qe_int)) (qss_cons (qs_for (ts := [3]) hp rfl (qi_rng1 (by rfl) T.z_range (qa_cons (qe_int) (qa_nil))) (qg_name (i := 3) nd rfl (by first | exact Or.inl rfl | exact Or.inr rfl)) (qss_cons (qs_set (i := 1) nd rfl (by first | exact Or.inl rfl | exact Or.inr rfl) (qe_bin q_mod (qe_callTy (q_int) (by rfl) T.z_int PyProof.Rows.boot_int (qa_cons (qe_bin (q_plus rfl) (qe_bin (q_plus rfl) (qe_bin q_mul (qe_var (pv 1)) (qe_int)) (qe_int)) (qe_var (pv 3))) (qa_nil))) (qe_int))) (qss_cons (qs_set (i := 2) nd rfl (by first | exact Or.inl rfl | exact Or.inr rfl) (qe_bin (q_plus rfl) (qe_bin q_mul (qe_var (pv 2)) (qe_int)) (qe_var (pv 1)))) (qss_nil)))) (qss_cons (qs_ret (qe_var (pv 2))) (qss_nil))))
theorem q__law_draw {f : Addr} {cdv : Value} {A : Around} {outer : List PySem.Env} {s : Shared} {H : Hp} {E : XK} (T : Txt G w mg) (hs : HasAll P w G mg base k c) (hr : Room k (A.deeper (PyProof.Rows.envOfC "_law_draw" (defScope s__law_draw) s.heap.objs.size f cdv))) :
    QSs (cxOf (L2.CX P w) P w G.K mg base ["pool", "many", "cell", "mixed", "value"] "_law_draw" (defScope s__law_draw) f cdv A outer s H E) G E (defBody s__law_draw) (m__law_draw c) := by
  have hx : Passes (L2.CX P w) (cxOf (L2.CX P w) P w G.K mg base ["pool", "many", "cell", "mixed", "value"] "_law_draw" (defScope s__law_draw) f cdv A outer s H E) E := passes_call (takes_of rfl rfl rfl rfl) fun _ _ _ _ h => h
  have hu := hr.units
  have nd := (sc__law_draw).nd
  have hp : PassesOwn (model P w) (A.deeper (PyProof.Rows.envOfC "_law_draw" (defScope s__law_draw) s.heap.objs.size f cdv)) (PyProof.Rows.envOfC "_law_draw" (defScope s__law_draw) s.heap.objs.size f cdv) (cxOf (L2.CX P w) P w G.K mg base ["pool", "many", "cell", "mixed", "value"] "_law_draw" (defScope s__law_draw) f cdv A outer s H E).xe := PassesOwn.leaving
  exact qss_cons (qs_if (qt_w (qw_and (qt_cmp q_le (qe_ix rfl (qe_var (pv 0)) (qe_int)) (qe_int) (nomark _)) (qw_and1 (qt_cmp q_lt (qe_ix rfl (qe_var (pv 0)) (qe_int)) (qe_callB (q_len rfl) (by rfl) T.z_len PySem.boot_len (qa_cons (qe_ix rfl (qe_var (pv 0)) (qe_int)) (qa_nil))) (nomark _))))) (qss_cons (qs_set (i := 2) nd rfl (by first | exact Or.inl rfl | exact Or.inr rfl) (qe_ix rfl (qe_ix rfl (qe_var (pv 0)) (qe_int)) (qe_ix rfl (qe_var (pv 0)) (qe_int)))) (qss_cons (qs_put (qe_bin (q_plus rfl) (qe_ix rfl (qe_var (pv 0)) (qe_int)) (qe_int)) (qe_var (pv 0)) (qe_int)) (qss_cons (qs_put (qe_var (pv 2)) (qe_var (pv 0)) (qe_int)) (qss_cons (qs_if (qt_cmp q_lt (qe_var (pv 2)) (qe_int) (nomark _)) (qss_cons (qs_put (qe_call (hs .f_law_spread) rfl hr (by rfl) hx (qa_cons (qe_var (pv 2)) (qa_nil))) (qe_var (pv 0)) (qe_int)) (qss_nil)) (qss_nil)) (qss_nil))))) (qss_nil)) (qss_cons (qs_put (qe_bin (q_plus rfl) (qe_ix rfl (qe_var (pv 0)) (qe_int)) (qe_int)) (qe_var (pv 0)) (qe_int)) (qss_cons (qs_if (qt_cmp q_le (qe_ix rfl (qe_var (pv 0)) (qe_int)) (qe_int) (nomark _)) (qss_cons (qs_set (i := 3) nd rfl (by first | exact Or.inl rfl | exact Or.inr rfl) (qe_bin q_mod (qe_callTy (q_int) (by rfl) T.z_int PyProof.Rows.boot_int (qa_cons (qe_bin (q_plus rfl) (qe_bin (q_plus rfl) (qe_bin q_mul (qe_ix rfl (qe_var (pv 0)) (qe_int)) (qe_int)) (qe_bin q_mul (qe_ix rfl (qe_var (pv 0)) (qe_int)) (qe_int))) (qe_int)) (qa_nil))) (qe_int))) (qss_cons (qs_set (i := 3) nd rfl (by first | exact Or.inl rfl | exact Or.inr rfl) (qe_bin q_mod (qe_callTy (q_int) (by rfl) T.z_int PyProof.Rows.boot_int (qa_cons (qe_bin (q_plus rfl) (qe_bin q_mul (qe_var (pv 3)) (qe_int)) (qe_ix rfl (qe_var (pv 0)) (qe_int))) (qa_nil))) (qe_int))) (qss_cons (qs_ret (qe_bin q_mod (qe_bin q_div (qe_var (pv 3)) (qe_int)) (qe_var (pv 1)))) (qss_nil)))) (qss_nil)) (qss_cons (qs_set (i := 4) nd rfl (by first | exact Or.inl rfl | exact Or.inr rfl) (qe_bin q_mod (qe_callTy (q_int) (by rfl) T.z_int PyProof.Rows.boot_int (qa_cons (qe_ix rfl (qe_var (pv 0)) (qe_int)) (qa_nil))) (qe_var (pv 1)))) (qss_cons (qs_put (qe_bin q_div (qe_ix rfl (qe_var (pv 0)) (qe_int)) (qe_var (pv 1))) (qe_var (pv 0)) (qe_int)) (qss_cons (qs_ret (qe_var (pv 4))) (qss_nil))))))
theorem q__law_pick {f : Addr} {cdv : Value} {A : Around} {outer : List PySem.Env} {s : Shared} {H : Hp} {E : XK} (T : Txt G w mg) (hs : HasAll P w G mg base k c) (hr : Room k (A.deeper (PyProof.Rows.envOfC "_law_pick" (defScope s__law_pick) s.heap.objs.size f cdv))) :
    QSs (cxOf (L2.CX P w) P w G.K mg base ["pool", "items"] "_law_pick" (defScope s__law_pick) f cdv A outer s H E) G E (defBody s__law_pick) (m__law_pick c) := by
  have hx : Passes (L2.CX P w) (cxOf (L2.CX P w) P w G.K mg base ["pool", "items"] "_law_pick" (defScope s__law_pick) f cdv A outer s H E) E := passes_call (takes_of rfl rfl rfl rfl) fun _ _ _ _ h => h
  have hu := hr.units
  have nd := (sc__law_pick).nd
  have hp : PassesOwn (model P w) (A.deeper (PyProof.Rows.envOfC "_law_pick" (defScope s__law_pick) s.heap.objs.size f cdv)) (PyProof.Rows.envOfC "_law_pick" (defScope s__law_pick) s.heap.objs.size f cdv) (cxOf (L2.CX P w) P w G.K mg base ["pool", "items"] "_law_pick" (defScope s__law_pick) f cdv A outer s H E).xe := PassesOwn.leaving
  exact qss_cons (qs_ret (qe_ix rfl (qe_var (pv 1)) (qe_call (hs .f_law_draw) rfl hr (by rfl) hx (qa_cons (qe_var (pv 0)) (qa_cons (qe_callB (q_len rfl) (by rfl) T.z_len PySem.boot_len (qa_cons (qe_var (pv 1)) (qa_nil))) (qa_nil)))))) (qss_nil)
theorem q__law_expression {f : Addr} {cdv : Value} {A : Around} {outer : List PySem.Env} {s : Shared} {H : Hp} {E : XK} (T : Txt G w mg) (hs : HasAll P w G mg base k c) (hr : Room k (A.deeper (PyProof.Rows.envOfC "_law_expression" (defScope s__law_expression) s.heap.objs.size f cdv))) :
    QSs (cxOf (L2.CX P w) P w G.K mg base ["pool", "deep", "word"] "_law_expression" (defScope s__law_expression) f cdv A outer s H E) G E (defBody s__law_expression) (m__law_expression c) := by
  have hx : Passes (L2.CX P w) (cxOf (L2.CX P w) P w G.K mg base ["pool", "deep", "word"] "_law_expression" (defScope s__law_expression) f cdv A outer s H E) E := passes_call (takes_of rfl rfl rfl rfl) fun _ _ _ _ h => h
  have hu := hr.units
  have nd := (sc__law_expression).nd
  have hp : PassesOwn (model P w) (A.deeper (PyProof.Rows.envOfC "_law_expression" (defScope s__law_expression) s.heap.objs.size f cdv)) (PyProof.Rows.envOfC "_law_expression" (defScope s__law_expression) s.heap.objs.size f cdv) (cxOf (L2.CX P w) P w G.K mg base ["pool", "deep", "word"] "_law_expression" (defScope s__law_expression) f cdv A outer s H E).xe := PassesOwn.leaving
  exact qss_cons (qs_if (qt_w (qw_or (qt_cmp (q_eq rfl hu) (qe_var (pv 1)) (qe_int) (nomark _)) (qw_or1 (qt_cmp (q_eq rfl hu) (qe_call (hs .f_law_draw) rfl hr (by rfl) hx (qa_cons (qe_var (pv 0)) (qa_cons (qe_int) (qa_nil)))) (qe_int) (nomark _))))) (qss_cons (qs_if (qt_cmp q_lt (qe_call (hs .f_law_draw) rfl hr (by rfl) hx (qa_cons (qe_var (pv 0)) (qa_cons (qe_int) (qa_nil)))) (qe_int) (nomark _)) (qss_cons (qs_ret (qe_tup (qa_cons (qe_str) (qa_cons (qe_ix rfl (qe_tup (qa_cons (qe_int) (qa_cons (qe_int) (qa_cons (qe_int) (qa_cons (qe_int) (qa_cons (qe_int) (qa_cons (qe_int) (qa_cons (qe_int) (qa_cons (qe_int) (qa_nil)))))))))) (qe_call (hs .f_law_draw) rfl hr (by rfl) hx (qa_cons (qe_var (pv 0)) (qa_cons (qe_int) (qa_nil))))) (qa_nil))))) (qss_nil)) (qss_nil)) (qss_cons (qs_ret (qe_tup (qa_cons (qe_str) (qa_cons (qe_call (hs .f_law_draw) rfl hr (by rfl) hx (qa_cons (qe_var (pv 0)) (qa_cons (qe_int) (qa_nil)))) (qa_nil))))) (qss_nil))) (qss_nil)) (qss_cons (qs_set (i := 2) nd rfl (by first | exact Or.inl rfl | exact Or.inr rfl) (qe_call (hs .f_law_pick) rfl hr (by rfl) hx (qa_cons (qe_var (pv 0)) (qa_cons (qe_frz (qf_lst (qa_cons (qe_str) (qa_cons (qe_str) (qa_cons (qe_str) (qa_cons (qe_str) (qa_cons (qe_str) (qa_cons (qe_str) (qa_nil))))))))) (qa_nil))))) (qss_cons (qs_if (qt_cmp (q_eq rfl hu) (qe_var (pv 2)) (qe_str) (nomark _)) (qss_cons (qs_ret (qe_tup (qa_cons (qe_str) (qa_cons (qe_call (hs .f_law_expression) rfl hr (by rfl) hx (qa_cons (qe_var (pv 0)) (qa_cons (qe_bin q_sub (qe_var (pv 1)) (qe_int)) (qa_nil)))) (qa_nil))))) (qss_nil)) (qss_nil)) (qss_cons (qs_ret (qe_tup (qa_cons (qe_var (pv 2)) (qa_cons (qe_call (hs .f_law_expression) rfl hr (by rfl) hx (qa_cons (qe_var (pv 0)) (qa_cons (qe_bin q_sub (qe_var (pv 1)) (qe_int)) (qa_nil)))) (qa_cons (qe_call (hs .f_law_expression) rfl hr (by rfl) hx (qa_cons (qe_var (pv 0)) (qa_cons (qe_bin q_sub (qe_var (pv 1)) (qe_int)) (qa_nil)))) (qa_nil)))))) (qss_nil))))
theorem q__law_block {f : Addr} {cdv : Value} {A : Around} {outer : List PySem.Env} {s : Shared} {H : Hp} {E : XK} (T : Txt G w mg) (hs : HasAll P w G mg base k c) (hr : Room k (A.deeper (PyProof.Rows.envOfC "_law_block" (defScope s__law_block) s.heap.objs.size f cdv))) :
    QSs (cxOf (L2.CX P w) P w G.K mg base ["pool", "deep", "k"] "_law_block" (defScope s__law_block) f cdv A outer s H E) G E (defBody s__law_block) (m__law_block c) := by
  have hx : Passes (L2.CX P w) (cxOf (L2.CX P w) P w G.K mg base ["pool", "deep", "k"] "_law_block" (defScope s__law_block) f cdv A outer s H E) E := passes_call (takes_of rfl rfl rfl rfl) fun _ _ _ _ h => h
  have hu := hr.units
  have nd := (sc__law_block).nd
  have hp : PassesOwn (model P w) (A.deeper (PyProof.Rows.envOfC "_law_block" (defScope s__law_block) s.heap.objs.size f cdv)) (PyProof.Rows.envOfC "_law_block" (defScope s__law_block) s.heap.objs.size f cdv) (cxOf (L2.CX P w) P w G.K mg base ["pool", "deep", "k"] "_law_block" (defScope s__law_block) f cdv A outer s H E).xe := PassesOwn.leaving
  exact qss_cons (qs_ret (qe_callTy (q_tuple rfl) (by rfl) T.z_tuple PyProof.Rows.boot_tuple (qa_cons (qe_frz (qf_lc (own := [("k", 2)]) (ts := [2]) rfl nd (qi_rng1 (by rfl) T.z_range (qa_cons (qe_call (hs .f_law_draw) rfl hr (by rfl) hx (qa_cons (qe_var (pv 0)) (qa_cons (qe_int) (qa_nil)))) (qa_nil))) (blkOk_by (N := ["pool", "deep", "k"]) (sc := defScope s__law_block) (by decide +kernel)) (fun _ _ _ _ _ => qg_name (i := 2) nd rfl (by first | exact Or.inl rfl | exact Or.inr rfl)) (fun _ _ _ _ _ => qts_nil) (fun _ _ _ _ _ => qe_call (hs .f_law_deed) rfl hr (by rfl) passL (qa_cons (qe_var (pv 0)) (qa_cons (qe_var (pv 1)) (qa_nil)))) (by decide))) (qa_nil)))) (qss_nil)
theorem q__law_deed {f : Addr} {cdv : Value} {A : Around} {outer : List PySem.Env} {s : Shared} {H : Hp} {E : XK} (T : Txt G w mg) (hs : HasAll P w G mg base k c) (hr : Room k (A.deeper (PyProof.Rows.envOfC "_law_deed" (defScope s__law_deed) s.heap.objs.size f cdv))) :
    QSs (cxOf (L2.CX P w) P w G.K mg base ["pool", "deep", "turn", "name", "more"] "_law_deed" (defScope s__law_deed) f cdv A outer s H E) G E (defBody s__law_deed) (m__law_deed c) := by
  have hx : Passes (L2.CX P w) (cxOf (L2.CX P w) P w G.K mg base ["pool", "deep", "turn", "name", "more"] "_law_deed" (defScope s__law_deed) f cdv A outer s H E) E := passes_call (takes_of rfl rfl rfl rfl) fun _ _ _ _ h => h
  have hu := hr.units
  have nd := (sc__law_deed).nd
  have hp : PassesOwn (model P w) (A.deeper (PyProof.Rows.envOfC "_law_deed" (defScope s__law_deed) s.heap.objs.size f cdv)) (PyProof.Rows.envOfC "_law_deed" (defScope s__law_deed) s.heap.objs.size f cdv) (cxOf (L2.CX P w) P w G.K mg base ["pool", "deep", "turn", "name", "more"] "_law_deed" (defScope s__law_deed) f cdv A outer s H E).xe := PassesOwn.leaving
  exact qss_cons (qs_set (i := 2) nd rfl (by first | exact Or.inl rfl | exact Or.inr rfl) (qe_call (hs .f_law_draw) rfl hr (by rfl) hx (qa_cons (qe_var (pv 0)) (qa_cons (qe_int) (qa_nil))))) (qss_cons (qs_if (qt_w (qw_or (qt_cmp (q_eq rfl hu) (qe_var (pv 1)) (qe_int) (nomark _)) (qw_or1 (qt_cmp q_lt (qe_var (pv 2)) (qe_int) (nomark _))))) (qss_cons (qs_if (qt_cmp (q_eq rfl hu) (qe_bin q_mod (qe_var (pv 2)) (qe_int)) (qe_int) (nomark _)) (qss_cons (qs_ret (qe_tup (qa_cons (qe_str) (qa_cons (qe_call (hs .f_law_expression) rfl hr (by rfl) hx (qa_cons (qe_var (pv 0)) (qa_cons (qe_int) (qa_nil)))) (qa_nil))))) (qss_nil)) (qss_nil)) (qss_cons (qs_ret (qe_tup (qa_cons (qe_str) (qa_cons (qe_call (hs .f_law_draw) rfl hr (by rfl) hx (qa_cons (qe_var (pv 0)) (qa_cons (qe_int) (qa_nil)))) (qa_cons (qe_call (hs .f_law_expression) rfl hr (by rfl) hx (qa_cons (qe_var (pv 0)) (qa_cons (qe_int) (qa_nil)))) (qa_nil)))))) (qss_nil))) (qss_nil)) (qss_cons (qs_if (qt_cmp q_lt (qe_var (pv 2)) (qe_int) (nomark _)) (qss_cons (qs_ret (qe_tup (qa_cons (qe_str) (qa_cons (qe_call (hs .f_law_expression) rfl hr (by rfl) hx (qa_cons (qe_var (pv 0)) (qa_cons (qe_int) (qa_nil)))) (qa_cons (qe_call (hs .f_law_block) rfl hr (by rfl) hx (qa_cons (qe_var (pv 0)) (qa_cons (qe_bin q_sub (qe_var (pv 1)) (qe_int)) (qa_nil)))) (qa_cons (qe_call (hs .f_law_block) rfl hr (by rfl) hx (qa_cons (qe_var (pv 0)) (qa_cons (qe_bin q_sub (qe_var (pv 1)) (qe_int)) (qa_nil)))) (qa_nil))))))) (qss_nil)) (qss_nil)) (qss_cons (qs_set (i := 3) nd rfl (by first | exact Or.inl rfl | exact Or.inr rfl) (qe_call (hs .f_law_draw) rfl hr (by rfl) hx (qa_cons (qe_var (pv 0)) (qa_cons (qe_int) (qa_nil))))) (qss_cons (qs_if (qt_cmp q_lt (qe_call (hs .f_law_draw) rfl hr (by rfl) hx (qa_cons (qe_var (pv 0)) (qa_cons (qe_int) (qa_nil)))) (qe_int) (nomark _)) (qss_cons (qs_set (i := 4) nd rfl (by first | exact Or.inl rfl | exact Or.inr rfl) (qe_tup (qa_cons (qe_str) (qa_cons (qe_var (pv 3)) (qa_cons (qe_tup (qa_cons (qe_str) (qa_cons (qe_tup (qa_cons (qe_str) (qa_cons (qe_var (pv 3)) (qa_nil)))) (qa_cons (qe_tup (qa_cons (qe_str) (qa_cons (qe_bin (q_plus rfl) (qe_int) (qe_call (hs .f_law_draw) rfl hr (by rfl) hx (qa_cons (qe_var (pv 0)) (qa_cons (qe_int) (qa_nil))))) (qa_nil)))) (qa_nil))))) (qa_nil)))))) (qss_cons (qs_ret (qe_tup (qa_cons (qe_str) (qa_cons (qe_tup (qa_cons (qe_str) (qa_cons (qe_tup (qa_cons (qe_str) (qa_cons (qe_var (pv 3)) (qa_nil)))) (qa_cons (qe_tup (qa_cons (qe_str) (qa_cons (qe_call (hs .f_law_draw) rfl hr (by rfl) hx (qa_cons (qe_var (pv 0)) (qa_cons (qe_int) (qa_nil)))) (qa_nil)))) (qa_nil))))) (qa_cons (qe_bin (q_plus rfl) (qe_call (hs .f_law_block) rfl hr (by rfl) hx (qa_cons (qe_var (pv 0)) (qa_cons (qe_bin q_sub (qe_var (pv 1)) (qe_int)) (qa_nil)))) (qe_tup (qa_cons (qe_var (pv 4)) (qa_nil)))) (qa_nil)))))) (qss_nil))) (qss_nil)) (qss_cons (qs_ret (qe_tup (qa_cons (qe_str) (qa_cons (qe_call (hs .f_law_expression) rfl hr (by rfl) hx (qa_cons (qe_var (pv 0)) (qa_cons (qe_int) (qa_nil)))) (qa_cons (qe_call (hs .f_law_block) rfl hr (by rfl) hx (qa_cons (qe_var (pv 0)) (qa_cons (qe_bin q_sub (qe_var (pv 1)) (qe_int)) (qa_nil)))) (qa_nil)))))) (qss_nil))))))
theorem q__law_program {f : Addr} {cdv : Value} {A : Around} {outer : List PySem.Env} {s : Shared} {H : Hp} {E : XK} (T : Txt G w mg) (hs : HasAll P w G mg base k c) (hr : Room k (A.deeper (PyProof.Rows.envOfC "_law_program" (defScope s__law_program) s.heap.objs.size f cdv))) :
    QSs (cxOf (L2.CX P w) P w G.K mg base ["pool", "found", "deed"] "_law_program" (defScope s__law_program) f cdv A outer s H E) G E (defBody s__law_program) (m__law_program c) := by
  have hx : Passes (L2.CX P w) (cxOf (L2.CX P w) P w G.K mg base ["pool", "found", "deed"] "_law_program" (defScope s__law_program) f cdv A outer s H E) E := passes_call (takes_of rfl rfl rfl rfl) fun _ _ _ _ h => h
  have hu := hr.units
  have nd := (sc__law_program).nd
  have hp : PassesOwn (model P w) (A.deeper (PyProof.Rows.envOfC "_law_program" (defScope s__law_program) s.heap.objs.size f cdv)) (PyProof.Rows.envOfC "_law_program" (defScope s__law_program) s.heap.objs.size f cdv) (cxOf (L2.CX P w) P w G.K mg base ["pool", "found", "deed"] "_law_program" (defScope s__law_program) f cdv A outer s H E).xe := PassesOwn.leaving
  exact qss_cons (qs_set (i := 1) nd rfl (by first | exact Or.inl rfl | exact Or.inr rfl) (qe_tup (qa_nil))) (qss_cons (qs_for (ts := [2]) hp rfl (qi_seq rfl (qe_call (hs .f_law_block) rfl hr (by rfl) hx (qa_cons (qe_var (pv 0)) (qa_cons (qe_int) (qa_nil))))) (qg_name (i := 2) nd rfl (by first | exact Or.inl rfl | exact Or.inr rfl)) (qss_cons (qs_set (i := 1) nd rfl (by first | exact Or.inl rfl | exact Or.inr rfl) (qe_if (qt_cmp q_le (qe_call (hs .f_law_deeds_of) rfl hr (by rfl) hx (qa_cons (qe_bin (q_plus rfl) (qe_var (pv 1)) (qe_tup (qa_cons (qe_var (pv 2)) (qa_nil)))) (qa_nil))) (qe_int) (nomark _)) (qe_bin (q_plus rfl) (qe_var (pv 1)) (qe_tup (qa_cons (qe_var (pv 2)) (qa_nil)))) (qe_var (pv 1)))) (qss_nil))) (qss_cons (qs_ret (qe_if (qt_cmp (q_ne rfl hu) (qe_var (pv 1)) (qe_tup (qa_nil)) (nomark _)) (qe_var (pv 1)) (qe_tup (qa_cons (qe_tup (qa_cons (qe_str) (qa_cons (qe_tup (qa_cons (qe_str) (qa_cons (qe_call (hs .f_law_draw) rfl hr (by rfl) hx (qa_cons (qe_var (pv 0)) (qa_cons (qe_int) (qa_nil)))) (qa_nil)))) (qa_nil)))) (qa_nil))))) (qss_nil)))
theorem q__law_need {f : Addr} {cdv : Value} {A : Around} {outer : List PySem.Env} {s : Shared} {H : Hp} {E : XK} (T : Txt G w mg) (hs : HasAll P w G mg base k c) (hr : Room k (A.deeper (PyProof.Rows.envOfC "_law_need" (defScope s__law_need) s.heap.objs.size f cdv))) :
    QSs (cxOf (L2.CX P w) P w G.K mg base ["expression", "parts", "part"] "_law_need" (defScope s__law_need) f cdv A outer s H E) G E (defBody s__law_need) (m__law_need c) := by
  have hx : Passes (L2.CX P w) (cxOf (L2.CX P w) P w G.K mg base ["expression", "parts", "part"] "_law_need" (defScope s__law_need) f cdv A outer s H E) E := passes_call (takes_of rfl rfl rfl rfl) fun _ _ _ _ h => h
  have hu := hr.units
  have nd := (sc__law_need).nd
  have hp : PassesOwn (model P w) (A.deeper (PyProof.Rows.envOfC "_law_need" (defScope s__law_need) s.heap.objs.size f cdv)) (PyProof.Rows.envOfC "_law_need" (defScope s__law_need) s.heap.objs.size f cdv) (cxOf (L2.CX P w) P w G.K mg base ["expression", "parts", "part"] "_law_need" (defScope s__law_need) f cdv A outer s H E).xe := PassesOwn.leaving
  exact qss_cons (qs_set (i := 1) nd rfl (by first | exact Or.inl rfl | exact Or.inr rfl) (qe_frz (qf_callB q_sorted (by rfl) T.z_sorted PyProof.Rows.boot_sorted (qa_cons (qe_frz (qf_lc (own := [("part", 2)]) (ts := [2]) rfl nd (qi_seq rfl (qe_sl rfl (qe_var (pv 0)) (qo_some (qe_int)) (qo_none))) (blkOk_by (N := ["expression", "parts", "part"]) (sc := defScope s__law_need) (by decide +kernel)) (fun _ _ _ _ _ => qg_name (i := 2) nd rfl (by first | exact Or.inl rfl | exact Or.inr rfl)) (fun _ _ _ _ _ => qts_one (qt_val (qe_isa (by rfl) T.z_isinstance rfl (pe_bltn (by rfl) T.z_tuple PyProof.Rows.boot_tuple rfl) (qe_var (pv 2))))) (fun _ _ _ _ _ => qe_call (hs .f_law_need) rfl hr (by rfl) passL (qa_cons (qe_var (pv 2)) (qa_nil))) (by decide))) (qa_nil))))) (qss_cons (qs_if (qt_cmp (q_eq rfl hu) (qe_var (pv 1)) (qe_frz (qf_lst (qa_nil))) (nomark _)) (qss_cons (qs_ret (qe_int)) (qss_nil)) (qss_nil)) (qss_cons (qs_ret (qe_if (qt_w (qw_or (qt_cmp (q_eq rfl hu) (qe_callB (q_len rfl) (by rfl) T.z_len PySem.boot_len (qa_cons (qe_var (pv 1)) (qa_nil))) (qe_int) (nomark _)) (qw_or1 (qt_cmp q_lt (qe_ix rfl (qe_var (pv 1)) (qe_int)) (qe_ix rfl (qe_var (pv 1)) (qe_int)) (nomark _))))) (qe_ix rfl (qe_var (pv 1)) (qe_neg (qe_int))) (qe_bin (q_plus rfl) (qe_ix rfl (qe_var (pv 1)) (qe_neg (qe_int))) (qe_int)))) (qss_nil)))
theorem q__law_deeds_of {f : Addr} {cdv : Value} {A : Around} {outer : List PySem.Env} {s : Shared} {H : Hp} {E : XK} (T : Txt G w mg) (hs : HasAll P w G mg base k c) (hr : Room k (A.deeper (PyProof.Rows.envOfC "_law_deeds_of" (defScope s__law_deeds_of) s.heap.objs.size f cdv))) :
    QSs (cxOf (L2.CX P w) P w G.K mg base ["block", "found", "deed", "part"] "_law_deeds_of" (defScope s__law_deeds_of) f cdv A outer s H E) G E (defBody s__law_deeds_of) (m__law_deeds_of c) := by
  have hx : Passes (L2.CX P w) (cxOf (L2.CX P w) P w G.K mg base ["block", "found", "deed", "part"] "_law_deeds_of" (defScope s__law_deeds_of) f cdv A outer s H E) E := passes_call (takes_of rfl rfl rfl rfl) fun _ _ _ _ h => h
  have hu := hr.units
  have nd := (sc__law_deeds_of).nd
  have hp : PassesOwn (model P w) (A.deeper (PyProof.Rows.envOfC "_law_deeds_of" (defScope s__law_deeds_of) s.heap.objs.size f cdv)) (PyProof.Rows.envOfC "_law_deeds_of" (defScope s__law_deeds_of) s.heap.objs.size f cdv) (cxOf (L2.CX P w) P w G.K mg base ["block", "found", "deed", "part"] "_law_deeds_of" (defScope s__law_deeds_of) f cdv A outer s H E).xe := PassesOwn.leaving
  exact qss_cons (qs_set (i := 1) nd rfl (by first | exact Or.inl rfl | exact Or.inr rfl) (qe_callB (q_len rfl) (by rfl) T.z_len PySem.boot_len (qa_cons (qe_var (pv 0)) (qa_nil)))) (qss_cons (qs_for (ts := [2]) hp rfl (qi_seq rfl (qe_var (pv 0))) (qg_name (i := 2) nd rfl (by first | exact Or.inl rfl | exact Or.inr rfl)) (qss_cons (qs_if (qt_cmp (q_in rfl) (qe_ix rfl (qe_var (pv 2)) (qe_int)) (qe_tup (qa_cons (qe_str) (qa_cons (qe_str) (qa_nil)))) (by with_unfolding_all rfl)) (qss_cons (qs_set (i := 1) nd rfl (by first | exact Or.inl rfl | exact Or.inr rfl) (qe_bin (q_plus rfl) (qe_var (pv 1)) (qe_callB (q_sum rfl) (by rfl) T.z_sum PyProof.Rows.boot_sum (qa_cons (qe_frz (qf_lc (own := [("part", 3)]) (ts := [3]) rfl nd (qi_seq rfl (qe_sl rfl (qe_var (pv 2)) (qo_some (qe_int)) (qo_none))) (blkOk_by (N := ["block", "found", "deed", "part"]) (sc := defScope s__law_deeds_of) (by decide +kernel)) (fun _ _ _ _ _ => qg_name (i := 3) nd rfl (by first | exact Or.inl rfl | exact Or.inr rfl)) (fun _ _ _ _ _ => qts_nil) (fun _ _ _ _ _ => qe_call (hs .f_law_deeds_of) rfl hr (by rfl) passL (qa_cons (qe_var (pv 3)) (qa_nil))) (by decide))) (qa_nil))))) (qss_nil)) (qss_nil)) (qss_nil))) (qss_cons (qs_ret (qe_var (pv 1))) (qss_nil)))
theorem q__law_lines_of {f : Addr} {cdv : Value} {A : Around} {outer : List PySem.Env} {s : Shared} {H : Hp} {E : XK} (T : Txt G w mg) (hs : HasAll P w G mg base k c) (hr : Room k (A.deeper (PyProof.Rows.envOfC "_law_lines_of" (defScope s__law_lines_of) s.heap.objs.size f cdv))) :
    QSs (cxOf (L2.CX P w) P w G.K mg base ["block", "found", "deed"] "_law_lines_of" (defScope s__law_lines_of) f cdv A outer s H E) G E (defBody s__law_lines_of) (m__law_lines_of c) := by
  have hx : Passes (L2.CX P w) (cxOf (L2.CX P w) P w G.K mg base ["block", "found", "deed"] "_law_lines_of" (defScope s__law_lines_of) f cdv A outer s H E) E := passes_call (takes_of rfl rfl rfl rfl) fun _ _ _ _ h => h
  have hu := hr.units
  have nd := (sc__law_lines_of).nd
  have hp : PassesOwn (model P w) (A.deeper (PyProof.Rows.envOfC "_law_lines_of" (defScope s__law_lines_of) s.heap.objs.size f cdv)) (PyProof.Rows.envOfC "_law_lines_of" (defScope s__law_lines_of) s.heap.objs.size f cdv) (cxOf (L2.CX P w) P w G.K mg base ["block", "found", "deed"] "_law_lines_of" (defScope s__law_lines_of) f cdv A outer s H E).xe := PassesOwn.leaving
  exact qss_cons (qs_set (i := 1) nd rfl (by first | exact Or.inl rfl | exact Or.inr rfl) (qe_int)) (qss_cons (qs_for (ts := [2]) hp rfl (qi_seq rfl (qe_var (pv 0))) (qg_name (i := 2) nd rfl (by first | exact Or.inl rfl | exact Or.inr rfl)) (qss_cons (qs_if (qt_cmp (q_eq rfl hu) (qe_ix rfl (qe_var (pv 2)) (qe_int)) (qe_str) (nomark _)) (qss_cons (qs_set (i := 1) nd rfl (by first | exact Or.inl rfl | exact Or.inr rfl) (qe_bin (q_plus rfl) (qe_bin (q_plus rfl) (qe_bin (q_plus rfl) (qe_var (pv 1)) (qe_int)) (qe_call (hs .f_law_lines_of) rfl hr (by rfl) hx (qa_cons (qe_ix rfl (qe_var (pv 2)) (qe_int)) (qa_nil)))) (qe_call (hs .f_law_lines_of) rfl hr (by rfl) hx (qa_cons (qe_ix rfl (qe_var (pv 2)) (qe_int)) (qa_nil))))) (qss_nil)) (qss_cons (qs_if (qt_cmp (q_eq rfl hu) (qe_ix rfl (qe_var (pv 2)) (qe_int)) (qe_str) (nomark _)) (qss_cons (qs_set (i := 1) nd rfl (by first | exact Or.inl rfl | exact Or.inr rfl) (qe_bin (q_plus rfl) (qe_bin (q_plus rfl) (qe_var (pv 1)) (qe_int)) (qe_call (hs .f_law_lines_of) rfl hr (by rfl) hx (qa_cons (qe_ix rfl (qe_var (pv 2)) (qe_int)) (qa_nil))))) (qss_nil)) (qss_cons (qs_set (i := 1) nd rfl (by first | exact Or.inl rfl | exact Or.inr rfl) (qe_bin (q_plus rfl) (qe_var (pv 1)) (qe_int))) (qss_nil))) (qss_nil))) (qss_nil))) (qss_cons (qs_ret (qe_var (pv 1))) (qss_nil)))
theorem q__law_expressions_of {f : Addr} {cdv : Value} {A : Around} {outer : List PySem.Env} {s : Shared} {H : Hp} {E : XK} (T : Txt G w mg) (hs : HasAll P w G mg base k c) (hr : Room k (A.deeper (PyProof.Rows.envOfC "_law_expressions_of" (defScope s__law_expressions_of) s.heap.objs.size f cdv))) :
    QSs (cxOf (L2.CX P w) P w G.K mg base ["block", "found", "deed", "part"] "_law_expressions_of" (defScope s__law_expressions_of) f cdv A outer s H E) G E (defBody s__law_expressions_of) (m__law_expressions_of c) := by
  have hx : Passes (L2.CX P w) (cxOf (L2.CX P w) P w G.K mg base ["block", "found", "deed", "part"] "_law_expressions_of" (defScope s__law_expressions_of) f cdv A outer s H E) E := passes_call (takes_of rfl rfl rfl rfl) fun _ _ _ _ h => h
  have hu := hr.units
  have nd := (sc__law_expressions_of).nd
  have hp : PassesOwn (model P w) (A.deeper (PyProof.Rows.envOfC "_law_expressions_of" (defScope s__law_expressions_of) s.heap.objs.size f cdv)) (PyProof.Rows.envOfC "_law_expressions_of" (defScope s__law_expressions_of) s.heap.objs.size f cdv) (cxOf (L2.CX P w) P w G.K mg base ["block", "found", "deed", "part"] "_law_expressions_of" (defScope s__law_expressions_of) f cdv A outer s H E).xe := PassesOwn.leaving
  exact qss_cons (qs_set (i := 1) nd rfl (by first | exact Or.inl rfl | exact Or.inr rfl) (qe_new (qf_lst (qa_nil)))) (qss_cons (qs_for (ts := [2]) hp rfl (qi_seq rfl (qe_var (pv 0))) (qg_name (i := 2) nd rfl (by first | exact Or.inl rfl | exact Or.inr rfl)) (qss_cons (qs_do (qe_app (qe_var (pv 1)) (qe_if (qt_cmp (q_eq rfl hu) (qe_ix rfl (qe_var (pv 2)) (qe_int)) (qe_str) (nomark _)) (qe_ix rfl (qe_var (pv 2)) (qe_int)) (qe_ix rfl (qe_var (pv 2)) (qe_int))))) (qss_cons (qs_for (ts := [3]) hp rfl (qi_seq rfl (qe_if (qt_cmp (q_in rfl) (qe_ix rfl (qe_var (pv 2)) (qe_int)) (qe_tup (qa_cons (qe_str) (qa_cons (qe_str) (qa_nil)))) (by with_unfolding_all rfl)) (qe_sl rfl (qe_var (pv 2)) (qo_some (qe_int)) (qo_none)) (qe_tup (qa_nil)))) (qg_name (i := 3) nd rfl (by first | exact Or.inl rfl | exact Or.inr rfl)) (qss_cons (qs_set (i := 1) nd rfl (by first | exact Or.inl rfl | exact Or.inr rfl) (qe_new (qf_bin q_cat (qe_var (pv 1)) (qe_call (hs .f_law_expressions_of) rfl hr (by rfl) hx (qa_cons (qe_var (pv 3)) (qa_nil)))))) (qss_nil))) (qss_nil)))) (qss_cons (qs_ret (qe_un (qe_var (pv 1)))) (qss_nil)))
theorem q__law_size_of {f : Addr} {cdv : Value} {A : Around} {outer : List PySem.Env} {s : Shared} {H : Hp} {E : XK} (T : Txt G w mg) (hs : HasAll P w G mg base k c) (hr : Room k (A.deeper (PyProof.Rows.envOfC "_law_size_of" (defScope s__law_size_of) s.heap.objs.size f cdv))) :
    QSs (cxOf (L2.CX P w) P w G.K mg base ["value", "part"] "_law_size_of" (defScope s__law_size_of) f cdv A outer s H E) G E (defBody s__law_size_of) (m__law_size_of c) := by
  have hx : Passes (L2.CX P w) (cxOf (L2.CX P w) P w G.K mg base ["value", "part"] "_law_size_of" (defScope s__law_size_of) f cdv A outer s H E) E := passes_call (takes_of rfl rfl rfl rfl) fun _ _ _ _ h => h
  have hu := hr.units
  have nd := (sc__law_size_of).nd
  have hp : PassesOwn (model P w) (A.deeper (PyProof.Rows.envOfC "_law_size_of" (defScope s__law_size_of) s.heap.objs.size f cdv)) (PyProof.Rows.envOfC "_law_size_of" (defScope s__law_size_of) s.heap.objs.size f cdv) (cxOf (L2.CX P w) P w G.K mg base ["value", "part"] "_law_size_of" (defScope s__law_size_of) f cdv A outer s H E).xe := PassesOwn.leaving
  exact qss_cons (qs_ret (qe_bin (q_plus rfl) (qe_int) (qe_callB (q_sum rfl) (by rfl) T.z_sum PyProof.Rows.boot_sum (qa_cons (qe_frz (qf_lc (own := [("part", 1)]) (ts := [1]) rfl nd (qi_seq rfl (qe_sl rfl (qe_var (pv 0)) (qo_some (qe_int)) (qo_none))) (blkOk_by (N := ["value", "part"]) (sc := defScope s__law_size_of) (by decide +kernel)) (fun _ _ _ _ _ => qg_name (i := 1) nd rfl (by first | exact Or.inl rfl | exact Or.inr rfl)) (fun _ _ _ _ _ => qts_one (qt_val (qe_isa (by rfl) T.z_isinstance rfl (pe_bltn (by rfl) T.z_tuple PyProof.Rows.boot_tuple rfl) (qe_var (pv 1))))) (fun _ _ _ _ _ => qe_call (hs .f_law_size_of) rfl hr (by rfl) passL (qa_cons (qe_var (pv 1)) (qa_nil))) (by decide))) (qa_nil))))) (qss_nil)
theorem q_law {f : Addr} {cdv : Value} {A : Around} {outer : List PySem.Env} {s : Shared} {H : Hp} {E : XK} (T : Txt G w mg) (hs : HasAll P w G mg base k c) (hr : Room k (A.deeper (PyProof.Rows.envOfC "law" (defScope s_law) s.heap.objs.size f cdv))) :
    QSs (cxOf (L2.CX P w) P w G.K mg base ["script", "pool", "program", "every", "lines", "sizes", "value"] "law" (defScope s_law) f cdv A outer s H E) G E (defBody s_law) (m_law c) := by
  have hx : Passes (L2.CX P w) (cxOf (L2.CX P w) P w G.K mg base ["script", "pool", "program", "every", "lines", "sizes", "value"] "law" (defScope s_law) f cdv A outer s H E) E := passes_call (takes_of rfl rfl rfl rfl) fun _ _ _ _ h => h
  have hu := hr.units
  have nd := (sc_law).nd
  have hp : PassesOwn (model P w) (A.deeper (PyProof.Rows.envOfC "law" (defScope s_law) s.heap.objs.size f cdv)) (PyProof.Rows.envOfC "law" (defScope s_law) s.heap.objs.size f cdv) (cxOf (L2.CX P w) P w G.K mg base ["script", "pool", "program", "every", "lines", "sizes", "value"] "law" (defScope s_law) f cdv A outer s H E).xe := PassesOwn.leaving
  exact qss_cons (qs_set (i := 1) nd rfl (by first | exact Or.inl rfl | exact Or.inr rfl) (qe_call (hs .f_law_pool) rfl hr (by rfl) hx (qa_cons (qe_var (pv 0)) (qa_nil)))) (qss_cons (qs_set (i := 2) nd rfl (by first | exact Or.inl rfl | exact Or.inr rfl) (qe_bin (q_plus rfl) (qe_call (hs .f_law_program) rfl hr (by rfl) hx (qa_cons (qe_var (pv 1)) (qa_nil))) (qe_tup (qa_cons (qe_tup (qa_cons (qe_str) (qa_cons (qe_call (hs .f_law_expression) rfl hr (by rfl) hx (qa_cons (qe_var (pv 1)) (qa_cons (qe_int) (qa_nil)))) (qa_nil)))) (qa_nil))))) (qss_cons (qs_set (i := 3) nd rfl (by first | exact Or.inl rfl | exact Or.inr rfl) (qe_call (hs .f_law_expressions_of) rfl hr (by rfl) hx (qa_cons (qe_var (pv 2)) (qa_nil)))) (qss_cons (qs_par (i := 4) (j := 5) rfl nd rfl rfl (by decide) rfl rfl (qa_cons (qe_call (hs .f_law_lines_of) rfl hr (by rfl) hx (qa_cons (qe_var (pv 2)) (qa_nil))) (qa_cons (qe_callB (q_sum rfl) (by rfl) T.z_sum PyProof.Rows.boot_sum (qa_cons (qe_frz (qf_lc (own := [("value", 6)]) (ts := [6]) rfl nd (qi_seq rfl (qe_var (pv 3))) (blkOk_by (N := ["script", "pool", "program", "every", "lines", "sizes", "value"]) (sc := defScope s_law) (by decide +kernel)) (fun _ _ _ _ _ => qg_name (i := 6) nd rfl (by first | exact Or.inl rfl | exact Or.inr rfl)) (fun _ _ _ _ _ => qts_nil) (fun _ _ _ _ _ => qe_call (hs .f_law_size_of) rfl hr (by rfl) passL (qa_cons (qe_var (pv 6)) (qa_nil))) (by decide))) (qa_nil))) (qa_nil)))) (qss_cons (qs_if (qt_not (qt_val (qe_call (hs .f_law_same) rfl hr (by rfl) hx (qa_cons (qe_frz (qf_lst (qa_cons (qe_callB (q_len rfl) (by rfl) T.z_len PySem.boot_len (qa_cons (qe_call (hs .f_from_trees_registry) rfl hr (by rfl) hx (qa_cons (qe_str) (qa_cons (qe_var (pv 2)) (qa_nil)))) (qa_nil))) (qa_cons (qe_callB (q_len rfl) (by rfl) T.z_len PySem.boot_len (qa_cons (qe_call (hs .f_from_trees_registry) rfl hr (by rfl) hx (qa_cons (qe_str) (qa_cons (qe_var (pv 2)) (qa_nil)))) (qa_nil))) (qa_cons (qe_callB (q_len rfl) (by rfl) T.z_len PySem.boot_len (qa_cons (qe_call (hs .f_from_trees_registry) rfl hr (by rfl) hx (qa_cons (qe_str) (qa_cons (qe_var (pv 2)) (qa_nil)))) (qa_nil))) (qa_nil)))))) (qa_cons (qe_frz (qf_lst (qa_cons (qe_var (pv 4)) (qa_cons (qe_bin (q_plus rfl) (qe_var (pv 4)) (qe_var (pv 5))) (qa_cons (qe_bin (q_plus rfl) (qe_var (pv 4)) (qe_var (pv 5))) (qa_nil)))))) (qa_nil)))))) (qss_cons (qs_ret (qe_bl)) (qss_nil)) (qss_nil)) (qss_cons (qs_if (qt_not (qt_val (qe_call (hs .f_law_same) rfl hr (by rfl) hx (qa_cons (qe_frz (qf_lc (own := [("value", 6)]) (ts := [6]) rfl nd (qi_seq rfl (qe_var (pv 3))) (blkOk_by (N := ["script", "pool", "program", "every", "lines", "sizes", "value"]) (sc := defScope s_law) (by decide +kernel)) (fun _ _ _ _ _ => qg_name (i := 6) nd rfl (by first | exact Or.inl rfl | exact Or.inr rfl)) (fun _ _ _ _ _ => qts_nil) (fun _ _ _ _ _ => qe_call (hs .f_size) rfl hr (by rfl) passL (qa_cons (qe_var (pv 6)) (qa_nil))) (by decide))) (qa_cons (qe_frz (qf_lc (own := [("value", 6)]) (ts := [6]) rfl nd (qi_seq rfl (qe_var (pv 3))) (blkOk_by (N := ["script", "pool", "program", "every", "lines", "sizes", "value"]) (sc := defScope s_law) (by decide +kernel)) (fun _ _ _ _ _ => qg_name (i := 6) nd rfl (by first | exact Or.inl rfl | exact Or.inr rfl)) (fun _ _ _ _ _ => qts_nil) (fun _ _ _ _ _ => qe_call (hs .f_law_size_of) rfl hr (by rfl) passL (qa_cons (qe_var (pv 6)) (qa_nil))) (by decide))) (qa_nil)))))) (qss_cons (qs_ret (qe_bl)) (qss_nil)) (qss_nil)) (qss_cons (qs_if (qt_not (qt_val (qe_call (hs .f_law_same) rfl hr (by rfl) hx (qa_cons (qe_frz (qf_lc (own := [("value", 6)]) (ts := [6]) rfl nd (qi_seq rfl (qe_var (pv 3))) (blkOk_by (N := ["script", "pool", "program", "every", "lines", "sizes", "value"]) (sc := defScope s_law) (by decide +kernel)) (fun _ _ _ _ _ => qg_name (i := 6) nd rfl (by first | exact Or.inl rfl | exact Or.inr rfl)) (fun _ _ _ _ _ => qts_nil) (fun _ _ _ _ _ => qe_call (hs .f_need) rfl hr (by rfl) passL (qa_cons (qe_var (pv 6)) (qa_nil))) (by decide))) (qa_cons (qe_frz (qf_lc (own := [("value", 6)]) (ts := [6]) rfl nd (qi_seq rfl (qe_var (pv 3))) (blkOk_by (N := ["script", "pool", "program", "every", "lines", "sizes", "value"]) (sc := defScope s_law) (by decide +kernel)) (fun _ _ _ _ _ => qg_name (i := 6) nd rfl (by first | exact Or.inl rfl | exact Or.inr rfl)) (fun _ _ _ _ _ => qts_nil) (fun _ _ _ _ _ => qe_call (hs .f_law_need) rfl hr (by rfl) passL (qa_cons (qe_var (pv 6)) (qa_nil))) (by decide))) (qa_nil)))))) (qss_cons (qs_ret (qe_bl)) (qss_nil)) (qss_nil)) (qss_cons (qs_ret (qe_call (hs .f_law_same) rfl hr (by rfl) hx (qa_cons (qe_frz (qf_lst (qa_cons (qe_call (hs .f_boxes_in) rfl hr (by rfl) hx (qa_cons (qe_call (hs .f_from_trees_registry) rfl hr (by rfl) hx (qa_cons (qe_str) (qa_cons (qe_var (pv 2)) (qa_nil)))) (qa_nil))) (qa_cons (qe_call (hs .f_deeds_in) rfl hr (by rfl) hx (qa_cons (qe_var (pv 2)) (qa_nil))) (qa_nil))))) (qa_cons (qe_frz (qf_lst (qa_cons (qe_callB (q_max rfl) (by rfl) T.z_max PyProof.Rows.boot_max (qa_cons (qe_frz (qf_lc (own := [("value", 6)]) (ts := [6]) rfl nd (qi_seq rfl (qe_var (pv 3))) (blkOk_by (N := ["script", "pool", "program", "every", "lines", "sizes", "value"]) (sc := defScope s_law) (by decide +kernel)) (fun _ _ _ _ _ => qg_name (i := 6) nd rfl (by first | exact Or.inl rfl | exact Or.inr rfl)) (fun _ _ _ _ _ => qts_nil) (fun _ _ _ _ _ => qe_call (hs .f_law_need) rfl hr (by rfl) passL (qa_cons (qe_var (pv 6)) (qa_nil))) (by decide))) (qa_nil))) (qa_cons (qe_callB (q_len rfl) (by rfl) T.z_len PySem.boot_len (qa_cons (qe_var (pv 3)) (qa_nil))) (qa_nil))))) (qa_nil))))) (qss_nil))))))))
end Y

set_option Elab.async false
set_option linter.all false
set_option maxRecDepth 100000
set_option maxHeartbeats 4000000
namespace Y
open PySem PySem.Spec L2
def hnames0 : List PySem.Str := ["FORM", "SIZE", "NAMES", "MOST", "is_whole", "is_from", "is_tagged", "first_true", "fault_at", "first_of", "DEEPEST_expressions", "PAIRS", "has_shape", "is_expression", "names_in", "size", "MeaningError", "NotAllowed", "LONGEST", "must_be_few", "must_be_short", "is_line", "afters", "afters_lines", "endless_place", "fault", "fault_lines", "lines_of", "from_trees", "from_trees_lines"]
def hnames1 : List PySem.Str := ["BOXES", "is_code", "is_code_boxes", "afters_boxes", "reads", "filled", "fault_boxes", "need", "code_of", "code_of_boxes", "code_of_line", "code_of_line_boxes", "from_lines", "from_lines_boxes", "boxes_in", "is_deed", "is_deed_graphs", "is_end", "is_end_graphs", "is_block", "is_block_graphs", "leads", "fault_graphs", "leaders", "block_of", "from_lines_graphs", "are_names", "is_worked", "is_deed_singles", "is_end_singles"]
def hnames2 : List PySem.Str := ["is_block_singles", "handed", "given_in", "first_unknown", "known_at", "fault_singles", "renamed", "single_block", "from_graphs", "needless", "without_place", "used_names", "every_name", "with_other", "all_names", "renamed_end", "thinned", "TAKES", "GIVES", "is_code_stacks", "takes", "gives", "afters_stacks", "depths", "fault_stacks", "code_of_stacks", "code_of_line_stacks", "from_lines_stacks", "DEEPEST_trees", "is_deed_trees"]
def hnames3 : List PySem.Str := ["is_block_trees", "fault_trees", "deeds_in", "FAULTS", "boxes_of", "graphs_of", "singles_of", "stacks_of", "same", "FROM_TREES", "must_be_form", "from_trees_registry", "_law_same", "_law_pool", "_law_spread", "_law_draw", "_law_pick", "_law_expression", "_law_block", "_law_deed", "_law_program", "_law_need", "_law_deeds_of", "_law_lines_of", "_law_expressions_of", "_law_size_of"]
def hnames : List PySem.Str := hnames0 ++ hnames1 ++ hnames2 ++ hnames3
abbrev lawIx : Nat := 146
abbrev HR : PySem.W.OpenRow := PySem.W.OpenLaw.row PySem.Challenge.rw_everymeaning_k80_whole_sizes_of_forms
abbrev HQ : Program := PySem.W.view HR.prog [lawIx]
abbrev dd : Fnm → He.DefD
  | .f_size => ⟨("size", none), "size", "size", defArgs s_size, defBody s_size, defScope s_size, [], []⟩
  | .f_must_be_few => ⟨("must_be_few", none), "must_be_few", "must_be_few", defArgs s_must_be_few, defBody s_must_be_few, defScope s_must_be_few, [], []⟩
  | .f_must_be_short => ⟨("must_be_short", none), "must_be_short", "must_be_short", defArgs s_must_be_short, defBody s_must_be_short, defScope s_must_be_short, [], []⟩
  | .f_lines_of => ⟨("lines_of", none), "lines_of", "lines_of", defArgs s_lines_of, defBody s_lines_of, defScope s_lines_of, [], []⟩
  | .f_from_trees_lines => ⟨("from_trees_lines", none), "from_trees", "from_trees", defArgs s_from_trees_lines, defBody s_from_trees_lines, defScope s_from_trees_lines, [], []⟩
  | .f_need => ⟨("need", none), "need", "need", defArgs s_need, defBody s_need, defScope s_need, [], []⟩
  | .f_code_of_boxes => ⟨("code_of_boxes", none), "code_of", "code_of", defArgs s_code_of_boxes, defBody s_code_of_boxes, defScope s_code_of_boxes, [], []⟩
  | .f_code_of_line_boxes => ⟨("code_of_line_boxes", none), "code_of_line", "code_of_line", defArgs s_code_of_line_boxes, defBody s_code_of_line_boxes, defScope s_code_of_line_boxes, [], []⟩
  | .f_from_lines_boxes => ⟨("from_lines_boxes", none), "from_lines", "from_lines", defArgs s_from_lines_boxes, defBody s_from_lines_boxes, defScope s_from_lines_boxes, [], []⟩
  | .f_boxes_in => ⟨("boxes_in", none), "boxes_in", "boxes_in", defArgs s_boxes_in, defBody s_boxes_in, defScope s_boxes_in, [], []⟩
  | .f_code_of_stacks => ⟨("code_of_stacks", none), "code_of", "code_of", defArgs s_code_of_stacks, defBody s_code_of_stacks, defScope s_code_of_stacks, [], []⟩
  | .f_code_of_line_stacks => ⟨("code_of_line_stacks", none), "code_of_line", "code_of_line", defArgs s_code_of_line_stacks, defBody s_code_of_line_stacks, defScope s_code_of_line_stacks, [], []⟩
  | .f_from_lines_stacks => ⟨("from_lines_stacks", none), "from_lines", "from_lines", defArgs s_from_lines_stacks, defBody s_from_lines_stacks, defScope s_from_lines_stacks, [], []⟩
  | .f_deeds_in => ⟨("deeds_in", none), "deeds_in", "deeds_in", defArgs s_deeds_in, defBody s_deeds_in, defScope s_deeds_in, [], []⟩
  | .f_boxes_of => ⟨("boxes_of", none), "boxes_of", "boxes_of", defArgs s_boxes_of, defBody s_boxes_of, defScope s_boxes_of, [], []⟩
  | .f_stacks_of => ⟨("stacks_of", none), "stacks_of", "stacks_of", defArgs s_stacks_of, defBody s_stacks_of, defScope s_stacks_of, [], []⟩
  | .f_must_be_form => ⟨("must_be_form", none), "must_be_form", "must_be_form", defArgs s_must_be_form, defBody s_must_be_form, defScope s_must_be_form, [], []⟩
  | .f_from_trees_registry => ⟨("from_trees_registry", none), "from_trees", "from_trees", defArgs s_from_trees_registry, defBody s_from_trees_registry, defScope s_from_trees_registry, [], []⟩
  | .f_law_same => ⟨("_law_same", none), "_law_same", "_law_same", defArgs s__law_same, defBody s__law_same, defScope s__law_same, [], []⟩
  | .f_law_pool => ⟨("_law_pool", none), "_law_pool", "_law_pool", defArgs s__law_pool, defBody s__law_pool, defScope s__law_pool, [], []⟩
  | .f_law_spread => ⟨("_law_spread", none), "_law_spread", "_law_spread", defArgs s__law_spread, defBody s__law_spread, defScope s__law_spread, [], []⟩
  | .f_law_draw => ⟨("_law_draw", none), "_law_draw", "_law_draw", defArgs s__law_draw, defBody s__law_draw, defScope s__law_draw, [], []⟩
  | .f_law_pick => ⟨("_law_pick", none), "_law_pick", "_law_pick", defArgs s__law_pick, defBody s__law_pick, defScope s__law_pick, [], []⟩
  | .f_law_expression => ⟨("_law_expression", none), "_law_expression", "_law_expression", defArgs s__law_expression, defBody s__law_expression, defScope s__law_expression, [], []⟩
  | .f_law_block => ⟨("_law_block", none), "_law_block", "_law_block", defArgs s__law_block, defBody s__law_block, defScope s__law_block, [], []⟩
  | .f_law_deed => ⟨("_law_deed", none), "_law_deed", "_law_deed", defArgs s__law_deed, defBody s__law_deed, defScope s__law_deed, [], []⟩
  | .f_law_program => ⟨("_law_program", none), "_law_program", "_law_program", defArgs s__law_program, defBody s__law_program, defScope s__law_program, [], []⟩
  | .f_law_need => ⟨("_law_need", none), "_law_need", "_law_need", defArgs s__law_need, defBody s__law_need, defScope s__law_need, [], []⟩
  | .f_law_deeds_of => ⟨("_law_deeds_of", none), "_law_deeds_of", "_law_deeds_of", defArgs s__law_deeds_of, defBody s__law_deeds_of, defScope s__law_deeds_of, [], []⟩
  | .f_law_lines_of => ⟨("_law_lines_of", none), "_law_lines_of", "_law_lines_of", defArgs s__law_lines_of, defBody s__law_lines_of, defScope s__law_lines_of, [], []⟩
  | .f_law_expressions_of => ⟨("_law_expressions_of", none), "_law_expressions_of", "_law_expressions_of", defArgs s__law_expressions_of, defBody s__law_expressions_of, defScope s__law_expressions_of, [], []⟩
  | .f_law_size_of => ⟨("_law_size_of", none), "_law_size_of", "_law_size_of", defArgs s__law_size_of, defBody s__law_size_of, defScope s__law_size_of, [], []⟩
  | .f_law => ⟨("law", none), "law", "law", defArgs s_law, defBody s_law, defScope s_law, [], []⟩
abbrev hfn : List He.DefD := [dd .f_size, dd .f_must_be_few, dd .f_must_be_short, dd .f_lines_of, dd .f_from_trees_lines, dd .f_need, dd .f_code_of_boxes, dd .f_code_of_line_boxes, dd .f_from_lines_boxes, dd .f_boxes_in, dd .f_code_of_stacks, dd .f_code_of_line_stacks, dd .f_from_lines_stacks, dd .f_deeds_in, dd .f_boxes_of, dd .f_stacks_of, dd .f_must_be_form, dd .f_from_trees_registry, dd .f_law_same, dd .f_law_pool, dd .f_law_spread, dd .f_law_draw, dd .f_law_pick, dd .f_law_expression, dd .f_law_block, dd .f_law_deed, dd .f_law_program, dd .f_law_need, dd .f_law_deeds_of, dd .f_law_lines_of, dd .f_law_expressions_of, dd .f_law_size_of, dd .f_law]
abbrev hv_FAULTS : List (Str × He.Dv) := [("boxes", .glo "fault_boxes"), ("graphs", .glo "fault_graphs"), ("lines", .glo "fault_lines"), ("singles", .glo "fault_singles"), ("stacks", .glo "fault_stacks"), ("trees", .glo "fault_trees")]
abbrev hv_FROM_TREES : List (Str × He.Dv) := [("boxes", .glo "boxes_of"), ("graphs", .glo "graphs_of"), ("lines", .glo "from_trees_lines"), ("singles", .glo "singles_of"), ("stacks", .glo "stacks_of"), ("trees", .glo "same")]
abbrev hfa0 : List He.Fa := [.glo "size", .glo "must_be_few", .glo "must_be_short", .glo "lines_of", .glo "from_trees_lines", .glo "need", .glo "code_of_boxes", .glo "code_of_line_boxes", .glo "from_lines_boxes", .glo "boxes_in", .glo "code_of_stacks", .glo "code_of_line_stacks", .glo "from_lines_stacks", .glo "deeds_in", .glo "boxes_of", .glo "stacks_of", .glo "must_be_form", .glo "from_trees_registry", .glo "_law_same", .glo "_law_pool", .glo "_law_spread", .glo "_law_draw", .glo "_law_pick", .glo "_law_expression", .glo "_law_block", .glo "_law_deed", .glo "_law_program", .glo "_law_need", .glo "_law_deeds_of", .glo "_law_lines_of"]
abbrev hfa1 : List He.Fa := [.glo "_law_expressions_of", .glo "_law_size_of", .glo "law", .free "bool", .free "int", .free "isinstance", .free "len", .free "list", .free "max", .free "range", .free "sorted", .free "str", .free "sum", .free "tuple", .glo "FAULTS", .glo "FROM_TREES", .int "LONGEST" 100000, .glo "PAIRS"]
abbrev hfa : List He.Fa := hfa0 ++ hfa1
abbrev hts : List He.Tab := [(fun K => He.ga K "FAULTS", ["boxes", "graphs", "lines", "singles", "stacks", "trees"]), (fun K => He.ga K "FROM_TREES", ["boxes", "graphs", "lines", "singles", "stacks", "trees"])]
abbrev hex : PySem.W.Frag → Bool := fun K => He.valsB K (He.ga K "FAULTS") hv_FAULTS && (He.valsB K (He.ga K "FROM_TREES") hv_FROM_TREES && (He.tupB K "PAIRS" [.str "plus", .str "minus", .str "times", .str "less", .str "same"] && (true)))
abbrev hk : PySem.W.Hook := He.hookX 2 hfa hfn hts [] hex
def hob (s : PySem.W.SharedT) : He.AlX := He.obsX 2 hfa hfn hts [] hex (HandSHeadRun.getT s)
theorem hob_eq (s : PySem.W.SharedT) : hob s = hk.obs s.abs := He.obsX_eq (HandSHeadRun.getT_eq s)
theorem hrun (w : World) : HandSHeadRun.RunEq HR HQ hk hob 8000 hnames w := by
  refine PySem.W.byRow2 "special-get-raises" (P := fun w => HandSHeadRun.RunEq HR HQ hk hob 8000 hnames w) ?_ ?_ w
  · intro w os
    kernel_rfl
  · intro w os
    kernel_rfl
end Y

set_option Elab.async false
set_option linter.all false
set_option maxRecDepth 100000
set_option maxHeartbeats 4000000
namespace Y
open PySem PySem.Spec L2
variable {P : Program} {w : World} {G : Gx} {mg : Str → Option Value} {base : Heap}
abbrev FnAt (G : Gx) (mg : Str → Option Value) (f : Fnm) : Prop := ∃ ad fd, mg (nm f) = some (.ref ad) ∧ FunD G.K (dd f).name (dd f).qual (dd f).params (dd f).body (dd f).scope [] [] ad fd
theorem has_size (T : Txt G w mg) (F : FnAt G mg .f_size) : Has P w G mg base 0 (nm .f_size) (ar .f_size) (prog 0 .f_size) ∧ ∀ k, HasAll P w G mg base k (prog k) → Has P w G mg base (k + 1) (nm .f_size) (ar .f_size) (prog (k + 1) .f_size) := by
  obtain ⟨ad, fd, hm, F⟩ := F
  have hb : Binds G.K fd ["expression"] [] := F.bindsN fun _ _ _ _ _ _ us hl => match us, hl with | [_], _ => rfl
  exact ⟨has_0 hm F.kp hb rfl, fun k ih => ⟨ad, fd, _, hm, F.kp, hb, fn_ok (fun_of F) sc_size rfl rfl fun cdv A outer s H E hr => q_size T ih hr⟩⟩
theorem has_must_be_few (T : Txt G w mg) (F : FnAt G mg .f_must_be_few) : Has P w G mg base 0 (nm .f_must_be_few) (ar .f_must_be_few) (prog 0 .f_must_be_few) ∧ ∀ k, HasAll P w G mg base k (prog k) → Has P w G mg base (k + 1) (nm .f_must_be_few) (ar .f_must_be_few) (prog (k + 1) .f_must_be_few) := by
  obtain ⟨ad, fd, hm, F⟩ := F
  have hb : Binds G.K fd ["count"] [] := F.bindsN fun _ _ _ _ _ _ us hl => match us, hl with | [_], _ => rfl
  exact ⟨has_0 hm F.kp hb rfl, fun k ih => ⟨ad, fd, _, hm, F.kp, hb, fn_ok (fun_of F) sc_must_be_few rfl rfl fun cdv A outer s H E hr => q_must_be_few T ih hr⟩⟩
theorem has_must_be_short (T : Txt G w mg) (F : FnAt G mg .f_must_be_short) : Has P w G mg base 0 (nm .f_must_be_short) (ar .f_must_be_short) (prog 0 .f_must_be_short) ∧ ∀ k, HasAll P w G mg base k (prog k) → Has P w G mg base (k + 1) (nm .f_must_be_short) (ar .f_must_be_short) (prog (k + 1) .f_must_be_short) := by
  obtain ⟨ad, fd, hm, F⟩ := F
  have hb : Binds G.K fd ["found"] [] := F.bindsN fun _ _ _ _ _ _ us hl => match us, hl with | [_], _ => rfl
  exact ⟨has_0 hm F.kp hb rfl, fun k ih => ⟨ad, fd, _, hm, F.kp, hb, fn_ok (fun_of F) sc_must_be_short rfl rfl fun cdv A outer s H E hr => q_must_be_short T ih hr⟩⟩
theorem has_lines_of (T : Txt G w mg) (F : FnAt G mg .f_lines_of) : Has P w G mg base 0 (nm .f_lines_of) (ar .f_lines_of) (prog 0 .f_lines_of) ∧ ∀ k, HasAll P w G mg base k (prog k) → Has P w G mg base (k + 1) (nm .f_lines_of) (ar .f_lines_of) (prog (k + 1) .f_lines_of) := by
  obtain ⟨ad, fd, hm, F⟩ := F
  have hb : Binds G.K fd ["block", "begin"] [] := F.bindsN fun _ _ _ _ _ _ us hl => match us, hl with | [_, _], _ => rfl
  exact ⟨has_0 hm F.kp hb rfl, fun k ih => ⟨ad, fd, _, hm, F.kp, hb, fn_ok (fun_of F) sc_lines_of rfl rfl fun cdv A outer s H E hr => q_lines_of T ih hr⟩⟩
theorem has_from_trees_lines (T : Txt G w mg) (F : FnAt G mg .f_from_trees_lines) : Has P w G mg base 0 (nm .f_from_trees_lines) (ar .f_from_trees_lines) (prog 0 .f_from_trees_lines) ∧ ∀ k, HasAll P w G mg base k (prog k) → Has P w G mg base (k + 1) (nm .f_from_trees_lines) (ar .f_from_trees_lines) (prog (k + 1) .f_from_trees_lines) := by
  obtain ⟨ad, fd, hm, F⟩ := F
  have hb : Binds G.K fd ["value"] [] := F.bindsN fun _ _ _ _ _ _ us hl => match us, hl with | [_], _ => rfl
  exact ⟨has_0 hm F.kp hb rfl, fun k ih => ⟨ad, fd, _, hm, F.kp, hb, fn_ok (fun_of F) sc_from_trees_lines rfl rfl fun cdv A outer s H E hr => q_from_trees_lines T ih hr⟩⟩
theorem has_need (T : Txt G w mg) (F : FnAt G mg .f_need) : Has P w G mg base 0 (nm .f_need) (ar .f_need) (prog 0 .f_need) ∧ ∀ k, HasAll P w G mg base k (prog k) → Has P w G mg base (k + 1) (nm .f_need) (ar .f_need) (prog (k + 1) .f_need) := by
  obtain ⟨ad, fd, hm, F⟩ := F
  have hb : Binds G.K fd ["expression"] [] := F.bindsN fun _ _ _ _ _ _ us hl => match us, hl with | [_], _ => rfl
  exact ⟨has_0 hm F.kp hb rfl, fun k ih => ⟨ad, fd, _, hm, F.kp, hb, fn_ok (fun_of F) sc_need rfl rfl fun cdv A outer s H E hr => q_need T ih hr⟩⟩
theorem has_code_of_boxes (T : Txt G w mg) (F : FnAt G mg .f_code_of_boxes) : Has P w G mg base 0 (nm .f_code_of_boxes) (ar .f_code_of_boxes) (prog 0 .f_code_of_boxes) ∧ ∀ k, HasAll P w G mg base k (prog k) → Has P w G mg base (k + 1) (nm .f_code_of_boxes) (ar .f_code_of_boxes) (prog (k + 1) .f_code_of_boxes) := by
  obtain ⟨ad, fd, hm, F⟩ := F
  have hb : Binds G.K fd ["expression", "box"] [] := F.bindsN fun _ _ _ _ _ _ us hl => match us, hl with | [_, _], _ => rfl
  exact ⟨has_0 hm F.kp hb rfl, fun k ih => ⟨ad, fd, _, hm, F.kp, hb, fn_ok (fun_of F) sc_code_of_boxes rfl rfl fun cdv A outer s H E hr => q_code_of_boxes T ih hr⟩⟩
theorem has_code_of_line_boxes (T : Txt G w mg) (F : FnAt G mg .f_code_of_line_boxes) : Has P w G mg base 0 (nm .f_code_of_line_boxes) (ar .f_code_of_line_boxes) (prog 0 .f_code_of_line_boxes) ∧ ∀ k, HasAll P w G mg base k (prog k) → Has P w G mg base (k + 1) (nm .f_code_of_line_boxes) (ar .f_code_of_line_boxes) (prog (k + 1) .f_code_of_line_boxes) := by
  obtain ⟨ad, fd, hm, F⟩ := F
  have hb : Binds G.K fd ["line"] [] := F.bindsN fun _ _ _ _ _ _ us hl => match us, hl with | [_], _ => rfl
  exact ⟨has_0 hm F.kp hb rfl, fun k ih => ⟨ad, fd, _, hm, F.kp, hb, fn_ok (fun_of F) sc_code_of_line_boxes rfl rfl fun cdv A outer s H E hr => q_code_of_line_boxes T ih hr⟩⟩
theorem has_from_lines_boxes (T : Txt G w mg) (F : FnAt G mg .f_from_lines_boxes) : Has P w G mg base 0 (nm .f_from_lines_boxes) (ar .f_from_lines_boxes) (prog 0 .f_from_lines_boxes) ∧ ∀ k, HasAll P w G mg base k (prog k) → Has P w G mg base (k + 1) (nm .f_from_lines_boxes) (ar .f_from_lines_boxes) (prog (k + 1) .f_from_lines_boxes) := by
  obtain ⟨ad, fd, hm, F⟩ := F
  have hb : Binds G.K fd ["value"] [] := F.bindsN fun _ _ _ _ _ _ us hl => match us, hl with | [_], _ => rfl
  exact ⟨has_0 hm F.kp hb rfl, fun k ih => ⟨ad, fd, _, hm, F.kp, hb, fn_ok (fun_of F) sc_from_lines_boxes rfl rfl fun cdv A outer s H E hr => q_from_lines_boxes T ih hr⟩⟩
theorem has_boxes_in (T : Txt G w mg) (F : FnAt G mg .f_boxes_in) : Has P w G mg base 0 (nm .f_boxes_in) (ar .f_boxes_in) (prog 0 .f_boxes_in) ∧ ∀ k, HasAll P w G mg base k (prog k) → Has P w G mg base (k + 1) (nm .f_boxes_in) (ar .f_boxes_in) (prog (k + 1) .f_boxes_in) := by
  obtain ⟨ad, fd, hm, F⟩ := F
  have hb : Binds G.K fd ["value"] [] := F.bindsN fun _ _ _ _ _ _ us hl => match us, hl with | [_], _ => rfl
  exact ⟨has_0 hm F.kp hb rfl, fun k ih => ⟨ad, fd, _, hm, F.kp, hb, fn_ok (fun_of F) sc_boxes_in rfl rfl fun cdv A outer s H E hr => q_boxes_in T ih hr⟩⟩
theorem has_code_of_stacks (T : Txt G w mg) (F : FnAt G mg .f_code_of_stacks) : Has P w G mg base 0 (nm .f_code_of_stacks) (ar .f_code_of_stacks) (prog 0 .f_code_of_stacks) ∧ ∀ k, HasAll P w G mg base k (prog k) → Has P w G mg base (k + 1) (nm .f_code_of_stacks) (ar .f_code_of_stacks) (prog (k + 1) .f_code_of_stacks) := by
  obtain ⟨ad, fd, hm, F⟩ := F
  have hb : Binds G.K fd ["expression"] [] := F.bindsN fun _ _ _ _ _ _ us hl => match us, hl with | [_], _ => rfl
  exact ⟨has_0 hm F.kp hb rfl, fun k ih => ⟨ad, fd, _, hm, F.kp, hb, fn_ok (fun_of F) sc_code_of_stacks rfl rfl fun cdv A outer s H E hr => q_code_of_stacks T ih hr⟩⟩
theorem has_code_of_line_stacks (T : Txt G w mg) (F : FnAt G mg .f_code_of_line_stacks) : Has P w G mg base 0 (nm .f_code_of_line_stacks) (ar .f_code_of_line_stacks) (prog 0 .f_code_of_line_stacks) ∧ ∀ k, HasAll P w G mg base k (prog k) → Has P w G mg base (k + 1) (nm .f_code_of_line_stacks) (ar .f_code_of_line_stacks) (prog (k + 1) .f_code_of_line_stacks) := by
  obtain ⟨ad, fd, hm, F⟩ := F
  have hb : Binds G.K fd ["line"] [] := F.bindsN fun _ _ _ _ _ _ us hl => match us, hl with | [_], _ => rfl
  exact ⟨has_0 hm F.kp hb rfl, fun k ih => ⟨ad, fd, _, hm, F.kp, hb, fn_ok (fun_of F) sc_code_of_line_stacks rfl rfl fun cdv A outer s H E hr => q_code_of_line_stacks T ih hr⟩⟩
theorem has_from_lines_stacks (T : Txt G w mg) (F : FnAt G mg .f_from_lines_stacks) : Has P w G mg base 0 (nm .f_from_lines_stacks) (ar .f_from_lines_stacks) (prog 0 .f_from_lines_stacks) ∧ ∀ k, HasAll P w G mg base k (prog k) → Has P w G mg base (k + 1) (nm .f_from_lines_stacks) (ar .f_from_lines_stacks) (prog (k + 1) .f_from_lines_stacks) := by
  obtain ⟨ad, fd, hm, F⟩ := F
  have hb : Binds G.K fd ["value"] [] := F.bindsN fun _ _ _ _ _ _ us hl => match us, hl with | [_], _ => rfl
  exact ⟨has_0 hm F.kp hb rfl, fun k ih => ⟨ad, fd, _, hm, F.kp, hb, fn_ok (fun_of F) sc_from_lines_stacks rfl rfl fun cdv A outer s H E hr => q_from_lines_stacks T ih hr⟩⟩
theorem has_deeds_in (T : Txt G w mg) (F : FnAt G mg .f_deeds_in) : Has P w G mg base 0 (nm .f_deeds_in) (ar .f_deeds_in) (prog 0 .f_deeds_in) ∧ ∀ k, HasAll P w G mg base k (prog k) → Has P w G mg base (k + 1) (nm .f_deeds_in) (ar .f_deeds_in) (prog (k + 1) .f_deeds_in) := by
  obtain ⟨ad, fd, hm, F⟩ := F
  have hb : Binds G.K fd ["block"] [] := F.bindsN fun _ _ _ _ _ _ us hl => match us, hl with | [_], _ => rfl
  exact ⟨has_0 hm F.kp hb rfl, fun k ih => ⟨ad, fd, _, hm, F.kp, hb, fn_ok (fun_of F) sc_deeds_in rfl rfl fun cdv A outer s H E hr => q_deeds_in T ih hr⟩⟩
theorem has_boxes_of (T : Txt G w mg) (F : FnAt G mg .f_boxes_of) : Has P w G mg base 0 (nm .f_boxes_of) (ar .f_boxes_of) (prog 0 .f_boxes_of) ∧ ∀ k, HasAll P w G mg base k (prog k) → Has P w G mg base (k + 1) (nm .f_boxes_of) (ar .f_boxes_of) (prog (k + 1) .f_boxes_of) := by
  obtain ⟨ad, fd, hm, F⟩ := F
  have hb : Binds G.K fd ["value"] [] := F.bindsN fun _ _ _ _ _ _ us hl => match us, hl with | [_], _ => rfl
  exact ⟨has_0 hm F.kp hb rfl, fun k ih => ⟨ad, fd, _, hm, F.kp, hb, fn_ok (fun_of F) sc_boxes_of rfl rfl fun cdv A outer s H E hr => q_boxes_of T ih hr⟩⟩
theorem has_stacks_of (T : Txt G w mg) (F : FnAt G mg .f_stacks_of) : Has P w G mg base 0 (nm .f_stacks_of) (ar .f_stacks_of) (prog 0 .f_stacks_of) ∧ ∀ k, HasAll P w G mg base k (prog k) → Has P w G mg base (k + 1) (nm .f_stacks_of) (ar .f_stacks_of) (prog (k + 1) .f_stacks_of) := by
  obtain ⟨ad, fd, hm, F⟩ := F
  have hb : Binds G.K fd ["value"] [] := F.bindsN fun _ _ _ _ _ _ us hl => match us, hl with | [_], _ => rfl
  exact ⟨has_0 hm F.kp hb rfl, fun k ih => ⟨ad, fd, _, hm, F.kp, hb, fn_ok (fun_of F) sc_stacks_of rfl rfl fun cdv A outer s H E hr => q_stacks_of T ih hr⟩⟩
theorem has_must_be_form (T : Txt G w mg) (F : FnAt G mg .f_must_be_form) : Has P w G mg base 0 (nm .f_must_be_form) (ar .f_must_be_form) (prog 0 .f_must_be_form) ∧ ∀ k, HasAll P w G mg base k (prog k) → Has P w G mg base (k + 1) (nm .f_must_be_form) (ar .f_must_be_form) (prog (k + 1) .f_must_be_form) := by
  obtain ⟨ad, fd, hm, F⟩ := F
  have hb : Binds G.K fd ["form"] [] := F.bindsN fun _ _ _ _ _ _ us hl => match us, hl with | [_], _ => rfl
  exact ⟨has_0 hm F.kp hb rfl, fun k ih => ⟨ad, fd, _, hm, F.kp, hb, fn_ok (fun_of F) sc_must_be_form rfl rfl fun cdv A outer s H E hr => q_must_be_form T ih hr⟩⟩
theorem has_from_trees_registry (T : Txt G w mg) (F : FnAt G mg .f_from_trees_registry) : Has P w G mg base 0 (nm .f_from_trees_registry) (ar .f_from_trees_registry) (prog 0 .f_from_trees_registry) ∧ ∀ k, HasAll P w G mg base k (prog k) → Has P w G mg base (k + 1) (nm .f_from_trees_registry) (ar .f_from_trees_registry) (prog (k + 1) .f_from_trees_registry) := by
  obtain ⟨ad, fd, hm, F⟩ := F
  have hb : Binds G.K fd ["form", "value"] [] := F.bindsN fun _ _ _ _ _ _ us hl => match us, hl with | [_, _], _ => rfl
  exact ⟨has_0 hm F.kp hb rfl, fun k ih => ⟨ad, fd, _, hm, F.kp, hb, fn_ok (fun_of F) sc_from_trees_registry rfl rfl fun cdv A outer s H E hr => q_from_trees_registry T ih hr⟩⟩
theorem has__law_same (T : Txt G w mg) (F : FnAt G mg .f_law_same) : Has P w G mg base 0 (nm .f_law_same) (ar .f_law_same) (prog 0 .f_law_same) ∧ ∀ k, HasAll P w G mg base k (prog k) → Has P w G mg base (k + 1) (nm .f_law_same) (ar .f_law_same) (prog (k + 1) .f_law_same) := by
  obtain ⟨ad, fd, hm, F⟩ := F
  have hb : Binds G.K fd ["actual", "due"] [] := F.bindsN fun _ _ _ _ _ _ us hl => match us, hl with | [_, _], _ => rfl
  exact ⟨has_0 hm F.kp hb rfl, fun k ih => ⟨ad, fd, _, hm, F.kp, hb, fn_ok (fun_of F) sc__law_same rfl rfl fun cdv A outer s H E hr => q__law_same T ih hr⟩⟩
theorem has__law_pool (T : Txt G w mg) (F : FnAt G mg .f_law_pool) : Has P w G mg base 0 (nm .f_law_pool) (ar .f_law_pool) (prog 0 .f_law_pool) ∧ ∀ k, HasAll P w G mg base k (prog k) → Has P w G mg base (k + 1) (nm .f_law_pool) (ar .f_law_pool) (prog (k + 1) .f_law_pool) := by
  obtain ⟨ad, fd, hm, F⟩ := F
  have hb : Binds G.K fd ["script"] [] := F.bindsN fun _ _ _ _ _ _ us hl => match us, hl with | [_], _ => rfl
  exact ⟨has_0 hm F.kp hb rfl, fun k ih => ⟨ad, fd, _, hm, F.kp, hb, fn_ok (fun_of F) sc__law_pool rfl rfl fun cdv A outer s H E hr => q__law_pool T ih hr⟩⟩
theorem has__law_spread (T : Txt G w mg) (F : FnAt G mg .f_law_spread) : Has P w G mg base 0 (nm .f_law_spread) (ar .f_law_spread) (prog 0 .f_law_spread) ∧ ∀ k, HasAll P w G mg base k (prog k) → Has P w G mg base (k + 1) (nm .f_law_spread) (ar .f_law_spread) (prog (k + 1) .f_law_spread) := by
  obtain ⟨ad, fd, hm, F⟩ := F
  have hb : Binds G.K fd ["cell"] [] := F.bindsN fun _ _ _ _ _ _ us hl => match us, hl with | [_], _ => rfl
  exact ⟨has_0 hm F.kp hb rfl, fun k ih => ⟨ad, fd, _, hm, F.kp, hb, fn_ok (fun_of F) sc__law_spread rfl rfl fun cdv A outer s H E hr => q__law_spread T ih hr⟩⟩
theorem has__law_draw (T : Txt G w mg) (F : FnAt G mg .f_law_draw) : Has P w G mg base 0 (nm .f_law_draw) (ar .f_law_draw) (prog 0 .f_law_draw) ∧ ∀ k, HasAll P w G mg base k (prog k) → Has P w G mg base (k + 1) (nm .f_law_draw) (ar .f_law_draw) (prog (k + 1) .f_law_draw) := by
  obtain ⟨ad, fd, hm, F⟩ := F
  have hb : Binds G.K fd ["pool", "many"] [] := F.bindsN fun _ _ _ _ _ _ us hl => match us, hl with | [_, _], _ => rfl
  exact ⟨has_0 hm F.kp hb rfl, fun k ih => ⟨ad, fd, _, hm, F.kp, hb, fn_ok (fun_of F) sc__law_draw rfl rfl fun cdv A outer s H E hr => q__law_draw T ih hr⟩⟩
theorem has__law_pick (T : Txt G w mg) (F : FnAt G mg .f_law_pick) : Has P w G mg base 0 (nm .f_law_pick) (ar .f_law_pick) (prog 0 .f_law_pick) ∧ ∀ k, HasAll P w G mg base k (prog k) → Has P w G mg base (k + 1) (nm .f_law_pick) (ar .f_law_pick) (prog (k + 1) .f_law_pick) := by
  obtain ⟨ad, fd, hm, F⟩ := F
  have hb : Binds G.K fd ["pool", "items"] [] := F.bindsN fun _ _ _ _ _ _ us hl => match us, hl with | [_, _], _ => rfl
  exact ⟨has_0 hm F.kp hb rfl, fun k ih => ⟨ad, fd, _, hm, F.kp, hb, fn_ok (fun_of F) sc__law_pick rfl rfl fun cdv A outer s H E hr => q__law_pick T ih hr⟩⟩
theorem has__law_expression (T : Txt G w mg) (F : FnAt G mg .f_law_expression) : Has P w G mg base 0 (nm .f_law_expression) (ar .f_law_expression) (prog 0 .f_law_expression) ∧ ∀ k, HasAll P w G mg base k (prog k) → Has P w G mg base (k + 1) (nm .f_law_expression) (ar .f_law_expression) (prog (k + 1) .f_law_expression) := by
  obtain ⟨ad, fd, hm, F⟩ := F
  have hb : Binds G.K fd ["pool", "deep"] [] := F.bindsN fun _ _ _ _ _ _ us hl => match us, hl with | [_, _], _ => rfl
  exact ⟨has_0 hm F.kp hb rfl, fun k ih => ⟨ad, fd, _, hm, F.kp, hb, fn_ok (fun_of F) sc__law_expression rfl rfl fun cdv A outer s H E hr => q__law_expression T ih hr⟩⟩
theorem has__law_block (T : Txt G w mg) (F : FnAt G mg .f_law_block) : Has P w G mg base 0 (nm .f_law_block) (ar .f_law_block) (prog 0 .f_law_block) ∧ ∀ k, HasAll P w G mg base k (prog k) → Has P w G mg base (k + 1) (nm .f_law_block) (ar .f_law_block) (prog (k + 1) .f_law_block) := by
  obtain ⟨ad, fd, hm, F⟩ := F
  have hb : Binds G.K fd ["pool", "deep"] [] := F.bindsN fun _ _ _ _ _ _ us hl => match us, hl with | [_, _], _ => rfl
  exact ⟨has_0 hm F.kp hb rfl, fun k ih => ⟨ad, fd, _, hm, F.kp, hb, fn_ok (fun_of F) sc__law_block rfl rfl fun cdv A outer s H E hr => q__law_block T ih hr⟩⟩
theorem has__law_deed (T : Txt G w mg) (F : FnAt G mg .f_law_deed) : Has P w G mg base 0 (nm .f_law_deed) (ar .f_law_deed) (prog 0 .f_law_deed) ∧ ∀ k, HasAll P w G mg base k (prog k) → Has P w G mg base (k + 1) (nm .f_law_deed) (ar .f_law_deed) (prog (k + 1) .f_law_deed) := by
  obtain ⟨ad, fd, hm, F⟩ := F
  have hb : Binds G.K fd ["pool", "deep"] [] := F.bindsN fun _ _ _ _ _ _ us hl => match us, hl with | [_, _], _ => rfl
  exact ⟨has_0 hm F.kp hb rfl, fun k ih => ⟨ad, fd, _, hm, F.kp, hb, fn_ok (fun_of F) sc__law_deed rfl rfl fun cdv A outer s H E hr => q__law_deed T ih hr⟩⟩
theorem has__law_program (T : Txt G w mg) (F : FnAt G mg .f_law_program) : Has P w G mg base 0 (nm .f_law_program) (ar .f_law_program) (prog 0 .f_law_program) ∧ ∀ k, HasAll P w G mg base k (prog k) → Has P w G mg base (k + 1) (nm .f_law_program) (ar .f_law_program) (prog (k + 1) .f_law_program) := by
  obtain ⟨ad, fd, hm, F⟩ := F
  have hb : Binds G.K fd ["pool"] [] := F.bindsN fun _ _ _ _ _ _ us hl => match us, hl with | [_], _ => rfl
  exact ⟨has_0 hm F.kp hb rfl, fun k ih => ⟨ad, fd, _, hm, F.kp, hb, fn_ok (fun_of F) sc__law_program rfl rfl fun cdv A outer s H E hr => q__law_program T ih hr⟩⟩
theorem has__law_need (T : Txt G w mg) (F : FnAt G mg .f_law_need) : Has P w G mg base 0 (nm .f_law_need) (ar .f_law_need) (prog 0 .f_law_need) ∧ ∀ k, HasAll P w G mg base k (prog k) → Has P w G mg base (k + 1) (nm .f_law_need) (ar .f_law_need) (prog (k + 1) .f_law_need) := by
  obtain ⟨ad, fd, hm, F⟩ := F
  have hb : Binds G.K fd ["expression"] [] := F.bindsN fun _ _ _ _ _ _ us hl => match us, hl with | [_], _ => rfl
  exact ⟨has_0 hm F.kp hb rfl, fun k ih => ⟨ad, fd, _, hm, F.kp, hb, fn_ok (fun_of F) sc__law_need rfl rfl fun cdv A outer s H E hr => q__law_need T ih hr⟩⟩
theorem has__law_deeds_of (T : Txt G w mg) (F : FnAt G mg .f_law_deeds_of) : Has P w G mg base 0 (nm .f_law_deeds_of) (ar .f_law_deeds_of) (prog 0 .f_law_deeds_of) ∧ ∀ k, HasAll P w G mg base k (prog k) → Has P w G mg base (k + 1) (nm .f_law_deeds_of) (ar .f_law_deeds_of) (prog (k + 1) .f_law_deeds_of) := by
  obtain ⟨ad, fd, hm, F⟩ := F
  have hb : Binds G.K fd ["block"] [] := F.bindsN fun _ _ _ _ _ _ us hl => match us, hl with | [_], _ => rfl
  exact ⟨has_0 hm F.kp hb rfl, fun k ih => ⟨ad, fd, _, hm, F.kp, hb, fn_ok (fun_of F) sc__law_deeds_of rfl rfl fun cdv A outer s H E hr => q__law_deeds_of T ih hr⟩⟩
theorem has__law_lines_of (T : Txt G w mg) (F : FnAt G mg .f_law_lines_of) : Has P w G mg base 0 (nm .f_law_lines_of) (ar .f_law_lines_of) (prog 0 .f_law_lines_of) ∧ ∀ k, HasAll P w G mg base k (prog k) → Has P w G mg base (k + 1) (nm .f_law_lines_of) (ar .f_law_lines_of) (prog (k + 1) .f_law_lines_of) := by
  obtain ⟨ad, fd, hm, F⟩ := F
  have hb : Binds G.K fd ["block"] [] := F.bindsN fun _ _ _ _ _ _ us hl => match us, hl with | [_], _ => rfl
  exact ⟨has_0 hm F.kp hb rfl, fun k ih => ⟨ad, fd, _, hm, F.kp, hb, fn_ok (fun_of F) sc__law_lines_of rfl rfl fun cdv A outer s H E hr => q__law_lines_of T ih hr⟩⟩
theorem has__law_expressions_of (T : Txt G w mg) (F : FnAt G mg .f_law_expressions_of) : Has P w G mg base 0 (nm .f_law_expressions_of) (ar .f_law_expressions_of) (prog 0 .f_law_expressions_of) ∧ ∀ k, HasAll P w G mg base k (prog k) → Has P w G mg base (k + 1) (nm .f_law_expressions_of) (ar .f_law_expressions_of) (prog (k + 1) .f_law_expressions_of) := by
  obtain ⟨ad, fd, hm, F⟩ := F
  have hb : Binds G.K fd ["block"] [] := F.bindsN fun _ _ _ _ _ _ us hl => match us, hl with | [_], _ => rfl
  exact ⟨has_0 hm F.kp hb rfl, fun k ih => ⟨ad, fd, _, hm, F.kp, hb, fn_ok (fun_of F) sc__law_expressions_of rfl rfl fun cdv A outer s H E hr => q__law_expressions_of T ih hr⟩⟩
theorem has__law_size_of (T : Txt G w mg) (F : FnAt G mg .f_law_size_of) : Has P w G mg base 0 (nm .f_law_size_of) (ar .f_law_size_of) (prog 0 .f_law_size_of) ∧ ∀ k, HasAll P w G mg base k (prog k) → Has P w G mg base (k + 1) (nm .f_law_size_of) (ar .f_law_size_of) (prog (k + 1) .f_law_size_of) := by
  obtain ⟨ad, fd, hm, F⟩ := F
  have hb : Binds G.K fd ["value"] [] := F.bindsN fun _ _ _ _ _ _ us hl => match us, hl with | [_], _ => rfl
  exact ⟨has_0 hm F.kp hb rfl, fun k ih => ⟨ad, fd, _, hm, F.kp, hb, fn_ok (fun_of F) sc__law_size_of rfl rfl fun cdv A outer s H E hr => q__law_size_of T ih hr⟩⟩
theorem has_law (T : Txt G w mg) (F : FnAt G mg .f_law) : Has P w G mg base 0 (nm .f_law) (ar .f_law) (prog 0 .f_law) ∧ ∀ k, HasAll P w G mg base k (prog k) → Has P w G mg base (k + 1) (nm .f_law) (ar .f_law) (prog (k + 1) .f_law) := by
  obtain ⟨ad, fd, hm, F⟩ := F
  have hb : Binds G.K fd ["script"] [] := F.bindsN fun _ _ _ _ _ _ us hl => match us, hl with | [_], _ => rfl
  exact ⟨has_0 hm F.kp hb rfl, fun k ih => ⟨ad, fd, _, hm, F.kp, hb, fn_ok (fun_of F) sc_law rfl rfl fun cdv A outer s H E hr => q_law T ih hr⟩⟩
theorem all_has (T : Txt G w mg) (F : ∀ f, FnAt G mg f) : ∀ k, HasAll P w G mg base k (prog k)
  | 0 => fun f => match f with
    | .f_size => (has_size T (F _)).1
    | .f_must_be_few => (has_must_be_few T (F _)).1
    | .f_must_be_short => (has_must_be_short T (F _)).1
    | .f_lines_of => (has_lines_of T (F _)).1
    | .f_from_trees_lines => (has_from_trees_lines T (F _)).1
    | .f_need => (has_need T (F _)).1
    | .f_code_of_boxes => (has_code_of_boxes T (F _)).1
    | .f_code_of_line_boxes => (has_code_of_line_boxes T (F _)).1
    | .f_from_lines_boxes => (has_from_lines_boxes T (F _)).1
    | .f_boxes_in => (has_boxes_in T (F _)).1
    | .f_code_of_stacks => (has_code_of_stacks T (F _)).1
    | .f_code_of_line_stacks => (has_code_of_line_stacks T (F _)).1
    | .f_from_lines_stacks => (has_from_lines_stacks T (F _)).1
    | .f_deeds_in => (has_deeds_in T (F _)).1
    | .f_boxes_of => (has_boxes_of T (F _)).1
    | .f_stacks_of => (has_stacks_of T (F _)).1
    | .f_must_be_form => (has_must_be_form T (F _)).1
    | .f_from_trees_registry => (has_from_trees_registry T (F _)).1
    | .f_law_same => (has__law_same T (F _)).1
    | .f_law_pool => (has__law_pool T (F _)).1
    | .f_law_spread => (has__law_spread T (F _)).1
    | .f_law_draw => (has__law_draw T (F _)).1
    | .f_law_pick => (has__law_pick T (F _)).1
    | .f_law_expression => (has__law_expression T (F _)).1
    | .f_law_block => (has__law_block T (F _)).1
    | .f_law_deed => (has__law_deed T (F _)).1
    | .f_law_program => (has__law_program T (F _)).1
    | .f_law_need => (has__law_need T (F _)).1
    | .f_law_deeds_of => (has__law_deeds_of T (F _)).1
    | .f_law_lines_of => (has__law_lines_of T (F _)).1
    | .f_law_expressions_of => (has__law_expressions_of T (F _)).1
    | .f_law_size_of => (has__law_size_of T (F _)).1
    | .f_law => (has_law T (F _)).1
  | k + 1 => fun f => match f with
    | .f_size => (has_size T (F _)).2 k (all_has T F k)
    | .f_must_be_few => (has_must_be_few T (F _)).2 k (all_has T F k)
    | .f_must_be_short => (has_must_be_short T (F _)).2 k (all_has T F k)
    | .f_lines_of => (has_lines_of T (F _)).2 k (all_has T F k)
    | .f_from_trees_lines => (has_from_trees_lines T (F _)).2 k (all_has T F k)
    | .f_need => (has_need T (F _)).2 k (all_has T F k)
    | .f_code_of_boxes => (has_code_of_boxes T (F _)).2 k (all_has T F k)
    | .f_code_of_line_boxes => (has_code_of_line_boxes T (F _)).2 k (all_has T F k)
    | .f_from_lines_boxes => (has_from_lines_boxes T (F _)).2 k (all_has T F k)
    | .f_boxes_in => (has_boxes_in T (F _)).2 k (all_has T F k)
    | .f_code_of_stacks => (has_code_of_stacks T (F _)).2 k (all_has T F k)
    | .f_code_of_line_stacks => (has_code_of_line_stacks T (F _)).2 k (all_has T F k)
    | .f_from_lines_stacks => (has_from_lines_stacks T (F _)).2 k (all_has T F k)
    | .f_deeds_in => (has_deeds_in T (F _)).2 k (all_has T F k)
    | .f_boxes_of => (has_boxes_of T (F _)).2 k (all_has T F k)
    | .f_stacks_of => (has_stacks_of T (F _)).2 k (all_has T F k)
    | .f_must_be_form => (has_must_be_form T (F _)).2 k (all_has T F k)
    | .f_from_trees_registry => (has_from_trees_registry T (F _)).2 k (all_has T F k)
    | .f_law_same => (has__law_same T (F _)).2 k (all_has T F k)
    | .f_law_pool => (has__law_pool T (F _)).2 k (all_has T F k)
    | .f_law_spread => (has__law_spread T (F _)).2 k (all_has T F k)
    | .f_law_draw => (has__law_draw T (F _)).2 k (all_has T F k)
    | .f_law_pick => (has__law_pick T (F _)).2 k (all_has T F k)
    | .f_law_expression => (has__law_expression T (F _)).2 k (all_has T F k)
    | .f_law_block => (has__law_block T (F _)).2 k (all_has T F k)
    | .f_law_deed => (has__law_deed T (F _)).2 k (all_has T F k)
    | .f_law_program => (has__law_program T (F _)).2 k (all_has T F k)
    | .f_law_need => (has__law_need T (F _)).2 k (all_has T F k)
    | .f_law_deeds_of => (has__law_deeds_of T (F _)).2 k (all_has T F k)
    | .f_law_lines_of => (has__law_lines_of T (F _)).2 k (all_has T F k)
    | .f_law_expressions_of => (has__law_expressions_of T (F _)).2 k (all_has T F k)
    | .f_law_size_of => (has__law_size_of T (F _)).2 k (all_has T F k)
    | .f_law => (has_law T (F _)).2 k (all_has T F k)
abbrev gxOf (K : PySem.W.Frag) : Gx := ⟨K, fun _ _ => False, fun x => He.ga K x⟩
section
variable {K : PySem.W.Frag} {h : Heap}
theorem fnAt_of (KX : K.In h) (hns : h.Ns mainGlobals mg) (c : He.SaysX hfa hfn hts [] hex w h K) (f : Fnm) : FnAt (gxOf K) mg f := by
  cases f with
  | f_size => obtain ⟨fd, F⟩ := c.t.d.def_ 0 (d := dd .f_size) rfl; exact ⟨_, fd, He.glo_ok KX hns (c.t.d.fact 0 (f := .glo "size") rfl), F⟩
  | f_must_be_few => obtain ⟨fd, F⟩ := c.t.d.def_ 1 (d := dd .f_must_be_few) rfl; exact ⟨_, fd, He.glo_ok KX hns (c.t.d.fact 1 (f := .glo "must_be_few") rfl), F⟩
  | f_must_be_short => obtain ⟨fd, F⟩ := c.t.d.def_ 2 (d := dd .f_must_be_short) rfl; exact ⟨_, fd, He.glo_ok KX hns (c.t.d.fact 2 (f := .glo "must_be_short") rfl), F⟩
  | f_lines_of => obtain ⟨fd, F⟩ := c.t.d.def_ 3 (d := dd .f_lines_of) rfl; exact ⟨_, fd, He.glo_ok KX hns (c.t.d.fact 3 (f := .glo "lines_of") rfl), F⟩
  | f_from_trees_lines => obtain ⟨fd, F⟩ := c.t.d.def_ 4 (d := dd .f_from_trees_lines) rfl; exact ⟨_, fd, He.glo_ok KX hns (c.t.d.fact 4 (f := .glo "from_trees_lines") rfl), F⟩
  | f_need => obtain ⟨fd, F⟩ := c.t.d.def_ 5 (d := dd .f_need) rfl; exact ⟨_, fd, He.glo_ok KX hns (c.t.d.fact 5 (f := .glo "need") rfl), F⟩
  | f_code_of_boxes => obtain ⟨fd, F⟩ := c.t.d.def_ 6 (d := dd .f_code_of_boxes) rfl; exact ⟨_, fd, He.glo_ok KX hns (c.t.d.fact 6 (f := .glo "code_of_boxes") rfl), F⟩
  | f_code_of_line_boxes => obtain ⟨fd, F⟩ := c.t.d.def_ 7 (d := dd .f_code_of_line_boxes) rfl; exact ⟨_, fd, He.glo_ok KX hns (c.t.d.fact 7 (f := .glo "code_of_line_boxes") rfl), F⟩
  | f_from_lines_boxes => obtain ⟨fd, F⟩ := c.t.d.def_ 8 (d := dd .f_from_lines_boxes) rfl; exact ⟨_, fd, He.glo_ok KX hns (c.t.d.fact 8 (f := .glo "from_lines_boxes") rfl), F⟩
  | f_boxes_in => obtain ⟨fd, F⟩ := c.t.d.def_ 9 (d := dd .f_boxes_in) rfl; exact ⟨_, fd, He.glo_ok KX hns (c.t.d.fact 9 (f := .glo "boxes_in") rfl), F⟩
  | f_code_of_stacks => obtain ⟨fd, F⟩ := c.t.d.def_ 10 (d := dd .f_code_of_stacks) rfl; exact ⟨_, fd, He.glo_ok KX hns (c.t.d.fact 10 (f := .glo "code_of_stacks") rfl), F⟩
  | f_code_of_line_stacks => obtain ⟨fd, F⟩ := c.t.d.def_ 11 (d := dd .f_code_of_line_stacks) rfl; exact ⟨_, fd, He.glo_ok KX hns (c.t.d.fact 11 (f := .glo "code_of_line_stacks") rfl), F⟩
  | f_from_lines_stacks => obtain ⟨fd, F⟩ := c.t.d.def_ 12 (d := dd .f_from_lines_stacks) rfl; exact ⟨_, fd, He.glo_ok KX hns (c.t.d.fact 12 (f := .glo "from_lines_stacks") rfl), F⟩
  | f_deeds_in => obtain ⟨fd, F⟩ := c.t.d.def_ 13 (d := dd .f_deeds_in) rfl; exact ⟨_, fd, He.glo_ok KX hns (c.t.d.fact 13 (f := .glo "deeds_in") rfl), F⟩
  | f_boxes_of => obtain ⟨fd, F⟩ := c.t.d.def_ 14 (d := dd .f_boxes_of) rfl; exact ⟨_, fd, He.glo_ok KX hns (c.t.d.fact 14 (f := .glo "boxes_of") rfl), F⟩
  | f_stacks_of => obtain ⟨fd, F⟩ := c.t.d.def_ 15 (d := dd .f_stacks_of) rfl; exact ⟨_, fd, He.glo_ok KX hns (c.t.d.fact 15 (f := .glo "stacks_of") rfl), F⟩
  | f_must_be_form => obtain ⟨fd, F⟩ := c.t.d.def_ 16 (d := dd .f_must_be_form) rfl; exact ⟨_, fd, He.glo_ok KX hns (c.t.d.fact 16 (f := .glo "must_be_form") rfl), F⟩
  | f_from_trees_registry => obtain ⟨fd, F⟩ := c.t.d.def_ 17 (d := dd .f_from_trees_registry) rfl; exact ⟨_, fd, He.glo_ok KX hns (c.t.d.fact 17 (f := .glo "from_trees_registry") rfl), F⟩
  | f_law_same => obtain ⟨fd, F⟩ := c.t.d.def_ 18 (d := dd .f_law_same) rfl; exact ⟨_, fd, He.glo_ok KX hns (c.t.d.fact 18 (f := .glo "_law_same") rfl), F⟩
  | f_law_pool => obtain ⟨fd, F⟩ := c.t.d.def_ 19 (d := dd .f_law_pool) rfl; exact ⟨_, fd, He.glo_ok KX hns (c.t.d.fact 19 (f := .glo "_law_pool") rfl), F⟩
  | f_law_spread => obtain ⟨fd, F⟩ := c.t.d.def_ 20 (d := dd .f_law_spread) rfl; exact ⟨_, fd, He.glo_ok KX hns (c.t.d.fact 20 (f := .glo "_law_spread") rfl), F⟩
  | f_law_draw => obtain ⟨fd, F⟩ := c.t.d.def_ 21 (d := dd .f_law_draw) rfl; exact ⟨_, fd, He.glo_ok KX hns (c.t.d.fact 21 (f := .glo "_law_draw") rfl), F⟩
  | f_law_pick => obtain ⟨fd, F⟩ := c.t.d.def_ 22 (d := dd .f_law_pick) rfl; exact ⟨_, fd, He.glo_ok KX hns (c.t.d.fact 22 (f := .glo "_law_pick") rfl), F⟩
  | f_law_expression => obtain ⟨fd, F⟩ := c.t.d.def_ 23 (d := dd .f_law_expression) rfl; exact ⟨_, fd, He.glo_ok KX hns (c.t.d.fact 23 (f := .glo "_law_expression") rfl), F⟩
  | f_law_block => obtain ⟨fd, F⟩ := c.t.d.def_ 24 (d := dd .f_law_block) rfl; exact ⟨_, fd, He.glo_ok KX hns (c.t.d.fact 24 (f := .glo "_law_block") rfl), F⟩
  | f_law_deed => obtain ⟨fd, F⟩ := c.t.d.def_ 25 (d := dd .f_law_deed) rfl; exact ⟨_, fd, He.glo_ok KX hns (c.t.d.fact 25 (f := .glo "_law_deed") rfl), F⟩
  | f_law_program => obtain ⟨fd, F⟩ := c.t.d.def_ 26 (d := dd .f_law_program) rfl; exact ⟨_, fd, He.glo_ok KX hns (c.t.d.fact 26 (f := .glo "_law_program") rfl), F⟩
  | f_law_need => obtain ⟨fd, F⟩ := c.t.d.def_ 27 (d := dd .f_law_need) rfl; exact ⟨_, fd, He.glo_ok KX hns (c.t.d.fact 27 (f := .glo "_law_need") rfl), F⟩
  | f_law_deeds_of => obtain ⟨fd, F⟩ := c.t.d.def_ 28 (d := dd .f_law_deeds_of) rfl; exact ⟨_, fd, He.glo_ok KX hns (c.t.d.fact 28 (f := .glo "_law_deeds_of") rfl), F⟩
  | f_law_lines_of => obtain ⟨fd, F⟩ := c.t.d.def_ 29 (d := dd .f_law_lines_of) rfl; exact ⟨_, fd, He.glo_ok KX hns (c.t.d.fact 29 (f := .glo "_law_lines_of") rfl), F⟩
  | f_law_expressions_of => obtain ⟨fd, F⟩ := c.t.d.def_ 30 (d := dd .f_law_expressions_of) rfl; exact ⟨_, fd, He.glo_ok KX hns (c.t.d.fact 30 (f := .glo "_law_expressions_of") rfl), F⟩
  | f_law_size_of => obtain ⟨fd, F⟩ := c.t.d.def_ 31 (d := dd .f_law_size_of) rfl; exact ⟨_, fd, He.glo_ok KX hns (c.t.d.fact 31 (f := .glo "_law_size_of") rfl), F⟩
  | f_law => obtain ⟨fd, F⟩ := c.t.d.def_ 32 (d := dd .f_law) rfl; exact ⟨_, fd, He.glo_ok KX hns (c.t.d.fact 32 (f := .glo "law") rfl), F⟩
theorem glo_nm (KX : K.In h) (hns : h.Ns mainGlobals mg) (c : He.SaysX hfa hfn hts [] hex w h K) (f : Fnm) : mg (nm f) = some (.ref (He.ga K (nm f))) := by
  cases f with
  | f_size => exact He.glo_ok KX hns (c.t.d.fact 0 (f := .glo "size") rfl)
  | f_must_be_few => exact He.glo_ok KX hns (c.t.d.fact 1 (f := .glo "must_be_few") rfl)
  | f_must_be_short => exact He.glo_ok KX hns (c.t.d.fact 2 (f := .glo "must_be_short") rfl)
  | f_lines_of => exact He.glo_ok KX hns (c.t.d.fact 3 (f := .glo "lines_of") rfl)
  | f_from_trees_lines => exact He.glo_ok KX hns (c.t.d.fact 4 (f := .glo "from_trees_lines") rfl)
  | f_need => exact He.glo_ok KX hns (c.t.d.fact 5 (f := .glo "need") rfl)
  | f_code_of_boxes => exact He.glo_ok KX hns (c.t.d.fact 6 (f := .glo "code_of_boxes") rfl)
  | f_code_of_line_boxes => exact He.glo_ok KX hns (c.t.d.fact 7 (f := .glo "code_of_line_boxes") rfl)
  | f_from_lines_boxes => exact He.glo_ok KX hns (c.t.d.fact 8 (f := .glo "from_lines_boxes") rfl)
  | f_boxes_in => exact He.glo_ok KX hns (c.t.d.fact 9 (f := .glo "boxes_in") rfl)
  | f_code_of_stacks => exact He.glo_ok KX hns (c.t.d.fact 10 (f := .glo "code_of_stacks") rfl)
  | f_code_of_line_stacks => exact He.glo_ok KX hns (c.t.d.fact 11 (f := .glo "code_of_line_stacks") rfl)
  | f_from_lines_stacks => exact He.glo_ok KX hns (c.t.d.fact 12 (f := .glo "from_lines_stacks") rfl)
  | f_deeds_in => exact He.glo_ok KX hns (c.t.d.fact 13 (f := .glo "deeds_in") rfl)
  | f_boxes_of => exact He.glo_ok KX hns (c.t.d.fact 14 (f := .glo "boxes_of") rfl)
  | f_stacks_of => exact He.glo_ok KX hns (c.t.d.fact 15 (f := .glo "stacks_of") rfl)
  | f_must_be_form => exact He.glo_ok KX hns (c.t.d.fact 16 (f := .glo "must_be_form") rfl)
  | f_from_trees_registry => exact He.glo_ok KX hns (c.t.d.fact 17 (f := .glo "from_trees_registry") rfl)
  | f_law_same => exact He.glo_ok KX hns (c.t.d.fact 18 (f := .glo "_law_same") rfl)
  | f_law_pool => exact He.glo_ok KX hns (c.t.d.fact 19 (f := .glo "_law_pool") rfl)
  | f_law_spread => exact He.glo_ok KX hns (c.t.d.fact 20 (f := .glo "_law_spread") rfl)
  | f_law_draw => exact He.glo_ok KX hns (c.t.d.fact 21 (f := .glo "_law_draw") rfl)
  | f_law_pick => exact He.glo_ok KX hns (c.t.d.fact 22 (f := .glo "_law_pick") rfl)
  | f_law_expression => exact He.glo_ok KX hns (c.t.d.fact 23 (f := .glo "_law_expression") rfl)
  | f_law_block => exact He.glo_ok KX hns (c.t.d.fact 24 (f := .glo "_law_block") rfl)
  | f_law_deed => exact He.glo_ok KX hns (c.t.d.fact 25 (f := .glo "_law_deed") rfl)
  | f_law_program => exact He.glo_ok KX hns (c.t.d.fact 26 (f := .glo "_law_program") rfl)
  | f_law_need => exact He.glo_ok KX hns (c.t.d.fact 27 (f := .glo "_law_need") rfl)
  | f_law_deeds_of => exact He.glo_ok KX hns (c.t.d.fact 28 (f := .glo "_law_deeds_of") rfl)
  | f_law_lines_of => exact He.glo_ok KX hns (c.t.d.fact 29 (f := .glo "_law_lines_of") rfl)
  | f_law_expressions_of => exact He.glo_ok KX hns (c.t.d.fact 30 (f := .glo "_law_expressions_of") rfl)
  | f_law_size_of => exact He.glo_ok KX hns (c.t.d.fact 31 (f := .glo "_law_size_of") rfl)
  | f_law => exact He.glo_ok KX hns (c.t.d.fact 32 (f := .glo "law") rfl)
theorem txt_of (KX : K.In h) (hns : h.Ns mainGlobals mg) (c : He.SaysX hfa hfn hts [] hex w h K) : Txt (gxOf K) w mg := by
  have m := c.more
  obtain ⟨x0, m⟩ := He.ba m
  obtain ⟨x1, m⟩ := He.ba m
  obtain ⟨x2, m⟩ := He.ba m
  constructor
  · exact He.free_ok KX hns (c.t.d.fact 33 (f := .free "bool") rfl)
  · exact He.free_ok KX hns (c.t.d.fact 34 (f := .free "int") rfl)
  · exact He.free_ok KX hns (c.t.d.fact 35 (f := .free "isinstance") rfl)
  · exact He.free_ok KX hns (c.t.d.fact 36 (f := .free "len") rfl)
  · exact He.free_ok KX hns (c.t.d.fact 37 (f := .free "list") rfl)
  · exact He.free_ok KX hns (c.t.d.fact 38 (f := .free "max") rfl)
  · exact He.free_ok KX hns (c.t.d.fact 39 (f := .free "range") rfl)
  · exact He.free_ok KX hns (c.t.d.fact 40 (f := .free "sorted") rfl)
  · exact He.free_ok KX hns (c.t.d.fact 41 (f := .free "str") rfl)
  · exact He.free_ok KX hns (c.t.d.fact 42 (f := .free "sum") rfl)
  · exact He.free_ok KX hns (c.t.d.fact 43 (f := .free "tuple") rfl)
  · refine ⟨_, He.glo_ok KX hns (c.t.d.fact 44 (f := .glo "FAULTS") rfl), c.t.tab 0 rfl, fun z r hz => ?_, fun z n hz => ?_⟩
    · obtain ⟨q, hq, rfl, e⟩ := tk_mem (vs := hv_FAULTS) rfl hz
      obtain ⟨u, hu, _⟩ := He.valsB_ok x0 hq
      exact ⟨_, hu, e.symm⟩
    · obtain ⟨q, hq, rfl, e⟩ := tn_mem (nm := nm) (vs := hv_FAULTS) (by decide) hz
      obtain ⟨es, dn, KD⟩ := c.t.tab 0 rfl
      obtain ⟨u, hu, ru⟩ := He.valsB_ok x0 hq
      obtain ⟨ad, fd, hm, _⟩ := fnAt_of KX hns c n
      refine ⟨He.ga K (nm n), ⟨es, dn, u, KD.at_, KD.lit, hu, by rw [e] at ru; exact ru⟩, glo_nm KX hns c n⟩
  · refine ⟨_, He.glo_ok KX hns (c.t.d.fact 45 (f := .glo "FROM_TREES") rfl), c.t.tab 1 rfl, fun z r hz => ?_, fun z n hz => ?_⟩
    · obtain ⟨q, hq, rfl, e⟩ := tk_mem (vs := hv_FROM_TREES) rfl hz
      obtain ⟨u, hu, _⟩ := He.valsB_ok x1 hq
      exact ⟨_, hu, e.symm⟩
    · obtain ⟨q, hq, rfl, e⟩ := tn_mem (nm := nm) (vs := hv_FROM_TREES) (by decide) hz
      obtain ⟨es, dn, KD⟩ := c.t.tab 1 rfl
      obtain ⟨u, hu, ru⟩ := He.valsB_ok x1 hq
      obtain ⟨ad, fd, hm, _⟩ := fnAt_of KX hns c n
      refine ⟨He.ga K (nm n), ⟨es, dn, u, KD.at_, KD.lit, hu, by rw [e] at ru; exact ru⟩, glo_nm KX hns c n⟩
  · exact He.int_ok KX hns (c.t.d.fact 46 (f := .int "LONGEST" 100000) rfl)
  · exact ⟨_, He.glo_ok KX hns (c.t.d.fact 47 (f := .glo "PAIRS") rfl), fun H => ⟨_, _, rfl, He.tupB_ok x2 H, by repeat (first | exact rfl | refine ⟨_, _, rfl, rfl, ?_⟩)⟩⟩
end
/-- what the mirror must answer -/
abbrev LawOk (n k : Nat) : Prop := ∀ ns : List Int, ns.length ≤ n → ∃ S, prog (k + 1) .f_law [.d (.ro ns)] [] = some (.ok (.d (.bl true)), S)
theorem holds_of {n : Nat} (hn : (PySem.Challenge.rw_everymeaning_k80_whole_sizes_of_forms).most = some n) (hn2 : n ≤ sizeLine) (hlaw : LawOk n 229) : (PySem.Challenge.rw_everymeaning_k80_whole_sizes_of_forms).Holds := by
  w_on; o_law
  refine HandSHeadRun.head_any (r := HR) (q := HQ) (H := hk) (ob := hob) (M := 8000) (loose := hnames) (d := HandSHeadRun.topDef HR.prog lawIx) (kwd := []) hob_eq
    (by kernel_rfl) (fun s => by kernel_rfl) hrun (by kernel_rfl) (by kernel_rfl) (by kernel_rfl) (by rfl) (by first | assumption | decide +kernel) (by decide +kernel) ⟨rfl, rfl, rfl, rfl, rfl, by decide +kernel⟩ ?hw ?hc
  case hw => w_witness2
  case hc =>
    refine walk_ofW (l := PySem.Challenge.rw_everymeaning_k80_whole_sizes_of_forms) (n := n) (k := 230) (x := "script") hn hn2 (by kernel_rfl) ⟨rfl, by decide, by decide⟩ ?F
    intro w mg fa h Y G hmg0
    obtain ⟨K, KX, c⟩ := Y
    have hmg : mg ("law" : PySem.Str) = some (.ref fa) := by
      have e : (HandSHeadRun.topDef HR.prog lawIx).name = ("law" : PySem.Str) := by kernel_rfl
      rw [← e]
      exact hmg0
    obtain ⟨ad, fd, hm, F⟩ := fnAt_of KX G c .f_law
    have e := hm.symm.trans hmg
    cases e
    have b := FunD.bindsA (ps := ["script"]) F fun _ _ _ _ _ _ us hl => match us, hl with | [_], _ => rfl
    refine ⟨K, fd, spF (gxOf K) 1 (prog 230 .f_law), KX, fun s v => b s [v] rfl, fun H a ns hl _ hS => law_sp hlaw H a ns hl hS, fun base _ _ => ?_⟩
    exact fn_ok (fun_of F) sc_law rfl rfl fun cdv A outer s H E hr => q_law (txt_of KX G c) (all_has (txt_of KX G c) (fnAt_of KX G c) 229) hr
end Y

set_option Elab.async false
set_option linter.all false
set_option maxRecDepth 100000
set_option maxHeartbeats 4000000
namespace Y
open PySem PySem.Spec L2
/-! ### running the small interpreter: equations -/
@[simp] theorem bnd_def {α β : Type} (x : M α) (g : α → M β) (S : Store) : bnd x g S = match x S with
  | none => none
  | some (.exc e, S') => some (.exc e, S')
  | some (.ok a, S') => g a S' := rfl
@[simp] theorem ret_def {α : Type} (a : α) (S : Store) : ret a S = some (.ok a, S) := rfl
@[simp] theorem lift_some {α : Type} (a : α) (S : Store) : lift (some a) S = some (.ok a, S) := rfl
@[simp] theorem fVar_def (i : Nat) (env : Env) (S : Store) : fVar i env S = lift ((env[i]?).join) S := rfl
@[simp] theorem fC_def (x : D) (env : Env) (S : Store) : fC x env S = some (.ok (.d x), S) := rfl
@[simp] theorem fBin_def {α : Type} (op : Val → Val → M α) (fa fb : FE) (env : Env) (S : Store) : fBin op fa fb env S = bnd (fa env) (fun x => bnd (fb env) fun y => op x y) S := rfl
@[simp] theorem fT_def (f : FE) (env : Env) (S : Store) : fT f env S = bnd (f env) asB S := rfl
@[simp] theorem asB_def (b : Bool) (S : Store) : asB (.d (.bl b)) S = some (.ok b, S) := rfl
@[simp] theorem fCons_def (fa : FE) (fs : FA) (env : Env) (S : Store) : fCons fa fs env S = bnd (fa env) (fun x => bnd (fs env) fun xs => ret (x :: xs)) S := rfl
@[simp] theorem fNil_def (env : Env) (S : Store) : fNil env S = some (.ok [], S) := rfl
@[simp] theorem fTup_def (fs : FA) (env : Env) (S : Store) : fTup fs env S = bnd (fs env) mkTup S := rfl
@[simp] theorem fLst_def (fs : FA) (env : Env) (S : Store) : fLst fs env S = bnd (fs env) okL S := rfl
@[simp] theorem fFrz_def (fs : FA) (env : Env) (S : Store) : fFrz fs env S = bnd (fs env) frz S := rfl
@[simp] theorem fNew_def (fs : FA) (env : Env) (S : Store) : fNew fs env S = bnd (fs env) new S := rfl
@[simp] theorem new_def (xs : List Val) (S : Store) : new xs S = some (.ok (.r S.length), S ++ [.lst xs]) := rfl
@[simp] theorem fCall_def {α : Type} (op : List Val → M α) (fs : FA) (env : Env) (S : Store) : fCall op fs env S = bnd (fs env) op S := rfl
@[simp] theorem fSeq_def (f : FE) (env : Env) (S : Store) : fSeq f env S = bnd (f env) (fun x => lift (fzV x)) S := rfl
@[simp] theorem fUn_def (f : FE) (env : Env) (S : Store) : fUn f env S = bnd (f env) unN S := rfl
@[simp] theorem fIf_def {α : Type} (gc : FB) (fa fb : Env → M α) (env : Env) (S : Store) : fIf gc fa fb env S = bnd (gc env) (fun k => if k = true then fa env else fb env) S := rfl
@[simp] theorem gAnd_def (ga gb : FB) (env : Env) (S : Store) : gAnd ga gb env S = bnd (ga env) (fun k => if k = true then gb env else ret false) S := rfl
@[simp] theorem gOr_def (ga gb : FB) (env : Env) (S : Store) : gOr ga gb env S = bnd (ga env) (fun k => if k = true then ret true else gb env) S := rfl
@[simp] theorem gNot_def (ga : FB) (env : Env) (S : Store) : gNot ga env S = bnd (ga env) (fun k => ret (!k)) S := rfl
@[simp] theorem gYes_def (env : Env) (S : Store) : gYes env S = some (.ok true, S) := rfl
@[simp] theorem fSl_def (fa : FE) (lo hi : FO) (env : Env) (S : Store) : fSl fa lo hi env S = bnd (fa env) (fun x => bnd (lo env) fun l => bnd (hi env) fun h => oSl x l h) S := rfl
@[simp] theorem fNo_def (env : Env) (S : Store) : fNo env S = some (.ok none, S) := rfl
@[simp] theorem fPart_def (f : FE) (env : Env) (S : Store) : fPart f env S = bnd (f env) (fun x => lift ((asI x).map some)) S := rfl
@[simp] theorem fNeg_def (f : FE) (env : Env) (S : Store) : fNeg f env S = bnd (f env) (fun x => lift ((asI x).map fun i => .d (.int (-i)))) S := rfl
@[simp] theorem asI_int (i : Int) : asI (.d (.int i)) = some i := rfl
@[simp] theorem ite_app {α β : Type} {c : Prop} [Decidable c] (f g : α → β) (x : α) : (if c then f else g) x = if c then f x else g x := by split <;> rfl
@[simp] theorem bS_ok {α : Type} (a : α) (S : Store) (env : Env) (k : α → Store → SO) : bS (some (.ok a, S)) env k = k a S := rfl
@[simp] theorem sSeq_def (g1 g2 : FS) (env : Env) (S : Store) : sSeq g1 g2 env S = match g1 env S with
  | some (.nx, env', S') => g2 env' S'
  | o => o := rfl
@[simp] theorem sNil_def (env : Env) (S : Store) : sNil env S = some (.nx, env, S) := rfl
@[simp] theorem sRet_def (f : FE) (env : Env) (S : Store) : sRet f env S = bS (f env S) env fun x S' => some (.rt x, env, S') := rfl
@[simp] theorem sDo_def (f : FE) (env : Env) (S : Store) : sDo f env S = bS (f env S) env fun _ S' => some (.nx, env, S') := rfl
@[simp] theorem sIf_def (gc : FB) (g1 g2 : FS) (env : Env) (S : Store) : sIf gc g1 g2 env S = bS (gc env S) env fun k S' => if k = true then g1 env S' else g2 env S' := rfl
@[simp] theorem sSet_def (i : Nat) (f : FE) (env : Env) (S : Store) : sSet i f env S = bS (f env S) env fun x S' => some (.nx, env.set i (some x), S') := rfl
@[simp] theorem sFor_def (fi : FA) (gt : Val → Env → Option Env) (body : FS) (env : Env) (S : Store) : sFor fi gt body env S = bS (fi env S) env fun xs S' => forL gt body xs env S' := rfl
@[simp] theorem sPar_def (i j : Nat) (fs : FA) (env : Env) (S : Store) : sPar i j fs env S = bS (fs env S) env fun xs S' => match xs with
  | [x, y] => some (.nx, (env.set i (some x)).set j (some y), S')
  | _ => none := rfl
@[simp] theorem oIx_tup (ds : List D) (i : Int) (S : Store) : oIx (.d (.tup ds)) (.d (.int i)) S = (atI (ds.map Val.d) i).map fun x => (.ok x, S) := rfl
@[simp] theorem oIx_lst (ds : List D) (i : Int) (S : Store) : oIx (.d (.lst ds)) (.d (.int i)) S = (atI (ds.map Val.d) i).map fun x => (.ok x, S) := rfl
theorem atI_nat {α : Type} (xs : List α) (n : Nat) : atI xs (n : Int) = xs[n]? := by
  unfold atI ixN
  rw [if_pos (by omega)]
  by_cases h : n < xs.length
  · rw [if_pos (by omega)]; rfl
  · rw [if_neg (by omega), List.getElem?_eq_none (by omega)]; rfl
@[simp] theorem atI_0 {α : Type} (xs : List α) : atI xs 0 = xs[0]? := atI_nat xs 0
@[simp] theorem atI_1 {α : Type} (xs : List α) : atI xs 1 = xs[1]? := atI_nat xs 1
@[simp] theorem atI_2 {α : Type} (xs : List α) : atI xs 2 = xs[2]? := atI_nat xs 2
@[simp] theorem atI_3 {α : Type} (xs : List α) : atI xs 3 = xs[3]? := atI_nat xs 3
@[simp] theorem atI_4 {α : Type} (xs : List α) : atI xs 4 = xs[4]? := atI_nat xs 4
@[simp] theorem atI_last {α : Type} (xs : List α) : atI xs (-1) = xs.getLast? := by
  unfold atI ixN
  rw [if_neg (by decide)]
  cases xs with
  | nil => rfl
  | cons x r =>
    have e : ((-1 : Int) + ((x :: r).length : Nat)).toNat = (x :: r).length - 1 := by simp only [List.length_cons]; omega
    rw [if_pos (by simp only [List.length_cons]; omega), List.getLast?_eq_getElem?, e]
    rfl
@[simp] theorem oIn_tup (neg : Bool) (z : Str) (ds : List D) (S : Store) : oIn neg (.d (.str z)) (.d (.tup ds)) S = match flats (ds.map Val.d) with
  | some ts => some (.ok (.d (.bl (if neg then !inV (.str z) ts else inV (.str z) ts))), S)
  | none => none := by
  unfold oIn
  show (match some (V.str z), (some (ds.map Val.d)).bind flats with | some t, some ts => _ | _, _ => none) = _
  rw [Option.bind_some]
  cases flats (ds.map Val.d) <;> rfl
@[simp] theorem flats_nil : flats [] = some [] := rfl
@[simp] theorem flats_str (z : Str) (r : List Val) : flats (.d (.str z) :: r) = (flats r).map (V.str z :: ·) := by
  show (match some (V.str z), flats r with | some a, some b => some (a :: b) | _, _ => none) = _
  cases flats r <;> rfl
theorem shaped_str {a : Str} (h : PyData.strOk a = true) : SeqAt.shaped (.str a) = true := by
  unfold SeqAt.shaped
  simp [PyData.canLay0, PyData.depth, h]
theorem eqD_str (a b : Str) (h : PyData.strOk a = true) (h2 : PyData.strOk b = true) : eqD (.str a) (.str b) = some (decide (a = b)) := by
  unfold eqD
  simp only [D.toP]
  rw [if_pos (by rw [shaped_str h, shaped_str h2]; rfl)]
  unfold PyData.eqv
  first | rfl | simp [beq_eq_decide]
theorem eqD_int (a b : Int) : eqD (.int a) (.int b) = some (decide (a = b)) := by
  unfold eqD
  simp only [D.toP]
  rw [if_pos (by rfl)]
  unfold PyData.eqv
  first | rfl | simp [beq_eq_decide]
theorem oEq_of (neg : Bool) {a b : D} {k : Bool} (h : eqD a b = some k) (S : Store) : oEq neg (.d a) (.d b) S = some (.ok (.d (.bl (k != neg))), S) := by
  unfold oEq
  show lift ((eqD a b).map _) S = _
  rw [h]; rfl
@[simp] theorem oEq_str (neg : Bool) (a b : Str) (S : Store) (h : PyData.strOk a = true) (h2 : PyData.strOk b = true) : oEq neg (.d (.str a)) (.d (.str b)) S = some (.ok (.d (.bl (decide (a = b) != neg))), S) := oEq_of neg (eqD_str a b h h2) S
@[simp] theorem oEq_int (neg : Bool) (a b : Int) (S : Store) : oEq neg (.d (.int a)) (.d (.int b)) S = some (.ok (.d (.bl (decide (a = b) != neg))), S) := oEq_of neg (eqD_int a b) S
@[simp] theorem oAdd_int (a b : Int) (S : Store) : oPlus (.d (.int a)) (.d (.int b)) S = some (.ok (.d (.int (a + b))), S) := rfl
@[simp] theorem oLt_def (a b : Int) (S : Store) : oLt (.d (.int a)) (.d (.int b)) S = some (.ok (.d (.bl (decide (a < b)))), S) := rfl
@[simp] theorem oLe_def (a b : Int) (S : Store) : oLe (.d (.int a)) (.d (.int b)) S = some (.ok (.d (.bl (decide (a ≤ b)))), S) := rfl
@[simp] theorem oGt_def (a b : Int) (S : Store) : oGt (.d (.int a)) (.d (.int b)) S = some (.ok (.d (.bl (decide (b < a)))), S) := rfl
@[simp] theorem oGe_def (a b : Int) (S : Store) : oGe (.d (.int a)) (.d (.int b)) S = some (.ok (.d (.bl (decide (b ≤ a)))), S) := rfl
theorem oPlus_tup (a b : List D) (S : Store) (h : a.length + b.length ≤ sizeLine) : oPlus (.d (.tup a)) (.d (.tup b)) S = some (.ok (.d (.tup (a ++ b))), S) := by
  show (if a.length + b.length ≤ sizeLine then ret (Val.d (.tup (a ++ b))) else stk) S = _
  rw [if_pos h]; rfl
theorem datas_mapD (ds : List D) : datas (ds.map Val.d) = some ds := by
  induction ds with
  | nil => rfl
  | cons x r ih => show (datas (r.map Val.d)).map (x :: ·) = _; rw [ih]; rfl
theorem frz_map (ds : List D) (S : Store) : frz (ds.map Val.d) S = some (.ok (.d (.lst ds)), S) := by
  unfold Y.frz
  rw [datas_mapD]; rfl
theorem lstV_lst (ds : List D) (S : Store) : lstV (.d (.lst ds)) S = some (ds.map Val.d) := rfl
theorem okL_ok (xs : List Val) (S : Store) (h : xs.length ≤ sizeLine) : okL xs S = some (.ok xs, S) := by
  unfold okL; rw [if_pos h]; rfl
theorem oPlus_lst (a b : List D) (S : Store) (h : a.length + b.length ≤ sizeLine) : oPlus (.d (.lst a)) (.d (.lst b)) S = some (.ok (.d (.lst (a ++ b))), S) := by
  show bnd (oCat (.d (.lst a)) (.d (.lst b))) frz S = _
  have : oCat (.d (.lst a)) (.d (.lst b)) S = some (.ok ((a ++ b).map Val.d), S) := by
    show okL (a.map Val.d ++ b.map Val.d) S = _
    rw [← List.map_append, okL_ok _ _ (by simpa using h)]
  rw [bnd_def, this]
  exact frz_map _ S
theorem mkTup_map (ds : List D) (S : Store) (h : ds.length ≤ sizeLine) : mkTup (ds.map Val.d) S = some (.ok (.d (.tup ds)), S) := by
  unfold mkTup
  rw [if_pos (by simpa using h), datas_mapD]; rfl
@[simp] theorem mkTup_1 (a : D) (S : Store) : mkTup [.d a] S = some (.ok (.d (.tup [a])), S) := mkTup_map [a] S (by show 1 ≤ sizeLine; decide)
@[simp] theorem mkTup_2 (a b : D) (S : Store) : mkTup [.d a, .d b] S = some (.ok (.d (.tup [a, b])), S) := mkTup_map [a, b] S (by show 2 ≤ sizeLine; decide)
@[simp] theorem mkTup_3 (a b c : D) (S : Store) : mkTup [.d a, .d b, .d c] S = some (.ok (.d (.tup [a, b, c])), S) := mkTup_map [a, b, c] S (by show 3 ≤ sizeLine; decide)
@[simp] theorem mkTup_4 (a b c d : D) (S : Store) : mkTup [.d a, .d b, .d c, .d d] S = some (.ok (.d (.tup [a, b, c, d])), S) := mkTup_map [a, b, c, d] S (by show 4 ≤ sizeLine; decide)
@[simp] theorem mkTup_5 (a b c d e : D) (S : Store) : mkTup [.d a, .d b, .d c, .d d, .d e] S = some (.ok (.d (.tup [a, b, c, d, e])), S) := mkTup_map [a, b, c, d, e] S (by show 5 ≤ sizeLine; decide)
@[simp] theorem mkTup_0 (S : Store) : mkTup [] S = some (.ok (.d (.tup [])), S) := mkTup_map [] S (by show 0 ≤ sizeLine; decide)
@[simp] theorem oLen_tup (ds : List D) (S : Store) : oLen [.d (.tup ds)] S = some (.ok (.d (.int ds.length)), S) := by
  show some (Ex.ok (Val.d (.int ((ds.map Val.d).length : Nat))), S) = _
  rw [List.length_map]
@[simp] theorem oLen_lst (ds : List D) (S : Store) : oLen [.d (.lst ds)] S = some (.ok (.d (.int ds.length)), S) := by
  show some (Ex.ok (Val.d (.int ((ds.map Val.d).length : Nat))), S) = _
  rw [List.length_map]
theorem mapM_asI2 (ns : List Int) : ((ns.map D.int).map Val.d).mapM asI = some ns := by
  induction ns with
  | nil => rfl
  | cons n r ih => rw [List.map_cons, List.map_cons, List.mapM_cons, ih]; rfl
theorem intsL_ints (ns : List Int) (S : Store) : intsL (.d (.lst (ns.map .int))) S = some ns := mapM_asI2 ns
theorem c1_ok {α β : Type} {g : Val → Store → Option α} {k : α → M β} {x : Val} {S : Store} {a : α} (h : g x S = some a) : c1 g k [x] S = k a S := by
  unfold c1
  show (match g x S with | some a => k a S | none => none) = _
  rw [h]
@[simp] theorem oSum_ints (ns : List Int) (S : Store) : oSum [.d (.lst (ns.map .int))] S = some (.ok (.d (.int ns.sum)), S) := c1_ok (intsL_ints ns S)
theorem oMax_ints (n : Int) (ns : List Int) (S : Store) : oMx maxI [.d (.lst (.int n :: ns.map .int))] S = some (.ok (.d (.int (maxI (n :: ns)))), S) := by
  show (match intsL (.d (.lst ((n :: ns).map .int))) S with | some (n :: ns) => some (Ex.ok (Val.d (.int (maxI (n :: ns)))), S) | _ => none) = _
  rw [intsL_ints]
@[simp] theorem oMax_2 (i j : Int) (S : Store) : oMx maxI [.d (.int i), .d (.int j)] S = some (.ok (.d (.int (max i j))), S) := rfl
@[simp] theorem oTuple_lst (ds : List D) (S : Store) : oTuple [.d (.lst ds)] S = some (.ok (.d (.tup ds)), S) := c1_ok (a := ds) (datas_mapD ds)
@[simp] theorem oSl_tup (ds : List D) (lo hi : Option Int) (S : Store) : oSl (.d (.tup ds)) lo hi S = some (.ok (.d (.tup (cutL ds lo hi))), S) := rfl
@[simp] theorem fzV_tup (ds : List D) : fzV (.d (.tup ds)) = some (ds.map Val.d) := rfl
@[simp] theorem fzV_lst (ds : List D) : fzV (.d (.lst ds)) = some (ds.map Val.d) := rfl
@[simp] theorem oInt1_int (i : Int) (S : Store) : oInt1 [.d (.int i)] S = some (.ok (.d (.int i)), S) := rfl
@[simp] theorem cutL_from1 {α : Type} (x : α) (r : List α) : cutL (x :: r) (some 1) none = r := by
  unfold cutL HT.sIx
  simp
@[simp] theorem cutL_from2 {α : Type} (x y : α) (r : List α) : cutL (x :: y :: r) (some 2) none = r := by
  unfold cutL HT.sIx
  simp
@[simp] theorem cutL_toLast {α : Type} (r : List α) : cutL r none (some (-1)) = r.dropLast := by
  unfold cutL HT.sIx
  simp [List.dropLast_eq_take]
  congr 1
  omega
/-! a def -/
theorem cutOk_app (S T : Store) : cutOk S (S ++ T) := ⟨by simp, fun i o h e => .inl (by rw [List.getElem?_append_left h] at e; exact e)⟩
theorem fnM_app {n N : Nat} {body : FS} {args : List Val} {S T : Store} {env : Env} {v : D} (hn : args.length = n) (h : body (envOf N args) S = some (.rt (.d v), env, S ++ T)) : fnM n N true body args S = some (.ok (.d v), S) := by
  unfold fnM
  rw [if_pos hn, h]
  show cutF true S (.ok (.d v)) (S ++ T) = _
  unfold cutF
  rw [if_pos rfl, if_pos ⟨cutOk_app S T, fun r e => by cases e; rfl⟩, List.take_left']
  rfl
theorem fnM_same {n N : Nat} {body : FS} {args : List Val} {S : Store} {env : Env} {v : D} (hn : args.length = n) (h : body (envOf N args) S = some (.rt (.d v), env, S)) : fnM n N true body args S = some (.ok (.d v), S) :=
  fnM_app (T := []) hn (by rw [List.append_nil]; exact h)
theorem fnM_none {n N : Nat} {body : FS} {args : List Val} {S : Store} {env : Env} (hn : args.length = n) (h : body (envOf N args) S = some (.nx, env, S)) : fnM n N true body args S = some (.ok (.d .non), S) := by
  unfold fnM
  rw [if_pos hn, h]
  show cutF true S (.ok (.d .non)) S = _
  unfold cutF
  rw [if_pos rfl, if_pos ⟨by simpa using cutOk_app S [], fun r e => by cases e; rfl⟩, List.take_length]
theorem ck_ok {n : Nat} {F : Fn} {args : List Val} (h : args.length = n) : ck n F args = F args := by
  funext S; unfold ck; rw [if_pos h]
/-! comprehensions -/
theorem noX_ok {α : Type} {m : M α} {S S' : Store} {a : α} (h : m S = some (.ok a, S')) : noX m S = some (.ok a, S') := by unfold noX; rw [h]
theorem lcL_pure {α : Type} {gt : Val → Env → Option Env} {gc : FB} {f : FE} {env0 : Env} (g h : α → Val) (p : α → Bool) (S : Store) : ∀ (xs : List α) (acc : List Val), acc.length + xs.length ≤ sizeLine →
    (∀ x ∈ xs, ∃ env1, gt (g x) env0 = some env1 ∧ gc env1 S = some (.ok (p x), S) ∧ (p x = true → f env1 S = some (.ok (h x), S))) →
    lcL gt gc f env0 (xs.map g) acc S = some (.ok (acc ++ (xs.filter p).map h), S)
  | [], acc, _, _ => by show some (Ex.ok acc, S) = _; simp
  | x :: xs, acc, hl, H => by
    obtain ⟨env1, h1, h2, h3⟩ := H x List.mem_cons_self
    rw [List.length_cons] at hl
    show (match gt (g x) env0 with | none => none | some env1 => _) = _
    rw [h1]
    dsimp only
    rw [bnd_def, h2]
    dsimp only
    cases e : p x with
    | true =>
      rw [if_pos rfl, bnd_def, h3 e]
      dsimp only
      rw [if_pos (by omega), lcL_pure g h p S xs (acc ++ [h x]) (by rw [List.length_append, List.length_singleton]; omega) fun y hy => H y (List.mem_cons_of_mem _ hy), List.filter_cons_of_pos e]
      simp
    | false =>
      rw [if_neg (by decide), lcL_pure g h p S xs acc (by omega) fun y hy => H y (List.mem_cons_of_mem _ hy), List.filter_cons_of_neg (by rw [e]; decide)]
/-- the same of data -/
theorem fLc_pure {α : Type} {fi : FA} {gt : Val → Env → Option Env} {gc : FB} {f : FE} {vs : List Nat} {env : Env} {S : Store} (g h : α → D) (p : α → Bool) (xs : List α) (hi : fi env S = some (.ok ((xs.map g).map Val.d), S)) (hl : xs.length ≤ sizeLine)
    (H : ∀ x ∈ xs, ∃ env1, gt (.d (g x)) (wipeE env vs) = some env1 ∧ gc env1 S = some (.ok (p x), S) ∧ (p x = true → f env1 S = some (.ok (.d (h x)), S))) :
    fLc fi gt gc f vs env S = some (.ok (((xs.filter p).map h).map Val.d), S) := by
  show bnd (fi env) _ S = _
  rw [bnd_def, hi]
  dsimp only
  refine noX_ok ?_
  rw [List.map_map, lcL_pure (Val.d ∘ g) (Val.d ∘ h) p S xs [] (by simpa using hl) H]
  simp
/-- no test -/
theorem fLc_all {α : Type} {fi : FA} {gt : Val → Env → Option Env} {f : FE} {vs : List Nat} {env : Env} {S : Store} (g h : α → D) (xs : List α) (hi : fi env S = some (.ok ((xs.map g).map Val.d), S)) (hl : xs.length ≤ sizeLine)
    (H : ∀ x ∈ xs, ∃ env1, gt (.d (g x)) (wipeE env vs) = some env1 ∧ f env1 S = some (.ok (.d (h x)), S)) :
    fLc fi gt gYes f vs env S = some (.ok ((xs.map h).map Val.d), S) := by
  have := fLc_pure (gt := gt) (gc := gYes) (f := f) (vs := vs) g h (fun _ => true) xs hi hl fun x hx => by
    obtain ⟨env1, h1, h2⟩ := H x hx
    exact ⟨env1, h1, rfl, fun _ => h2⟩
  rw [List.filter_eq_self.mpr fun _ _ => rfl] at this
  exact this
theorem sl {n : Nat} (h : n ≤ 16000000) : n ≤ sizeLine := Nat.le_trans h (by decide)
theorem sl' {n : Nat} (h : n < 16000000) : n < sizeLine := Nat.lt_of_lt_of_le h (by decide)
@[simp] theorem frz_0 (S : Store) : frz [] S = some (.ok (.d (.lst [])), S) := rfl
@[simp] theorem frz_1 (a : D) (S : Store) : frz [.d a] S = some (.ok (.d (.lst [a])), S) := rfl
@[simp] theorem frz_2 (a b : D) (S : Store) : frz [.d a, .d b] S = some (.ok (.d (.lst [a, b])), S) := rfl
@[simp] theorem frz_3 (a b c : D) (S : Store) : frz [.d a, .d b, .d c] S = some (.ok (.d (.lst [a, b, c])), S) := rfl
@[simp] theorem oSum_0 (S : Store) : oSum [.d (.lst [])] S = some (.ok (.d (.int 0)), S) := oSum_ints [] S
@[simp] theorem oSum_1 (a : Int) (S : Store) : oSum [.d (.lst [.int a])] S = some (.ok (.d (.int a)), S) := by
  have := oSum_ints [a] S
  simpa using this
@[simp] theorem oSum_2 (a b : Int) (S : Store) : oSum [.d (.lst [.int a, .int b])] S = some (.ok (.d (.int (a + b))), S) := by
  have := oSum_ints [a, b] S
  simpa using this
@[simp] theorem ck_def (n : Nat) (F : Fn) (args : List Val) (S : Store) : ck n F args S = if args.length = n then F args S else none := rfl
@[simp] theorem wipe_nil (env : Env) : wipeE env [] = env := rfl
@[simp] theorem wipe_cons (env : Env) (v : Nat) (vs : List Nat) : wipeE env (v :: vs) = (wipeE env vs).set v none := rfl
@[simp] theorem gN_def (i : Nat) (x : Val) (env : Env) : gN i x env = some (env.set i (some x)) := rfl
@[simp] theorem okL_0 (S : Store) : okL [] S = some (.ok [], S) := rfl
@[simp] theorem okL_1 (a : Val) (S : Store) : okL [a] S = some (.ok [a], S) := okL_ok _ S (sl (by simp))
@[simp] theorem okL_2 (a b : Val) (S : Store) : okL [a, b] S = some (.ok [a, b], S) := okL_ok _ S (sl (by simp))
@[simp] theorem okL_3 (a b c : Val) (S : Store) : okL [a, b, c] S = some (.ok [a, b, c], S) := okL_ok _ S (sl (by simp))
@[simp] theorem okL_5 (a b c d e : Val) (S : Store) : okL [a, b, c, d, e] S = some (.ok [a, b, c, d, e], S) := okL_ok _ S (sl (by simp))
theorem lc2L_pure {α β : Type} {gt : Val → Env → Option Env} {gc : FB} {fi1 : FA} {gt1 : Val → Env → Option Env} {gc1 : FB} {f : FE} {vs1 : List Nat} {env0 : Env} (g : α → Val) (ys : α → List β) (g1 : β → Val) (p1 : α → β → Bool) (h : α → β → Val) (S : Store) : ∀ (xs : List α) (acc : List Val),
    acc.length + (xs.flatMap ys).length ≤ sizeLine →
    (∀ x ∈ xs, ∃ env1, gt (g x) env0 = some env1 ∧ gc env1 S = some (.ok true, S) ∧ fi1 env1 S = some (.ok ((ys x).map g1), S) ∧
      ∀ y ∈ ys x, ∃ env2, gt1 (g1 y) (wipeE env1 vs1) = some env2 ∧ gc1 env2 S = some (.ok (p1 x y), S) ∧ (p1 x y = true → f env2 S = some (.ok (h x y), S))) →
    lc2L gt gc fi1 gt1 gc1 f vs1 env0 (xs.map g) acc S = some (.ok (acc ++ xs.flatMap fun x => ((ys x).filter (p1 x)).map (h x)), S)
  | [], acc, _, _ => by show some (Ex.ok acc, S) = _; simp
  | x :: xs, acc, hl, H => by
    obtain ⟨env1, h1, h2, h3, h4⟩ := H x List.mem_cons_self
    rw [List.flatMap_cons, List.length_append] at hl
    show (match gt (g x) env0 with | none => none | some env1 => _) = _
    rw [h1]
    dsimp only
    rw [bnd_def, h2]
    dsimp only
    rw [if_pos rfl, bnd_def, h3]
    dsimp only
    rw [bnd_def, lcL_pure g1 (h x) (p1 x) S (ys x) acc (by omega) h4]
    dsimp only
    have hf := List.length_filter_le (p1 x) (ys x)
    rw [lc2L_pure g ys g1 p1 h S xs _ (by rw [List.length_append, List.length_map]; omega) fun y hy => H y (List.mem_cons_of_mem _ hy)]
    simp
theorem fLc2_pure {α β : Type} {fi : FA} {gt : Val → Env → Option Env} {gc : FB} {fi1 : FA} {gt1 : Val → Env → Option Env} {gc1 : FB} {f : FE} {vs vs1 : List Nat} {env : Env} {S : Store} (g : α → D) (ys : α → List β) (g1 : β → D) (p1 : α → β → Bool) (h : α → β → D) (xs : List α)
    (hi : fi env S = some (.ok ((xs.map g).map Val.d), S)) (hl : (xs.flatMap ys).length ≤ sizeLine)
    (H : ∀ x ∈ xs, ∃ env1, gt (.d (g x)) (wipeE env vs) = some env1 ∧ gc env1 S = some (.ok true, S) ∧ fi1 env1 S = some (.ok (((ys x).map g1).map Val.d), S) ∧
      ∀ y ∈ ys x, ∃ env2, gt1 (.d (g1 y)) (wipeE env1 vs1) = some env2 ∧ gc1 env2 S = some (.ok (p1 x y), S) ∧ (p1 x y = true → f env2 S = some (.ok (.d (h x y)), S))) :
    fLc2 fi gt gc fi1 gt1 gc1 f vs vs1 env S = some (.ok ((xs.flatMap fun x => ((ys x).filter (p1 x)).map (h x)).map Val.d), S) := by
  show bnd (fi env) _ S = _
  rw [bnd_def, hi]
  dsimp only
  refine noX_ok ?_
  rw [List.map_map, lc2L_pure (Val.d ∘ g) ys (Val.d ∘ g1) p1 (fun x y => Val.d (h x y)) S xs [] (by simpa using hl) (by simpa using H)]
  simp [List.map_flatMap, Function.comp_def]
/-! isinstance, sorted, equality of lists -/
@[simp] theorem fIsa_def (T : String) (fa : FE) (env : Env) (S : Store) : fIsa T fa env S = bnd (fa env) (fun x S => match (tyD x S).bind fun t => isaT t T with
  | some k => some (.ok (.d (.bl k)), S)
  | none => none) S := rfl
@[simp] theorem ty_tup (ds : List D) (S : Store) : tyD (.d (.tup ds)) S = some "tuple" := rfl
@[simp] theorem ty_lst (ds : List D) (S : Store) : tyD (.d (.lst ds)) S = some "list" := rfl
@[simp] theorem ty_int (i : Int) (S : Store) : tyD (.d (.int i)) S = some "int" := rfl
@[simp] theorem isa_tt : isaT "tuple" "tuple" = some true := by decide
@[simp] theorem isa_tl : isaT "tuple" "list" = some false := by decide
@[simp] theorem isa_lt : isaT "list" "tuple" = some false := by decide
@[simp] theorem isa_ll : isaT "list" "list" = some true := by decide
@[simp] theorem isa_it : isaT "int" "tuple" = some false := by decide
@[simp] theorem isa_il : isaT "int" "list" = some false := by decide
@[simp] theorem isa_ib : isaT "int" "bool" = some false := by decide
@[simp] theorem isa_ii : isaT "int" "int" = some true := by decide
@[simp] theorem oSorted_0 (S : Store) : oSorted [.d (.lst [])] S = some (.ok [], S) := rfl
@[simp] theorem oSorted_1 (a : Int) (S : Store) : oSorted [.d (.lst [.int a])] S = some (.ok [.d (.int a)], S) := rfl
@[simp] theorem oSorted_2 (a b : Int) (S : Store) : oSorted [.d (.lst [.int a, .int b])] S = some (.ok (if a ≤ b then [.d (.int a), .d (.int b)] else [.d (.int b), .d (.int a)]), S) := by
  show some (Ex.ok (intsV (if a ≤ b then [a, b] else [b, a])), S) = _
  split <;> rfl
@[simp] theorem eq_l0 (neg : Bool) (S : Store) : oEq neg (.d (.lst [])) (.d (.lst [])) S = some (.ok (.d (.bl (true != neg))), S) := oEq_of neg (by decide) S
@[simp] theorem eq_l1 (neg : Bool) (a : Int) (S : Store) : oEq neg (.d (.lst [.int a])) (.d (.lst [])) S = some (.ok (.d (.bl (false != neg))), S) := oEq_of neg rfl S
@[simp] theorem eq_l2 (neg : Bool) (a b : Int) (S : Store) : oEq neg (.d (.lst [.int a, .int b])) (.d (.lst [])) S = some (.ok (.d (.bl (false != neg))), S) := oEq_of neg rfl S
@[simp] theorem sk_number : PyData.strOk ("number" : Str) = true := by decide +kernel
@[simp] theorem sk_name : PyData.strOk ("name" : Str) = true := by decide +kernel
@[simp] theorem sk_not : PyData.strOk ("not" : Str) = true := by decide +kernel
@[simp] theorem sk_plus : PyData.strOk ("plus" : Str) = true := by decide +kernel
@[simp] theorem sk_minus : PyData.strOk ("minus" : Str) = true := by decide +kernel
@[simp] theorem sk_times : PyData.strOk ("times" : Str) = true := by decide +kernel
@[simp] theorem sk_less : PyData.strOk ("less" : Str) = true := by decide +kernel
@[simp] theorem sk_same : PyData.strOk ("same" : Str) = true := by decide +kernel
@[simp] theorem sk_set : PyData.strOk ("set" : Str) = true := by decide +kernel
@[simp] theorem sk_tell : PyData.strOk ("tell" : Str) = true := by decide +kernel
@[simp] theorem sk_if : PyData.strOk ("if" : Str) = true := by decide +kernel
@[simp] theorem sk_while : PyData.strOk ("while" : Str) = true := by decide +kernel
@[simp] theorem sk_unless : PyData.strOk ("unless" : Str) = true := by decide +kernel
@[simp] theorem sk_jump : PyData.strOk ("jump" : Str) = true := by decide +kernel
@[simp] theorem sk_turn : PyData.strOk ("turn" : Str) = true := by decide +kernel
@[simp] theorem sk_put : PyData.strOk ("put" : Str) = true := by decide +kernel
@[simp] theorem sk_load : PyData.strOk ("load" : Str) = true := by decide +kernel
@[simp] theorem sk_store : PyData.strOk ("store" : Str) = true := by decide +kernel
@[simp] theorem sk_push : PyData.strOk ("push" : Str) = true := by decide +kernel
theorem fLc2_all {α β : Type} {fi : FA} {gt : Val → Env → Option Env} {fi1 : FA} {gt1 : Val → Env → Option Env} {f : FE} {vs vs1 : List Nat} {env : Env} {S : Store} (g : α → D) (ys : α → List β) (h : β → D) (xs : List α)
    (hi : fi env S = some (.ok ((xs.map g).map Val.d), S)) (hl : (xs.flatMap ys).length ≤ sizeLine)
    (H : ∀ x ∈ xs, ∃ env1, gt (.d (g x)) (wipeE env vs) = some env1 ∧ fi1 env1 S = some (.ok (((ys x).map h).map Val.d), S) ∧
      ∀ y ∈ ys x, ∃ env2, gt1 (.d (h y)) (wipeE env1 vs1) = some env2 ∧ f env2 S = some (.ok (.d (h y)), S)) :
    fLc2 fi gt gYes fi1 gt1 gYes f vs vs1 env S = some (.ok (((xs.flatMap ys).map h).map Val.d), S) := by
  have := fLc2_pure (gc := gYes) (gc1 := gYes) (gt := gt) (fi1 := fi1) (gt1 := gt1) (f := f) (vs := vs) (vs1 := vs1) g ys h (fun _ _ => true) (fun _ y => h y) xs hi hl fun x hx => by
    obtain ⟨env1, h1, h2, h3⟩ := H x hx
    exact ⟨env1, h1, rfl, h2, fun y hy => by
      obtain ⟨env2, h4, h5⟩ := h3 y hy
      exact ⟨env2, h4, rfl, fun _ => h5⟩⟩
  rw [this]
  have e : ∀ x : α, ((ys x).filter fun _ => true).map (fun y => h y) = (ys x).map h := fun x => by rw [List.filter_eq_self.mpr fun _ _ => rfl]
  simp only [e, List.map_flatMap]
end Y

set_option Elab.async false
set_option linter.all false
set_option maxRecDepth 100000
set_option maxHeartbeats 4000000
namespace Y
open PySem PySem.Spec L2
/-! ### the trees -/
inductive W where
  | plus | minus | times | less | same
def W.s : W → Str
  | .plus => "plus" | .minus => "minus" | .times => "times" | .less => "less" | .same => "same"
inductive Ec where
  | num (i : Int) | nam (i : Int) | un (a : Ec) | bin (w : W) (a b : Ec)
def Ec.enc : Ec → D
  | .num i => .tup [.str "number", .int i]
  | .nam i => .tup [.str "name", .int i]
  | .un a => .tup [.str "not", a.enc]
  | .bin w a b => .tup [.str w.s, a.enc, b.enc]
def Ec.sz : Ec → Nat
  | .num _ => 1 | .nam _ => 1 | .un a => 1 + a.sz | .bin _ a b => 1 + a.sz + b.sz
def Ec.nd : Ec → Nat
  | .num _ => 1 | .nam _ => 1 | .un a => a.nd | .bin _ a b => if a.nd = b.nd then a.nd + 1 else max a.nd b.nd
def Ec.dp : Ec → Nat
  | .num _ => 0 | .nam _ => 0 | .un a => a.dp + 1 | .bin _ a b => max a.dp b.dp + 1
/-- its parts -/
def Ec.parts : Ec → List Ec
  | .num _ => [] | .nam _ => [] | .un a => [a] | .bin _ a b => [a, b]
theorem prog_succ (k : Nat) (f : Fnm) : prog (k + 1) f = bodies (prog k) f := by
  first | rfl | (rw [prog])
theorem size_ok : ∀ (e : Ec) (k : Nat) (S : Store), e.dp < k → prog k .f_size [.d e.enc] S = some (.ok (.d (.int e.sz)), S)
  | .num i, k + 1, S, h => by
    rw [prog_succ]
    show fnM 1 2 true (m_size (prog k)) [_] S = _
    exact fnM_same (env := [some (.d (Ec.num i).enc), none]) rfl rfl
  | .nam i, k + 1, S, h => by
    rw [prog_succ]
    show fnM 1 2 true (m_size (prog k)) [_] S = _
    exact fnM_same (env := [some (.d (Ec.nam i).enc), none]) rfl rfl
  | .un a, k + 1, S, h => by
    have ih := size_ok a k S (by simp only [Ec.dp] at h; omega)
    rw [prog_succ]
    show fnM 1 2 true (m_size (prog k)) [_] S = _
    refine fnM_same (env := [some (.d (Ec.un a).enc), none]) rfl ?_
    simp (decide := true) [m_size, envOf, Ec.enc]
    rw [fLc_all Ec.enc (fun e => .int e.sz) [a] (by simp) (sl (by simp)) (fun x hx => ⟨_, rfl, by simp at hx; subst hx; simp [ih]⟩)]
    simp [Ec.sz]
  | .bin w a b, k + 1, S, h => by
    have ih := size_ok a k S (by simp only [Ec.dp] at h; omega)
    have ih2 := size_ok b k S (by simp only [Ec.dp] at h; omega)
    rw [prog_succ]
    show fnM 1 2 true (m_size (prog k)) [_] S = _
    refine fnM_same (env := [some (.d (Ec.bin w a b).enc), none]) rfl ?_
    cases w <;>
    (simp (decide := true) [m_size, envOf, Ec.enc, W.s]
     rw [fLc_all Ec.enc (fun e => .int e.sz) [a, b] (by simp) (sl (by simp)) (fun x hx => ⟨_, rfl, by simp at hx; rcases hx with rfl | rfl <;> simp [ih, ih2]⟩)]
     simp [Ec.sz]
     omega)
theorem Ec.ty (e : Ec) (S : Store) : tyD (.d e.enc) S = some "tuple" := by cases e <;> rfl
theorem Ec.nd_pos : ∀ e : Ec, 1 ≤ e.nd
  | .num _ => Nat.le_refl _ | .nam _ => Nat.le_refl _ | .un a => a.nd_pos
  | .bin w a b => by
    have := a.nd_pos
    unfold Ec.nd
    split <;> omega
theorem need_ok : ∀ (e : Ec) (k : Nat) (S : Store), e.dp < k → prog k .f_need [.d e.enc] S = some (.ok (.d (.int e.nd)), S)
  | .num i, k + 1, S, h => by
    rw [prog_succ]
    show fnM 1 3 true (m_need (prog k)) [_] S = _
    exact fnM_same (env := [some (.d (Ec.num i).enc), none, none]) rfl rfl
  | .nam i, k + 1, S, h => by
    rw [prog_succ]
    show fnM 1 3 true (m_need (prog k)) [_] S = _
    exact fnM_same (env := [some (.d (Ec.nam i).enc), none, none]) rfl rfl
  | .un a, k + 1, S, h => by
    have ih := need_ok a k S (by simp only [Ec.dp] at h; omega)
    rw [prog_succ]
    show fnM 1 3 true (m_need (prog k)) [_] S = _
    refine fnM_same (env := [some (.d (Ec.un a).enc), none, none]) rfl ?_
    simp (decide := true) [m_need, envOf, Ec.enc, ih, Ec.nd]
  | .bin w a b, k + 1, S, h => by
    have ih := need_ok a k S (by simp only [Ec.dp] at h; omega)
    have ih2 := need_ok b k S (by simp only [Ec.dp] at h; omega)
    rw [prog_succ]
    show fnM 1 3 true (m_need (prog k)) [_] S = _
    refine fnM_same (env := [some (.d (Ec.bin w a b).enc), some (.d (.int a.nd)), some (.d (.int b.nd))]) rfl ?_
    cases w <;>
    (simp (decide := true) [m_need, envOf, Ec.enc, W.s, ih, ih2, Ec.nd]
     by_cases e : (a.nd : Int) = b.nd
     · have e' : a.nd = b.nd := by omega
       simp [e']
     · have e' : a.nd ≠ b.nd := by omega
       simp [e, e']
       try omega)
theorem lneed_ok : ∀ (e : Ec) (k : Nat) (S : Store), e.dp < k → prog k .f_law_need [.d e.enc] S = some (.ok (.d (.int e.nd)), S)
  | .num i, k + 1, S, h => by
    rw [prog_succ]
    show fnM 1 3 true (m__law_need (prog k)) [_] S = _
    refine fnM_same (env := [some (.d (Ec.num i).enc), some (.d (.lst [])), none]) rfl ?_
    simp (decide := true) [m__law_need, envOf, Ec.enc]
    rw [fLc_pure (fun q : D × D × Bool => q.1) (fun q => q.2.1) (fun q => q.2.2) [(D.int i, D.non, false)] (by simp) (sl (by simp)) (fun x hx => ⟨_, rfl, by simp at hx; subst hx; simp, by simp at hx; subst hx; simp⟩)]
    simp (decide := true) [Ec.nd]
  | .nam i, k + 1, S, h => by
    rw [prog_succ]
    show fnM 1 3 true (m__law_need (prog k)) [_] S = _
    refine fnM_same (env := [some (.d (Ec.nam i).enc), some (.d (.lst [])), none]) rfl ?_
    simp (decide := true) [m__law_need, envOf, Ec.enc]
    rw [fLc_pure (fun q : D × D × Bool => q.1) (fun q => q.2.1) (fun q => q.2.2) [(D.int i, D.non, false)] (by simp) (sl (by simp)) (fun x hx => ⟨_, rfl, by simp at hx; subst hx; simp, by simp at hx; subst hx; simp⟩)]
    simp (decide := true) [Ec.nd]
  | .un a, k + 1, S, h => by
    have ih := lneed_ok a k S (by simp only [Ec.dp] at h; omega)
    rw [prog_succ]
    show fnM 1 3 true (m__law_need (prog k)) [_] S = _
    refine fnM_same (env := [some (.d (Ec.un a).enc), some (.d (.lst [.int a.nd])), none]) rfl ?_
    simp (decide := true) [m__law_need, envOf, Ec.enc]
    rw [fLc_pure (fun q : D × D × Bool => q.1) (fun q => q.2.1) (fun q => q.2.2) [(a.enc, D.int a.nd, true)] (by simp) (sl (by simp)) (fun x hx => ⟨_, rfl, by simp at hx; subst hx; simp [Ec.ty], by simp at hx; subst hx; simp [ih]⟩)]
    simp (decide := true) [Ec.nd]
  | .bin w a b, k + 1, S, h => by
    have ih := lneed_ok a k S (by simp only [Ec.dp] at h; omega)
    have ih2 := lneed_ok b k S (by simp only [Ec.dp] at h; omega)
    rw [prog_succ]
    show fnM 1 3 true (m__law_need (prog k)) [_] S = _
    by_cases hab : (a.nd : Int) ≤ b.nd
    · refine fnM_same (env := [some (.d (Ec.bin w a b).enc), some (.d (.lst [.int a.nd, .int b.nd])), none]) rfl ?_
      simp (decide := true) [m__law_need, envOf, Ec.enc]
      rw [fLc_pure (fun q : D × D × Bool => q.1) (fun q => q.2.1) (fun q => q.2.2) [(a.enc, D.int a.nd, true), (b.enc, D.int b.nd, true)] (by simp) (sl (by simp)) (fun x hx => ⟨_, rfl, by simp at hx; rcases hx with rfl | rfl <;> simp [Ec.ty], by simp at hx; rcases hx with rfl | rfl <;> simp [ih, ih2]⟩)]
      simp (decide := true) [Ec.nd, hab]
      by_cases e : a.nd < b.nd
      · have e' : a.nd ≠ b.nd := by omega
        simp [e, e']
        omega
      · have e' : a.nd = b.nd := by omega
        simp [e']
    · refine fnM_same (env := [some (.d (Ec.bin w a b).enc), some (.d (.lst [.int b.nd, .int a.nd])), none]) rfl ?_
      simp (decide := true) [m__law_need, envOf, Ec.enc]
      rw [fLc_pure (fun q : D × D × Bool => q.1) (fun q => q.2.1) (fun q => q.2.2) [(a.enc, D.int a.nd, true), (b.enc, D.int b.nd, true)] (by simp) (sl (by simp)) (fun x hx => ⟨_, rfl, by simp at hx; rcases hx with rfl | rfl <;> simp [Ec.ty], by simp at hx; rcases hx with rfl | rfl <;> simp [ih, ih2]⟩)]
      simp (decide := true) [Ec.nd, hab]
      have e : b.nd < a.nd := by omega
      have e' : a.nd ≠ b.nd := by omega
      simp [e, e']
      omega
theorem lsize_ok : ∀ (e : Ec) (k : Nat) (S : Store), e.dp < k → prog k .f_law_size_of [.d e.enc] S = some (.ok (.d (.int e.sz)), S)
  | .num i, k + 1, S, h => by
    rw [prog_succ]
    show fnM 1 2 true (m__law_size_of (prog k)) [_] S = _
    refine fnM_same (env := [some (.d (Ec.num i).enc), none]) rfl ?_
    simp (decide := true) [m__law_size_of, envOf, Ec.enc]
    rw [fLc_pure (fun q : D × D × Bool => q.1) (fun q => q.2.1) (fun q => q.2.2) [(D.int i, D.non, false)] (by simp) (sl (by simp)) (fun x hx => ⟨_, rfl, by simp at hx; subst hx; simp, by simp at hx; subst hx; simp⟩)]
    simp (decide := true) [Ec.sz]
  | .nam i, k + 1, S, h => by
    rw [prog_succ]
    show fnM 1 2 true (m__law_size_of (prog k)) [_] S = _
    refine fnM_same (env := [some (.d (Ec.nam i).enc), none]) rfl ?_
    simp (decide := true) [m__law_size_of, envOf, Ec.enc]
    rw [fLc_pure (fun q : D × D × Bool => q.1) (fun q => q.2.1) (fun q => q.2.2) [(D.int i, D.non, false)] (by simp) (sl (by simp)) (fun x hx => ⟨_, rfl, by simp at hx; subst hx; simp, by simp at hx; subst hx; simp⟩)]
    simp (decide := true) [Ec.sz]
  | .un a, k + 1, S, h => by
    have ih := lsize_ok a k S (by simp only [Ec.dp] at h; omega)
    rw [prog_succ]
    show fnM 1 2 true (m__law_size_of (prog k)) [_] S = _
    refine fnM_same (env := [some (.d (Ec.un a).enc), none]) rfl ?_
    simp (decide := true) [m__law_size_of, envOf, Ec.enc]
    rw [fLc_pure (fun q : D × D × Bool => q.1) (fun q => q.2.1) (fun q => q.2.2) [(a.enc, D.int a.sz, true)] (by simp) (sl (by simp)) (fun x hx => ⟨_, rfl, by simp at hx; subst hx; simp [Ec.ty], by simp at hx; subst hx; simp [ih]⟩)]
    simp (decide := true) [Ec.sz]
  | .bin w a b, k + 1, S, h => by
    have ih := lsize_ok a k S (by simp only [Ec.dp] at h; omega)
    have ih2 := lsize_ok b k S (by simp only [Ec.dp] at h; omega)
    rw [prog_succ]
    show fnM 1 2 true (m__law_size_of (prog k)) [_] S = _
    refine fnM_same (env := [some (.d (Ec.bin w a b).enc), none]) rfl ?_
    simp (decide := true) [m__law_size_of, envOf, Ec.enc]
    rw [fLc_pure (fun q : D × D × Bool => q.1) (fun q => q.2.1) (fun q => q.2.2) [(a.enc, D.int a.sz, true), (b.enc, D.int b.sz, true)] (by simp) (sl (by simp)) (fun x hx => ⟨_, rfl, by simp at hx; rcases hx with rfl | rfl <;> simp [Ec.ty], by simp at hx; rcases hx with rfl | rfl <;> simp [ih, ih2]⟩)]
    simp (decide := true) [Ec.sz]
    omega
/-! ### boxes -/
inductive Cb where
  | put (b n : Int) | load (b n : Int) | nt (b c : Int) | op (w : W) (b c d : Int) | store (b n : Int) | tell (b : Int) | unl (b t : Int) | jump (t : Int) | turn
def Cb.enc : Cb → D
  | .put b n => .tup [.str "put", .int b, .int n]
  | .load b n => .tup [.str "load", .int b, .int n]
  | .nt b c => .tup [.str "not", .int b, .int c]
  | .op w b c d => .tup [.str w.s, .int b, .int c, .int d]
  | .store b n => .tup [.str "store", .int b, .int n]
  | .tell b => .tup [.str "tell", .int b]
  | .unl b t => .tup [.str "unless", .int b, .int t]
  | .jump t => .tup [.str "jump", .int t]
  | .turn => .tup [.str "turn"]
def Ec.kb : Ec → Int → List Cb
  | .num i, b => [.put b i]
  | .nam i, b => [.load b i]
  | .un a, b => a.kb b ++ [.nt b b]
  | .bin w x y, b => if y.nd ≤ x.nd then x.kb b ++ y.kb (b + 1) ++ [.op w b b (b + 1)] else y.kb b ++ x.kb (b + 1) ++ [.op w b (b + 1) b]
theorem Ec.kb_len : ∀ (e : Ec) (b : Int), (e.kb b).length = e.sz
  | .num i, b => rfl
  | .nam i, b => rfl
  | .un a, b => by simp [Ec.kb, Ec.sz, a.kb_len]; omega
  | .bin w x y, b => by unfold Ec.kb; split <;> (simp [Ec.sz, x.kb_len, y.kb_len]; omega)
theorem kb_ok : ∀ (e : Ec) (k : Nat) (S : Store) (b : Int), e.dp + 1 < k → e.sz ≤ 1000000 → prog k .f_code_of_boxes [.d e.enc, .d (.int b)] S = some (.ok (.d (.lst ((e.kb b).map Cb.enc))), S)
  | .num i, k + 1, S, b, h, hs => by
    rw [prog_succ]
    show fnM 2 4 true (m_code_of_boxes (prog k)) [_, _] S = _
    refine fnM_same (env := [some (.d (Ec.num i).enc), some (.d (.int b)), none, none]) rfl ?_
    simp (decide := true) [m_code_of_boxes, envOf, Ec.enc, Ec.kb, Cb.enc]
  | .nam i, k + 1, S, b, h, hs => by
    rw [prog_succ]
    show fnM 2 4 true (m_code_of_boxes (prog k)) [_, _] S = _
    refine fnM_same (env := [some (.d (Ec.nam i).enc), some (.d (.int b)), none, none]) rfl ?_
    simp (decide := true) [m_code_of_boxes, envOf, Ec.enc, Ec.kb, Cb.enc]
  | .un a, k + 1, S, b, h, hs => by
    have ih := kb_ok a k S b (by simp only [Ec.dp] at h; omega) (by simp only [Ec.sz] at hs; omega)
    rw [prog_succ]
    show fnM 2 4 true (m_code_of_boxes (prog k)) [_, _] S = _
    refine fnM_same (env := [some (.d (Ec.un a).enc), some (.d (.int b)), none, none]) rfl ?_
    simp (decide := true) [m_code_of_boxes, envOf, Ec.enc, ih]
    simp only [Ec.sz] at hs
    rw [oPlus_lst _ _ _ (sl (by simp [Ec.kb_len]; omega))]
    simp [Ec.kb, Cb.enc]
  | .bin w x y, k + 1, S, b, h, hs => by
    have n1 := need_ok x k S (by simp only [Ec.dp] at h; omega)
    have n2 := need_ok y k S (by simp only [Ec.dp] at h; omega)
    have i1 := fun b => kb_ok x k S b (by simp only [Ec.dp] at h; omega) (by simp only [Ec.sz] at hs; omega)
    have i2 := fun b => kb_ok y k S b (by simp only [Ec.dp] at h; omega) (by simp only [Ec.sz] at hs; omega)
    rw [prog_succ]
    show fnM 2 4 true (m_code_of_boxes (prog k)) [_, _] S = _
    refine fnM_same (env := [some (.d (Ec.bin w x y).enc), some (.d (.int b)), some (.d x.enc), some (.d y.enc)]) rfl ?_
    simp only [Ec.sz] at hs
    by_cases c : y.nd ≤ x.nd
    · cases w <;>
      (simp (decide := true) [m_code_of_boxes, envOf, Ec.enc, W.s, n1, n2, i1, i2, c]
       rw [oPlus_lst _ _ _ (sl (by simp [Ec.kb_len]; omega))]
       simp only []
       rw [oPlus_lst _ _ _ (sl (by simp [Ec.kb_len]; omega))]
       simp [Ec.kb, Cb.enc, c, W.s])
    · cases w <;>
      (simp (decide := true) [m_code_of_boxes, envOf, Ec.enc, W.s, n1, n2, i1, i2, c]
       rw [oPlus_lst _ _ _ (sl (by simp [Ec.kb_len]; omega))]
       simp only []
       rw [oPlus_lst _ _ _ (sl (by simp [Ec.kb_len]; omega))]
       simp [Ec.kb, Cb.enc, c, W.s])
/-! ### stacks -/
inductive Cs where
  | push (n : Int) | load (n : Int) | nt | op (w : W) | store (n : Int) | tell | unl (t : Int) | jump (t : Int) | turn
def Cs.enc : Cs → D
  | .push n => .tup [.str "push", .int n]
  | .load n => .tup [.str "load", .int n]
  | .nt => .tup [.str "not"]
  | .op w => .tup [.str w.s]
  | .store n => .tup [.str "store", .int n]
  | .tell => .tup [.str "tell"]
  | .unl t => .tup [.str "unless", .int t]
  | .jump t => .tup [.str "jump", .int t]
  | .turn => .tup [.str "turn"]
def Ec.ks : Ec → List Cs
  | .num i => [.push i]
  | .nam i => [.load i]
  | .un a => a.ks ++ [.nt]
  | .bin w x y => x.ks ++ y.ks ++ [.op w]
theorem Ec.ks_len : ∀ (e : Ec), (e.ks).length = e.sz
  | .num i => rfl
  | .nam i => rfl
  | .un a => by simp [Ec.ks, Ec.sz, a.ks_len]; omega
  | .bin w x y => by simp [Ec.ks, Ec.sz, x.ks_len, y.ks_len]; omega
theorem ks_ok : ∀ (e : Ec) (k : Nat) (S : Store), e.dp < k → e.sz ≤ 1000000 → prog k .f_code_of_stacks [.d e.enc] S = some (.ok (.d (.lst (e.ks.map Cs.enc))), S)
  | .num i, k + 1, S, h, hs => by
    rw [prog_succ]
    show fnM 1 3 true (m_code_of_stacks (prog k)) [_] S = _
    refine fnM_same (env := [some (.d (Ec.num i).enc), none, none]) rfl ?_
    simp (decide := true) [m_code_of_stacks, envOf, Ec.enc, Ec.ks, Cs.enc]
  | .nam i, k + 1, S, h, hs => by
    rw [prog_succ]
    show fnM 1 3 true (m_code_of_stacks (prog k)) [_] S = _
    refine fnM_same (env := [some (.d (Ec.nam i).enc), none, none]) rfl ?_
    simp (decide := true) [m_code_of_stacks, envOf, Ec.enc, Ec.ks, Cs.enc]
  | .un a, k + 1, S, h, hs => by
    have ih := ks_ok a k S (by simp only [Ec.dp] at h; omega) (by simp only [Ec.sz] at hs; omega)
    rw [prog_succ]
    show fnM 1 3 true (m_code_of_stacks (prog k)) [_] S = _
    refine fnM_same (env := [some (.d (Ec.un a).enc), none, none]) rfl ?_
    simp only [Ec.sz] at hs
    simp (decide := true) [m_code_of_stacks, envOf, Ec.enc]
    rw [fLc2_all Ec.enc Ec.ks Cs.enc [a] (by simp) (sl (by simp [Ec.ks_len]; omega)) (fun x hx => ⟨_, rfl, by simp at hx; subst hx; simp [ih], fun y hy => ⟨_, rfl, by simp⟩⟩)]
    simp only [List.flatMap_cons, List.flatMap_nil, List.append_nil, frz_map]
    rw [oPlus_lst _ _ _ (sl (by simp [Ec.ks_len]; omega))]
    simp [Ec.ks]
    rfl
  | .bin w x y, k + 1, S, h, hs => by
    have i1 := ks_ok x k S (by simp only [Ec.dp] at h; omega) (by simp only [Ec.sz] at hs; omega)
    have i2 := ks_ok y k S (by simp only [Ec.dp] at h; omega) (by simp only [Ec.sz] at hs; omega)
    rw [prog_succ]
    show fnM 1 3 true (m_code_of_stacks (prog k)) [_] S = _
    refine fnM_same (env := [some (.d (Ec.bin w x y).enc), none, none]) rfl ?_
    simp only [Ec.sz] at hs
    cases w <;>
    (simp (decide := true) [m_code_of_stacks, envOf, Ec.enc, W.s]
     rw [fLc2_all Ec.enc Ec.ks Cs.enc [x, y] (by simp) (sl (by simp [Ec.ks_len]; omega)) (fun x hx => ⟨_, rfl, by simp at hx; rcases hx with rfl | rfl <;> simp [i1, i2], fun y hy => ⟨_, rfl, by simp⟩⟩)]
     simp only [List.flatMap_cons, List.flatMap_nil, List.append_nil, frz_map]
     rw [oPlus_lst _ _ _ (sl (by simp [Ec.ks_len]; omega))]
     simp [Ec.ks]
     rfl)
end Y

set_option Elab.async false
set_option linter.all false
set_option maxRecDepth 100000
set_option maxHeartbeats 4000000
namespace Y
open PySem PySem.Spec L2
/-! ### loops -/
theorem forL_run {α : Type} {gt : Val → Env → Option Env} {body : FS} (g : α → D) (P : List α → Env → Store → Prop) (all : List α)
    (H : ∀ done x rest env S, done ++ x :: rest = all → P done env S → ∃ env1 env2 S2, gt (.d (g x)) env = some env1 ∧ body env1 S = some (.nx, env2, S2) ∧ P (done ++ [x]) env2 S2) :
    ∀ (xs done : List α) (env : Env) (S : Store), done ++ xs = all → P done env S → ∃ env' S', forL gt body ((xs.map g).map Val.d) env S = some (.nx, env', S') ∧ P all env' S'
  | [], done, env, S, e, h => ⟨env, S, rfl, by rw [← e, List.append_nil]; exact h⟩
  | x :: xs, done, env, S, e, h => by
    obtain ⟨env1, env2, S2, h1, h2, h3⟩ := H done x xs env S e h
    obtain ⟨env', S', h4, h5⟩ := forL_run g P all H xs (done ++ [x]) env2 S2 (by rw [← e]; simp) h3
    refine ⟨env', S', ?_, h5⟩
    rw [List.map_cons, List.map_cons]
    unfold forL
    rw [h1]
    dsimp only
    rw [h2]
    exact h4
theorem getA (S T : Store) (j : Nat) : (S ++ T)[S.length + j]? = T[j]? := by rw [List.getElem?_append_right (by omega)]; congr 1; omega
theorem setA (S T : Store) (j : Nat) (o : Ob) : (S ++ T).set (S.length + j) o = S ++ T.set j o := by rw [List.set_append_right _ _ (by omega)]; congr 2; omega
section
variable {S T : Store} {j : Nat} {xs : List Val} {ds : List D}
theorem isL_A (h : T[j]? = some (.lst xs)) : isL (.r (S.length + j)) (S ++ T) = some (.ok (), S ++ T) := by
  unfold isL
  show (match (S ++ T)[S.length + j]? with | some (.lst _) => _ | _ => _) = _
  rw [getA, h]
theorem oApp_A {y : Val} (h : T[j]? = some (.lst xs)) (hl : xs.length < sizeLine) : oApp (.r (S.length + j)) y (S ++ T) = some (.ok (.d .non), S ++ T.set j (.lst (xs ++ [y]))) := by
  unfold oApp
  show (match (S ++ T)[S.length + j]? with | some (.lst xs) => _ | _ => _) = _
  rw [getA, h]
  dsimp only
  rw [if_pos hl, setA]
theorem lstV_A (h : T[j]? = some (.lst xs)) : lstV (.r (S.length + j)) (S ++ T) = some xs := by
  unfold lstV
  show (match (S ++ T)[S.length + j]? with | some (.lst xs) => _ | _ => _) = _
  rw [getA, h]
theorem seqV_A (h : T[j]? = some (.lst xs)) : seqV (.r (S.length + j)) (S ++ T) = some xs := lstV_A h
theorem oLen_A (h : T[j]? = some (.lst xs)) : oLen [.r (S.length + j)] (S ++ T) = some (.ok (.d (.int xs.length)), S ++ T) := by
  refine c1_ok ?_
  show (seqV (.r (S.length + j)) (S ++ T)).map List.length = _
  rw [seqV_A h]; rfl
theorem oIx_A {i : Int} {y : Val} (h : T[j]? = some (.lst xs)) (hi : atI xs i = some y) : oIx (.r (S.length + j)) (.d (.int i)) (S ++ T) = some (.ok y, S ++ T) := by
  show (match seqV (.r (S.length + j)) (S ++ T) with | none => none | some xs => (atI xs i).map fun x => (Ex.ok x, S ++ T)) = _
  rw [seqV_A h]
  dsimp only
  rw [hi]; rfl
theorem unN_A (h : T[j]? = some (.lst (ds.map Val.d))) : unN (.r (S.length + j)) (S ++ T) = some (.ok (.d (.lst ds)), S ++ T.set j .dead) := by
  unfold unN
  show (match (S ++ T)[S.length + j]? with | some (.lst xs) => (datas xs).map fun ds => (Ex.ok (Val.d (.lst ds)), (S ++ T).set (S.length + j) .dead) | _ => none) = _
  rw [getA, h]
  dsimp only
  rw [datas_mapD, setA]; rfl
theorem oCat_A {es : List D} (h : T[j]? = some (.lst (ds.map Val.d))) (hl : ds.length + es.length ≤ sizeLine) : oCat (.r (S.length + j)) (.d (.lst es)) (S ++ T) = some (.ok ((ds ++ es).map Val.d), S ++ T) := by
  unfold oCat
  rw [lstV_A h]
  show okL (ds.map Val.d ++ es.map Val.d) _ = _
  rw [← List.map_append]
  exact okL_ok _ _ (by simpa using hl)
theorem oPlus_A {es : List D} (h : T[j]? = some (.lst (ds.map Val.d))) (hl : ds.length + es.length ≤ sizeLine) : oPlus (.r (S.length + j)) (.d (.lst es)) (S ++ T) = some (.ok (.d (.lst (ds ++ es))), S ++ T) := by
  show bnd (oCat (.r (S.length + j)) (.d (.lst es))) frz (S ++ T) = _
  rw [bnd_def, oCat_A h hl]
  exact frz_map _ _
theorem oCat_lst {as bs : List D} {S : Store} (hl : as.length + bs.length ≤ sizeLine) : oCat (.d (.lst as)) (.d (.lst bs)) S = some (.ok ((as ++ bs).map Val.d), S) := by
  show okL (as.map Val.d ++ bs.map Val.d) S = _
  rw [← List.map_append]
  exact okL_ok _ _ (by simpa using hl)
end
@[simp] theorem fApp_def (fa fb : FE) (env : Env) (S : Store) : fApp fa fb env S = bnd (fa env) (fun x => bnd (isL x) fun _ => bnd (fb env) fun y => oApp x y) S := rfl
/-! ### blocks -/
inductive Tc where
  | set (n : Int) (e : Ec) | tell (e : Ec) | ite (e : Ec) (a b : List Tc) | whl (e : Ec) (a : List Tc)
mutual
def Tc.enc : Tc → D
  | .set n e => .tup [.str "set", .int n, e.enc]
  | .tell e => .tup [.str "tell", e.enc]
  | .ite e a b => .tup [.str "if", e.enc, .tup (Tc.encs a), .tup (Tc.encs b)]
  | .whl e a => .tup [.str "while", e.enc, .tup (Tc.encs a)]
def Tc.encs : List Tc → List D
  | [] => []
  | t :: r => t.enc :: Tc.encs r
end
theorem encs_map : ∀ ts : List Tc, Tc.encs ts = ts.map Tc.enc
  | [] => rfl
  | t :: r => by rw [Tc.encs, encs_map r]; rfl
mutual
def Tc.ht : Tc → Nat
  | .set _ _ => 0 | .tell _ => 0 | .ite _ a b => 1 + max (Tc.hts a) (Tc.hts b) | .whl _ a => 1 + Tc.hts a
def Tc.hts : List Tc → Nat
  | [] => 0
  | t :: r => max t.ht (Tc.hts r)
end
theorem hts_mem : ∀ {ts : List Tc} {x : Tc}, x ∈ ts → x.ht ≤ Tc.hts ts
  | t :: r, x, h => by
    rw [Tc.hts]
    rcases List.mem_cons.mp h with rfl | h
    · omega
    · have := hts_mem h; omega
mutual
def Tc.nl : Tc → Nat
  | .set _ _ => 1 | .tell _ => 1 | .ite _ a b => 2 + Tc.nls a + Tc.nls b | .whl _ a => 3 + Tc.nls a
def Tc.nls : List Tc → Nat
  | [] => 0
  | t :: r => t.nl + Tc.nls r
end
theorem nls_app : ∀ a b : List Tc, Tc.nls (a ++ b) = Tc.nls a + Tc.nls b
  | [], b => by simp [Tc.nls]
  | t :: r, b => by rw [List.cons_append, Tc.nls, Tc.nls, nls_app r b]; omega
theorem nls_one (x : Tc) : Tc.nls [x] = x.nl := by simp [Tc.nls]
mutual
def Tc.ex : Tc → List Ec
  | .set _ e => [e] | .tell e => [e] | .ite e a b => e :: (Tc.exs a ++ Tc.exs b) | .whl e a => e :: Tc.exs a
def Tc.exs : List Tc → List Ec
  | [] => []
  | t :: r => t.ex ++ Tc.exs r
end
theorem exs_app : ∀ a b : List Tc, Tc.exs (a ++ b) = Tc.exs a ++ Tc.exs b
  | [], b => by simp [Tc.exs]
  | t :: r, b => by rw [List.cons_append, Tc.exs, Tc.exs, exs_app r b, List.append_assoc]
theorem exs_one (x : Tc) : Tc.exs [x] = x.ex := by simp [Tc.exs]
/-- the deeds inside a deed -/
def Tc.sub : Tc → List (List Tc)
  | .set _ _ => [] | .tell _ => [] | .ite _ a b => [a, b] | .whl _ a => [a]
theorem sub_ht {x : Tc} {a : List Tc} (h : a ∈ x.sub) : Tc.hts a < x.ht := by
  cases x with
  | set n e => cases h
  | tell e => cases h
  | ite e a' b' =>
    have : a = a' ∨ a = b' := by simpa [Tc.sub] using h
    rw [Tc.ht]
    rcases this with rfl | rfl <;> omega
  | whl e a' =>
    have : a = a' := by simpa [Tc.sub] using h
    rw [Tc.ht, this]; omega
theorem llines_ok : ∀ (k : Nat) (ts : List Tc) (S : Store), Tc.hts ts < k → prog k .f_law_lines_of [.d (.tup (Tc.encs ts))] S = some (.ok (.d (.int (Tc.nls ts))), S)
  | k + 1, ts, S, h => by
    have ih : ∀ x, x ∈ ts → ∀ a, a ∈ x.sub → prog k .f_law_lines_of [.d (.tup (Tc.encs a))] S = some (.ok (.d (.int (Tc.nls a))), S) := fun x hx a ha => llines_ok k a S (by have := hts_mem hx; have := sub_ht ha; omega)
    rw [prog_succ]
    show fnM 1 3 true (m__law_lines_of (prog k)) [_] S = _
    obtain ⟨env', S', h1, h2⟩ := forL_run (gt := gN 2) (body := b__law_lines_of_1 (prog k)) Tc.enc (fun done env S' => S' = S ∧ ∃ j, env = [some (.d (.tup (Tc.encs ts))), some (.d (.int (Tc.nls done))), j]) ts
      (by
        rintro done x rest env S' e ⟨rfl, j, rfl⟩
        have hx : x ∈ ts := by rw [← e]; simp
        refine ⟨_, [some (.d (.tup (Tc.encs ts))), some (.d (.int (Tc.nls (done ++ [x])))), some (.d x.enc)], S', rfl, ?_, rfl, _, rfl⟩
        rw [nls_app, nls_one]
        cases x with
        | set n e => simp (decide := true) [b__law_lines_of_1, Tc.enc, Tc.nl]
        | tell e => simp (decide := true) [b__law_lines_of_1, Tc.enc, Tc.nl]
        | ite e a b =>
          have i1 := ih _ hx a (by simp [Tc.sub])
          have i2 := ih _ hx b (by simp [Tc.sub])
          simp (decide := true) [b__law_lines_of_1, Tc.enc, Tc.nl, i1, i2]
          omega
        | whl e a =>
          have i1 := ih _ hx a (by simp [Tc.sub])
          simp (decide := true) [b__law_lines_of_1, Tc.enc, Tc.nl, i1]
          omega) ts [] [some (.d (.tup (Tc.encs ts))), some (.d (.int 0)), none] S rfl ⟨rfl, _, rfl⟩
    obtain ⟨rfl, j, rfl⟩ := h2
    rw [← encs_map] at h1
    refine fnM_same (env := [some (.d (.tup (Tc.encs ts))), some (.d (.int (Tc.nls ts))), j]) rfl ?_
    simp [m__law_lines_of, envOf, h1]

/-! deeds -/
mutual
def Tc.dc : Tc → Nat
  | .set _ _ => 1 | .tell _ => 1 | .ite _ a b => 1 + Tc.dcs a + Tc.dcs b | .whl _ a => 1 + Tc.dcs a
def Tc.dcs : List Tc → Nat
  | [] => 0
  | t :: r => t.dc + Tc.dcs r
end
theorem dcs_app : ∀ a b : List Tc, Tc.dcs (a ++ b) = Tc.dcs a + Tc.dcs b
  | [], b => by simp [Tc.dcs]
  | t :: r, b => by rw [List.cons_append, Tc.dcs, Tc.dcs, dcs_app r b]; omega
theorem dcs_one (x : Tc) : Tc.dcs [x] = x.dc := by simp [Tc.dcs]
theorem dc_pos (x : Tc) : 1 ≤ x.dc := by cases x <;> simp [Tc.dc] <;> omega
mutual
theorem ex_len : ∀ x : Tc, x.ex.length = x.dc
  | .set _ _ => rfl
  | .tell _ => rfl
  | .ite _ a b => by simp [Tc.ex, Tc.dc, exs_len a, exs_len b]; omega
  | .whl _ a => by simp [Tc.ex, Tc.dc, exs_len a]; omega
theorem exs_len : ∀ ts : List Tc, (Tc.exs ts).length = Tc.dcs ts
  | [] => rfl
  | t :: r => by rw [Tc.exs, Tc.dcs, List.length_append, ex_len t, exs_len r]
end
theorem len_dcs : ∀ ts : List Tc, ts.length ≤ Tc.dcs ts
  | [] => Nat.le_refl _
  | t :: r => by have := len_dcs r; have := dc_pos t; rw [List.length_cons, Tc.dcs]; omega
def Tc.tag : Tc → D
  | .set _ _ => .str "set" | .tell _ => .str "tell" | .ite _ _ _ => .str "if" | .whl _ _ => .str "while"
theorem ldeeds_ok : ∀ (k : Nat) (ts : List Tc) (S : Store), Tc.hts ts < k → prog k .f_law_deeds_of [.d (.tup (Tc.encs ts))] S = some (.ok (.d (.int (Tc.dcs ts))), S)
  | k + 1, ts, S, h => by
    have ih : ∀ x, x ∈ ts → ∀ a, a ∈ x.sub → prog k .f_law_deeds_of [.d (.tup (Tc.encs a))] S = some (.ok (.d (.int (Tc.dcs a))), S) := fun x hx a ha => ldeeds_ok k a S (by have := hts_mem hx; have := sub_ht ha; omega)
    rw [prog_succ]
    show fnM 1 4 true (m__law_deeds_of (prog k)) [_] S = _
    obtain ⟨env', S', h1, h2⟩ := forL_run (gt := gN 2) (body := b__law_deeds_of_1 (prog k)) Tc.enc (fun done env S' => S' = S ∧ ∃ j j2, env = [some (.d (.tup (Tc.encs ts))), some (.d (.int (((ts.length : Nat) : Int) + Tc.dcs done - (done.length : Nat)))), j, j2]) ts
      (by
        rintro done x rest env S' e ⟨rfl, j, j2, rfl⟩
        have hx : x ∈ ts := by rw [← e]; simp
        refine ⟨_, [some (.d (.tup (Tc.encs ts))), some (.d (.int (((ts.length : Nat) : Int) + Tc.dcs (done ++ [x]) - ((done ++ [x]).length : Nat)))), some (.d x.enc), j2], S', rfl, ?_, rfl, _, _, rfl⟩
        rw [dcs_app, dcs_one, List.length_append, List.length_singleton]
        cases x with
        | set n e => simp (decide := true) [b__law_deeds_of_1, Tc.enc, Tc.dc]; omega
        | tell e => simp (decide := true) [b__law_deeds_of_1, Tc.enc, Tc.dc]; omega
        | ite e a b =>
          have i1 := ih _ hx a (by simp [Tc.sub])
          have i2 := ih _ hx b (by simp [Tc.sub])
          simp (decide := true) [b__law_deeds_of_1, Tc.enc, Tc.dc]
          rw [fLc_all (fun a => D.tup (Tc.encs a)) (fun a => D.int (Tc.dcs a)) [a, b] (by simp) (sl (by simp)) (fun x hx => ⟨_, rfl, by simp at hx; rcases hx with rfl | rfl <;> simp [i1, i2]⟩)]
          simp
          omega
        | whl e a =>
          have i1 := ih _ hx a (by simp [Tc.sub])
          simp (decide := true) [b__law_deeds_of_1, Tc.enc, Tc.dc]
          rw [fLc_all (fun a => D.tup (Tc.encs a)) (fun a => D.int (Tc.dcs a)) [a] (by simp) (sl (by simp)) (fun x hx => ⟨_, rfl, by simp at hx; subst hx; simp [i1]⟩)]
          simp
          omega) ts [] [some (.d (.tup (Tc.encs ts))), some (.d (.int (ts.length : Nat))), none, none] S rfl ⟨rfl, none, none, by simp [Tc.dcs]⟩
    obtain ⟨rfl, j, j2, rfl⟩ := h2
    rw [← encs_map] at h1
    refine fnM_same (env := [some (.d (.tup (Tc.encs ts))), some (.d (.int (((ts.length : Nat) : Int) + Tc.dcs ts - (ts.length : Nat)))), j, j2]) rfl ?_
    have hl : (Tc.encs ts).length = ts.length := by rw [encs_map, List.length_map]
    simp [m__law_deeds_of, envOf, hl, h1]
    omega
theorem sum_dcs : ∀ ts : List Tc, (ts.map fun x => (x.dc : Int)).sum = Tc.dcs ts
  | [] => rfl
  | t :: r => by rw [List.map_cons, List.sum_cons, sum_dcs r, Tc.dcs]; omega
theorem deeds_ok : ∀ (k : Nat) (ts : List Tc) (S : Store), Tc.hts ts < k → ts.length ≤ 1000000 → (∀ x ∈ ts, ∀ a ∈ x.sub, a.length ≤ 1000000) → Tc.dcs ts ≤ 1000000 → prog k .f_deeds_in [.d (.tup (Tc.encs ts))] S = some (.ok (.d (.int (Tc.dcs ts))), S)
  | k + 1, ts, S, h, hl, _, hd => by
    have hdm : ∀ x, x ∈ ts → x.dc ≤ Tc.dcs ts := by
      intro x hx
      obtain ⟨a, b, rfl⟩ := List.append_of_mem hx
      rw [dcs_app, Tc.dcs]; omega
    have hds : ∀ x : Tc, ∀ a, a ∈ x.sub → Tc.dcs a ≤ x.dc := by
      intro x a ha
      cases x <;> simp [Tc.sub] at ha
      · rcases ha with rfl | rfl <;> (rw [Tc.dc]; omega)
      · subst ha; rw [Tc.dc]; omega
    have ih : ∀ x, x ∈ ts → ∀ a, a ∈ x.sub → prog k .f_deeds_in [.d (.tup (Tc.encs a))] S = some (.ok (.d (.int (Tc.dcs a))), S) := fun x hx a ha => by
      have h1 := hdm x hx
      have h2 := hds x a ha
      have h3 := len_dcs a
      refine deeds_ok k a S (by have := hts_mem hx; have := sub_ht ha; omega) (by omega) (fun y hy b hb => ?_) (by omega)
      have h4 := len_dcs b
      have h5 := hds y b hb
      have h6 : y.dc ≤ Tc.dcs a := by
        obtain ⟨p, q, rfl⟩ := List.append_of_mem hy
        rw [dcs_app, Tc.dcs]; omega
      omega
    rw [prog_succ]
    show fnM 1 3 true (m_deeds_in (prog k)) [_] S = _
    refine fnM_same (env := [some (.d (.tup (Tc.encs ts))), none, none]) rfl ?_
    simp [m_deeds_in, envOf]
    rw [fLc_all Tc.enc (fun x => D.int x.dc) ts (by simp [encs_map]) (sl (by omega)) (fun x hx => ⟨_, rfl, by
      cases x with
      | set n e =>
        simp (decide := true) [Tc.enc, Tc.dc]
        rw [fLc_pure (fun q : D × D × Bool => q.1) (fun q => q.2.1) (fun q => q.2.2) [(e.enc, D.non, false)] (by simp) (sl (by simp)) (fun x hx => ⟨_, rfl, by simp at hx; subst hx; simp (decide := true), by simp at hx; subst hx; simp⟩)]
        simp (decide := true)
      | tell e =>
        simp (decide := true) [Tc.enc, Tc.dc]
        rw [fLc_pure (fun q : D × D × Bool => q.1) (fun q => q.2.1) (fun q => q.2.2) [] (by simp) (sl (by simp)) (fun x hx => by simp at hx)]
        simp (decide := true)
      | ite e a b =>
        have i1 := ih _ hx a (by simp [Tc.sub])
        have i2 := ih _ hx b (by simp [Tc.sub])
        simp (decide := true) [Tc.enc, Tc.dc]
        rw [fLc_pure (fun a => D.tup (Tc.encs a)) (fun a => D.int (Tc.dcs a)) (fun _ => true) [a, b] (by simp) (sl (by simp)) (fun x hx => ⟨_, rfl, by simp (decide := true), by simp at hx; rcases hx with rfl | rfl <;> simp [i1, i2]⟩)]
        simp
        omega
      | whl e a =>
        have i1 := ih _ hx a (by simp [Tc.sub])
        simp (decide := true) [Tc.enc, Tc.dc]
        rw [fLc_pure (fun a => D.tup (Tc.encs a)) (fun a => D.int (Tc.dcs a)) (fun _ => true) [a] (by simp) (sl (by simp)) (fun x hx => ⟨_, rfl, by simp (decide := true), by simp at hx; subst hx; simp [i1]⟩)]
        simp⟩)]
    simp only [frz_map]
    have e : (ts.map fun x => D.int x.dc) = (ts.map fun x => (x.dc : Int)).map D.int := by rw [List.map_map]; rfl
    rw [e]
    simp only [oSum_ints, sum_dcs]
    simp
end Y

set_option Elab.async false
set_option linter.all false
set_option maxRecDepth 100000
set_option maxHeartbeats 4000000
namespace Y
open PySem PySem.Spec L2
/-! ### expressions of a block -/
theorem exs_sub (x : Tc) : ∃ e, x.ex = e :: (x.sub.flatMap Tc.exs) := by
  cases x <;> simp [Tc.ex, Tc.sub]
theorem lexs_ok : ∀ (k : Nat) (ts : List Tc) (S : Store), Tc.hts ts < k → Tc.dcs ts ≤ 1000000 → prog k .f_law_expressions_of [.d (.tup (Tc.encs ts))] S = some (.ok (.d (.lst ((Tc.exs ts).map Ec.enc))), S)
  | k + 1, ts, S, h, hd => by
    have hdm : ∀ x, x ∈ ts → x.dc ≤ Tc.dcs ts := by
      intro x hx
      obtain ⟨a, b, rfl⟩ := List.append_of_mem hx
      rw [dcs_app, Tc.dcs]; omega
    have hds : ∀ x : Tc, ∀ a, a ∈ x.sub → Tc.dcs a ≤ x.dc := by
      intro x a ha
      cases x <;> simp [Tc.sub] at ha
      · rcases ha with rfl | rfl <;> (rw [Tc.dc]; omega)
      · subst ha; rw [Tc.dc]; omega
    have ih : ∀ x, x ∈ ts → ∀ a, a ∈ x.sub → ∀ S, prog k .f_law_expressions_of [.d (.tup (Tc.encs a))] S = some (.ok (.d (.lst ((Tc.exs a).map Ec.enc))), S) := fun x hx a ha S => lexs_ok k a S (by have := hts_mem hx; have := sub_ht ha; omega) (by have := hdm x hx; have := hds x a ha; omega)
    -- the inner loop
    have inner : ∀ (x : Tc), x ∈ ts → ∀ (pre : List Ec), pre.length + (x.sub.flatMap Tc.exs).length ≤ 1000000 → ∀ (T : Store) (j : Nat), T[j]? = some (.lst ((pre.map Ec.enc).map Val.d)) → ∀ j3,
        ∃ env' S', forL (gN 3) (b__law_expressions_of_1 (prog k)) ((x.sub.map fun a => D.tup (Tc.encs a)).map Val.d) [some (.d (.tup (Tc.encs ts))), some (.r (S.length + j)), some (.d x.enc), j3] (S ++ T) = some (.nx, env', S') ∧
          ∃ T' j' j3', S' = S ++ T' ∧ T'[j']? = some (.lst (((pre ++ x.sub.flatMap Tc.exs).map Ec.enc).map Val.d)) ∧ env' = [some (.d (.tup (Tc.encs ts))), some (.r (S.length + j')), some (.d x.enc), j3'] := by
      intro x hx pre hp T j hT j3
      refine forL_run (fun a => D.tup (Tc.encs a)) (fun done env' S' => ∃ T' j' j3', S' = S ++ T' ∧ T'[j']? = some (.lst (((pre ++ done.flatMap Tc.exs).map Ec.enc).map Val.d)) ∧ env' = [some (.d (.tup (Tc.encs ts))), some (.r (S.length + j')), some (.d x.enc), j3']) x.sub ?_ x.sub [] _ _ rfl ⟨T, j, j3, rfl, by simpa using hT, rfl⟩
      rintro done a rest env' S' e ⟨T', j', j3', rfl, hT', rfl⟩
      have ha : a ∈ x.sub := by rw [← e]; simp
      have hlen : (pre ++ done.flatMap Tc.exs).length + (Tc.exs a).length ≤ 1000000 := by
        rw [← e] at hp
        simp at hp
        simp
        omega
      refine ⟨_, [some (.d (.tup (Tc.encs ts))), some (.r (S.length + T'.length)), some (.d x.enc), some (.d (.tup (Tc.encs a)))], S ++ (T' ++ [.lst (((pre ++ (done ++ [a]).flatMap Tc.exs).map Ec.enc).map Val.d)]), rfl, ?_, _, T'.length, _, rfl, by simp, rfl⟩
      simp (decide := true) [b__law_expressions_of_1, ih x hx a ha]
      rw [← List.map_map, ← List.map_append] at *
      rw [oCat_A (ds := (pre ++ done.flatMap Tc.exs).map Ec.enc) (by simpa using hT') (sl (by simp at hlen ⊢; omega))]
      simp
    rw [prog_succ]
    show fnM 1 4 true (m__law_expressions_of (prog k)) [_] S = _
    obtain ⟨env', S', h1, h2⟩ := forL_run (gt := gN 2) (body := b__law_expressions_of_2 (prog k)) Tc.enc (fun done env S' => ∃ T j j2 j3, S' = S ++ T ∧ T[j]? = some (.lst (((Tc.exs done).map Ec.enc).map Val.d)) ∧ env = [some (.d (.tup (Tc.encs ts))), some (.r (S.length + j)), j2, j3]) ts
      (by
        rintro done x rest env S' e ⟨T, j, j2, j3, rfl, hT, rfl⟩
        have hx : x ∈ ts := by rw [← e]; simp
        have hlen : (Tc.exs done).length + x.dc ≤ 1000000 := by
          have h1 := hd
          rw [← e, dcs_app, Tc.dcs] at h1
          rw [exs_len]; omega
        have hpos := dc_pos x
        obtain ⟨e0, he0⟩ := exs_sub x
        have hj : j < T.length := (List.getElem?_eq_some_iff.mp hT).1
        obtain ⟨env', S', h1, T', j', j3', rfl, hT', rfl⟩ := inner x hx (Tc.exs done ++ [e0]) (by
            have h1 := ex_len x
            rw [he0] at h1
            simp at h1 ⊢
            omega) (T.set j (.lst (((Tc.exs done).map Ec.enc).map Val.d ++ [.d e0.enc]))) j (by rw [List.getElem?_set_self hj]; simp) j3
        refine ⟨_, [some (.d (.tup (Tc.encs ts))), some (.r (S.length + j')), some (.d x.enc), j3'], S ++ T', rfl, ?_, T', j', _, _, rfl, ?_, rfl⟩
        · cases x with
          | set n e =>
            simp only [Tc.ex, Tc.sub, List.cons.injEq] at he0
            obtain ⟨rfl, _⟩ := he0
            simp (decide := true) [b__law_expressions_of_2, Tc.enc, isL_A hT]
            rw [oApp_A hT (sl' (by simp; omega))]
            simp [Tc.sub, Tc.enc] at h1
            simp (decide := true) [h1]
          | tell e =>
            simp only [Tc.ex, Tc.sub, List.cons.injEq] at he0
            obtain ⟨rfl, _⟩ := he0
            simp (decide := true) [b__law_expressions_of_2, Tc.enc, isL_A hT]
            rw [oApp_A hT (sl' (by simp; omega))]
            simp [Tc.sub, Tc.enc] at h1
            simp (decide := true) [h1]
          | ite e a b =>
            simp only [Tc.ex, Tc.sub, List.cons.injEq] at he0
            obtain ⟨rfl, _⟩ := he0
            simp (decide := true) [b__law_expressions_of_2, Tc.enc, isL_A hT]
            rw [oApp_A hT (sl' (by simp; omega))]
            simp [Tc.sub, Tc.enc] at h1
            simp (decide := true) [h1]
          | whl e a =>
            simp only [Tc.ex, Tc.sub, List.cons.injEq] at he0
            obtain ⟨rfl, _⟩ := he0
            simp (decide := true) [b__law_expressions_of_2, Tc.enc, isL_A hT]
            rw [oApp_A hT (sl' (by simp; omega))]
            simp [Tc.sub, Tc.enc] at h1
            simp (decide := true) [h1]
        · rw [hT', exs_app, exs_one, he0]; simp) ts [] [some (.d (.tup (Tc.encs ts))), some (.r S.length), none, none] (S ++ [.lst []]) rfl ⟨[.lst []], 0, none, none, rfl, rfl, rfl⟩
    obtain ⟨T, j, j2, j3, rfl, hT, rfl⟩ := h2
    rw [← encs_map] at h1
    refine fnM_app (T := T.set j .dead) (env := [some (.d (.tup (Tc.encs ts))), some (.r (S.length + j)), j2, j3]) rfl ?_
    simp [m__law_expressions_of, envOf, h1]
    rw [unN_A hT]
    simp
end Y

set_option Elab.async false
set_option linter.all false
set_option maxRecDepth 100000
set_option maxHeartbeats 4000000
namespace Y
open PySem PySem.Spec L2
/-! ### lines -/
inductive Ln where
  | set (n : Int) (e : Ec) | tell (e : Ec) | jump (t : Int) | turn | unl (e : Ec) (t : Int)
def Ln.enc : Ln → D
  | .set n e => .tup [.str "set", .int n, e.enc]
  | .tell e => .tup [.str "tell", e.enc]
  | .jump t => .tup [.str "jump", .int t]
  | .turn => .tup [.str "turn"]
  | .unl e t => .tup [.str "unless", e.enc, .int t]
def Ln.ex : Ln → List Ec
  | .set _ e => [e] | .tell e => [e] | .jump _ => [] | .turn => [] | .unl e _ => [e]
def Ln.tg : Ln → List Int
  | .set _ _ => [] | .tell _ => [] | .jump t => [t] | .turn => [] | .unl _ t => [t]
mutual
def Tc.L : Tc → Int → List Ln
  | .set n e, _ => [.set n e]
  | .tell e, _ => [.tell e]
  | .ite e a b, p => [.unl e (p + 2 + (Tc.nls a : Int))] ++ Tc.Ls a (p + 1) ++ [.jump (p + 2 + (Tc.nls a : Int) + (Tc.nls b : Int))] ++ Tc.Ls b (p + 2 + (Tc.nls a : Int))
  | .whl e a, p => [.turn, .unl e (p + 3 + (Tc.nls a : Int))] ++ Tc.Ls a (p + 2) ++ [.jump p]
def Tc.Ls : List Tc → Int → List Ln
  | [], _ => []
  | t :: r, p => t.L p ++ Tc.Ls r (p + (t.nl : Int))
end
theorem Ls_app : ∀ (a b : List Tc) (p : Int), Tc.Ls (a ++ b) p = Tc.Ls a p ++ Tc.Ls b (p + (Tc.nls a : Int))
  | [], b, p => by simp [Tc.Ls, Tc.nls]
  | t :: r, b, p => by
    rw [List.cons_append, Tc.Ls, Tc.Ls, Ls_app r b, List.append_assoc, Tc.nls]
    congr 3
    omega
theorem Ls_one (x : Tc) (p : Int) : Tc.Ls [x] p = x.L p := by simp [Tc.Ls]
mutual
theorem L_len : ∀ (x : Tc) (p : Int), (x.L p).length = x.nl
  | .set _ _, _ => rfl
  | .tell _, _ => rfl
  | .ite _ a b, p => by simp [Tc.L, Tc.nl, Ls_len a, Ls_len b]; omega
  | .whl _ a, p => by simp [Tc.L, Tc.nl, Ls_len a]; omega
theorem Ls_len : ∀ (ts : List Tc) (p : Int), (Tc.Ls ts p).length = Tc.nls ts
  | [], _ => rfl
  | t :: r, p => by rw [Tc.Ls, Tc.nls, List.length_append, L_len t, Ls_len r]
end
mutual
theorem L_ex : ∀ (x : Tc) (p : Int), (x.L p).flatMap Ln.ex = x.ex
  | .set _ _, _ => rfl
  | .tell _, _ => rfl
  | .ite _ a b, p => by simp [Tc.L, Tc.ex, Ln.ex, Ls_ex a, Ls_ex b]
  | .whl _ a, p => by simp [Tc.L, Tc.ex, Ln.ex, Ls_ex a]
theorem Ls_ex : ∀ (ts : List Tc) (p : Int), (Tc.Ls ts p).flatMap Ln.ex = Tc.exs ts
  | [], _ => rfl
  | t :: r, p => by rw [Tc.Ls, Tc.exs, List.flatMap_append, L_ex t, Ls_ex r]
end
mutual
theorem L_tg : ∀ (x : Tc) (p : Int), ∀ l ∈ x.L p, ∀ t ∈ l.tg, p ≤ t ∧ t ≤ p + (x.nl : Int)
  | .set _ _, p => by intro l h t ht; simp [Tc.L] at h; subst h; cases ht
  | .tell _, p => by intro l h t ht; simp [Tc.L] at h; subst h; cases ht
  | .ite _ a b, p => by
    intro l h t ht
    rw [Tc.nl]
    simp [Tc.L] at h
    rcases h with rfl | h | rfl | h
    · simp [Ln.tg] at ht; omega
    · have := Ls_tg a _ l h t ht; omega
    · simp [Ln.tg] at ht; omega
    · have := Ls_tg b _ l h t ht; omega
  | .whl _ a, p => by
    intro l h t ht
    rw [Tc.nl]
    simp [Tc.L] at h
    rcases h with rfl | rfl | h | rfl
    · cases ht
    · simp [Ln.tg] at ht; omega
    · have := Ls_tg a _ l h t ht; omega
    · simp [Ln.tg] at ht; omega
theorem Ls_tg : ∀ (ts : List Tc) (p : Int), ∀ l ∈ Tc.Ls ts p, ∀ t ∈ l.tg, p ≤ t ∧ t ≤ p + (Tc.nls ts : Int)
  | [], p => by intro l h; cases h
  | x :: r, p => by
    intro l h t ht
    rw [Tc.nls]
    rw [Tc.Ls] at h
    rcases List.mem_append.mp h with h | h
    · have := L_tg x p l h t ht; omega
    · have := Ls_tg r _ l h t ht; omega
end
theorem lines_ok : ∀ (k : Nat) (ts : List Tc) (p : Int) (S : Store), Tc.hts ts < k → Tc.nls ts ≤ 1000000 → prog k .f_lines_of [.d (.tup (Tc.encs ts)), .d (.int p)] S = some (.ok (.d (.lst ((Tc.Ls ts p).map Ln.enc))), S)
  | k + 1, ts, p, S, h, hd => by
    have hdm : ∀ x, x ∈ ts → x.nl ≤ Tc.nls ts := by
      intro x hx
      obtain ⟨a, b, rfl⟩ := List.append_of_mem hx
      rw [nls_app, Tc.nls]; omega
    have hds : ∀ x : Tc, ∀ a, a ∈ x.sub → Tc.nls a ≤ x.nl := by
      intro x a ha
      cases x <;> simp [Tc.sub] at ha
      · rcases ha with rfl | rfl <;> (rw [Tc.nl]; omega)
      · subst ha; rw [Tc.nl]; omega
    have ih : ∀ x, x ∈ ts → ∀ a, a ∈ x.sub → ∀ p S, prog k .f_lines_of [.d (.tup (Tc.encs a)), .d (.int p)] S = some (.ok (.d (.lst ((Tc.Ls a p).map Ln.enc))), S) := fun x hx a ha p S => lines_ok k a p S (by have := hts_mem hx; have := sub_ht ha; omega) (by have := hdm x hx; have := hds x a ha; omega)
    rw [prog_succ]
    show fnM 2 9 true (m_lines_of (prog k)) [_, _] S = _
    obtain ⟨env', S', h1, h2⟩ := forL_run (gt := gN 3) (body := b_lines_of_1 (prog k)) Tc.enc (fun done env S' => ∃ T j j3 j4 j5 j6 j7 j8, S' = S ++ T ∧ T[j]? = some (.lst (((Tc.Ls done p).map Ln.enc).map Val.d)) ∧ env = [some (.d (.tup (Tc.encs ts))), some (.d (.int p)), some (.r (S.length + j)), j3, j4, j5, j6, j7, j8]) ts
      (by
        rintro done x rest env S' he ⟨T, j, j3, j4, j5, j6, j7, j8, rfl, hT, rfl⟩
        have hx : x ∈ ts := by rw [← he]; simp
        have hlen : Tc.nls done + x.nl ≤ 1000000 := by
          have h1 := hd
          rw [← he, nls_app, Tc.nls] at h1
          omega
        have hL : Tc.Ls (done ++ [x]) p = Tc.Ls done p ++ x.L (p + (Tc.nls done : Int)) := by rw [Ls_app, Ls_one]
        have hj : j < T.length := (List.getElem?_eq_some_iff.mp hT).1
        have hl0 : ((Tc.Ls done p).map Ln.enc).length = Tc.nls done := by rw [List.length_map, Ls_len]
        have hlV : oLen [.r (S.length + j)] (S ++ T) = some (.ok (.d (.int (Tc.nls done))), S ++ T) := by rw [oLen_A hT, List.length_map, hl0]
        cases x with
        | set n e =>
          refine ⟨_, [some (.d (.tup (Tc.encs ts))), some (.d (.int p)), some (.r (S.length + j)), some (.d (Tc.set n e).enc), some (.d (.int (p + (Tc.nls done : Int)))), j5, j6, j7, j8], S ++ T.set j (.lst (((Tc.Ls (done ++ [.set n e]) p).map Ln.enc).map Val.d)), rfl, ?_, _, j, _, _, _, _, _, _, rfl, List.getElem?_set_self hj, rfl⟩
          simp (decide := true) [b_lines_of_1, hlV, Tc.enc, isL_A hT]
          rw [oApp_A hT (sl' (by rw [List.length_map, hl0]; omega))]
          simp [hL, Tc.L, Ln.enc]
        | tell e =>
          refine ⟨_, [some (.d (.tup (Tc.encs ts))), some (.d (.int p)), some (.r (S.length + j)), some (.d (Tc.tell e).enc), some (.d (.int (p + (Tc.nls done : Int)))), j5, j6, j7, j8], S ++ T.set j (.lst (((Tc.Ls (done ++ [.tell e]) p).map Ln.enc).map Val.d)), rfl, ?_, _, j, _, _, _, _, _, _, rfl, List.getElem?_set_self hj, rfl⟩
          simp (decide := true) [b_lines_of_1, hlV, Tc.enc, isL_A hT]
          rw [oApp_A hT (sl' (by rw [List.length_map, hl0]; omega))]
          simp [hL, Tc.L, Ln.enc]
        | ite e a b =>
          have i1 := ih _ hx a (by simp [Tc.sub])
          have i2 := ih _ hx b (by simp [Tc.sub])
          simp only [Tc.nl] at hlen
          refine ⟨_, [some (.d (.tup (Tc.encs ts))), some (.d (.int p)), some (.r (S.length + T.length)), some (.d (Tc.ite e a b).enc), some (.d (.int (p + (Tc.nls done : Int)))), some (.d (.lst ((Tc.Ls a (p + (Tc.nls done : Int) + 1)).map Ln.enc))), some (.d (.lst ((Tc.Ls b (p + (Tc.nls done : Int) + 2 + (Tc.nls a : Int))).map Ln.enc))), some (.d (.int (p + (Tc.nls done : Int) + 2 + (Tc.nls a : Int) + (Tc.nls b : Int)))), j8],
            S ++ (T ++ [.lst (((Tc.Ls (done ++ [.ite e a b]) p).map Ln.enc).map Val.d)]), rfl, ?_, _, T.length, _, _, _, _, _, _, rfl, by simp, rfl⟩
          simp (decide := true) [b_lines_of_1, hlV, Tc.enc, i1, i2, Ls_len]
          rw [oPlus_A (ds := (Tc.Ls done p).map Ln.enc) hT (sl (by rw [hl0]; simp; omega))]
          simp only []
          rw [oPlus_lst _ _ _ (sl (by simp [Ls_len]; omega))]
          simp only []
          rw [oPlus_lst _ _ _ (sl (by simp [Ls_len]; omega))]
          simp only []
          rw [oCat_lst (sl (by simp [Ls_len]; omega))]
          simp [hL, Tc.L, Ln.enc]
        | whl e a =>
          have i1 := ih _ hx a (by simp [Tc.sub])
          simp only [Tc.nl] at hlen
          refine ⟨_, [some (.d (.tup (Tc.encs ts))), some (.d (.int p)), some (.r (S.length + T.length)), some (.d (Tc.whl e a).enc), some (.d (.int (p + (Tc.nls done : Int)))), j5, j6, j7, some (.d (.lst ((Tc.Ls a (p + (Tc.nls done : Int) + 2)).map Ln.enc)))],
            S ++ (T ++ [.lst (((Tc.Ls (done ++ [.whl e a]) p).map Ln.enc).map Val.d)]), rfl, ?_, _, T.length, _, _, _, _, _, _, rfl, by simp, rfl⟩
          simp (decide := true) [b_lines_of_1, hlV, Tc.enc, i1, Ls_len]
          rw [oPlus_A (ds := (Tc.Ls done p).map Ln.enc) hT (sl (by rw [hl0]; simp; omega))]
          simp only []
          rw [oPlus_lst _ _ _ (sl (by simp [Ls_len]; omega))]
          simp only []
          rw [oCat_lst (sl (by simp [Ls_len]; omega))]
          simp [hL, Tc.L, Ln.enc]) ts [] [some (.d (.tup (Tc.encs ts))), some (.d (.int p)), some (.r S.length), none, none, none, none, none, none] (S ++ [.lst []]) rfl ⟨[.lst []], 0, none, none, none, none, none, none, rfl, rfl, rfl⟩
    obtain ⟨T, j, j3, j4, j5, j6, j7, j8, rfl, hT, rfl⟩ := h2
    rw [← encs_map] at h1
    refine fnM_app (T := T.set j .dead) (env := [some (.d (.tup (Tc.encs ts))), some (.d (.int p)), some (.r (S.length + j)), j3, j4, j5, j6, j7, j8]) rfl ?_
    simp [m_lines_of, envOf, h1]
    rw [unN_A hT]
    simp
end Y

set_option Elab.async false
set_option linter.all false
set_option maxRecDepth 100000
set_option maxHeartbeats 4000000
namespace Y
open PySem PySem.Spec L2
theorem few_ok (k : Nat) (n : Int) (S : Store) (h : n ≤ 100000) : prog (k + 1) .f_must_be_few [.d (.int n)] S = some (.ok (.d .non), S) := by
  rw [prog_succ]
  show fnM 1 1 true (m_must_be_few (prog k)) [_] S = _
  refine fnM_none (env := [some (.d (.int n))]) rfl ?_
  have h2 : ¬ (100000 < n) := by omega
  simp [m_must_be_few, envOf, k_LONGEST, h2]
theorem short_tup (k : Nat) (ds : List D) (S : Store) (h : ds.length ≤ 100000) : prog (k + 2) .f_must_be_short [.d (.tup ds)] S = some (.ok (.d (.tup ds)), S) := by
  rw [prog_succ]
  show fnM 1 1 true (m_must_be_short (prog (k + 1))) [_] S = _
  refine fnM_same (env := [some (.d (.tup ds))]) rfl ?_
  simp [m_must_be_short, envOf, few_ok k _ S (show ((ds.length : Nat) : Int) ≤ 100000 by omega)]
theorem short_lst (k : Nat) (ds : List D) (S : Store) (h : ds.length ≤ 100000) : prog (k + 2) .f_must_be_short [.d (.lst ds)] S = some (.ok (.d (.lst ds)), S) := by
  rw [prog_succ]
  show fnM 1 1 true (m_must_be_short (prog (k + 1))) [_] S = _
  refine fnM_same (env := [some (.d (.lst ds))]) rfl ?_
  simp [m_must_be_short, envOf, few_ok k _ S (show ((ds.length : Nat) : Int) ≤ 100000 by omega)]
theorem ftl_ok (k : Nat) (ts : List Tc) (S : Store) (h : Tc.hts ts < k + 2) (hn : Tc.nls ts ≤ 100000) : prog (k + 3) .f_from_trees_lines [.d (.tup (Tc.encs ts))] S = some (.ok (.d (.tup ((Tc.Ls ts 0).map Ln.enc))), S) := by
  rw [prog_succ]
  show fnM 1 1 true (m_from_trees_lines (prog (k + 2))) [_] S = _
  refine fnM_same (env := [some (.d (.tup (Tc.encs ts)))]) rfl ?_
  simp [m_from_trees_lines, envOf, lines_ok (k + 2) ts 0 S h (by omega), short_tup k ((Tc.Ls ts 0).map Ln.enc) S (by simpa [Ls_len] using hn)]
/-! ### lines to boxes, stacks -/
def Ln.cb : Ln → List Cb
  | .set n e => e.kb 0 ++ [.store 0 n] | .tell e => e.kb 0 ++ [.tell 0] | .jump t => [.jump t] | .turn => [.turn] | .unl e t => e.kb 0 ++ [.unl 0 t]
def Ln.cs : Ln → List Cs
  | .set n e => e.ks ++ [.store n] | .tell e => e.ks ++ [.tell] | .jump t => [.jump t] | .turn => [.turn] | .unl e t => e.ks ++ [.unl t]
def Ln.sz (l : Ln) : Nat := 1 + (l.ex.map Ec.sz).sum
theorem cb_len (l : Ln) : l.cb.length = l.sz := by cases l <;> simp [Ln.cb, Ln.sz, Ln.ex, Ec.kb_len] <;> omega
theorem cs_len (l : Ln) : l.cs.length = l.sz := by cases l <;> simp [Ln.cs, Ln.sz, Ln.ex, Ec.ks_len] <;> omega
theorem clb_ok (l : Ln) (k : Nat) (S : Store) (h : ∀ e ∈ l.ex, e.dp + 1 < k ∧ e.sz ≤ 1000000) : prog (k + 1) .f_code_of_line_boxes [.d l.enc] S = some (.ok (.d (.lst (l.cb.map Cb.enc))), S) := by
  rw [prog_succ]
  show fnM 1 1 true (m_code_of_line_boxes (prog k)) [_] S = _
  refine fnM_same (env := [some (.d l.enc)]) rfl ?_
  cases l with
  | set n e =>
    obtain ⟨h1, h2⟩ := h e (by simp [Ln.ex])
    simp (decide := true) [m_code_of_line_boxes, envOf, Ln.enc, kb_ok e k S 0 h1 h2]
    rw [oPlus_lst _ _ _ (sl (by simp [Ec.kb_len]; omega))]
    simp [Ln.cb, Cb.enc]
  | tell e =>
    obtain ⟨h1, h2⟩ := h e (by simp [Ln.ex])
    simp (decide := true) [m_code_of_line_boxes, envOf, Ln.enc, kb_ok e k S 0 h1 h2]
    rw [oPlus_lst _ _ _ (sl (by simp [Ec.kb_len]; omega))]
    simp [Ln.cb, Cb.enc]
  | unl e t =>
    obtain ⟨h1, h2⟩ := h e (by simp [Ln.ex])
    simp (decide := true) [m_code_of_line_boxes, envOf, Ln.enc, kb_ok e k S 0 h1 h2]
    rw [oPlus_lst _ _ _ (sl (by simp [Ec.kb_len]; omega))]
    simp [Ln.cb, Cb.enc]
  | jump t => simp (decide := true) [m_code_of_line_boxes, envOf, Ln.enc, Ln.cb, Cb.enc]
  | turn => simp (decide := true) [m_code_of_line_boxes, envOf, Ln.enc, Ln.cb, Cb.enc]
theorem cls_ok (l : Ln) (k : Nat) (S : Store) (h : ∀ e ∈ l.ex, e.dp < k ∧ e.sz ≤ 1000000) : prog (k + 1) .f_code_of_line_stacks [.d l.enc] S = some (.ok (.d (.lst (l.cs.map Cs.enc))), S) := by
  rw [prog_succ]
  show fnM 1 1 true (m_code_of_line_stacks (prog k)) [_] S = _
  refine fnM_same (env := [some (.d l.enc)]) rfl ?_
  cases l with
  | set n e =>
    obtain ⟨h1, h2⟩ := h e (by simp [Ln.ex])
    simp (decide := true) [m_code_of_line_stacks, envOf, Ln.enc, ks_ok e k S h1 h2]
    rw [oPlus_lst _ _ _ (sl (by simp [Ec.ks_len]; omega))]
    simp [Ln.cs, Cs.enc]
  | tell e =>
    obtain ⟨h1, h2⟩ := h e (by simp [Ln.ex])
    simp (decide := true) [m_code_of_line_stacks, envOf, Ln.enc, ks_ok e k S h1 h2]
    rw [oPlus_lst _ _ _ (sl (by simp [Ec.ks_len]; omega))]
    simp [Ln.cs, Cs.enc]
  | unl e t =>
    obtain ⟨h1, h2⟩ := h e (by simp [Ln.ex])
    simp (decide := true) [m_code_of_line_stacks, envOf, Ln.enc, ks_ok e k S h1 h2]
    rw [oPlus_lst _ _ _ (sl (by simp [Ec.ks_len]; omega))]
    simp [Ln.cs, Cs.enc]
  | jump t => simp (decide := true) [m_code_of_line_stacks, envOf, Ln.enc, Ln.cs, Cs.enc]
  | turn => simp (decide := true) [m_code_of_line_stacks, envOf, Ln.enc, Ln.cs, Cs.enc]
/-! where each line begins -/
def szs (ls : List Ln) : Nat := (ls.map Ln.sz).sum
def begs (ls : List Ln) : List Int := (List.range (ls.length + 1)).map fun i => (szs (ls.take i) : Int)
theorem begs_len (ls : List Ln) : (begs ls).length = ls.length + 1 := by simp [begs]
theorem begs_snoc (ls : List Ln) (x : Ln) : begs (ls ++ [x]) = begs ls ++ [((szs ls + x.sz : Nat) : Int)] := by
  unfold begs
  rw [List.length_append, List.length_singleton, List.range_succ, List.map_append]
  congr 1
  · refine List.map_congr_left fun i hi => ?_
    have : i ≤ ls.length := by have := List.mem_range.mp hi; omega
    rw [List.take_append_of_le_length this]
  · simp [szs, List.take_of_length_le]
theorem begs_last (ls : List Ln) : (begs ls).getLast? = some (szs ls : Int) := by
  unfold begs
  rw [List.range_succ, List.map_append, List.map_singleton, List.getLast?_append]
  simp
def begAt (ls : List Ln) (t : Int) : Int := ((begs ls)[t.toNat]?).getD 0
theorem begs_at (ls : List Ln) (t : Int) (h1 : 0 ≤ t) (h2 : t ≤ (ls.length : Nat)) : atI (((begs ls).map D.int).map Val.d) t = some (.d (.int (begAt ls t))) := by
  obtain ⟨n, rfl⟩ := Int.eq_ofNat_of_zero_le h1
  have hl : n < (begs ls).length := by rw [begs_len]; omega
  rw [atI_nat, List.getElem?_map, List.getElem?_map, begAt]
  simp [List.getElem?_eq_getElem hl]
def Cb.pt (f : Int → Int) : Cb → Cb
  | .unl b t => .unl b (f t) | .jump t => .jump (f t) | c => c
def Cs.pt (f : Int → Int) : Cs → Cs
  | .unl t => .unl (f t) | .jump t => .jump (f t) | c => c
def Cb.tg : Cb → List Int
  | .unl _ t => [t] | .jump t => [t] | _ => []
def Cs.tg : Cs → List Int
  | .unl t => [t] | .jump t => [t] | _ => []
theorem kb_tg : ∀ (e : Ec) (b : Int), ∀ c ∈ e.kb b, c.tg = []
  | .num _, b => by intro c h; simp [Ec.kb] at h; subst h; rfl
  | .nam _, b => by intro c h; simp [Ec.kb] at h; subst h; rfl
  | .un a, b => by
    intro c h
    simp [Ec.kb] at h
    rcases h with h | rfl
    · exact kb_tg a b c h
    · rfl
  | .bin w x y, b => by
    intro c h
    unfold Ec.kb at h
    split at h
    · simp at h
      rcases h with h | h | rfl
      · exact kb_tg x _ c h
      · exact kb_tg y _ c h
      · rfl
    · simp at h
      rcases h with h | h | rfl
      · exact kb_tg y _ c h
      · exact kb_tg x _ c h
      · rfl
theorem ks_tg : ∀ (e : Ec), ∀ c ∈ e.ks, c.tg = []
  | .num _ => by intro c h; simp [Ec.ks] at h; subst h; rfl
  | .nam _ => by intro c h; simp [Ec.ks] at h; subst h; rfl
  | .un a => by
    intro c h
    simp [Ec.ks] at h
    rcases h with h | rfl
    · exact ks_tg a c h
    · rfl
  | .bin w x y => by
    intro c h
    simp [Ec.ks] at h
    rcases h with h | h | rfl
    · exact ks_tg x c h
    · exact ks_tg y c h
    · rfl
theorem cb_tg (l : Ln) : ∀ c ∈ l.cb, ∀ t ∈ c.tg, t ∈ l.tg := by
  intro c h t ht
  cases l with
  | jump u => simp [Ln.cb] at h; subst h; simpa [Cb.tg, Ln.tg] using ht
  | turn => simp [Ln.cb] at h; subst h; cases ht
  | _ =>
    simp [Ln.cb] at h
    rcases h with h | rfl
    · rw [kb_tg _ _ _ h] at ht; cases ht
    · simpa [Cb.tg, Ln.tg] using ht
theorem cs_tg (l : Ln) : ∀ c ∈ l.cs, ∀ t ∈ c.tg, t ∈ l.tg := by
  intro c h t ht
  cases l with
  | jump u => simp [Ln.cs] at h; subst h; simpa [Cs.tg, Ln.tg] using ht
  | turn => simp [Ln.cs] at h; subst h; cases ht
  | _ =>
    simp [Ln.cs] at h
    rcases h with h | rfl
    · rw [ks_tg _ _ h] at ht; cases ht
    · simpa [Cs.tg, Ln.tg] using ht
theorem flat_cb (ls : List Ln) : (ls.flatMap Ln.cb).length = szs ls := by
  induction ls with
  | nil => rfl
  | cons x r ih => simp [szs, cb_len] at ih ⊢; try omega
theorem flat_cs (ls : List Ln) : (ls.flatMap Ln.cs).length = szs ls := by
  induction ls with
  | nil => rfl
  | cons x r ih => simp [szs, cs_len] at ih ⊢; try omega
def bgV (ls : List Ln) : List Val := ((begs ls).map D.int).map Val.d
theorem bgV_nil : bgV [] = [.d (.int 0)] := rfl
theorem bgV_len (ls : List Ln) : (bgV ls).length = ls.length + 1 := by simp [bgV, begs_len]
theorem bgV_snoc (ls : List Ln) (x : Ln) : bgV (ls ++ [x]) = bgV ls ++ [.d (.int ((szs ls : Int) + (x.sz : Int)))] := by simp [bgV, begs_snoc]
theorem bgV_last (ls : List Ln) : atI (bgV ls) (-1) = some (.d (.int (szs ls))) := by rw [atI_last, bgV, List.getLast?_map, List.getLast?_map, begs_last]; rfl
theorem bgV_at (ls : List Ln) (t : Int) (h1 : 0 ≤ t) (h2 : t ≤ (ls.length : Nat)) : atI (bgV ls) t = some (.d (.int (begAt ls t))) := begs_at ls t h1 h2
section
variable {S : Store} {ls : List Ln}
theorem bg_isL : isL (.r S.length) (S ++ [.lst (bgV ls)]) = some (.ok (), S ++ [.lst (bgV ls)]) := isL_A (T := [.lst (bgV ls)]) (j := 0) rfl
theorem bg_last : oIx (.r S.length) (.d (.int (-1))) (S ++ [.lst (bgV ls)]) = some (.ok (.d (.int (szs ls))), S ++ [.lst (bgV ls)]) := oIx_A (T := [.lst (bgV ls)]) (j := 0) rfl (bgV_last ls)
theorem bg_at {t : Int} (h1 : 0 ≤ t) (h2 : t ≤ (ls.length : Nat)) : oIx (.r S.length) (.d (.int t)) (S ++ [.lst (bgV ls)]) = some (.ok (.d (.int (begAt ls t))), S ++ [.lst (bgV ls)]) := oIx_A (T := [.lst (bgV ls)]) (j := 0) rfl (bgV_at ls t h1 h2)
theorem bg_app {y : Val} (h : ls.length ≤ 100000) : oApp (.r S.length) y (S ++ [.lst (bgV ls)]) = some (.ok (.d .non), S ++ [.lst (bgV ls ++ [y])]) := oApp_A (T := [.lst (bgV ls)]) (j := 0) rfl (sl' (by rw [bgV_len]; omega))
end
theorem flb_ok (k : Nat) (ls : List Ln) (S : Store) (he : ∀ l ∈ ls, ∀ e ∈ l.ex, e.dp + 1 < k + 1 ∧ e.sz ≤ 1000000) (hs : szs ls ≤ 100000) (hl : ls.length ≤ 100000) (ht : ∀ l ∈ ls, ∀ t ∈ l.tg, 0 ≤ t ∧ t ≤ (ls.length : Nat)) :
    prog (k + 3) .f_from_lines_boxes [.d (.tup (ls.map Ln.enc))] S = some (.ok (.d (.tup (((ls.flatMap Ln.cb).map (Cb.pt (begAt ls))).map Cb.enc))), S) := by
  rw [prog_succ]
  show fnM 1 7 true (m_from_lines_boxes (prog (k + 2))) [_] S = _
  obtain ⟨env', S', h1, h2⟩ := forL_run (gt := gN 3) (body := b_from_lines_boxes_1 (prog (k + 2))) (fun l : Ln => D.lst (l.cb.map Cb.enc)) (fun done env S' => ∃ j3, S' = S ++ [.lst (bgV done)] ∧ env = [some (.d (.tup (ls.map Ln.enc))), some (.d (.lst (ls.map fun l => D.lst (l.cb.map Cb.enc)))), some (.r S.length), j3, none, none, none]) ls
    (by
      rintro done x rest env S' he ⟨j3, rfl, rfl⟩
      have hx : done.length ≤ 100000 := by have := congrArg List.length he; simp at this; omega
      refine ⟨_, [some (.d (.tup (ls.map Ln.enc))), some (.d (.lst (ls.map fun l => D.lst (l.cb.map Cb.enc)))), some (.r S.length), some (.d (.lst (x.cb.map Cb.enc))), none, none, none], S ++ [.lst (bgV (done ++ [x]))], rfl, ?_, _, rfl, rfl⟩
      simp [b_from_lines_boxes_1, bg_isL, bg_last, bg_app hx, bgV_snoc, cb_len]) ls [] [some (.d (.tup (ls.map Ln.enc))), some (.d (.lst (ls.map fun l => D.lst (l.cb.map Cb.enc)))), some (.r S.length), none, none, none, none] (S ++ [.lst [.d (.int 0)]]) rfl ⟨none, rfl, rfl⟩
  obtain ⟨j3, rfl, rfl⟩ := h2
  refine fnM_app (T := [.lst (bgV ls)]) (env := [some (.d (.tup (ls.map Ln.enc))), some (.d (.lst (ls.map fun l => D.lst (l.cb.map Cb.enc)))), some (.r S.length), j3, some (.d (.lst ((ls.flatMap Ln.cb).map Cb.enc))), none, none]) rfl ?_
  simp [m_from_lines_boxes, envOf]
  rw [fLc_all Ln.enc (fun l => D.lst (l.cb.map Cb.enc)) ls (by simp) (sl (by omega)) (fun l hx => ⟨_, rfl, by simp [clb_ok l (k + 1) S (fun e h => ⟨(he l hx e h).1, (he l hx e h).2⟩)]⟩)]
  simp only [frz_map]
  simp at h1
  simp [h1]
  rw [fLc2_all (fun l : Ln => D.lst (l.cb.map Cb.enc)) Ln.cb Cb.enc ls (by simp) (sl (by rw [flat_cb]; omega)) (fun l hx => ⟨_, rfl, by simp, fun c hc => ⟨_, rfl, by simp⟩⟩)]
  simp only [frz_map]
  simp [short_lst k ((ls.flatMap Ln.cb).map Cb.enc) _ (by rw [List.length_map, flat_cb]; exact hs)]
  rw [fLc_all Cb.enc (fun c => (c.pt (begAt ls)).enc) (ls.flatMap Ln.cb) (by simp) (sl (by rw [flat_cb]; omega)) (fun c hc => ⟨_, rfl, by
    obtain ⟨l, hl1, hl2⟩ := List.mem_flatMap.mp hc
    have htg : ∀ t ∈ c.tg, 0 ≤ t ∧ t ≤ (ls.length : Nat) := fun t h => ht l hl1 t (cb_tg l c hl2 t h)
    cases c with
    | unl b t =>
      have := htg t (by simp [Cb.tg])
      simp (decide := true) [Cb.enc, Cb.pt, bg_at this.1 this.2]
      rw [oPlus_tup _ _ _ (sl (by simp))]
      simp
    | jump t =>
      have := htg t (by simp [Cb.tg])
      simp (decide := true) [Cb.enc, Cb.pt, bg_at this.1 this.2]
      rw [oPlus_tup _ _ _ (sl (by simp))]
      simp
    | op w b c d => cases w <;> simp (decide := true) [Cb.enc, Cb.pt, W.s]
    | _ => simp (decide := true) [Cb.enc, Cb.pt]⟩)]
  simp only [frz_map]
  simp [Function.comp_def]
theorem fls_ok (k : Nat) (ls : List Ln) (S : Store) (he : ∀ l ∈ ls, ∀ e ∈ l.ex, e.dp < k + 1 ∧ e.sz ≤ 1000000) (hs : szs ls ≤ 100000) (hl : ls.length ≤ 100000) (ht : ∀ l ∈ ls, ∀ t ∈ l.tg, 0 ≤ t ∧ t ≤ (ls.length : Nat)) :
    prog (k + 3) .f_from_lines_stacks [.d (.tup (ls.map Ln.enc))] S = some (.ok (.d (.tup (((ls.flatMap Ln.cs).map (Cs.pt (begAt ls))).map Cs.enc))), S) := by
  rw [prog_succ]
  show fnM 1 7 true (m_from_lines_stacks (prog (k + 2))) [_] S = _
  obtain ⟨env', S', h1, h2⟩ := forL_run (gt := gN 3) (body := b_from_lines_stacks_1 (prog (k + 2))) (fun l : Ln => D.lst (l.cs.map Cs.enc)) (fun done env S' => ∃ j3, S' = S ++ [.lst (bgV done)] ∧ env = [some (.d (.tup (ls.map Ln.enc))), some (.d (.lst (ls.map fun l => D.lst (l.cs.map Cs.enc)))), some (.r S.length), j3, none, none, none]) ls
    (by
      rintro done x rest env S' he ⟨j3, rfl, rfl⟩
      have hx : done.length ≤ 100000 := by have := congrArg List.length he; simp at this; omega
      refine ⟨_, [some (.d (.tup (ls.map Ln.enc))), some (.d (.lst (ls.map fun l => D.lst (l.cs.map Cs.enc)))), some (.r S.length), some (.d (.lst (x.cs.map Cs.enc))), none, none, none], S ++ [.lst (bgV (done ++ [x]))], rfl, ?_, _, rfl, rfl⟩
      simp [b_from_lines_stacks_1, bg_isL, bg_last, bg_app hx, bgV_snoc, cs_len]) ls [] [some (.d (.tup (ls.map Ln.enc))), some (.d (.lst (ls.map fun l => D.lst (l.cs.map Cs.enc)))), some (.r S.length), none, none, none, none] (S ++ [.lst [.d (.int 0)]]) rfl ⟨none, rfl, rfl⟩
  obtain ⟨j3, rfl, rfl⟩ := h2
  refine fnM_app (T := [.lst (bgV ls)]) (env := [some (.d (.tup (ls.map Ln.enc))), some (.d (.lst (ls.map fun l => D.lst (l.cs.map Cs.enc)))), some (.r S.length), j3, some (.d (.lst ((ls.flatMap Ln.cs).map Cs.enc))), none, none]) rfl ?_
  simp [m_from_lines_stacks, envOf]
  rw [fLc_all Ln.enc (fun l => D.lst (l.cs.map Cs.enc)) ls (by simp) (sl (by omega)) (fun l hx => ⟨_, rfl, by simp [cls_ok l (k + 1) S (fun e h => ⟨(he l hx e h).1, (he l hx e h).2⟩)]⟩)]
  simp only [frz_map]
  simp at h1
  simp [h1]
  rw [fLc2_all (fun l : Ln => D.lst (l.cs.map Cs.enc)) Ln.cs Cs.enc ls (by simp) (sl (by rw [flat_cs]; omega)) (fun l hx => ⟨_, rfl, by simp, fun c hc => ⟨_, rfl, by simp⟩⟩)]
  simp only [frz_map]
  simp [short_lst k ((ls.flatMap Ln.cs).map Cs.enc) _ (by rw [List.length_map, flat_cs]; exact hs)]
  rw [fLc_all Cs.enc (fun c => (c.pt (begAt ls)).enc) (ls.flatMap Ln.cs) (by simp) (sl (by rw [flat_cs]; omega)) (fun c hc => ⟨_, rfl, by
    obtain ⟨l, hl1, hl2⟩ := List.mem_flatMap.mp hc
    have htg : ∀ t ∈ c.tg, 0 ≤ t ∧ t ≤ (ls.length : Nat) := fun t h => ht l hl1 t (cs_tg l c hl2 t h)
    cases c with
    | unl t =>
      have := htg t (by simp [Cs.tg])
      simp (decide := true) [Cs.enc, Cs.pt, bg_at this.1 this.2]
    | jump t =>
      have := htg t (by simp [Cs.tg])
      simp (decide := true) [Cs.enc, Cs.pt, bg_at this.1 this.2]
    | op w => cases w <;> simp (decide := true) [Cs.enc, Cs.pt, W.s]
    | _ => simp (decide := true) [Cs.enc, Cs.pt]⟩)]
  simp only [frz_map]
  simp [Function.comp_def]
end Y

set_option Elab.async false
set_option linter.all false
set_option maxRecDepth 100000
set_option maxHeartbeats 4000000
namespace Y
open PySem PySem.Spec L2
/-! ### the registry -/
theorem fTab_def (n : Nat) (tab : List (Str × Fn)) (fb : FE) (fs : FA) (env : Env) (S : Store) : fTab n tab fb fs env S = bnd (fb env) (fun z => bnd (lift ((asS z).bind fun z => tab.lookup z)) fun F => bnd (fs env) (ck n F)) S := rfl
theorem form_ok (k : Nat) (z : Str) (S : Store) (h : tk_FAULTS.lookup z = some true) : prog (k + 1) .f_must_be_form [.d (.str z)] S = some (.ok (.d .non), S) := by
  rw [prog_succ]
  show fnM 1 1 true (m_must_be_form (prog k)) [_] S = _
  refine fnM_none (env := [some (.d (.str z))]) rfl ?_
  have e : fInTab true tk_FAULTS (fVar 0) [some (.d (.str z))] S = some (.ok (.d (.bl false)), S) := by
    show lift (((some z).bind fun z => tk_FAULTS.lookup z).map fun k => Val.d (.bl (k != true))) S = _
    rw [Option.bind_some, h]; rfl
  simp [m_must_be_form, envOf, e]
theorem reg_ok (k : Nat) (z : Str) (x v : D) (S : Store) (F : Fn) (h : tk_FAULTS.lookup z = some true) (h2 : (tab_FROM_TREES (prog (k + 1))).lookup z = some F) (h3 : F [.d x] S = some (.ok (.d v), S)) : prog (k + 2) .f_from_trees_registry [.d (.str z), .d x] S = some (.ok (.d v), S) := by
  rw [prog_succ]
  show fnM 2 2 true (m_from_trees_registry (prog (k + 1))) [_, _] S = _
  refine fnM_same (env := [some (.d (.str z)), some (.d x)]) rfl ?_
  have e : lift ((asS (.d (.str z))).bind fun z => (tab_FROM_TREES (prog (k + 1))).lookup z) S = some (.ok F, S) := by
    show lift ((some z).bind fun z => (tab_FROM_TREES (prog (k + 1))).lookup z) S = _
    rw [Option.bind_some, h2]; rfl
  simp [m_from_trees_registry, envOf, form_ok k z S h, fTab_def, e, h3]
section
variable {ts : List Tc} {S : Store}
theorem lines_szs (p : Int) : szs (Tc.Ls ts p) = Tc.nls ts + ((Tc.exs ts).map Ec.sz).sum := by
  rw [← Ls_ex ts p, ← Ls_len ts p]
  generalize Tc.Ls ts p = ls
  induction ls with
  | nil => rfl
  | cons x r ih => simp [szs, Ln.sz] at ih ⊢; omega
theorem reg_lines (k : Nat) (h : Tc.hts ts < k + 2) (hn : Tc.nls ts ≤ 100000) : prog (k + 4 + 1) .f_from_trees_registry [.d (.str "lines"), .d (.tup (Tc.encs ts))] S = some (.ok (.d (.tup ((Tc.Ls ts 0).map Ln.enc))), S) :=
  reg_ok (k + 3) "lines" _ _ S (prog (k + 4) .f_from_trees_lines) (by decide) (by rfl) (ftl_ok (k + 1) ts S (by omega) hn)
theorem mem_lnex {l : Ln} {e : Ec} (hl : l ∈ Tc.Ls ts 0) (he : e ∈ l.ex) : e ∈ Tc.exs ts := by
  rw [← Ls_ex ts 0]
  exact List.mem_flatMap.mpr ⟨l, hl, he⟩
abbrev bxs (ts : List Tc) : List Cb := ((Tc.Ls ts 0).flatMap Ln.cb).map (Cb.pt (begAt (Tc.Ls ts 0)))
abbrev sks (ts : List Tc) : List Cs := ((Tc.Ls ts 0).flatMap Ln.cs).map (Cs.pt (begAt (Tc.Ls ts 0)))
theorem reg_boxes (k : Nat) (h : Tc.hts ts < k + 2) (he : ∀ e ∈ Tc.exs ts, e.dp + 1 < k + 1 ∧ e.sz ≤ 1000000) (hs : Tc.nls ts + ((Tc.exs ts).map Ec.sz).sum ≤ 100000) :
    prog (k + 4 + 1) .f_from_trees_registry [.d (.str "boxes"), .d (.tup (Tc.encs ts))] S = some (.ok (.d (.tup ((bxs ts).map Cb.enc))), S) := by
  refine reg_ok (k + 3) "boxes" _ _ S (prog (k + 4) .f_boxes_of) (by decide) (by rfl) ?_
  rw [prog_succ]
  show fnM 1 1 true (m_boxes_of (prog (k + 3))) [_] S = _
  refine fnM_same (env := [some (.d (.tup (Tc.encs ts)))]) rfl ?_
  have e2 := flb_ok k (Tc.Ls ts 0) S (fun l hl e h2 => he e (mem_lnex hl h2)) (by rw [lines_szs]; exact hs) (by rw [Ls_len]; omega) (fun l hl t ht => by have := Ls_tg ts 0 l hl t ht; rw [Ls_len]; omega)
  simp [m_boxes_of, envOf, ftl_ok k ts S h (by omega)]
  rw [e2]
  simp
theorem reg_stacks (k : Nat) (h : Tc.hts ts < k + 2) (he : ∀ e ∈ Tc.exs ts, e.dp < k + 1 ∧ e.sz ≤ 1000000) (hs : Tc.nls ts + ((Tc.exs ts).map Ec.sz).sum ≤ 100000) :
    prog (k + 4 + 1) .f_from_trees_registry [.d (.str "stacks"), .d (.tup (Tc.encs ts))] S = some (.ok (.d (.tup ((sks ts).map Cs.enc))), S) := by
  refine reg_ok (k + 3) "stacks" _ _ S (prog (k + 4) .f_stacks_of) (by decide) (by rfl) ?_
  rw [prog_succ]
  show fnM 1 1 true (m_stacks_of (prog (k + 3))) [_] S = _
  refine fnM_same (env := [some (.d (.tup (Tc.encs ts)))]) rfl ?_
  have e2 := fls_ok k (Tc.Ls ts 0) S (fun l hl e h2 => he e (mem_lnex hl h2)) (by rw [lines_szs]; exact hs) (by rw [Ls_len]; omega) (fun l hl t ht => by have := Ls_tg ts 0 l hl t ht; rw [Ls_len]; omega)
  simp [m_stacks_of, envOf, ftl_ok k ts S h (by omega)]
  rw [e2]
  simp
theorem bxs_len : (bxs ts).length = Tc.nls ts + ((Tc.exs ts).map Ec.sz).sum := by rw [List.length_map, flat_cb, lines_szs]
theorem sks_len : (sks ts).length = Tc.nls ts + ((Tc.exs ts).map Ec.sz).sum := by rw [List.length_map, flat_cs, lines_szs]
end
/-! ### how many boxes -/
def Cb.args : Cb → List Int
  | .put b n => [b, n] | .load b n => [b, n] | .nt b c => [b, c] | .op _ b c d => [b, c, d] | .store b n => [b, n] | .tell b => [b] | .unl b t => [b, t] | .jump t => [t] | .turn => []
def Cb.isO : Cb → Bool
  | .nt _ _ => true | .op _ _ _ _ => true | _ => false
def Cb.is1 : Cb → Bool
  | .put _ _ => true | .load _ _ => true | .store _ _ => true | .tell _ => true | .unl _ _ => true | _ => false
def Cb.bx : Cb → List Int
  | .put b _ => [b] | .load b _ => [b] | .nt b c => [b, c] | .op _ b c d => [b, c, d] | .store b _ => [b] | .tell b => [b] | .unl b _ => [b] | .jump _ => [] | .turn => []
def Cb.fst (c : Cb) : Int := c.args.headD 0
theorem bx_iff (c : Cb) (x : Int) : x ∈ c.bx ↔ (c.isO = true ∧ x ∈ c.args) ∨ (c.is1 = true ∧ x = c.fst) := by
  cases c <;> simp [Cb.bx, Cb.isO, Cb.is1, Cb.args, Cb.fst]
theorem pt_bx (f : Int → Int) (c : Cb) : (c.pt f).bx = c.bx := by cases c <;> rfl
theorem kb_bx : ∀ (e : Ec) (b : Int), (∀ c ∈ e.kb b, ∀ x ∈ c.bx, b ≤ x ∧ x ≤ b + (e.nd : Int) - 1) ∧ ∃ c ∈ e.kb b, (b + (e.nd : Int) - 1) ∈ c.bx
  | .num i, b => by
    refine ⟨fun c h x hx => ?_, .put b i, by simp [Ec.kb], by simp [Cb.bx, Ec.nd]⟩
    simp [Ec.kb] at h; subst h
    simp [Cb.bx] at hx; subst hx
    simp [Ec.nd]
  | .nam i, b => by
    refine ⟨fun c h x hx => ?_, .load b i, by simp [Ec.kb], by simp [Cb.bx, Ec.nd]⟩
    simp [Ec.kb] at h; subst h
    simp [Cb.bx] at hx; subst hx
    simp [Ec.nd]
  | .un a, b => by
    obtain ⟨h1, c0, h2, h3⟩ := kb_bx a b
    have hp := a.nd_pos
    refine ⟨fun c h x hx => ?_, c0, by simp [Ec.kb, h2], h3⟩
    simp [Ec.kb] at h
    rcases h with h | rfl
    · exact h1 c h x hx
    · simp [Cb.bx] at hx; subst hx
      rw [Ec.nd]; omega
  | .bin w p q, b => by
    have hp := p.nd_pos
    have hq := q.nd_pos
    by_cases c : q.nd ≤ p.nd
    · obtain ⟨h1, c1, h2, h3⟩ := kb_bx p b
      obtain ⟨g1, c2, g2, g3⟩ := kb_bx q (b + 1)
      have hk : (Ec.bin w p q).kb b = p.kb b ++ q.kb (b + 1) ++ [.op w b b (b + 1)] := by rw [Ec.kb, if_pos c]
      rw [hk]
      have hn : (Ec.bin w p q).nd = if p.nd = q.nd then p.nd + 1 else p.nd := by rw [Ec.nd]; split <;> omega
      rw [hn]
      refine ⟨fun d h x hx => ?_, ?_⟩
      · simp at h
        rcases h with h | h | rfl
        · have := h1 d h x hx; split <;> omega
        · have := g1 d h x hx; split <;> omega
        · simp [Cb.bx] at hx; split <;> omega
      · by_cases e : p.nd = q.nd
        · refine ⟨c2, by simp [g2], ?_⟩
          rw [if_pos e, e]
          have : b + 1 + (q.nd : Int) - 1 = b + ((q.nd + 1 : Nat) : Int) - 1 := by omega
          rw [← this]; exact g3
        · exact ⟨c1, by simp [h2], by rw [if_neg e]; exact h3⟩
    · obtain ⟨h1, c1, h2, h3⟩ := kb_bx q b
      obtain ⟨g1, c2, g2, g3⟩ := kb_bx p (b + 1)
      have hk : (Ec.bin w p q).kb b = q.kb b ++ p.kb (b + 1) ++ [.op w b (b + 1) b] := by rw [Ec.kb, if_neg c]
      rw [hk]
      have hn : (Ec.bin w p q).nd = q.nd := by rw [Ec.nd]; split <;> omega
      rw [hn]
      refine ⟨fun d h x hx => ?_, c1, by simp [h2], h3⟩
      simp at h
      rcases h with h | h | rfl
      · exact h1 d h x hx
      · have := g1 d h x hx; omega
      · simp [Cb.bx] at hx; omega
theorem cb_bx (l : Ln) : (∀ c ∈ l.cb, ∀ x ∈ c.bx, ∃ e ∈ l.ex, x ≤ (e.nd : Int) - 1) ∧ ∀ e ∈ l.ex, ∃ c ∈ l.cb, ((e.nd : Int) - 1) ∈ c.bx := by
  have go : ∀ (e : Ec) (c0 : Cb), c0.bx = [0] → (∀ c ∈ e.kb 0 ++ [c0], ∀ x ∈ c.bx, x ≤ (e.nd : Int) - 1) ∧ ∃ c ∈ e.kb 0 ++ [c0], ((e.nd : Int) - 1) ∈ c.bx := by
    intro e c0 h0
    obtain ⟨h1, c1, h2, h3⟩ := kb_bx e 0
    have hp := e.nd_pos
    refine ⟨fun c h x hx => ?_, c1, by simp [h2], by simpa using h3⟩
    rcases List.mem_append.mp h with h | h
    · have := h1 c h x hx; omega
    · simp at h; subst h
      rw [h0] at hx; simp at hx; omega
  cases l with
  | jump t => refine ⟨fun c h x hx => ?_, fun e h => by cases h⟩; simp [Ln.cb] at h; subst h; cases hx
  | turn => refine ⟨fun c h x hx => ?_, fun e h => by cases h⟩; simp [Ln.cb] at h; subst h; cases hx
  | set n e => obtain ⟨a, b⟩ := go e (.store 0 n) rfl; exact ⟨fun c h x hx => ⟨e, by simp [Ln.ex], a c h x hx⟩, fun e' h => by simp [Ln.ex] at h; subst h; exact b⟩
  | tell e => obtain ⟨a, b⟩ := go e (.tell 0) rfl; exact ⟨fun c h x hx => ⟨e, by simp [Ln.ex], a c h x hx⟩, fun e' h => by simp [Ln.ex] at h; subst h; exact b⟩
  | unl e t => obtain ⟨a, b⟩ := go e (.unl 0 t) rfl; exact ⟨fun c h x hx => ⟨e, by simp [Ln.ex], a c h x hx⟩, fun e' h => by simp [Ln.ex] at h; subst h; exact b⟩
theorem maxI_memP : ∀ {l : List Int}, l ≠ [] → maxI l ∈ l
  | [x], _ => by simp [maxI]
  | x :: y :: r, _ => by
    have := maxI_memP (l := y :: r) (by simp)
    rw [maxI]
    rcases Int.le_total x (maxI (y :: r)) with h | h
    · rw [Int.max_eq_right h]; exact List.mem_cons_of_mem _ this
    · rw [Int.max_eq_left h]; exact List.mem_cons_self
theorem maxI_geP : ∀ {l : List Int} {x : Int}, x ∈ l → x ≤ maxI l
  | [y], x, h => by simp at h; subst h; simp [maxI]
  | y :: z :: r, x, h => by
    rw [maxI]
    rcases List.mem_cons.mp h with rfl | h
    · omega
    · have := maxI_geP h; omega
theorem maxI_eq {l : List Int} {m : Int} (h1 : m ∈ l) (h2 : ∀ x ∈ l, x ≤ m) : maxI l = m := by
  have a := maxI_geP h1
  have b := h2 _ (maxI_memP (l := l) (by intro e; rw [e] at h1; cases h1))
  omega
def bxList (cs : List Cb) : List Int := (cs.flatMap fun c => if c.isO then c.args else []) ++ (cs.filter Cb.is1).map Cb.fst
theorem mem_bxList (cs : List Cb) (x : Int) : x ∈ bxList cs ↔ ∃ c ∈ cs, x ∈ c.bx := by
  unfold bxList
  simp only [List.mem_append, List.mem_flatMap, List.mem_map, List.mem_filter, bx_iff]
  constructor
  · rintro (⟨c, h1, h2⟩ | ⟨c, ⟨h1, h2⟩, rfl⟩)
    · by_cases e : c.isO = true
      · rw [if_pos e] at h2; exact ⟨c, h1, .inl ⟨e, h2⟩⟩
      · rw [if_neg e] at h2; cases h2
    · exact ⟨c, h1, .inr ⟨h2, rfl⟩⟩
  · rintro ⟨c, h1, ⟨h2, h3⟩ | ⟨h2, rfl⟩⟩
    · exact .inl ⟨c, h1, by rw [if_pos h2]; exact h3⟩
    · exact .inr ⟨c, ⟨h1, h2⟩, rfl⟩
/-- the most boxes is the greatest need -/
theorem bx_max (ts : List Tc) (h : Tc.exs ts ≠ []) : maxI (-1 :: bxList (bxs ts)) + 1 = maxI ((Tc.exs ts).map fun e => (e.nd : Int)) := by
  have hne : (Tc.exs ts).map (fun e => (e.nd : Int)) ≠ [] := by simpa using h
  obtain ⟨e, he, hm⟩ := List.mem_map.mp (maxI_memP hne)
  have hp := e.nd_pos
  have : maxI (-1 :: bxList (bxs ts)) = (e.nd : Int) - 1 := by
    refine maxI_eq (List.mem_cons_of_mem _ ?_) fun x hx => ?_
    · rw [mem_bxList]
      rw [← Ls_ex ts 0] at he
      obtain ⟨l, h1, h2⟩ := List.mem_flatMap.mp he
      obtain ⟨c, h3, h4⟩ := (cb_bx l).2 e h2
      exact ⟨c.pt _, List.mem_map_of_mem (List.mem_flatMap.mpr ⟨l, h1, h3⟩), by rw [pt_bx]; exact h4⟩
    · rcases List.mem_cons.mp hx with rfl | hx
      · omega
      · obtain ⟨c, h1, h2⟩ := (mem_bxList _ _).mp hx
        obtain ⟨c0, h3, rfl⟩ := List.mem_map.mp h1
        rw [pt_bx] at h2
        obtain ⟨l, h4, h5⟩ := List.mem_flatMap.mp h3
        obtain ⟨e', h6, h7⟩ := (cb_bx l).1 c0 h5 x h2
        have h8 : e' ∈ Tc.exs ts := mem_lnex h4 h6
        have := maxI_geP (List.mem_map_of_mem (f := fun e => (e.nd : Int)) h8)
        omega
  rw [this, ← hm]; omega
theorem bin_ok (k : Nat) (cs : List Cb) (S : Store) (h : cs.length ≤ 100000) : prog (k + 1) .f_boxes_in [.d (.tup (cs.map Cb.enc))] S = some (.ok (.d (.int (maxI (-1 :: bxList cs) + 1))), S) := by
  rw [prog_succ]
  show fnM 1 4 true (m_boxes_in (prog k)) [_] S = _
  refine fnM_same (env := [some (.d (.tup (cs.map Cb.enc))), some (.d (.lst ((bxList cs).map D.int))), none, none]) rfl ?_
  have la : ∀ c : Cb, c.args.length ≤ 3 := fun c => by cases c <;> simp [Cb.args]
  have lf : ∀ l : List Cb, (l.flatMap Cb.args).length ≤ 3 * l.length := by
    intro l
    induction l with
    | nil => simp
    | cons x r ih => have := la x; rw [List.flatMap_cons, List.length_append, List.length_cons]; omega
  have lg : ∀ l : List Cb, (l.flatMap fun c => if c.isO then c.args else []).length ≤ 3 * l.length := by
    intro l
    induction l with
    | nil => simp
    | cons x r ih =>
      have := la x
      rw [List.flatMap_cons, List.length_append, List.length_cons]
      split <;> (try simp only [List.length_nil]) <;> omega
  simp [m_boxes_in, envOf]
  rw [fLc2_pure Cb.enc Cb.args D.int (fun c _ => c.isO) (fun _ y => D.int y) cs (by simp) (sl (by have := lf cs; omega)) (fun c hc => ⟨_, rfl, rfl, by
      cases c with
      | op w b c d => cases w <;> simp [Cb.enc, Cb.args]
      | _ => simp [Cb.enc, Cb.args], fun y hy => ⟨_, rfl, by
      cases c with
      | op w b c d => cases w <;> simp (decide := true) [Cb.enc, Cb.isO, W.s, k_PAIRS]
      | _ => simp (decide := true) [Cb.enc, Cb.isO, k_PAIRS], fun _ => by simp⟩⟩)]
  have e1 : (cs.flatMap fun x => (x.args.filter fun _ => x.isO).map fun y => D.int y) = (cs.flatMap fun c => if c.isO then c.args else []).map D.int := by
    rw [List.map_flatMap]
    congr 1
    funext c
    cases c.isO with
    | true => rw [if_pos rfl, List.filter_eq_self.mpr fun _ _ => rfl]
    | false => rw [if_neg (by decide), List.filter_eq_nil_iff.mpr fun _ _ => by decide]; try rfl
  rw [e1]
  simp only [frz_map]
  simp
  rw [fLc_pure Cb.enc (fun c => D.int c.fst) Cb.is1 cs (by simp) (sl (by omega)) (fun c hc => ⟨_, rfl, by
      cases c with
      | op w b c d => cases w <;> simp (decide := true) [Cb.enc, Cb.is1, W.s]
      | _ => simp (decide := true) [Cb.enc, Cb.is1], fun hp => by
      cases c with
      | op w b c d => cases hp
      | nt b c => cases hp
      | jump t => cases hp
      | turn => cases hp
      | _ => simp [Cb.enc, Cb.fst, Cb.args]⟩)]
  have e2 : ((cs.filter Cb.is1).map fun c => D.int c.fst) = ((cs.filter Cb.is1).map Cb.fst).map D.int := by rw [List.map_map]; rfl
  rw [e2]
  simp only [frz_map]
  have hl2 := List.length_filter_le Cb.is1 cs
  rw [oPlus_lst _ _ _ (sl (by have := lg cs; rw [List.length_map, List.length_map, List.length_map]; omega)), ← List.map_append]
  rw [show (cs.flatMap fun c => if c.isO then c.args else []) ++ (cs.filter Cb.is1).map Cb.fst = bxList cs from rfl]
  have e3 : oPlus (.d (.lst [.int (-1)])) (.d (.lst ((bxList cs).map D.int))) S = some (.ok (.d (.lst (.int (-1) :: (bxList cs).map D.int))), S) := by
    refine oPlus_lst _ _ _ (sl ?_)
    have := lg cs
    rw [List.length_map, bxList, List.length_append, List.length_map]
    simp only [List.length_cons, List.length_nil]
    omega
  have e4 := oMax_ints (-1) (bxList cs) S
  simp [e3, e4]
end Y

set_option Elab.async false
set_option linter.all false
set_option maxRecDepth 100000
set_option maxHeartbeats 4000000
namespace Y
open PySem PySem.Spec L2
/-! ### the law's equality of ints, lists of ints -/
@[simp] theorem fIsN_def (neg : Bool) (fa : FE) (env : Env) (S : Store) : fIsN neg fa env S = bnd (fa env) (fun x => lift ((isNon x).map fun k => .d (.bl (k != neg)))) S := rfl
@[simp] theorem isN_int (i : Int) : isNon (.d (.int i)) = some false := rfl
@[simp] theorem fAnd_def (fa fb : FE) (env : Env) (S : Store) : fAnd fa fb env S = bnd (fT fa env) (fun k => if k = true then fb env else ret (.d (.bl false))) S := rfl
@[simp] theorem oEq_bl (neg a b : Bool) (S : Store) : oEq neg (.d (.bl a)) (.d (.bl b)) S = some (.ok (.d (.bl (decide (a = b) != neg))), S) := oEq_of neg (by cases a <;> cases b <;> decide) S
theorem rng1_nat (n : Nat) (S : Store) (h : n ≤ 1000000) : rng1 [.d (.int n)] S = some (.ok (((List.range n).map fun (i : Nat) => D.int i).map Val.d), S) := by
  show (if inR (n : Int) = true then some (Ex.ok (rngV 0 n), S) else none) = _
  have : inR (n : Int) = true := by unfold inR; simp; omega
  rw [if_pos this]
  unfold rngV
  simp [Function.comp_def]
theorem same_int (k : Nat) (n : Int) (S : Store) : prog (k + 1) .f_law_same [.d (.int n), .d (.int n)] S = some (.ok (.d (.bl true)), S) := by
  rw [prog_succ]
  show fnM 2 3 true (m__law_same (prog k)) [_, _] S = _
  refine fnM_same (env := [some (.d (.int n)), some (.d (.int n)), none]) rfl ?_
  simp (decide := true) [m__law_same, envOf]
theorem sSeq_rt {g1 g2 : FS} {env env' : Env} {S S' : Store} {v : Val} (h : g1 env S = some (.rt v, env', S')) : sSeq g1 g2 env S = some (.rt v, env', S') := by rw [sSeq_def, h]
theorem sSeq_nx {g1 g2 : FS} {env env' : Env} {S S' : Store} {r : SO} (h : g1 env S = some (.nx, env', S')) (k : g2 env' S' = r) : sSeq g1 g2 env S = r := by rw [sSeq_def, h]; exact k
theorem same_a (ds : List D) (S : Store) (g : FS) (r : SO) (h : g [some (.d (.lst ds)), some (.d (.lst ds)), none] S = r) : sIf (gOr (fT (fIsa "tuple" (fVar 1))) (fT (fIsa "list" (fVar 1)))) g sNil [some (.d (.lst ds)), some (.d (.lst ds)), none] S = r := by
  simp [h]
theorem same_b (ds : List D) (S : Store) (g : FS) (r : SO) (h : g [some (.d (.lst ds)), some (.d (.lst ds)), none] S = r) : sSeq (sIf (gOr (fT (fBin (oEq true) (fIsa "tuple" (fVar 1)) (fIsa "tuple" (fVar 0)))) (gOr (fT (fBin (oEq true) (fIsa "list" (fVar 1)) (fIsa "list" (fVar 0)))) (fT (fBin (oEq true) (fCall oLen (fCons (fVar 0) (fNil))) (fCall oLen (fCons (fVar 1) (fNil))))))) (sSeq (sRet (fC (.bl false))) (sNil)) (sNil)) g [some (.d (.lst ds)), some (.d (.lst ds)), none] S = r := by
  simp [h]
theorem same_c (env : Env) (S : Store) (fl : FA) (h : fl env S = some (.ok [], S)) : sSeq (sRet (fBin (oEq false) (fCall oLen (fCons (fFrz fl) (fNil))) (fC (.int 0)))) (sNil) env S = some (.rt (.d (.bl true)), env, S) := by
  have e : fFrz fl env S = some (.ok (.d (.lst [])), S) := by rw [fFrz_def, bnd_def, h]; rfl
  simp only [sSeq_def, sRet_def, fBin_def, bnd_def, fCall_def, fCons_def, e, fNil_def, ret_def, oLen_lst, fC_def]
  have e2 := oEq_int false 0 0 S
  simp only [List.length_nil]
  rw [show ((0 : Nat) : Int) = 0 from rfl, e2]
  rfl
theorem same_lc (c : Fnm → Fn) (hc : ∀ (n : Int) (S : Store), c .f_law_same [.d (.int n), .d (.int n)] S = some (.ok (.d (.bl true)), S)) (ns : List Int) (S : Store) (h : ns.length ≤ 1000000) :
    fLc (fCall rng1 (fCons (fCall oLen (fCons (fVar 1) (fNil))) (fNil))) (gN 2) (gNot (fT (fCall (ck 2 (c .f_law_same)) (fCons (fBin oIx (fVar 0) (fVar 2)) (fCons (fBin oIx (fVar 1) (fVar 2)) (fNil)))))) (fVar 2) [2] [some (.d (.lst (ns.map D.int))), some (.d (.lst (ns.map D.int))), none] S = some (.ok [], S) := by
  have hr := rng1_nat ns.length S h
  have hr2 : fCall rng1 (fCons (fCall oLen (fCons (fVar 1) fNil)) fNil) [some (.d (.lst (ns.map D.int))), some (.d (.lst (ns.map D.int))), none] S = some (.ok (((List.range ns.length).map fun (i : Nat) => D.int i).map Val.d), S) := by
    have e : fCons (fCall oLen (fCons (fVar 1) fNil)) fNil [some (.d (.lst (ns.map D.int))), some (.d (.lst (ns.map D.int))), none] S = some (.ok [.d (.int (ns.length : Nat))], S) := by simp
    rw [fCall_def, bnd_def, e]
    exact hr
  rw [fLc_pure (fun (i : Nat) => D.int i) (fun (i : Nat) => D.int i) (fun _ => false) (List.range ns.length) hr2 (by rw [List.length_range]; exact sl (by omega)) (fun i hi => ⟨_, rfl, by
    have hi2 := List.mem_range.mp hi
    simp
    rw [atI_nat]
    simp [List.getElem?_eq_getElem hi2, hc], fun h => by cases h⟩)]
  rw [List.filter_eq_nil_iff.mpr (by intro a _; decide)]
  rfl
theorem same_body (c : Fnm → Fn) (hc : ∀ (n : Int) (S : Store), c .f_law_same [.d (.int n), .d (.int n)] S = some (.ok (.d (.bl true)), S)) (ns : List Int) (S : Store) (h : ns.length ≤ 1000000) :
    m__law_same c [some (.d (.lst (ns.map D.int))), some (.d (.lst (ns.map D.int))), none] S = some (.rt (.d (.bl true)), [some (.d (.lst (ns.map D.int))), some (.d (.lst (ns.map D.int))), none], S) := by
  unfold m__law_same
  exact sSeq_rt (same_a _ S _ _ (same_b _ S _ _ (same_c _ S _ (same_lc c hc ns S h))))
theorem same_ints (k : Nat) (ns : List Int) (S : Store) (h : ns.length ≤ 1000000) : prog (k + 2) .f_law_same [.d (.lst (ns.map D.int)), .d (.lst (ns.map D.int))] S = some (.ok (.d (.bl true)), S) := by
  rw [prog_succ]
  generalize hc : prog (k + 1) = c
  show fnM 2 3 true (m__law_same c) [_, _] S = _
  refine fnM_same (env := [some (.d (.lst (ns.map D.int))), some (.d (.lst (ns.map D.int))), none]) rfl (same_body c ?_ ns S h)
  intro n S
  rw [← hc]
  exact same_int k n S
/-! ### the pool -/
def pl (cs : List Int) (a b c d : Int) : Store := [.lst [.d (.lst (cs.map D.int)), .d (.int a), .d (.int b), .d (.int c), .d (.int d)]]
section
variable {cs : List Int} {a b c d : Int}
@[simp] theorem pl_0 : oIx (.r 0) (.d (.int 0)) (pl cs a b c d) = some (.ok (.d (.lst (cs.map D.int))), pl cs a b c d) := rfl
@[simp] theorem pl_1 : oIx (.r 0) (.d (.int 1)) (pl cs a b c d) = some (.ok (.d (.int a)), pl cs a b c d) := rfl
@[simp] theorem pl_2 : oIx (.r 0) (.d (.int 2)) (pl cs a b c d) = some (.ok (.d (.int b)), pl cs a b c d) := rfl
@[simp] theorem pl_3 : oIx (.r 0) (.d (.int 3)) (pl cs a b c d) = some (.ok (.d (.int c)), pl cs a b c d) := rfl
@[simp] theorem pl_4 : oIx (.r 0) (.d (.int 4)) (pl cs a b c d) = some (.ok (.d (.int d)), pl cs a b c d) := rfl
@[simp] theorem pl_p1 (v : Int) : oPut (.r 0) (.d (.int 1)) (.d (.int v)) (pl cs a b c d) = some (pl cs v b c d) := rfl
@[simp] theorem pl_p2 (v : Int) : oPut (.r 0) (.d (.int 2)) (.d (.int v)) (pl cs a b c d) = some (pl cs a v c d) := rfl
@[simp] theorem pl_p3 (v : Int) : oPut (.r 0) (.d (.int 3)) (.d (.int v)) (pl cs a b c d) = some (pl cs a b v d) := rfl
end
@[simp] theorem sPut_def (fo fi fv : FE) (env : Env) (S : Store) : sPut fo fi fv env S = bS (bnd (fv env) (fun v => bnd (fo env) fun o => bnd (fi env) fun i => fun S => (oPut o i v S).map fun S' => (.ok (), S')) S) env fun _ S' => some (.nx, env, S') := rfl
@[simp] theorem oMul_lit (a b : Int) (S : Store) (h : -(2 ^ 64) < b) (h2 : b < 2 ^ 64) : oMul (.d (.int a)) (.d (.int b)) S = some (.ok (.d (.int (a * b))), S) := by
  show (if cMul a b = true then ret (Val.d (.int (a * b))) else stk) S = _
  rw [if_pos (by unfold cMul; simp only [Bool.or_eq_true, Bool.and_eq_true, decide_eq_true_eq]; exact .inr ⟨h, h2⟩)]
  rfl
@[simp] theorem oMod_pos (a b : Int) (S : Store) (h : 0 < b) : oMod (.d (.int a)) (.d (.int b)) S = some (.ok (.d (.int (a % b))), S) := by
  show (if decide (0 < b) = true then ret (Val.d (.int (a % b))) else stk) S = _
  rw [if_pos (decide_eq_true h)]
  rfl
@[simp] theorem oDiv_pos (a b : Int) (S : Store) (h : 0 < b) (h2 : b < 1073741824) : oDiv (.d (.int a)) (.d (.int b)) S = some (.ok (.d (.int (a / b))), S) := by
  show (if (decide (0 < b) && decide (b < 1073741824)) = true then ret (Val.d (.int (a / b))) else stk) S = _
  rw [if_pos (by rw [decide_eq_true h, decide_eq_true h2]; rfl)]
  rfl
@[simp] theorem oSub_int (a b : Int) (S : Store) : oSub (.d (.int a)) (.d (.int b)) S = some (.ok (.d (.int (a - b))), S) := rfl
/-- a def over the pool -/
theorem fnM_pool {n N : Nat} {body : FS} {args : List Val} {env : Env} {v : D} {cs cs' : List Int} {a b c d a' b' c' d' : Int} (hn : args.length = n) (h : body (envOf N args) (pl cs a b c d) = some (.rt (.d v), env, pl cs' a' b' c' d')) :
    fnM n N true body args (pl cs a b c d) = some (.ok (.d v), pl cs' a' b' c' d') := by
  unfold fnM
  rw [if_pos hn, h]
  show cutF true _ (.ok (.d v)) _ = _
  unfold cutF
  have hc : cutOk (pl cs a b c d) (pl cs' a' b' c' d') := ⟨Nat.le_refl _, fun i o hi e => .inr (by
    cases i with
    | zero => cases e; rfl
    | succ i => exact absurd hi (by show ¬ (i + 1 < 1); omega))⟩
  rw [if_pos rfl, if_pos ⟨hc, fun r e => by cases e; rfl⟩]
  rfl
theorem spread_ok (k : Nat) (n : Int) (S : Store) : ∃ v, prog (k + 1) .f_law_spread [.d (.int n)] S = some (.ok (.d (.int v)), S) := by
  rw [prog_succ]
  show ∃ v, fnM 1 4 true (m__law_spread (prog k)) [_] S = _
  obtain ⟨env', S', h1, h2⟩ := forL_run (gt := gN 3) (body := b__law_spread_1 (prog k)) (fun i : Nat => D.int i) (fun done env S' => S' = S ∧ ∃ m t j, env = [some (.d (.int n)), some (.d (.int m)), some (.d (.int t)), j]) (List.range 4)
    (by
      rintro done x rest env S' he ⟨rfl, m, t, j, rfl⟩
      refine ⟨_, [some (.d (.int n)), some (.d (.int ((m * 48271 + 12345 + x) % 2147483647))), some (.d (.int (t * 2147483647 + (m * 48271 + 12345 + x) % 2147483647))), some (.d (.int x))], S', rfl, ?_, rfl, _, _, _, rfl⟩
      simp (decide := true) [b__law_spread_1]) (List.range 4) [] [some (.d (.int n)), some (.d (.int (n % 2147483647))), some (.d (.int 1)), none] S rfl ⟨rfl, _, _, _, rfl⟩
  obtain ⟨rfl, m, t, j, rfl⟩ := h2
  refine ⟨t, fnM_same (env := [some (.d (.int n)), some (.d (.int m)), some (.d (.int t)), j]) rfl ?_⟩
  have e := rng1_nat 4 S' (by decide)
  have e' : rng1 [.d (.int 4)] S' = some (.ok (((List.range 4).map fun (i : Nat) => D.int i).map Val.d), S') := e
  simp only [m__law_spread, envOf]
  simp (decide := true) [e']
  simp at h1
  simp [h1]
def tlV (b c d many : Int) : Int := if b ≤ 0 then (((d * 48271 + (c + 1) * 69621 + 1) % 2147483647) * 16807 + (c + 1)) % 2147483629 / 5 % many else b % many
def tlP (b many : Int) : Int := if b ≤ 0 then b else b / many
theorem tlV_range (b c d : Int) {many : Int} (h : 0 < many) : 0 ≤ tlV b c d many ∧ tlV b c d many < many := by
  unfold tlV
  split
  · exact ⟨Int.emod_nonneg _ (by omega), Int.emod_lt_of_pos _ h⟩
  · exact ⟨Int.emod_nonneg _ (by omega), Int.emod_lt_of_pos _ h⟩
abbrev Pool (S : Store) : Prop := ∃ cs a b c d, S = pl cs a b c d ∧ 0 ≤ a
theorem draw_ok (k : Nat) {S : Store} (hS : Pool S) (many : Int) (h : 0 < many) (h2 : many < 1073741824) :
    ∃ S' v, Pool S' ∧ 0 ≤ v ∧ v < many ∧ prog (k + 2) .f_law_draw [.r 0, .d (.int many)] S = some (.ok (.d (.int v)), S') := by
  obtain ⟨cs, a, b, c, d, rfl, ha⟩ := hS
  rw [prog_succ]
  show ∃ S' v, Pool S' ∧ 0 ≤ v ∧ v < many ∧ fnM 2 5 true (m__law_draw (prog (k + 1))) [_, _] _ = _
  by_cases c1 : b ≤ 0 ∧ a < (cs.length : Nat)
  · obtain ⟨c1, c2⟩ := c1
    obtain ⟨n, rfl⟩ := Int.eq_ofNat_of_zero_le ha
    have hn : n < cs.length := by omega
    have ec : atI (cs.map (Val.d ∘ D.int)) (n : Int) = some (.d (.int cs[n])) := by rw [atI_nat]; simp [List.getElem?_eq_getElem hn]
    by_cases c3 : cs[n] < 1000000000000000000
    · obtain ⟨v, hv⟩ := spread_ok k cs[n] (pl cs (n + 1) cs[n] c d)
      have hr := tlV_range v c d h
      refine ⟨pl cs (n + 1) (tlP v many) (c + 1) d, tlV v c d many, ⟨_, _, _, _, _, rfl, by omega⟩, hr.1, hr.2, ?_⟩
      by_cases c4 : v ≤ 0
      · refine fnM_pool (env := [some (.r 0), some (.d (.int many)), some (.d (.int cs[n])), some (.d (.int ((((d * 48271 + (c + 1) * 69621 + 1) % 2147483647) * 16807 + (c + 1)) % 2147483629))), none]) rfl ?_
        simp (decide := true) [m__law_draw, envOf, c1, c2, ec, c3, hv, c4, h, h2, tlV, tlP]
      · refine fnM_pool (env := [some (.r 0), some (.d (.int many)), some (.d (.int cs[n])), none, some (.d (.int (v % many)))]) rfl ?_
        simp (decide := true) [m__law_draw, envOf, c1, c2, ec, c3, hv, c4, h, h2, tlV, tlP]
    · have hr := tlV_range cs[n] c d h
      have c4 : ¬ cs[n] ≤ 0 := by omega
      refine ⟨pl cs (n + 1) (tlP cs[n] many) (c + 1) d, tlV cs[n] c d many, ⟨_, _, _, _, _, rfl, by omega⟩, hr.1, hr.2, ?_⟩
      refine fnM_pool (env := [some (.r 0), some (.d (.int many)), some (.d (.int cs[n])), none, some (.d (.int (cs[n] % many)))]) rfl ?_
      simp (decide := true) [m__law_draw, envOf, c1, c2, ec, c3, c4, h, h2, tlV, tlP]
  · have hr := tlV_range b c d h
    refine ⟨pl cs a (tlP b many) (c + 1) d, tlV b c d many, ⟨_, _, _, _, _, rfl, ha⟩, hr.1, hr.2, ?_⟩
    by_cases c4 : b ≤ 0
    · have c2 : ¬ (a < (cs.length : Nat)) := fun c2 => c1 ⟨c4, c2⟩
      refine fnM_pool (env := [some (.r 0), some (.d (.int many)), none, some (.d (.int ((((d * 48271 + (c + 1) * 69621 + 1) % 2147483647) * 16807 + (c + 1)) % 2147483629))), none]) rfl ?_
      simp (decide := true) [m__law_draw, envOf, c2, c4, h, h2, tlV, tlP]
    · refine fnM_pool (env := [some (.r 0), some (.d (.int many)), none, none, some (.d (.int (b % many)))]) rfl ?_
      simp (decide := true) [m__law_draw, envOf, c4, h, h2, tlV, tlP]
end Y

set_option Elab.async false
set_option linter.all false
set_option maxRecDepth 100000
set_option maxHeartbeats 4000000
namespace Y
open PySem PySem.Spec L2
theorem fnM_poolS {n N : Nat} {body : FS} {args : List Val} {env : Env} {v : D} {S S' : Store} (hS : Pool S) (hS' : Pool S') (hn : args.length = n) (h : body (envOf N args) S = some (.rt (.d v), env, S')) : fnM n N true body args S = some (.ok (.d v), S') := by
  obtain ⟨cs, a, b, c, d, rfl, _⟩ := hS
  obtain ⟨cs', a', b', c', d', rfl, _⟩ := hS'
  exact fnM_pool hn h
theorem atI_in {ds : List D} {v : Int} (h : 0 ≤ v) (h2 : v < (ds.length : Nat)) : ∃ x ∈ ds, atI (ds.map Val.d) v = some (.d x) := by
  obtain ⟨n, rfl⟩ := Int.eq_ofNat_of_zero_le h
  have hn : n < ds.length := by omega
  refine ⟨ds[n], List.getElem_mem hn, ?_⟩
  rw [atI_nat]
  simp [List.getElem?_eq_getElem hn]
theorem pick_ok (k : Nat) {S : Store} (hS : Pool S) (ds : List D) (h : 0 < ds.length) (h2 : ds.length < 1000000) :
    ∃ S' x, Pool S' ∧ x ∈ ds ∧ prog (k + 3) .f_law_pick [.r 0, .d (.lst ds)] S = some (.ok (.d x), S') := by
  obtain ⟨S', v, hS', h3, h4, h5⟩ := draw_ok k hS (ds.length : Nat) (by omega) (by omega)
  obtain ⟨x, hx, ex⟩ := atI_in h3 h4
  refine ⟨S', x, hS', hx, ?_⟩
  rw [prog_succ]
  show fnM 2 2 true (m__law_pick (prog (k + 2))) [_, _] S = _
  refine fnM_poolS hS hS' (env := [some (.r 0), some (.d (.lst ds))]) rfl ?_
  simp [m__law_pick, envOf, h5, ex]
@[simp] theorem mkTup_8 (a b c d e f g h : D) (S : Store) : mkTup [.d a, .d b, .d c, .d d, .d e, .d f, .d g, .d h] S = some (.ok (.d (.tup [a, b, c, d, e, f, g, h])), S) := mkTup_map [a, b, c, d, e, f, g, h] S (by show 8 ≤ sizeLine; decide)
@[simp] theorem okL_6 (a b c d e f : Val) (S : Store) : okL [a, b, c, d, e, f] S = some (.ok [a, b, c, d, e, f], S) := okL_ok _ S (sl (by simp))
@[simp] theorem frz_6 (a b c d e f : D) (S : Store) : frz [.d a, .d b, .d c, .d d, .d e, .d f] S = some (.ok (.d (.lst [a, b, c, d, e, f])), S) := rfl
/-- the leaf -/
theorem leaf_ok (k : Nat) {S : Store} (hS : Pool S) (env : Env) (he : env[0]? = some (some (.r 0))) : ∃ S' e, Pool S' ∧ Ec.dp e = 0 ∧
    sSeq (sIf (fT (fBin oLt (fCall (ck 2 (prog (k + 2) .f_law_draw)) (fCons (fVar 0) (fCons (fC (.int 5)) (fNil)))) (fC (.int 2)))) (sSeq (sRet (fTup (fCons (fC (.str "number")) (fCons (fBin oIx (fTup (fCons (fC (.int 0)) (fCons (fC (.int 1)) (fCons (fC (.int 2)) (fCons (fC (.int 3)) (fCons (fC (.int 5)) (fCons (fC (.int 9)) (fCons (fC (.int 998)) (fCons (fC (.int 999)) (fNil)))))))))) (fCall (ck 2 (prog (k + 2) .f_law_draw)) (fCons (fVar 0) (fCons (fC (.int 8)) (fNil))))) (fNil))))) (sNil)) (sNil)) (sSeq (sRet (fTup (fCons (fC (.str "name")) (fCons (fCall (ck 2 (prog (k + 2) .f_law_draw)) (fCons (fVar 0) (fCons (fC (.int 4)) (fNil)))) (fNil))))) (sNil)) env S = some (.rt (.d e.enc), env, S') := by
  obtain ⟨S1, v1, h1, a1, b1, e1⟩ := draw_ok k hS 5 (by decide) (by decide)
  by_cases c : v1 < 2
  · obtain ⟨S2, v2, h2, a2, b2, e2⟩ := draw_ok k h1 8 (by decide) (by decide)
    obtain ⟨x, hx, ex⟩ := atI_in (ds := [D.int 0, D.int 1, D.int 2, D.int 3, D.int 5, D.int 9, D.int 998, D.int 999]) a2 (by simpa using b2)
    have hi : ∃ i, x = .int i := by simp at hx; rcases hx with h | h | h | h | h | h | h | h <;> exact ⟨_, h⟩
    obtain ⟨i, rfl⟩ := hi
    refine ⟨S2, .num i, h2, rfl, ?_⟩
    simp at ex
    simp (decide := true) [he, e1, c, e2, ex, Ec.enc]
  · obtain ⟨S2, v2, h2, a2, b2, e2⟩ := draw_ok k h1 4 (by decide) (by decide)
    refine ⟨S2, .nam v2, h2, rfl, ?_⟩
    simp (decide := true) [he, e1, c, e2, Ec.enc]
theorem sIf_t {gc : FB} {g1 g2 : FS} {env : Env} {S S1 : Store} {r : SO} (h : gc env S = some (.ok true, S1)) (k : g1 env S1 = r) : sIf gc g1 g2 env S = r := by rw [sIf_def, h]; exact k
theorem sIf_f {gc : FB} {g1 g2 : FS} {env : Env} {S S1 : Store} {r : SO} (h : gc env S = some (.ok false, S1)) (k : g2 env S1 = r) : sIf gc g1 g2 env S = r := by rw [sIf_def, h]; exact k
theorem expr_ok : ∀ (d k : Nat) {S : Store}, Pool S → ∃ S' e, Pool S' ∧ Ec.dp e ≤ d ∧ prog (k + 4 + d) .f_law_expression [.r 0, .d (.int (d : Nat))] S = some (.ok (.d e.enc), S')
  | 0, k, S, hS => by
    obtain ⟨S', e, hS', he, h⟩ := leaf_ok (k + 1) hS [some (.r 0), some (.d (.int (0 : Nat))), none] rfl
    refine ⟨S', e, hS', by omega, ?_⟩
    show prog (k + 3 + 1) .f_law_expression _ _ = _
    rw [prog_succ]
    show fnM 2 3 true (m__law_expression (prog (k + 3))) [_, _] S = _
    refine fnM_poolS hS hS' (env := [some (.r 0), some (.d (.int (0 : Nat))), none]) rfl ?_
    unfold m__law_expression
    exact sSeq_rt (sIf_t (S1 := S) (by simp [envOf]) h)
  | d + 1, k, S, hS => by
    generalize hD : ((d + 1 : Nat) : Int) = z
    have hd : ¬ (z = 0) := by omega
    have hd1 : z - 1 = (d : Nat) := by omega
    obtain ⟨S1, v1, h1, a1, b1, e1⟩ := draw_ok (k + 2 + d) hS 4 (by decide) (by decide)
    have e1' : prog (k + 4 + d) .f_law_draw [.r 0, .d (.int 4)] S = some (.ok (.d (.int v1)), S1) := by
      rw [show k + 4 + d = k + 2 + d + 2 by omega]; exact e1
    show ∃ S' e, Pool S' ∧ Ec.dp e ≤ d + 1 ∧ prog (k + 4 + d + 1) .f_law_expression _ S = _
    rw [prog_succ]
    show ∃ S' e, Pool S' ∧ Ec.dp e ≤ d + 1 ∧ fnM 2 3 true (m__law_expression (prog (k + 4 + d))) [_, _] S = _
    by_cases c : v1 = 0
    · obtain ⟨S', e, hS', he, h⟩ := leaf_ok (k + 2 + d) h1 [some (.r 0), some (.d (.int z)), none] rfl
      rw [show k + 2 + d + 2 = k + 4 + d by omega] at h
      refine ⟨S', e, hS', by omega, ?_⟩
      refine fnM_poolS hS hS' (env := [some (.r 0), some (.d (.int z)), none]) rfl ?_
      unfold m__law_expression
      exact sSeq_rt (sIf_t (S1 := S1) (by simp [envOf, hd, e1', c]) h)
    · obtain ⟨S2, x, h2, hx, e2⟩ := pick_ok (k + 1 + d) h1 [D.str "plus", D.str "minus", D.str "times", D.str "less", D.str "same", D.str "not"] (by decide) (by simp)
      have e2' : prog (k + 4 + d) .f_law_pick [.r 0, .d (.lst [D.str "plus", D.str "minus", D.str "times", D.str "less", D.str "same", D.str "not"])] S1 = some (.ok (.d x), S2) := by
        rw [show k + 4 + d = k + 1 + d + 3 by omega]; exact e2
      obtain ⟨S3, ea, h3, l3, e3⟩ := expr_ok d k h2
      by_cases hnot : x = .str "not"
      · subst hnot
        refine ⟨S3, .un ea, h3, by simp only [Ec.dp]; omega, ?_⟩
        refine fnM_poolS hS h3 (env := [some (.r 0), some (.d (.int z)), some (.d (.str "not"))]) rfl ?_
        unfold m__law_expression
        refine sSeq_nx (sIf_f (S1 := S1) (by simp [envOf, hd, e1', c]) rfl) ?_
        simp (decide := true) [envOf, e2', hd1, e3, Ec.enc]
      · obtain ⟨S4, eb, h4, l4, e4⟩ := expr_ok d k h3
        have hw : ∃ w : W, x = .str w.s := by
          simp at hx
          rcases hx with h | h | h | h | h | h
          · exact ⟨.plus, h⟩
          · exact ⟨.minus, h⟩
          · exact ⟨.times, h⟩
          · exact ⟨.less, h⟩
          · exact ⟨.same, h⟩
          · exact absurd h hnot
        obtain ⟨w, rfl⟩ := hw
        refine ⟨S4, .bin w ea eb, h4, by simp only [Ec.dp]; omega, ?_⟩
        refine fnM_poolS hS h4 (env := [some (.r 0), some (.d (.int z)), some (.d (.str w.s))]) rfl ?_
        unfold m__law_expression
        refine sSeq_nx (sIf_f (S1 := S1) (by simp [envOf, hd, e1', c]) rfl) ?_
        cases w <;> (simp only [W.s] at e2'; simp (decide := true) [envOf, e2', hd1, e3, e4, Ec.enc, W.s])
end Y

set_option Elab.async false
set_option linter.all false
set_option maxRecDepth 100000
set_option maxHeartbeats 4000000
namespace Y
open PySem PySem.Spec L2
theorem lcL_pool {gt : Val → Env → Option Env} {f : FE} {env0 : Env} (Q : Tc → Prop) : ∀ (xs : List Val) (acc : List Val) {S : Store}, Pool S → acc.length + xs.length ≤ 1000000 →
    (∀ x ∈ xs, ∀ S, Pool S → ∃ env1 S' t, gt x env0 = some env1 ∧ Pool S' ∧ Q t ∧ f env1 S = some (.ok (.d t.enc), S')) →
    ∃ (S' : Store) (ts : List Tc), Pool S' ∧ ts.length = xs.length ∧ (∀ t ∈ ts, Q t) ∧ lcL gt gYes f env0 xs acc S = some (.ok (acc ++ (ts.map Tc.enc).map Val.d), S')
  | [], acc, S, hS, _, _ => ⟨S, [], hS, rfl, by simp, by show some (Ex.ok acc, S) = _; simp⟩
  | x :: xs, acc, S, hS, hl, H => by
    obtain ⟨env1, S1, t, h1, h2, h3, h4⟩ := H x List.mem_cons_self S hS
    rw [List.length_cons] at hl
    obtain ⟨S2, ts, g1, g2, g3, g4⟩ := lcL_pool Q xs (acc ++ [.d t.enc]) h2 (by rw [List.length_append, List.length_singleton]; omega) fun y hy => H y (List.mem_cons_of_mem _ hy)
    refine ⟨S2, t :: ts, g1, by simp [g2], by simpa using ⟨h3, g3⟩, ?_⟩
    show (match gt x env0 with | none => none | some env1 => _) = _
    rw [h1]
    dsimp only
    rw [bnd_def, gYes_def]
    dsimp only
    rw [if_pos rfl, bnd_def, h4]
    dsimp only
    rw [if_pos (sl' (by omega)), g4]
    simp
abbrev okT (d : Nat) (t : Tc) : Prop := t.ht ≤ d ∧ ∀ e ∈ t.ex, Ec.dp e ≤ 2
abbrev okB (d : Nat) (ts : List Tc) : Prop := Tc.hts ts ≤ d ∧ ∀ e ∈ Tc.exs ts, Ec.dp e ≤ 2
theorem okB_of {d : Nat} : ∀ {ts : List Tc}, (∀ t ∈ ts, okT d t) → okB d ts
  | [], _ => ⟨by simp [Tc.hts], by simp [Tc.exs]⟩
  | t :: r, h => by
    obtain ⟨a, b⟩ := h t List.mem_cons_self
    obtain ⟨a2, b2⟩ := okB_of (ts := r) fun x hx => h x (List.mem_cons_of_mem _ hx)
    refine ⟨by rw [Tc.hts]; omega, fun e he => ?_⟩
    rw [Tc.exs] at he
    rcases List.mem_append.mp he with h | h
    · exact b e h
    · exact b2 e h
theorem block_of (d k : Nat) (hdeed : ∀ {S : Store}, Pool S → ∃ S' t, Pool S' ∧ okT d t ∧ prog (k + 10 + 2 * d) .f_law_deed [.r 0, .d (.int (d : Nat))] S = some (.ok (.d t.enc), S')) {S : Store} (hS : Pool S) :
    ∃ S' ts, Pool S' ∧ okB d ts ∧ ts.length ≤ 3 ∧ prog (k + 11 + 2 * d) .f_law_block [.r 0, .d (.int (d : Nat))] S = some (.ok (.d (.tup (Tc.encs ts))), S') := by
  generalize hz : ((d : Nat) : Int) = z at *
  obtain ⟨S1, v, h1, a1, b1, e1⟩ := draw_ok (k + 8 + 2 * d) hS 4 (by decide) (by decide)
  rw [show k + 8 + 2 * d + 2 = k + 10 + 2 * d by omega] at e1
  obtain ⟨n, rfl⟩ := Int.eq_ofNat_of_zero_le a1
  have hr := rng1_nat n S1 (by omega)
  obtain ⟨S2, ts, h2, hlen, h3, e2⟩ := lcL_pool (gt := gN 2) (f := fCall (ck 2 (prog (k + 10 + 2 * d) .f_law_deed)) (fCons (fVar 0) (fCons (fVar 1) (fNil)))) (env0 := [some (.r 0), some (.d (.int z)), none]) (okT d) (((List.range n).map fun (i : Nat) => D.int i).map Val.d) [] h1 (by simp; omega) (by
    intro x hx S hS
    obtain ⟨S', t, g1, g2, g3⟩ := hdeed hS
    exact ⟨_, S', t, rfl, g1, g2, by simp [g3]⟩)
  refine ⟨S2, ts, h2, okB_of h3, by simp at hlen; omega, ?_⟩
  rw [show k + 11 + 2 * d = k + 10 + 2 * d + 1 by omega]
  rw [prog_succ]
  show fnM 2 3 true (m__law_block (prog (k + 10 + 2 * d))) [_, _] S = _
  refine fnM_poolS hS h2 (env := [some (.r 0), some (.d (.int z)), none]) rfl ?_
  have e3 : fCall rng1 (fCons (fCall (ck 2 (prog (k + 10 + 2 * d) .f_law_draw)) (fCons (fVar 0) (fCons (fC (.int 4)) (fNil)))) (fNil)) [some (.r 0), some (.d (.int z)), none] S = some (.ok (((List.range n).map fun (i : Nat) => D.int i).map Val.d), S1) := by
    have e : fCons (fCall (ck 2 (prog (k + 10 + 2 * d) .f_law_draw)) (fCons (fVar 0) (fCons (fC (.int 4)) (fNil)))) (fNil) [some (.r 0), some (.d (.int z)), none] S = some (.ok [.d (.int (n : Nat))], S1) := by simp [e1]
    rw [fCall_def, bnd_def, e]
    exact hr
  have e4 : fFrz (fLc (fCall rng1 (fCons (fCall (ck 2 (prog (k + 10 + 2 * d) .f_law_draw)) (fCons (fVar 0) (fCons (fC (.int 4)) (fNil)))) (fNil))) (gN 2) (gYes) (fCall (ck 2 (prog (k + 10 + 2 * d) .f_law_deed)) (fCons (fVar 0) (fCons (fVar 1) (fNil)))) [2]) [some (.r 0), some (.d (.int z)), none] S = some (.ok (.d (.lst (ts.map Tc.enc))), S2) := by
    rw [fFrz_def, bnd_def]
    have : fLc (fCall rng1 (fCons (fCall (ck 2 (prog (k + 10 + 2 * d) .f_law_draw)) (fCons (fVar 0) (fCons (fC (.int 4)) (fNil)))) (fNil))) (gN 2) (gYes) (fCall (ck 2 (prog (k + 10 + 2 * d) .f_law_deed)) (fCons (fVar 0) (fCons (fVar 1) (fNil)))) [2] [some (.r 0), some (.d (.int z)), none] S = some (.ok ((ts.map Tc.enc).map Val.d), S2) := by
      show bnd _ _ S = _
      rw [bnd_def, e3]
      exact noX_ok e2
    rw [this]
    exact frz_map _ _
  unfold m__law_block
  generalize fFrz (fLc (fCall rng1 (fCons (fCall (ck 2 (prog (k + 10 + 2 * d) .f_law_draw)) (fCons (fVar 0) (fCons (fC (.int 4)) (fNil)))) (fNil))) (gN 2) (gYes) (fCall (ck 2 (prog (k + 10 + 2 * d) .f_law_deed)) (fCons (fVar 0) (fCons (fVar 1) (fNil)))) [2]) = F at e4 ⊢
  simp [envOf, e4, encs_map]
end Y

set_option Elab.async false
set_option linter.all false
set_option maxRecDepth 100000
set_option maxHeartbeats 4000000
namespace Y
open PySem PySem.Spec L2
theorem expr2 (k : Nat) {S : Store} (hS : Pool S) : ∃ S' e, Pool S' ∧ Ec.dp e ≤ 2 ∧ prog (k + 6) .f_law_expression [.r 0, .d (.int 2)] S = some (.ok (.d e.enc), S') := expr_ok 2 k hS
/-- a deed without deeds in it -/
theorem flat_ok (c : Fnm → Fn) (k : Nat) (hc : c = prog (k + 6)) {S : Store} (hS : Pool S) (v : Int) (z : D) : ∃ S' t, Pool S' ∧ Tc.ht t = 0 ∧ (∀ e ∈ t.ex, Ec.dp e ≤ 2) ∧
    sSeq (sIf (fT (fBin (oEq false) (fBin oMod (fVar 2) (fC (.int 4))) (fC (.int 3)))) (sSeq (sRet (fTup (fCons (fC (.str "tell")) (fCons (fCall (ck 2 (c .f_law_expression)) (fCons (fVar 0) (fCons (fC (.int 2)) (fNil)))) (fNil))))) (sNil)) (sNil)) (sSeq (sRet (fTup (fCons (fC (.str "set")) (fCons (fCall (ck 2 (c .f_law_draw)) (fCons (fVar 0) (fCons (fC (.int 4)) (fNil)))) (fCons (fCall (ck 2 (c .f_law_expression)) (fCons (fVar 0) (fCons (fC (.int 2)) (fNil)))) (fNil)))))) (sNil)) [some (.r 0), some (.d z), some (.d (.int v)), none, none] S = some (.rt (.d t.enc), [some (.r 0), some (.d z), some (.d (.int v)), none, none], S') := by
  by_cases h : v % 4 = 3
  · obtain ⟨S1, e, h1, l1, e1⟩ := expr2 k hS
    rw [← hc] at e1
    refine ⟨S1, .tell e, h1, rfl, by simpa [Tc.ex] using l1, ?_⟩
    simp (decide := true) [h, e1, Tc.enc]
  · obtain ⟨S1, n, h1, _, _, e1⟩ := draw_ok (k + 4) hS 4 (by decide) (by decide)
    obtain ⟨S2, e, h2, l2, e2⟩ := expr2 k h1
    rw [← hc] at e1 e2
    refine ⟨S2, .set n e, h2, rfl, by simpa [Tc.ex] using l2, ?_⟩
    simp (decide := true) [h, e1, e2, Tc.enc]
end Y

set_option Elab.async false
set_option linter.all false
set_option maxRecDepth 100000
set_option maxHeartbeats 4000000
namespace Y
open PySem PySem.Spec L2
/-! ### which data may be compared -/
def Sh (d : D) (n : Nat) : Prop := ∃ p, d.toP = some p ∧ p.canLay0 = true ∧ p.depth ≤ n
def Shs (ds : List D) (n : Nat) : Prop := ∃ ps, D.toPs ds = some ps ∧ PyData.canLayAll0 ps = true ∧ PyData.depthAll ps ≤ n ∧ ps.length = ds.length
theorem sh_int (i : Int) (n : Nat) : Sh (.int i) n := ⟨.int i, rfl, rfl, Nat.zero_le _⟩
theorem sh_str {z : Str} (h : PyData.strOk z = true) (n : Nat) : Sh (.str z) n := ⟨.str z, rfl, h, Nat.zero_le _⟩
theorem sh_mono {d : D} {n m : Nat} (h : Sh d n) (hn : n ≤ m) : Sh d m := by
  obtain ⟨p, a, b, c⟩ := h
  exact ⟨p, a, b, Nat.le_trans c hn⟩
theorem shs_nil (n : Nat) : Shs [] n := ⟨[], rfl, rfl, Nat.zero_le _, rfl⟩
theorem shs_cons {d : D} {ds : List D} {n : Nat} (h : Sh d n) (h2 : Shs ds n) : Shs (d :: ds) n := by
  obtain ⟨p, a, b, c⟩ := h
  obtain ⟨ps, a2, b2, c2, e2⟩ := h2
  refine ⟨p :: ps, ?_, ?_, ?_, ?_⟩
  · rw [D.toPs, a, a2]
  · rw [PyData.canLayAll0, b, b2]; rfl
  · rw [PyData.depthAll]; omega
  · rw [List.length_cons, List.length_cons, e2]
theorem sh_tup {ds : List D} {n m : Nat} (h : Shs ds n) (hm : n + 1 ≤ m) : Sh (.tup ds) m := by
  obtain ⟨ps, a2, b2, c2, e2⟩ := h
  refine ⟨.tuple ps, ?_, ?_, ?_⟩
  · rw [D.toP, a2]; rfl
  · rw [PyData.canLay0]; exact b2
  · rw [PyData.depth]; omega
theorem eqD_nil {ds : List D} {n : Nat} (h : Shs ds n) (hn : n < 64) : eqD (.tup ds) (.tup []) = some ds.isEmpty := by
  obtain ⟨ps, a2, b2, c2, e2⟩ := h
  unfold eqD
  have t1 : D.toP (.tup ds) = some (.tuple ps) := by rw [D.toP, a2]; rfl
  have t2 : D.toP (.tup []) = some (.tuple []) := by rw [D.toP, D.toPs]; rfl
  rw [t1, t2]
  dsimp only
  have s1 : SeqAt.shaped (.tuple ps) = true := by
    unfold SeqAt.shaped
    rw [PyData.canLay0, b2, PyData.depth]
    simp; omega
  have s2 : SeqAt.shaped (.tuple []) = true := by decide
  rw [s1, s2, if_pos (by rfl)]
  congr 1
  rw [PyData.eqv]
  cases ps with
  | nil =>
    cases ds with
    | nil => rfl
    | cons a b => cases e2
  | cons p r =>
    cases ds with
    | nil => cases e2
    | cons a b => rfl
theorem oEq_nil (neg : Bool) {ds : List D} {n : Nat} (h : Shs ds n) (hn : n < 64) (S : Store) : oEq neg (.d (.tup ds)) (.d (.tup [])) S = some (.ok (.d (.bl (ds.isEmpty != neg))), S) := oEq_of neg (eqD_nil h hn) S
theorem W.ok (w : W) : PyData.strOk w.s = true := by cases w <;> simp only [W.s, sk_plus, sk_minus, sk_times, sk_less, sk_same]
theorem sh_ec : ∀ e : Ec, Sh e.enc (e.dp + 1)
  | .num i => sh_tup (n := 0) (shs_cons (sh_str sk_number _) (shs_cons (sh_int i _) (shs_nil _))) (by simp [Ec.dp])
  | .nam i => sh_tup (n := 0) (shs_cons (sh_str sk_name _) (shs_cons (sh_int i _) (shs_nil _))) (by simp [Ec.dp])
  | .un a => sh_tup (n := a.dp + 1) (shs_cons (sh_str sk_not _) (shs_cons (sh_ec a) (shs_nil _))) (by simp [Ec.dp])
  | .bin w a b => sh_tup (n := max a.dp b.dp + 1) (shs_cons (sh_str w.ok _) (shs_cons (sh_mono (sh_ec a) (by omega)) (shs_cons (sh_mono (sh_ec b) (by omega)) (shs_nil _)))) (by simp [Ec.dp])
mutual
theorem sh_tc (M : Nat) : ∀ t : Tc, (∀ e ∈ t.ex, Ec.dp e ≤ M) → Sh t.enc (2 * t.ht + M + 2)
  | .set n e, h => by
    rw [Tc.enc]
    exact sh_tup (n := M + 1) (shs_cons (sh_str sk_set _) (shs_cons (sh_int n _) (shs_cons (sh_mono (sh_ec e) (by have := h e (by simp [Tc.ex]); omega)) (shs_nil _)))) (by omega)
  | .tell e, h => by
    rw [Tc.enc]
    exact sh_tup (n := M + 1) (shs_cons (sh_str sk_tell _) (shs_cons (sh_mono (sh_ec e) (by have := h e (by simp [Tc.ex]); omega)) (shs_nil _))) (by omega)
  | .ite e a b, h => by
    rw [Tc.enc]
    have ha := sh_tcs M a fun x hx => h x (by simp [Tc.ex, hx])
    have hb := sh_tcs M b fun x hx => h x (by simp [Tc.ex, hx])
    have he := h e (by simp [Tc.ex])
    have hh : (Tc.ite e a b).ht = 1 + max (Tc.hts a) (Tc.hts b) := by rw [Tc.ht]
    exact sh_tup (n := 2 * max (Tc.hts a) (Tc.hts b) + M + 3) (shs_cons (sh_str sk_if _) (shs_cons (sh_mono (sh_ec e) (by omega)) (shs_cons (sh_mono (sh_tup ha (Nat.le_refl _)) (by omega)) (shs_cons (sh_mono (sh_tup hb (Nat.le_refl _)) (by omega)) (shs_nil _))))) (by omega)
  | .whl e a, h => by
    rw [Tc.enc]
    have ha := sh_tcs M a fun x hx => h x (by simp [Tc.ex, hx])
    have he := h e (by simp [Tc.ex])
    have hh : (Tc.whl e a).ht = 1 + Tc.hts a := by rw [Tc.ht]
    exact sh_tup (n := 2 * Tc.hts a + M + 3) (shs_cons (sh_str sk_while _) (shs_cons (sh_mono (sh_ec e) (by omega)) (shs_cons (sh_mono (sh_tup ha (Nat.le_refl _)) (by omega)) (shs_nil _)))) (by omega)
theorem sh_tcs (M : Nat) : ∀ ts : List Tc, (∀ e ∈ Tc.exs ts, Ec.dp e ≤ M) → Shs (Tc.encs ts) (2 * Tc.hts ts + M + 2)
  | [], _ => by rw [Tc.encs]; exact shs_nil _
  | t :: r, h => by
    have h1 := sh_tc M t fun x hx => h x (by simp [Tc.exs, hx])
    have h2 := sh_tcs M r fun x hx => h x (by simp [Tc.exs, hx])
    have hh : Tc.hts (t :: r) = max t.ht (Tc.hts r) := by rw [Tc.hts]
    rw [Tc.encs]
    refine shs_cons (sh_mono h1 (by omega)) ?_
    obtain ⟨ps, a, b, c, d⟩ := h2
    exact ⟨ps, a, b, by omega, d⟩
end
end Y

set_option Elab.async false
set_option linter.all false
set_option maxRecDepth 100000
set_option maxHeartbeats 4000000
namespace Y
open PySem PySem.Spec L2
theorem encs_app (a b : List Tc) : Tc.encs (a ++ b) = Tc.encs a ++ Tc.encs b := by rw [encs_map, encs_map, encs_map, List.map_append]
theorem hts_app : ∀ a b : List Tc, Tc.hts (a ++ b) = max (Tc.hts a) (Tc.hts b)
  | [], b => by simp [Tc.hts]
  | t :: r, b => by rw [List.cons_append, Tc.hts, Tc.hts, hts_app r b]; omega
theorem hts_one (x : Tc) : Tc.hts [x] = x.ht := by simp [Tc.hts]
theorem oPlus_one (ts : List Tc) (x : Tc) (S : Store) (h : ts.length ≤ 1000000) : oPlus (.d (.tup (Tc.encs ts))) (.d (.tup [x.enc])) S = some (.ok (.d (.tup (Tc.encs (ts ++ [x])))), S) := by
  rw [oPlus_tup _ _ _ (sl (by rw [encs_map, List.length_map]; simp; omega)), encs_app]
  rfl
def moreT (n w : Int) : Tc := .set n (.bin .plus (.nam n) (.num (1 + w)))
theorem moreT_enc (n w : Int) : (moreT n w).enc = .tup [.str "set", .int n, .tup [.str "plus", .tup [.str "name", .int n], .tup [.str "number", .int (1 + w)]]] := rfl
theorem deed_ok : ∀ (d k : Nat) {S : Store}, Pool S → ∃ S' t, Pool S' ∧ okT d t ∧ prog (k + 10 + 2 * d) .f_law_deed [.r 0, .d (.int (d : Nat))] S = some (.ok (.d t.enc), S')
  | d, k, S, hS => by
    generalize hz : ((d : Nat) : Int) = z
    obtain ⟨S1, v, h1, a1, b1, e1⟩ := draw_ok (k + 7 + 2 * d) hS 8 (by decide) (by decide)
    rw [show k + 7 + 2 * d + 2 = k + 9 + 2 * d by omega] at e1
    rw [show k + 10 + 2 * d = k + 9 + 2 * d + 1 by omega, prog_succ]
    generalize hc : prog (k + 9 + 2 * d) = c at e1
    show ∃ S' t, Pool S' ∧ okT d t ∧ fnM 2 5 true (m__law_deed c) [_, _] S = _
    by_cases cA : z = 0 ∨ v < 4
    · obtain ⟨S2, t, h2, t1, t2, e2⟩ := flat_ok c (k + 3 + 2 * d) (by rw [← hc, show k + 3 + 2 * d + 6 = k + 9 + 2 * d by omega]) h1 v (.int z)
      refine ⟨S2, t, h2, ⟨by omega, t2⟩, ?_⟩
      refine fnM_poolS hS h2 (env := [some (.r 0), some (.d (.int z)), some (.d (.int v)), none, none]) rfl ?_
      unfold m__law_deed
      refine sSeq_nx (env' := [some (.r 0), some (.d (.int z)), some (.d (.int v)), none, none]) (S' := S1) (by simp [envOf, e1]) ?_
      refine sSeq_rt (sIf_t (S1 := S1) ?_ e2)
      by_cases c0 : z = 0
      · simp [c0]
      · have c1 : v < 4 := by omega
        simp [c0, c1]
    · have c0 : ¬ z = 0 := fun h => cA (.inl h)
      have c1 : ¬ v < 4 := fun h => cA (.inr h)
      obtain ⟨d, rfl⟩ : ∃ d', d = d' + 1 := ⟨d - 1, by omega⟩
      have hz1 : z - 1 = (d : Nat) := by omega
      have blk : ∀ {S : Store}, Pool S → ∃ S' ts, Pool S' ∧ okB d ts ∧ ts.length ≤ 3 ∧ c .f_law_block [.r 0, .d (.int (d : Nat))] S = some (.ok (.d (.tup (Tc.encs ts))), S') := by
        intro S hS
        obtain ⟨S', ts, g1, g2, gl, g3⟩ := block_of d k (fun {S} hS => deed_ok d k hS) hS
        exact ⟨S', ts, g1, g2, gl, by rw [← hc, show k + 9 + 2 * (d + 1) = k + 11 + 2 * d by omega]; exact g3⟩
      have ex2 : ∀ {S : Store}, Pool S → ∃ S' e, Pool S' ∧ Ec.dp e ≤ 2 ∧ c .f_law_expression [.r 0, .d (.int 2)] S = some (.ok (.d e.enc), S') := by
        intro S hS
        have := expr2 (k + 5 + 2 * d) hS
        rw [show k + 5 + 2 * d + 6 = k + 9 + 2 * (d + 1) by omega, hc] at this
        exact this
      have drw : ∀ {S : Store}, Pool S → ∀ (many : Int), 0 < many → many < 1073741824 → ∃ S' v, Pool S' ∧ 0 ≤ v ∧ v < many ∧ c .f_law_draw [.r 0, .d (.int many)] S = some (.ok (.d (.int v)), S') := by
        intro S hS many p1 p2
        have := draw_ok (k + 9 + 2 * d) hS many p1 p2
        rw [show k + 9 + 2 * d + 2 = k + 9 + 2 * (d + 1) by omega, hc] at this
        exact this
      clear hc
      by_cases c2 : v < 6
      · obtain ⟨S2, e, h2, l2, e2⟩ := ex2 h1
        obtain ⟨S3, ta, h3, l3, _, e3⟩ := blk h2
        obtain ⟨S4, tb, h4, l4, _, e4⟩ := blk h3
        refine ⟨S4, .ite e ta tb, h4, ⟨by rw [Tc.ht]; have := l3.1; have := l4.1; omega, ?_⟩, ?_⟩
        · intro x hx
          simp [Tc.ex] at hx
          rcases hx with rfl | hx | hx
          · exact l2
          · exact l3.2 x hx
          · exact l4.2 x hx
        · refine fnM_poolS hS h4 (env := [some (.r 0), some (.d (.int z)), some (.d (.int v)), none, none]) rfl ?_
          simp (decide := true) [m__law_deed, envOf, e1, c0, c1, c2, e2, hz1, e3, e4, Tc.enc]
      · obtain ⟨S2, n, h2, n1, n2, e2⟩ := drw h1 4 (by decide) (by decide)
        obtain ⟨S3, u, h3, u1, u2, e3⟩ := drw h2 5 (by decide) (by decide)
        by_cases c3 : u < 3
        · obtain ⟨S4, w, h4, w1, w2, e4⟩ := drw h3 3 (by decide) (by decide)
          obtain ⟨S5, q, h5, q1, q2, e5⟩ := drw h4 12 (by decide) (by decide)
          obtain ⟨S6, ta, h6, l6, n6, e6⟩ := blk h5
          have hp := oPlus_one ta (moreT n w) S6 (by omega)
          rw [moreT_enc] at hp
          refine ⟨S6, .whl (.bin .less (.nam n) (.num q)) (ta ++ [moreT n w]), h6, ⟨?_, ?_⟩, ?_⟩
          · rw [Tc.ht, hts_app, hts_one]
            have := l6.1
            have : (moreT n w).ht = 0 := rfl
            omega
          · intro x hx
            rw [Tc.ex, exs_app, exs_one] at hx
            rcases List.mem_cons.mp hx with rfl | hx
            · simp [Ec.dp]
            · rcases List.mem_append.mp hx with hx | hx
              · exact l6.2 x hx
              · simp [moreT, Tc.ex] at hx
                subst hx
                simp [Ec.dp]
          · refine fnM_poolS hS h6 (env := [some (.r 0), some (.d (.int z)), some (.d (.int v)), some (.d (.int n)), some (.d (moreT n w).enc)]) rfl ?_
            rw [moreT_enc]
            simp (decide := true) [m__law_deed, envOf, e1, c0, c1, c2, e2, e3, c3, hz1, e4, e5, e6, hp, Tc.enc, Ec.enc, W.s]
        · obtain ⟨S4, e, h4, l4, e4⟩ := ex2 h3
          obtain ⟨S5, ta, h5, l5, _, e5⟩ := blk h4
          refine ⟨S5, .whl e ta, h5, ⟨by rw [Tc.ht]; have := l5.1; omega, ?_⟩, ?_⟩
          · intro x hx
            simp [Tc.ex] at hx
            rcases hx with rfl | hx
            · exact l4
            · exact l5.2 x hx
          · refine fnM_poolS hS h5 (env := [some (.r 0), some (.d (.int z)), some (.d (.int v)), some (.d (.int n)), none]) rfl ?_
            simp (decide := true) [m__law_deed, envOf, e1, c0, c1, c2, e2, e3, c3, hz1, e4, e5, Tc.enc]
end Y

set_option Elab.async false
set_option linter.all false
set_option maxRecDepth 100000
set_option maxHeartbeats 4000000
namespace Y
open PySem PySem.Spec L2
theorem cutL_map {α β : Type} (f : α → β) (xs : List α) (lo hi : Option Int) : cutL (xs.map f) lo hi = (cutL xs lo hi).map f := by
  unfold cutL
  simp [List.map_take, List.map_drop]
theorem oSl_ro (ns : List Int) (lo hi : Option Int) (S : Store) : oSl (.d (.ro ns)) lo hi S = some (.ok (.d (.lst ((cutL ns lo hi).map D.int))), S) := by
  show frz (cutL (ns.map fun n => Val.d (.int n)) lo hi) S = _
  rw [cutL_map]
  have := frz_map ((cutL ns lo hi).map D.int) S
  rw [List.map_map] at this
  exact this
theorem oList_ro (ns : List Int) (S : Store) : oList [.d (.ro ns)] S = some (.ok ((ns.map D.int).map Val.d), S) := by
  rw [List.map_map]
  exact c1_ok (a := ns.map fun n => Val.d (.int n)) rfl
theorem fnM_keep {n N : Nat} {body : FS} {args : List Val} {env : Env} {v : Val} {S S' : Store} (hn : args.length = n) (h : body (envOf N args) S = some (.rt v, env, S')) : fnM n N false body args S = some (.ok v, S') := by
  unfold fnM
  rw [if_pos hn, h]
  show cutF false S (.ok v) S' = _
  unfold cutF
  rw [if_neg (by decide)]
theorem pool_ok (k : Nat) (ns : List Int) : ∃ S', Pool S' ∧ prog (k + 1) .f_law_pool [.d (.ro ns)] [] = some (.ok (.r 0), S') := by
  rw [prog_succ]
  show ∃ S', Pool S' ∧ fnM 1 3 false (m__law_pool (prog k)) [_] [] = _
  obtain ⟨env', S', h1, h2⟩ := forL_run (gt := gN 2) (body := b__law_pool_1 (prog k)) D.int (fun done env S' => S' = [] ∧ ∃ m j, env = [some (.d (.ro ns)), some (.d (.int m)), j]) (cutL ns none (some 63))
    (by
      rintro done x rest env S' he ⟨rfl, m, j, rfl⟩
      refine ⟨_, [some (.d (.ro ns)), some (.d (.int ((m * 31 + x) % 1000003))), some (.d (.int x))], [], rfl, ?_, rfl, _, _, rfl⟩
      simp (decide := true) [b__law_pool_1]) (cutL ns none (some 63)) [] [some (.d (.ro ns)), some (.d (.int 7)), none] [] rfl ⟨rfl, _, _, rfl⟩
  obtain ⟨rfl, m, j, rfl⟩ := h2
  refine ⟨pl ns 0 0 0 m, ⟨_, _, _, _, _, rfl, Int.le_refl 0⟩, fnM_keep (env := [some (.d (.ro ns)), some (.d (.int m)), j]) rfl ?_⟩
  unfold m__law_pool
  refine sSeq_nx (env' := [some (.d (.ro ns)), some (.d (.int 7)), none]) (S' := []) (by simp [envOf]) ?_
  refine sSeq_nx (env' := [some (.d (.ro ns)), some (.d (.int m)), j]) (S' := []) ?_ ?_
  · rw [sFor_def, fSeq_def]
    simp only [bnd_def, fSl_def, fVar_def, fNo_def, fPart_def, fC_def, asI_int, lift_some, Option.map_some, List.getElem?_cons_zero, Option.join_some, oSl_ro, fzV_lst, bS_ok]
    exact h1
  · have e := oList_ro ns ([] : Store)
    have e2 := frz_map (ns.map D.int) ([] : Store)
    simp only [sSeq_def, sRet_def, fNew_def, fLst_def, fCons_def, fFrz_def, fCall_def, fNil_def, fVar_def, fC_def, bnd_def, ret_def, lift_some, List.getElem?_cons_zero, List.getElem?_cons_succ, Option.join_some, e, e2, okL_5, new_def, bS_ok]
    rfl
theorem program_ok (k : Nat) {S : Store} (hS : Pool S) : ∃ S' ts, Pool S' ∧ ts ≠ [] ∧ okB 3 ts ∧ Tc.dcs ts ≤ 24 ∧ prog (k + 18) .f_law_program [.r 0] S = some (.ok (.d (.tup (Tc.encs ts))), S') := by
  obtain ⟨S1, bs, h1, b1, n1, e1⟩ := block_of 3 k (fun {S} hS => deed_ok 3 k hS) hS
  replace e1 : prog (k + 17) .f_law_block [.r 0, .d (.int 3)] S = some (.ok (.d (.tup (Tc.encs bs))), S1) := e1
  have hld : ∀ fs : List Tc, okB 3 fs → ∀ S, prog (k + 17) .f_law_deeds_of [.d (.tup (Tc.encs fs))] S = some (.ok (.d (.int (Tc.dcs fs))), S) := fun fs h S => ldeeds_ok (k + 17) fs S (by have := h.1; omega)
  obtain ⟨S2, n, h2, _, _, e2⟩ := draw_ok (k + 15) h1 4 (by decide) (by decide)
  replace e2 : prog (k + 17) .f_law_draw [.r 0, .d (.int 4)] S1 = some (.ok (.d (.int n)), S2) := e2
  rw [prog_succ]
  generalize prog (k + 17) = c at e1 e2 hld
  show ∃ S' ts, Pool S' ∧ ts ≠ [] ∧ okB 3 ts ∧ Tc.dcs ts ≤ 24 ∧ fnM 1 3 true (m__law_program c) [_] S = _
  obtain ⟨env', S', g1, g2⟩ := forL_run (gt := gN 2) (body := b__law_program_1 c) Tc.enc (fun done env S' => S' = S1 ∧ ∃ fs j, env = [some (.r 0), some (.d (.tup (Tc.encs fs))), j] ∧ okB 3 fs ∧ Tc.dcs fs ≤ 24) bs
    (by
      rintro done x rest env S' he ⟨rfl, fs, j, rfl, f1, f2⟩
      have hx : x ∈ bs := by rw [← he]; simp
      have hx1 : okB 3 (fs ++ [x]) := by
        refine ⟨?_, fun e h => ?_⟩
        · rw [hts_app, hts_one]
          have := f1.1
          have := hts_mem hx
          have := b1.1
          omega
        · rw [exs_app, exs_one] at h
          rcases List.mem_append.mp h with h | h
          · exact f1.2 e h
          · refine b1.2 e ?_
            obtain ⟨p, q, rfl⟩ := List.append_of_mem hx
            rw [exs_app, Tc.exs]
            simp [h]
      have hp := oPlus_one fs x S' (by have := len_dcs fs; omega)
      have hd := hld (fs ++ [x]) hx1 S'
      by_cases c1 : Tc.dcs (fs ++ [x]) ≤ 24
      · have c2 : ((Tc.dcs (fs ++ [x]) : Nat) : Int) ≤ 24 := by omega
        refine ⟨_, [some (.r 0), some (.d (.tup (Tc.encs (fs ++ [x])))), some (.d x.enc)], S', rfl, ?_, rfl, fs ++ [x], _, rfl, hx1, c1⟩
        simp [b__law_program_1, hp, hd, c2]
      · have c2 : ¬ ((Tc.dcs (fs ++ [x]) : Nat) : Int) ≤ 24 := by omega
        refine ⟨_, [some (.r 0), some (.d (.tup (Tc.encs fs))), some (.d x.enc)], S', rfl, ?_, rfl, fs, _, rfl, f1, f2⟩
        simp [b__law_program_1, hp, hd, c2]) bs [] [some (.r 0), some (.d (.tup [])), none] S1 rfl ⟨rfl, [], none, rfl, ⟨by simp [Tc.hts], by simp [Tc.exs]⟩, by simp [Tc.dcs]⟩
  obtain ⟨rfl, fs, j, rfl, f1, f2⟩ := g2
  have hq := fun S => oEq_nil true (sh_tcs 2 fs f1.2) (by have := f1.1; omega) S
  rw [← encs_map] at g1
  have hrun : ∀ r, sSeq (sRet (fIf (fT (fBin (oEq true) (fVar 1) (fTup (fNil)))) (fVar 1) (fTup (fCons (fTup (fCons (fC (.str "tell")) (fCons (fTup (fCons (fC (.str "name")) (fCons (fCall (ck 2 (c .f_law_draw)) (fCons (fVar 0) (fCons (fC (.int 4)) (fNil)))) (fNil)))) (fNil)))) (fNil))))) (sNil) [some (.r 0), some (.d (.tup (Tc.encs fs))), j] S' = r → m__law_program c (envOf 3 [.r 0]) S = r := by
    intro r hr
    unfold m__law_program
    refine sSeq_nx (env' := [some (.r 0), some (.d (.tup [])), none]) (S' := S) (by simp [envOf]) ?_
    refine sSeq_nx (env' := [some (.r 0), some (.d (.tup (Tc.encs fs))), j]) (S' := S') ?_ hr
    rw [sFor_def]
    have e : fSeq (fCall (ck 2 (c .f_law_block)) (fCons (fVar 0) (fCons (fC (.int 3)) (fNil)))) [some (.r 0), some (.d (.tup [])), none] S = some (.ok ((Tc.encs bs).map Val.d), S') := by simp [e1]
    rw [e]
    exact g1
  by_cases hf : fs = []
  · subst hf
    refine ⟨S2, [.tell (.nam n)], h2, by simp, ⟨by simp [Tc.hts, Tc.ht], by simp [Tc.exs, Tc.ex, Ec.dp]⟩, by simp [Tc.dcs, Tc.dc], ?_⟩
    refine fnM_poolS hS h2 (env := [some (.r 0), some (.d (.tup [])), j]) rfl (hrun _ ?_)
    have hq2 := hq S'
    simp only [Tc.encs] at hq2
    simp (decide := true) [Tc.encs, hq2, e2, Tc.enc, Ec.enc]
  · refine ⟨S', fs, h1, hf, f1, f2, ?_⟩
    refine fnM_poolS hS h1 (env := [some (.r 0), some (.d (.tup (Tc.encs fs))), j]) rfl (hrun _ ?_)
    have he : (Tc.encs fs).isEmpty = false := by
      cases fs with
      | nil => exact absurd rfl hf
      | cons x r => rfl
    have hq2 := hq S'
    rw [he] at hq2
    simp [hq2]
end Y

set_option Elab.async false
set_option linter.all false
set_option maxRecDepth 100000
set_option maxHeartbeats 4000000
namespace Y
open PySem PySem.Spec L2
theorem sz_le : ∀ e : Ec, e.sz + 1 ≤ 2 ^ (e.dp + 1)
  | .num _ => by simp [Ec.sz, Ec.dp]
  | .nam _ => by simp [Ec.sz, Ec.dp]
  | .un a => by
    have := sz_le a
    rw [Ec.sz, Ec.dp, Nat.pow_succ]
    omega
  | .bin w a b => by
    have h1 := sz_le a
    have h2 := sz_le b
    have p1 := Nat.pow_le_pow_right (n := 2) (by decide) (show a.dp + 1 ≤ max a.dp b.dp + 1 by omega)
    have p2 := Nat.pow_le_pow_right (n := 2) (by decide) (show b.dp + 1 ≤ max a.dp b.dp + 1 by omega)
    rw [Ec.sz, Ec.dp, Nat.pow_succ]
    omega
theorem sz_31 {e : Ec} (h : e.dp ≤ 4) : e.sz ≤ 31 := by
  have h1 := sz_le e
  have p1 := Nat.pow_le_pow_right (n := 2) (by decide) (show e.dp + 1 ≤ 5 by omega)
  omega
mutual
theorem nl_le : ∀ t : Tc, t.nl ≤ 3 * t.dc
  | .set _ _ => by simp [Tc.nl, Tc.dc]
  | .tell _ => by simp [Tc.nl, Tc.dc]
  | .ite _ a b => by have := nls_le a; have := nls_le b; rw [Tc.nl, Tc.dc]; omega
  | .whl _ a => by have := nls_le a; rw [Tc.nl, Tc.dc]; omega
theorem nls_le : ∀ ts : List Tc, Tc.nls ts ≤ 3 * Tc.dcs ts
  | [] => by simp [Tc.nls]
  | t :: r => by have := nl_le t; have := nls_le r; rw [Tc.nls, Tc.dcs]; omega
end
theorem sum_le {l : List Nat} {m : Nat} (h : ∀ x ∈ l, x ≤ m) : l.sum ≤ m * l.length := by
  induction l with
  | nil => simp
  | cons x r ih =>
    have h1 := h x List.mem_cons_self
    have h2 := ih fun y hy => h y (List.mem_cons_of_mem _ hy)
    rw [List.sum_cons, List.length_cons, Nat.mul_succ]
    omega
theorem sum_cast (l : List Nat) : (l.map fun (n : Nat) => (n : Int)).sum = ((l.sum : Nat) : Int) := by
  induction l with
  | nil => rfl
  | cons x r ih => rw [List.map_cons, List.sum_cons, ih, List.sum_cons]; omega
section
variable {ps : List Tc} {c : Fnm → Fn} {f : Fnm} {S : Store} {v : Ec → Nat} {x0 x1 x2 x4 x5 : Option Val}
/-- a list of numbers of the expressions -/
theorem each_ok (hc : ∀ e ∈ Tc.exs ps, c f [.d e.enc] S = some (.ok (.d (.int (v e : Nat))), S)) (hl : (Tc.exs ps).length ≤ 1000000) :
    fFrz (fLc (fSeq (fVar 3)) (gN 6) (gYes) (fCall (ck 1 (c f)) (fCons (fVar 6) (fNil))) [6]) [x0, x1, x2, some (.d (.lst ((Tc.exs ps).map Ec.enc))), x4, x5, none] S = some (.ok (.d (.lst (((Tc.exs ps).map fun e => (v e : Int)).map D.int))), S) := by
  rw [fFrz_def, bnd_def, fLc_all Ec.enc (fun e => D.int (v e : Nat)) (Tc.exs ps) (by simp) (sl (by omega)) (fun e he => ⟨_, rfl, by simp [hc e he]⟩)]
  dsimp only
  rw [frz_map, List.map_map]
  rfl
end
theorem ints3 (a b c : Int) : D.lst [.int a, .int b, .int c] = .lst ([a, b, c].map D.int) := rfl
theorem ints2 (a b : Int) : D.lst [.int a, .int b] = .lst ([a, b].map D.int) := rfl
theorem lawok : ∀ ns : List Int, ns.length ≤ 63 → ∃ S, prog (229 + 1) .f_law [.d (.ro ns)] [] = some (.ok (.d (.bl true)), S) := by
  intro ns _
  obtain ⟨S1, h1, e1⟩ := pool_ok 228 ns
  obtain ⟨S2, ts, h2, t1, t2, t3, e2⟩ := program_ok 211 h1
  obtain ⟨S3, e, h3, t4, e3⟩ := expr_ok 4 221 h2
  replace e1 : prog 229 .f_law_pool [.d (.ro ns)] [] = some (.ok (.r 0), S1) := e1
  replace e2 : prog 229 .f_law_program [.r 0] S1 = some (.ok (.d (.tup (Tc.encs ts))), S2) := e2
  replace e3 : prog 229 .f_law_expression [.r 0, .d (.int 4)] S2 = some (.ok (.d e.enc), S3) := e3
  have hp := oPlus_one ts (.tell e) S3 (by have := len_dcs ts; omega)
  obtain ⟨ps, hps⟩ : ∃ ps, ps = ts ++ [Tc.tell e] := ⟨_, rfl⟩
  have p1 : Tc.hts ps ≤ 3 := by rw [hps, hts_app, hts_one, Tc.ht]; have := t2.1; omega
  have p2 : ∀ x ∈ Tc.exs ps, Ec.dp x ≤ 4 := by
    intro x hx
    rw [hps, exs_app, exs_one] at hx
    rcases List.mem_append.mp hx with hx | hx
    · have := t2.2 x hx; omega
    · simp [Tc.ex] at hx; subst hx; exact t4
  have p3 : Tc.dcs ps ≤ 25 := by rw [hps, dcs_app, dcs_one, Tc.dc]; omega
  have p4 : Tc.exs ps ≠ [] := by
    rw [hps, exs_app, exs_one]
    simp [Tc.ex]
  rw [← hps] at hp
  clear hps
  have l1 := exs_len ps
  have l2 := len_dcs ps
  have l3 := nls_le ps
  have l4 : ((Tc.exs ps).map Ec.sz).sum ≤ 775 := by
    have := sum_le (l := (Tc.exs ps).map Ec.sz) (m := 31) (by
      intro x hx
      obtain ⟨y, h, rfl⟩ := List.mem_map.mp hx
      exact sz_31 (p2 y h))
    rw [List.length_map] at this
    omega
  have f1 : prog 229 .f_law_expressions_of [.d (.tup (Tc.encs ps))] S3 = some (.ok (.d (.lst ((Tc.exs ps).map Ec.enc))), S3) := lexs_ok 229 ps S3 (by omega) (by omega)
  have f2 : prog 229 .f_law_lines_of [.d (.tup (Tc.encs ps))] S3 = some (.ok (.d (.int (Tc.nls ps))), S3) := llines_ok 229 ps S3 (by omega)
  have s1 := fun x0 x1 x2 x4 x5 => each_ok (x0 := x0) (x1 := x1) (x2 := x2) (x4 := x4) (x5 := x5) (ps := ps) (c := prog 229) (f := .f_law_size_of) (S := S3) (v := Ec.sz) (fun x hx => lsize_ok x 229 S3 (by have := p2 x hx; omega)) (by omega)
  have s2 := fun x0 x1 x2 x4 x5 => each_ok (x0 := x0) (x1 := x1) (x2 := x2) (x4 := x4) (x5 := x5) (ps := ps) (c := prog 229) (f := .f_size) (S := S3) (v := Ec.sz) (fun x hx => size_ok x 229 S3 (by have := p2 x hx; omega)) (by omega)
  have s3 := fun x0 x1 x2 x4 x5 => each_ok (x0 := x0) (x1 := x1) (x2 := x2) (x4 := x4) (x5 := x5) (ps := ps) (c := prog 229) (f := .f_law_need) (S := S3) (v := Ec.nd) (fun x hx => lneed_ok x 229 S3 (by have := p2 x hx; omega)) (by omega)
  have s4 := fun x0 x1 x2 x4 x5 => each_ok (x0 := x0) (x1 := x1) (x2 := x2) (x4 := x4) (x5 := x5) (ps := ps) (c := prog 229) (f := .f_need) (S := S3) (v := Ec.nd) (fun x hx => need_ok x 229 S3 (by have := p2 x hx; omega)) (by omega)
  have f3 : prog 229 .f_from_trees_registry [.d (.str "lines"), .d (.tup (Tc.encs ps))] S3 = some (.ok (.d (.tup ((Tc.Ls ps 0).map Ln.enc))), S3) := reg_lines 224 (by omega) (by omega)
  have f4 : prog 229 .f_from_trees_registry [.d (.str "boxes"), .d (.tup (Tc.encs ps))] S3 = some (.ok (.d (.tup ((bxs ps).map Cb.enc))), S3) := reg_boxes 224 (by omega) (fun x hx => ⟨by have := p2 x hx; omega, by have := sz_31 (p2 x hx); omega⟩) (by omega)
  have f5 : prog 229 .f_from_trees_registry [.d (.str "stacks"), .d (.tup (Tc.encs ps))] S3 = some (.ok (.d (.tup ((sks ps).map Cs.enc))), S3) := reg_stacks 224 (by omega) (fun x hx => ⟨by have := p2 x hx; omega, by have := sz_31 (p2 x hx); omega⟩) (by omega)
  have b1 := bxs_len (ts := ps)
  have b2 := sks_len (ts := ps)
  have f6 : prog 229 .f_boxes_in [.d (.tup ((bxs ps).map Cb.enc))] S3 = some (.ok (.d (.int (maxI ((Tc.exs ps).map fun e => (e.nd : Int))))), S3) := by
    rw [← bx_max ps p4]
    exact bin_ok 228 (bxs ps) S3 (by omega)
  have f7 : prog 229 .f_deeds_in [.d (.tup (Tc.encs ps))] S3 = some (.ok (.d (.int (Tc.dcs ps))), S3) := by
    have hds : ∀ x : Tc, ∀ a, a ∈ x.sub → Tc.dcs a ≤ x.dc := by
      intro x a ha
      cases x <;> simp [Tc.sub] at ha
      · rcases ha with rfl | rfl <;> (rw [Tc.dc]; omega)
      · subst ha; rw [Tc.dc]; omega
    refine deeds_ok 229 ps S3 (by omega) (by omega) (fun x hx a ha => ?_) (by omega)
    have g1 := hds x a ha
    have g2 := len_dcs a
    have g3 : x.dc ≤ Tc.dcs ps := by
      obtain ⟨p, q, rfl⟩ := List.append_of_mem hx
      rw [dcs_app, Tc.dcs]; omega
    omega
  have hsm : ∀ ns : List Int, ns.length ≤ 1000000 → ∀ S, prog 229 .f_law_same [.d (.lst (ns.map D.int)), .d (.lst (ns.map D.int))] S = some (.ok (.d (.bl true)), S) := fun ns h S => same_ints 227 ns S h
  have hmx : fCall (oMx maxI) (fCons (fFrz (fLc (fSeq (fVar 3)) (gN 6) (gYes) (fCall (ck 1 (prog 229 .f_law_need)) (fCons (fVar 6) (fNil))) [6])) (fNil)) [some (.d (.ro ns)), some (.r 0), some (.d (.tup (Tc.encs ps))), some (.d (.lst ((Tc.exs ps).map Ec.enc))), some (.d (.int (Tc.nls ps))), some (.d (.int (((Tc.exs ps).map Ec.sz).sum : Nat))), none] S3 = some (.ok (.d (.int (maxI ((Tc.exs ps).map fun e => (e.nd : Int))))), S3) := by
    have e := s3 (some (.d (.ro ns))) (some (.r 0)) (some (.d (.tup (Tc.encs ps)))) (some (.d (.int (Tc.nls ps)))) (some (.d (.int (((Tc.exs ps).map Ec.sz).sum : Nat))))
    rw [fCall_def, bnd_def, fCons_def, bnd_def, e]
    simp only [bnd_def, fNil_def, ret_def]
    cases hx : Tc.exs ps with
    | nil => exact absurd hx p4
    | cons a r => exact oMax_ints (a.nd : Int) (r.map fun e => (e.nd : Int)) S3
  refine ⟨[], ?_⟩
  rw [prog_succ]
  show fnM 1 7 true (m_law (prog 229)) [_] [] = _
  generalize prog 229 = c at *
  have hsum : fCall oSum (fCons (fFrz (fLc (fSeq (fVar 3)) (gN 6) (gYes) (fCall (ck 1 (c .f_law_size_of)) (fCons (fVar 6) (fNil))) [6])) (fNil)) [some (.d (.ro ns)), some (.r 0), some (.d (.tup (Tc.encs ps))), some (.d (.lst ((Tc.exs ps).map Ec.enc))), none, none, none] S3 = some (.ok (.d (.int (((Tc.exs ps).map Ec.sz).sum : Nat))), S3) := by
    rw [fCall_def, bnd_def, fCons_def, bnd_def, s1]
    simp only [bnd_def, fNil_def, ret_def]
    rw [oSum_ints, ← sum_cast, List.map_map]
    rfl
  refine fnM_app (T := S3) (env := [some (.d (.ro ns)), some (.r 0), some (.d (.tup (Tc.encs ps))), some (.d (.lst ((Tc.exs ps).map Ec.enc))), some (.d (.int (Tc.nls ps))), some (.d (.int (((Tc.exs ps).map Ec.sz).sum : Nat))), none]) rfl ?_
  rw [List.nil_append]
  unfold m_law
  refine sSeq_nx (env' := [some (.d (.ro ns)), some (.r 0), none, none, none, none, none]) (S' := S1) (by simp [envOf, e1]) ?_
  refine sSeq_nx (env' := [some (.d (.ro ns)), some (.r 0), some (.d (.tup (Tc.encs ps))), none, none, none, none]) (S' := S3) (by rw [Tc.enc] at hp; simp [e2, e3, hp]) ?_
  refine sSeq_nx (env' := [some (.d (.ro ns)), some (.r 0), some (.d (.tup (Tc.encs ps))), some (.d (.lst ((Tc.exs ps).map Ec.enc))), none, none, none]) (S' := S3) (by simp [f1]) ?_
  refine sSeq_nx (env' := [some (.d (.ro ns)), some (.r 0), some (.d (.tup (Tc.encs ps))), some (.d (.lst ((Tc.exs ps).map Ec.enc))), some (.d (.int (Tc.nls ps))), some (.d (.int (((Tc.exs ps).map Ec.sz).sum : Nat))), none]) (S' := S3) ?_ ?_
  · generalize fCall oSum (fCons (fFrz (fLc (fSeq (fVar 3)) (gN 6) (gYes) (fCall (ck 1 (c .f_law_size_of)) (fCons (fVar 6) (fNil))) [6])) (fNil)) = F at hsum ⊢
    simp [f2, hsum]
  clear hsum e1 e2 e3 hp f1 f2
  refine sSeq_nx (S' := S3) (sIf_f (S1 := S3) ?_ rfl) ?_
  · have q := hsm [((Tc.nls ps : Nat) : Int), (Tc.nls ps : Int) + (((Tc.exs ps).map Ec.sz).sum : Nat), (Tc.nls ps : Int) + (((Tc.exs ps).map Ec.sz).sum : Nat)] (by simp) S3
    rw [← ints3] at q
    have l5 : ((Tc.Ls ps 0).map Ln.enc).length = Tc.nls ps := by rw [List.length_map, Ls_len]
    have l6 : ((((sks ps).map Cs.enc).length : Nat) : Int) = (Tc.nls ps : Int) + (((Tc.exs ps).map Ec.sz).sum : Nat) := by rw [List.length_map, b2]; omega
    have l7 : ((((bxs ps).map Cb.enc).length : Nat) : Int) = (Tc.nls ps : Int) + (((Tc.exs ps).map Ec.sz).sum : Nat) := by rw [List.length_map, b1]; omega
    generalize (Tc.Ls ps 0).map Ln.enc = A at *
    generalize (sks ps).map Cs.enc = B at *
    generalize (bxs ps).map Cb.enc = C at *
    simp only [gNot_def, fT_def, fCall_def, fCons_def, fNil_def, fFrz_def, fLst_def, fBin_def, fVar_def, fC_def, bnd_def, ret_def, lift_some, ck_def, List.length_cons, List.length_nil, List.getElem?_cons_zero, List.getElem?_cons_succ, Option.join_some, f3, f4, f5, oLen_tup, okL_3, frz_3, oAdd_int, l5, l6, l7, if_true, q, asB_def, Nat.zero_add, Nat.reduceAdd, Bool.not_true]
  refine sSeq_nx (S' := S3) (sIf_f (S1 := S3) ?_ rfl) ?_
  · have q := hsm ((Tc.exs ps).map fun e => (e.sz : Int)) (by rw [List.length_map]; omega) S3
    have a1 := s1 (some (.d (.ro ns))) (some (.r 0)) (some (.d (.tup (Tc.encs ps)))) (some (.d (.int (Tc.nls ps)))) (some (.d (.int (((Tc.exs ps).map Ec.sz).sum : Nat))))
    have a2 := s2 (some (.d (.ro ns))) (some (.r 0)) (some (.d (.tup (Tc.encs ps)))) (some (.d (.int (Tc.nls ps)))) (some (.d (.int (((Tc.exs ps).map Ec.sz).sum : Nat))))
    generalize fFrz (fLc (fSeq (fVar 3)) (gN 6) (gYes) (fCall (ck 1 (c .f_law_size_of)) (fCons (fVar 6) (fNil))) [6]) = F at a1 ⊢
    generalize fFrz (fLc (fSeq (fVar 3)) (gN 6) (gYes) (fCall (ck 1 (c .f_size)) (fCons (fVar 6) (fNil))) [6]) = F2 at a2 ⊢
    simp only [gNot_def, fT_def, fCall_def, fCons_def, fNil_def, bnd_def, ret_def, ck_def, List.length_cons, List.length_nil, a1, a2, if_true, q, asB_def, Nat.zero_add, Nat.reduceAdd, Bool.not_true]
  refine sSeq_nx (S' := S3) (sIf_f (S1 := S3) ?_ rfl) ?_
  · have q := hsm ((Tc.exs ps).map fun e => (e.nd : Int)) (by rw [List.length_map]; omega) S3
    have a1 := s3 (some (.d (.ro ns))) (some (.r 0)) (some (.d (.tup (Tc.encs ps)))) (some (.d (.int (Tc.nls ps)))) (some (.d (.int (((Tc.exs ps).map Ec.sz).sum : Nat))))
    have a2 := s4 (some (.d (.ro ns))) (some (.r 0)) (some (.d (.tup (Tc.encs ps)))) (some (.d (.int (Tc.nls ps)))) (some (.d (.int (((Tc.exs ps).map Ec.sz).sum : Nat))))
    generalize fFrz (fLc (fSeq (fVar 3)) (gN 6) (gYes) (fCall (ck 1 (c .f_law_need)) (fCons (fVar 6) (fNil))) [6]) = F at a1 ⊢
    generalize fFrz (fLc (fSeq (fVar 3)) (gN 6) (gYes) (fCall (ck 1 (c .f_need)) (fCons (fVar 6) (fNil))) [6]) = F2 at a2 ⊢
    simp only [gNot_def, fT_def, fCall_def, fCons_def, fNil_def, bnd_def, ret_def, ck_def, List.length_cons, List.length_nil, a1, a2, if_true, q, asB_def, Nat.zero_add, Nat.reduceAdd, Bool.not_true]
  refine sSeq_rt ?_
  · have q := hsm [maxI ((Tc.exs ps).map fun e => (e.nd : Int)), (Tc.dcs ps : Int)] (by simp) S3
    rw [← ints2] at q
    have l8 : ((Tc.exs ps).map Ec.enc).length = Tc.dcs ps := by rw [List.length_map, l1]
    generalize (bxs ps).map Cb.enc = C at *
    generalize fCall (oMx maxI) (fCons (fFrz (fLc (fSeq (fVar 3)) (gN 6) (gYes) (fCall (ck 1 (c .f_law_need)) (fCons (fVar 6) (fNil))) [6])) (fNil)) = F at hmx ⊢
    simp only [sRet_def, fCall_def, fCons_def, fNil_def, fFrz_def, fLst_def, fVar_def, fC_def, bnd_def, ret_def, lift_some, ck_def, List.length_cons, List.length_nil, List.getElem?_cons_zero, List.getElem?_cons_succ, Option.join_some, f4, f6, f7, hmx, oLen_lst, okL_2, frz_2, l8, if_true, q, Nat.zero_add, Nat.reduceAdd, bS_ok]
end Y
theorem PySem.Challenge.cw_everymeaning_k80_whole_sizes_of_forms_holds : PySem.Challenge.rw_everymeaning_k80_whole_sizes_of_forms.Holds := by
  exact Y.holds_of rfl (by decide) Y.lawok
