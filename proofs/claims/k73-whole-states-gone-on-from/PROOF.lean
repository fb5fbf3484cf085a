import PyProof.Rows.All
import HandS.ForExc
import HandS.Comp
import HandS.Dict
import HandS.Iter
import HandS.Walk
import HandS.Flow
import HandS.IsInst
import HandS.TupAny
import HandS.TupMul
import HandS.Defaults
import HandS.SortInts
import HandS.More
import HandS.Keys
import Wide.Once
import KE.KStateDown
import HandS.Head0
import HandS.Head1
import HandS.Head2
import HandS.HeadEnd
import HandS.HeadHook1
import HandS.HeadHook2
import HandS.HeadHook3
import HandS.HeadHook4
import HandS.Style
import HandS.Conv
import KE.KDictList
import KE.KRevSl
import PySem.Challenge.RW_everymeaning_k73_whole_states_gone_on_fr
set_option Elab.async false
set_option linter.all false
set_option maxRecDepth 100000
set_option maxHeartbeats 4000000
namespace Y
open PySem PySem.Spec L2

/-! ### the data of the small interpreter -/
inductive D where
  | non | bl (b : Bool) | int (i : Int) | str (s : Str) | tup (xs : List D) | lst (xs : List D) | dct (ks : List Key) (vs : List D) | fn (x : Str) | ro (ns : List Int)
inductive Val where
  | d (x : D) | r (i : Nat)
inductive Ob where
  | lst (xs : List Val) | dct (ks : List Key) (xs : List Val) | ins (C : Str) (ks : List Str) (xs : List Val) | dead
structure Exc where
  cls : Str
  args : List D
inductive Ex (α : Type) where
  | ok (a : α) | exc (e : Exc)
abbrev Store := List Ob
abbrev M (α : Type) := Store → Option (Ex α × Store)
abbrev Env := List (Option Val)
abbrev FE := Env → M Val
inductive Fl where
  | nx | rt (v : Val) | bk | ct | xc (e : Exc)
abbrev FS := Env → Store → Option (Fl × Env × Store)
def ret {α : Type} (a : α) : M α := fun S => some (.ok a, S)
def thr {α : Type} (e : Exc) : M α := fun S => some (.exc e, S)
def stk {α : Type} : M α := fun _ => none
def bnd {α β : Type} (x : M α) (g : α → M β) : M β := fun S => match x S with
  | none => none
  | some (.exc e, S') => some (.exc e, S')
  | some (.ok a, S') => g a S'
def lift {α : Type} (o : Option α) : M α := fun S => match o with
  | some a => some (.ok a, S)
  | none => none

/-! ### how data stand in the abstract heap -/
/-- what is fixed: the written part, which V a global def's name stands for, a class's address -/
structure Gx where
  K : PySem.W.Frag
  fr : Str → V → Prop
  cA : Str → Addr
variable {G : Gx}
mutual
def Rep (G : Gx) (H : Hp) : D → V → Prop
  | .non, v => v = .non
  | .bl b, v => v = .bl b
  | .int i, v => v = .int i
  | .str s, v => v = .str s
  | .tup ds, v => ∃ a vs, v = .ref a ∧ SqT G.K H a vs ∧ Reps G H ds vs
  | .lst ds, v => ∃ a vs, v = .ref a ∧ H a = some (.lst vs) ∧ Reps G H ds vs
  | .ro ns, v => ∃ a, v = .ref a ∧ SqL G.K H a (ns.map V.int)
  | .dct ks ds, v => ∃ a vs, v = .ref a ∧ H a = some (.dK (ks.zip vs)) ∧ ks.length = vs.length ∧ Reps G H ds vs
  | .fn x, v => G.fr x v
def Reps (G : Gx) (H : Hp) : List D → List V → Prop
  | [], vs => vs = []
  | d :: ds, vs => ∃ v r, vs = v :: r ∧ Rep G H d v ∧ Reps G H ds r
end
theorem same_sqT {K : PySem.W.Frag} {H H' : Hp} {a : Addr} {xs : List V} (e : Same H H') (h : SqT K H a xs) : SqT K H' a xs := by
  rcases h with (h | ⟨o, h⟩) | h
  · exact .inl (.inl (e _ _ h))
  · exact .inl (.inr ⟨o, e _ _ h⟩)
  · exact .inr h
mutual
theorem Rep.mono {H H' : Hp} (e : Same H H') : ∀ {d : D} {v : V}, Rep G H d v → Rep G H' d v
  | .non, _, h => h
  | .bl _, _, h => h
  | .int _, _, h => h
  | .str _, _, h => h
  | .tup _, _, ⟨a, vs, h1, h2, h3⟩ => ⟨a, vs, h1, same_sqT e h2, Reps.mono e h3⟩
  | .lst _, _, ⟨a, vs, h1, h2, h3⟩ => ⟨a, vs, h1, e _ _ h2, Reps.mono e h3⟩
  | .ro _, _, ⟨a, h1, h2⟩ => ⟨a, h1, e.seq h2⟩
  | .dct _ _, _, ⟨a, vs, h1, h2, h3, h4⟩ => ⟨a, vs, h1, e _ _ h2, h3, Reps.mono e h4⟩
  | .fn _, _, h => h
theorem Reps.mono {H H' : Hp} (e : Same H H') : ∀ {ds : List D} {vs : List V}, Reps G H ds vs → Reps G H' ds vs
  | [], _, h => h
  | _ :: _, _, ⟨v, r, h1, h2, h3⟩ => ⟨v, r, h1, Rep.mono e h2, Reps.mono e h3⟩
end
theorem Reps.len {H : Hp} : ∀ {ds : List D} {vs : List V}, Reps G H ds vs → ds.length = vs.length
  | [], _, h => by rw [show _ = _ from h]; rfl
  | _ :: ds, _, ⟨v, r, h1, _, h3⟩ => by rw [h1, List.length_cons, List.length_cons, Reps.len h3]
theorem Reps.get {H : Hp} : ∀ {ds : List D} {vs : List V} {i : Nat} {d : D}, Reps G H ds vs → ds[i]? = some d → ∃ v, vs[i]? = some v ∧ Rep G H d v
  | [], _, _, _, _, e => by simp at e
  | _ :: ds, _, 0, d, ⟨v, r, h1, h2, _⟩, e => by
    have e' := Option.some.inj e
    subst e' h1
    exact ⟨v, rfl, h2⟩
  | _ :: ds, _, i + 1, d, ⟨v, r, h1, _, h3⟩, e => by
    subst h1
    obtain ⟨u, q1, q2⟩ := Reps.get (i := i) h3 (by simpa using e)
    exact ⟨u, by simpa using q1, q2⟩
theorem Reps.app {H : Hp} : ∀ {ds es : List D} {vs us : List V}, Reps G H ds vs → Reps G H es us → Reps G H (ds ++ es) (vs ++ us)
  | [], _, _, _, h, k => by rw [show _ = _ from h]; exact k
  | _ :: ds, _, _, _, ⟨v, r, h1, h2, h3⟩, k => by
    subst h1
    exact ⟨v, _, rfl, h2, Reps.app h3 k⟩
theorem Reps.take {H : Hp} : ∀ {ds : List D} {vs : List V} (n : Nat), Reps G H ds vs → Reps G H (ds.take n) (vs.take n)
  | [], _, n, h => by rw [show _ = _ from h]; simp [Reps]
  | _ :: ds, _, 0, ⟨v, r, h1, h2, h3⟩ => by simp [Reps]
  | _ :: ds, _, n + 1, ⟨v, r, h1, h2, h3⟩ => by
    subst h1
    exact ⟨v, _, rfl, h2, Reps.take n h3⟩
theorem Reps.drop {H : Hp} : ∀ {ds : List D} {vs : List V} (n : Nat), Reps G H ds vs → Reps G H (ds.drop n) (vs.drop n)
  | [], _, n, h => by rw [show _ = _ from h]; simp [Reps]
  | _ :: ds, _, 0, h => h
  | _ :: ds, _, n + 1, ⟨v, r, h1, h2, h3⟩ => by
    subst h1
    exact Reps.drop n h3

/-! ### worlds: where the store's objects stand, what is frozen, how many objects -/
structure Wd where
  ι : Nat → Addr
  F : Hp
  /-- what is being made (a comprehension's list) -/
  T : Hp
  n : Nat
def Wd.le (w w' : Wd) : Prop := Same w.F w'.F ∧ (∀ i, i < w.n → w'.ι i = w.ι i) ∧ w.n ≤ w'.n ∧ w'.T = w.T
theorem Wd.le.refl (w : Wd) : w.le w := ⟨Same.refl _, fun _ _ => rfl, Nat.le_refl _, rfl⟩
theorem Wd.le.trans {a b c : Wd} (h : a.le b) (k : b.le c) : a.le c := ⟨h.1.trans k.1, fun i hi => (k.2.1 i (Nat.lt_of_lt_of_le hi h.2.2.1)).trans (h.2.1 i hi), Nat.le_trans h.2.2.1 k.2.2.1, k.2.2.2.trans h.2.2.2⟩
def VR (G : Gx) (w : Wd) : Val → V → Prop
  | .d x, v => Rep G w.F x v
  | .r i, v => i < w.n ∧ v = .ref (w.ι i)
theorem VR.mono {w w' : Wd} (l : w.le w') : ∀ {x : Val} {v : V}, VR G w x v → VR G w' x v
  | .d _, _, h => Rep.mono l.1 h
  | .r i, _, ⟨h1, h2⟩ => ⟨Nat.lt_of_lt_of_le h1 l.2.2.1, by rw [h2, l.2.1 i h1]⟩
def VRs (G : Gx) (w : Wd) : List Val → List V → Prop
  | [], vs => vs = []
  | x :: xs, vs => ∃ v r, vs = v :: r ∧ VR G w x v ∧ VRs G w xs r
theorem VRs.mono {w w' : Wd} (l : w.le w') : ∀ {xs : List Val} {vs : List V}, VRs G w xs vs → VRs G w' xs vs
  | [], _, h => h
  | _ :: _, _, ⟨v, r, h1, h2, h3⟩ => ⟨v, r, h1, h2.mono l, VRs.mono l h3⟩
theorem VRs.len {w : Wd} : ∀ {ds : List Val} {vs : List V}, VRs G w ds vs → ds.length = vs.length
  | [], _, h => by rw [show _ = _ from h]; rfl
  | _ :: ds, _, ⟨v, r, h1, _, h3⟩ => by rw [h1, List.length_cons, List.length_cons, VRs.len h3]
theorem VRs.get {w : Wd} : ∀ {ds : List Val} {vs : List V} {i : Nat} {d : Val}, VRs G w ds vs → ds[i]? = some d → ∃ v, vs[i]? = some v ∧ VR G w d v
  | [], _, _, _, _, e => by simp at e
  | _ :: ds, _, 0, d, ⟨v, r, h1, h2, _⟩, e => by
    have e' := Option.some.inj e
    subst e' h1
    exact ⟨v, rfl, h2⟩
  | _ :: ds, _, i + 1, d, ⟨v, r, h1, _, h3⟩, e => by
    subst h1
    obtain ⟨u, q1, q2⟩ := VRs.get (i := i) h3 (by simpa using e)
    exact ⟨u, by simpa using q1, q2⟩
theorem VRs.app {w : Wd} : ∀ {ds es : List Val} {vs us : List V}, VRs G w ds vs → VRs G w es us → VRs G w (ds ++ es) (vs ++ us)
  | [], _, _, _, h, k => by rw [show _ = _ from h]; exact k
  | _ :: ds, _, _, _, ⟨v, r, h1, h2, h3⟩, k => by
    subst h1
    exact ⟨v, _, rfl, h2, VRs.app h3 k⟩
theorem VRs.set {w : Wd} : ∀ {ds : List Val} {vs : List V} (i : Nat) {x : Val} {v : V}, VRs G w ds vs → VR G w x v → VRs G w (ds.set i x) (vs.set i v)
  | [], _, _, _, _, h, _ => by rw [show _ = _ from h]; simp [VRs]
  | _ :: ds, _, 0, _, _, ⟨v, r, h1, h2, h3⟩, k => by subst h1; exact ⟨_, _, rfl, k, h3⟩
  | _ :: ds, _, i + 1, _, _, ⟨v, r, h1, h2, h3⟩, k => by subst h1; exact ⟨_, _, rfl, h2, VRs.set i h3 k⟩
theorem VRs.erase {w : Wd} : ∀ {ds : List Val} {vs : List V} (i : Nat), VRs G w ds vs → VRs G w (ds.eraseIdx i) (vs.eraseIdx i)
  | [], _, _, h => by rw [show _ = _ from h]; simp [VRs]
  | _ :: ds, _, 0, ⟨v, r, h1, h2, h3⟩ => by subst h1; exact h3
  | _ :: ds, _, i + 1, ⟨v, r, h1, h2, h3⟩ => by subst h1; exact ⟨_, _, rfl, h2, VRs.erase i h3⟩
theorem VRs.dl {w : Wd} : ∀ {ds : List Val} {vs : List V}, VRs G w ds vs → VRs G w ds.dropLast vs.dropLast
  | [], _, h => by rw [show _ = _ from h]; simp [VRs]
  | [_], _, ⟨v, r, h1, h2, h3⟩ => by subst h1; rw [show _ = _ from h3]; simp [VRs]
  | _ :: b :: ds, _, ⟨v, r, h1, h2, ⟨u, q, k1, k2, k3⟩⟩ => by
    subst h1 k1
    exact ⟨v, _, rfl, h2, VRs.dl ⟨u, q, rfl, k2, k3⟩⟩
theorem VRs.take {w : Wd} : ∀ {ds : List Val} {vs : List V} (n : Nat), VRs G w ds vs → VRs G w (ds.take n) (vs.take n)
  | [], _, n, h => by rw [show _ = _ from h]; simp [VRs]
  | _ :: ds, _, 0, ⟨v, r, h1, h2, h3⟩ => by simp [VRs]
  | _ :: ds, _, n + 1, ⟨v, r, h1, h2, h3⟩ => by
    subst h1
    exact ⟨v, _, rfl, h2, VRs.take n h3⟩
theorem VRs.drop {w : Wd} : ∀ {ds : List Val} {vs : List V} (n : Nat), VRs G w ds vs → VRs G w (ds.drop n) (vs.drop n)
  | [], _, n, h => by rw [show _ = _ from h]; simp [VRs]
  | _ :: ds, _, 0, h => h
  | _ :: ds, _, n + 1, ⟨v, r, h1, h2, h3⟩ => by
    subst h1
    exact VRs.drop n h3
theorem VRs.rep {w : Wd} {x : Val} {v : V} (h : VR G w x v) : ∀ n : Nat, VRs G w (List.replicate n x) (List.replicate n v)
  | 0 => rfl
  | n + 1 => ⟨v, _, rfl, h, VRs.rep h n⟩
theorem Reps.vrs {w : Wd} : ∀ {ds : List D} {vs : List V}, Reps G w.F ds vs → VRs G w (ds.map Val.d) vs
  | [], _, h => h
  | _ :: _, _, ⟨v, r, h1, h2, h3⟩ => ⟨v, r, h1, h2, Reps.vrs h3⟩
/-- values that are plain data -/
def datas : List Val → Option (List D)
  | [] => some []
  | .d x :: r => (datas r).map (x :: ·)
  | .r _ :: _ => none
theorem VRs.reps {w : Wd} : ∀ {xs : List Val} {ds : List D} {vs : List V}, datas xs = some ds → VRs G w xs vs → Reps G w.F ds vs
  | [], _, _, e, h => by cases e; exact h
  | .d x :: r, ds, _, e, ⟨v, q, h1, h2, h3⟩ => by
    unfold datas at e
    cases e1 : datas r with
    | none => rw [e1] at e; cases e
    | some es =>
      rw [e1] at e
      cases e
      exact ⟨v, q, h1, h2, VRs.reps e1 h3⟩
  | .r _ :: _, _, _, e, _ => by cases e
theorem datas_map : ∀ ds : List D, datas (ds.map Val.d) = some ds
  | [] => rfl
  | d :: r => by show (datas (r.map Val.d)).map (d :: ·) = _; rw [datas_map r]; rfl
theorem datas_app : ∀ {xs ys : List Val} {a b : List D}, datas xs = some a → datas ys = some b → datas (xs ++ ys) = some (a ++ b)
  | [], _, _, _, h, k => by cases h; exact k
  | .d x :: r, _, _, _, h, k => by
    unfold datas at h
    cases e : datas r with
    | none => rw [e] at h; cases h
    | some es =>
      rw [e] at h
      cases h
      show (datas (r ++ _)).map (x :: ·) = _
      rw [datas_app e k]
      rfl
  | .r _ :: _, _, _, _, h, _ => by cases h

/-! ### objects of the store -/
def ObR (G : Gx) (w : Wd) (H : Hp) (a : Addr) : Ob → Prop
  | .lst xs => w.F a = none ∧ ∃ vs, H a = some (.lst vs) ∧ VRs G w xs vs
  | .dct ks xs => w.F a = none ∧ ∃ vs, H a = some (.dK (ks.zip vs)) ∧ ks.length = vs.length ∧ VRs G w xs vs
  | .ins C ks xs => w.F a = none ∧ ∃ dx vs, H a = some (.ins (G.cA C) dx (ks.zip vs)) ∧ ks.length = vs.length ∧ VRs G w xs vs
  | .dead => True
structure Rl (G : Gx) (w : Wd) (H : Hp) (S : Store) : Prop where
  n : w.n = S.length
  fz : Same w.F H
  tp : Same w.T H
  tl : ∀ i o, S[i]? = some o → o ≠ .dead → w.T (w.ι i) = none
  tf : ∀ a u, w.T a = some u → w.F a = none
  ob : ∀ i o, S[i]? = some o → ObR G w H (w.ι i) o
  inj : ∀ i j o p, S[i]? = some o → S[j]? = some p → o ≠ .dead → p ≠ .dead → w.ι i = w.ι j → i = j
def EnvR (G : Gx) (w : Wd) (env : Env) (σ : St) : Prop := env.length = σ.length ∧ ∀ (i : Nat) (x : Val), env[i]? = some (some x) → ∃ v, σ[i]? = some (some v) ∧ VR G w x v
theorem EnvR.mono {w w' : Wd} (l : w.le w') {env : Env} {σ : St} (h : EnvR G w env σ) : EnvR G w' env σ := ⟨h.1, fun i x e => let ⟨v, h1, h2⟩ := h.2 i x e; ⟨v, h1, h2.mono l⟩⟩
theorem EnvR.set {w : Wd} {env : Env} {σ : St} {x : Val} {v : V} (h : EnvR G w env σ) (i : Nat) (r : VR G w x v) : EnvR G w (env.set i (some x)) (σ.set i (some v)) := by
  refine ⟨by rw [List.length_set, List.length_set]; exact h.1, fun j y e => ?_⟩
  by_cases hj : i = j
  · subst hj
    by_cases hl : i < env.length
    · rw [List.getElem?_set_self hl] at e
      cases e
      exact ⟨v, List.getElem?_set_self (by rw [← h.1]; exact hl), r⟩
    · rw [List.getElem?_eq_none (by simpa using hl)] at e
      cases e
  · rw [List.getElem?_set_ne hj] at e
    obtain ⟨u, h1, h2⟩ := h.2 j y e
    exact ⟨u, by rw [List.getElem?_set_ne hj]; exact h1, h2⟩
theorem ObR.live {w : Wd} {H : Hp} {a : Addr} {o : Ob} (h : ObR G w H a o) (l : o ≠ .dead) : w.F a = none ∧ ∃ u, H a = some u ∧ Mut (some u) := by
  cases o with
  | lst xs => obtain ⟨h1, vs, h2, _⟩ := h; exact ⟨h1, _, h2, trivial⟩
  | dct ks xs => obtain ⟨h1, vs, h2, _⟩ := h; exact ⟨h1, _, h2, trivial⟩
  | ins C ks xs => obtain ⟨h1, dx, vs, h2, _⟩ := h; exact ⟨h1, _, h2, trivial⟩
  | dead => exact absurd rfl l
/-- an object's relation leans on its own address alone -/
theorem ObR.keep {w w' : Wd} {H H' : Hp} {a : Addr} {o : Ob} (h : ObR G w H a o) (l : w.le w') (e : o ≠ .dead → H' a = H a) (f : o ≠ .dead → w'.F a = none) : ObR G w' H' a o := by
  cases o with
  | lst xs => obtain ⟨h1, vs, h2, h3⟩ := h; exact ⟨f (by simp), vs, by rw [e (by simp)]; exact h2, h3.mono l⟩
  | dct ks xs => obtain ⟨h1, vs, h2, h3, h4⟩ := h; exact ⟨f (by simp), vs, by rw [e (by simp)]; exact h2, h3, h4.mono l⟩
  | ins C ks xs => obtain ⟨h1, dx, vs, h2, h3, h4⟩ := h; exact ⟨f (by simp), dx, vs, by rw [e (by simp)]; exact h2, h3, h4.mono l⟩
  | dead => trivial
/-- a new object that is no one's -/
theorem Rl.laid {w : Wd} {H : Hp} {S : Store} {p : Addr} {o : HO} (R : Rl G w H S) (n : H p = none) : Rl G w (upd H p o) S :=
  ⟨R.n, R.fz.trans fun b u e => by rw [upd_ne (ne_of_none e n)]; exact e, R.tp.trans fun b u e => by rw [upd_ne (ne_of_none e n)]; exact e, R.tl, R.tf, fun i q e => (R.ob i q e).keep (Wd.le.refl w) (fun l => by
    obtain ⟨_, u, h2, _⟩ := (R.ob i q e).live l
    exact upd_ne (ne_of_none h2 n)) (fun l => ((R.ob i q e).live l).1), R.inj⟩
/-- an object of no one's becomes frozen -/
def Wd.frz (w : Wd) (p : Addr) (o : HO) : Wd := { w with F := upd w.F p o }
theorem Wd.frz_le {w : Wd} {p : Addr} {o : HO} (h : w.F p = none) : w.le (w.frz p o) := ⟨fun b u e => by
  show upd w.F p o b = some u
  rw [upd_ne (ne_of_none e h)]
  exact e, fun _ _ => rfl, Nat.le_refl _, rfl⟩
theorem Rl.freeze {w : Wd} {H : Hp} {S : Store} {p : Addr} {o : HO} (R : Rl G w H S) (h : H p = some o) (f : w.F p = none) (nl : ∀ i q, S[i]? = some q → q ≠ Ob.dead → w.ι i ≠ p) (nt : w.T p = none) : Rl G (w.frz p o) H S :=
  ⟨R.n, fun b u e => by
    by_cases hb : b = p
    · subst hb
      have e' : upd w.F b o b = some u := e
      rw [upd_same] at e'
      cases e'
      exact h
    · have e' : upd w.F p o b = some u := e
      rw [upd_ne hb] at e'
      exact R.fz b u e', R.tp, R.tl, fun a u e => by
    show upd w.F p o a = none
    rw [upd_ne (ne_of_none e nt)]
    exact R.tf a u e, fun i q e => (R.ob i q e).keep (Wd.frz_le f) (fun _ => rfl) (fun l => by
        show upd w.F p o (w.ι i) = none
        rw [upd_ne (nl i q e l)]
        exact ((R.ob i q e).live l).1), R.inj⟩
/-- a new object joins the store -/
def Wd.join (w : Wd) (p : Addr) : Wd := { w with ι := fun i => if i = w.n then p else w.ι i, n := w.n + 1 }
theorem Wd.join_le {w : Wd} {p : Addr} : w.le (w.join p) := ⟨Same.refl _, fun i hi => if_neg (Nat.ne_of_lt hi), Nat.le_succ _, rfl⟩
theorem Rl.joins {w : Wd} {H : Hp} {S : Store} {p : Addr} {o : Ob} (R : Rl G w H S) (h : ObR G w H p o) (nl : ∀ i q, S[i]? = some q → q ≠ Ob.dead → w.ι i ≠ p) (nt : w.T p = none) : Rl G (w.join p) H (S ++ [o]) := by
  have at_ : ∀ i q, (S ++ [o])[i]? = some q → (i < S.length ∧ S[i]? = some q ∧ (w.join p).ι i = w.ι i) ∨ (i = S.length ∧ q = o ∧ (w.join p).ι i = p) := fun i q e => by
    by_cases hi : i < S.length
    · rw [List.getElem?_append_left hi] at e
      exact .inl ⟨hi, e, if_neg (by rw [R.n]; exact Nat.ne_of_lt hi)⟩
    · have hl := (List.getElem?_eq_some_iff.mp e).1
      rw [List.length_append, List.length_singleton] at hl
      have : i = S.length := by omega
      subst this
      rw [List.getElem?_append_right (Nat.le_refl _), Nat.sub_self] at e
      exact .inr ⟨rfl, (Option.some.inj e).symm, if_pos R.n.symm⟩
  refine ⟨?_, R.fz, R.tp, fun i q e l => ?_, R.tf, fun i q e => ?_, fun i j q r e1 e2 l1 l2 e3 => ?_⟩
  · show w.n + 1 = _
    rw [R.n, List.length_append, List.length_singleton]
  · rcases at_ i q e with ⟨h1, h2, h3⟩ | ⟨h1, h2, h3⟩
    · rw [h3]; exact R.tl i q h2 l
    · rw [h3]; exact nt
  · rcases at_ i q e with ⟨h1, h2, h3⟩ | ⟨h1, h2, h3⟩
    · rw [h3]
      exact (R.ob i q h2).keep Wd.join_le (fun _ => rfl) (fun l => ((R.ob i q h2).live l).1)
    · rw [h3, h2]
      exact h.keep Wd.join_le (fun _ => rfl) (fun l => (h.live l).1)
  · rcases at_ i q e1 with ⟨h1, h2, h3⟩ | ⟨h1, h2, h3⟩
    · rcases at_ j r e2 with ⟨k1, k2, k3⟩ | ⟨k1, k2, k3⟩
      · rw [h3, k3] at e3
        exact R.inj i j q r h2 k2 l1 l2 e3
      · rw [h3, k3] at e3
        exact absurd e3 (nl i q h2 l1)
    · rcases at_ j r e2 with ⟨k1, k2, k3⟩ | ⟨k1, k2, k3⟩
      · rw [h3, k3] at e3
        exact absurd e3.symm (nl j r k2 l2)
      · rw [h1, k1]
/-- an object of the store is written -/
theorem Rl.write {w : Wd} {H : Hp} {S : Store} {i : Nat} {o o' : Ob} {u : HO} (R : Rl G w H S) (e : S[i]? = some o) (l : o ≠ .dead) (h : ObR G w (upd H (w.ι i) u) (w.ι i) o') : Rl G w (upd H (w.ι i) u) (S.set i o') := by
  have hi := (List.getElem?_eq_some_iff.mp e).1
  obtain ⟨f0, u0, hu0, _⟩ := (R.ob i o e).live l
  have old : ∀ m x, (S.set i o')[m]? = some x → x ≠ Ob.dead → ∃ y, S[m]? = some y ∧ y ≠ Ob.dead := fun m x zx lx => by
    by_cases hm : i = m
    · subst hm
      exact ⟨o, e, l⟩
    · rw [List.getElem?_set_ne hm] at zx
      exact ⟨x, zx, lx⟩
  refine ⟨by rw [List.length_set]; exact R.n, fun b q z => ?_, fun b q z => ?_, fun j q z lq => ?_, R.tf, fun j q z => ?_, fun j k q r z1 z2 l1 l2 z3 => ?_⟩
  · rw [upd_ne (ne_of_none z f0)]
    exact R.fz b q z
  · rw [upd_ne (ne_of_none z (R.tl i o e l))]
    exact R.tp b q z
  · obtain ⟨y, p1, p2⟩ := old j q z lq
    exact R.tl j y p1 p2
  · by_cases hj : i = j
    · subst hj
      rw [List.getElem?_set_self hi] at z
      cases z
      exact h
    · rw [List.getElem?_set_ne hj] at z
      refine (R.ob j q z).keep (Wd.le.refl w) (fun lq => upd_ne fun z2 => hj (R.inj i j o q e z l lq z2.symm)) (fun lq => ((R.ob j q z).live lq).1)
  · obtain ⟨y1, p1, p2⟩ := old j q z1 l1
    obtain ⟨y2, p3, p4⟩ := old k r z2 l2
    exact R.inj j k y1 y2 p1 p3 p2 p4 z3
/-- .. and goes -/
theorem Rl.kill {w : Wd} {H : Hp} {S : Store} (R : Rl G w H S) (i : Nat) : Rl G w H (S.set i .dead) := by
  have old : ∀ m x, (S.set i Ob.dead)[m]? = some x → x ≠ Ob.dead → S[m]? = some x := fun m x zx lx => by
    by_cases hm : i = m
    · subst hm
      by_cases hl : i < S.length
      · rw [List.getElem?_set_self hl] at zx
        cases zx
        exact absurd rfl lx
      · rw [List.getElem?_eq_none (by simpa using hl)] at zx
        cases zx
    · rw [List.getElem?_set_ne hm] at zx
      exact zx
  refine ⟨by rw [List.length_set]; exact R.n, R.fz, R.tp, fun j q z lq => R.tl j q (old j q z lq) lq, R.tf, fun j q z => ?_, fun j k q r z1 z2 l1 l2 z3 => ?_⟩
  · by_cases hj : i = j
    · subst hj
      by_cases hl : i < S.length
      · rw [List.getElem?_set_self hl] at z
        cases z
        trivial
      · rw [List.getElem?_eq_none (by simpa using hl)] at z
        cases z
    · rw [List.getElem?_set_ne hj] at z
      exact R.ob j q z
  · exact R.inj j k q r (old j q z1 l1) (old k r z2 l2) l1 l2 z3
/-- a value's, an object's references lie below n -/
def vLt (n : Nat) : Val → Bool
  | .d _ => true
  | .r i => decide (i < n)
def obLt (n : Nat) : Ob → Bool
  | .lst xs => xs.all (vLt n)
  | .dct _ xs => xs.all (vLt n)
  | .ins _ _ xs => xs.all (vLt n)
  | .dead => true
/-- the store cut back -/
def Wd.cut (w : Wd) (n : Nat) : Wd := { w with n := n }
theorem VR.cut {w : Wd} {n : Nat} {x : Val} {v : V} (h : VR G w x v) (l : vLt n x = true) : VR G (w.cut n) x v := by
  cases x with
  | d x => exact h
  | r i => exact ⟨of_decide_eq_true l, h.2⟩
theorem VRs.cut {w : Wd} {n : Nat} : ∀ {xs : List Val} {vs : List V}, VRs G w xs vs → xs.all (vLt n) = true → VRs G (w.cut n) xs vs
  | [], _, h, _ => h
  | x :: xs, _, ⟨v, r, h1, h2, h3⟩, l => by
    rw [List.all_cons, Bool.and_eq_true] at l
    exact ⟨v, r, h1, h2.cut l.1, VRs.cut h3 l.2⟩
theorem VRs.lt {w : Wd} : ∀ {xs : List Val} {vs : List V}, VRs G w xs vs → xs.all (vLt w.n) = true
  | [], _, _ => rfl
  | x :: xs, _, ⟨v, r, h1, h2, h3⟩ => by
    rw [List.all_cons, VRs.lt h3, Bool.and_true]
    cases x with
    | d x => rfl
    | r i => exact decide_eq_true h2.1
theorem ObR.lt {w : Wd} {H : Hp} {a : Addr} {o : Ob} (h : ObR G w H a o) : obLt w.n o = true := by
  cases o with
  | lst xs => obtain ⟨_, _, _, h⟩ := h; exact h.lt
  | dct ks xs => obtain ⟨_, _, _, _, h⟩ := h; exact h.lt
  | ins C ks xs => obtain ⟨_, _, _, _, _, h⟩ := h; exact h.lt
  | dead => rfl
theorem ObR.cut {w : Wd} {H : Hp} {a : Addr} {o : Ob} {n : Nat} (h : ObR G w H a o) (l : obLt n o = true) : ObR G (w.cut n) H a o := by
  cases o with
  | lst xs => obtain ⟨h1, vs, h2, h⟩ := h; exact ⟨h1, vs, h2, h.cut l⟩
  | dct ks xs => obtain ⟨h1, vs, h2, h3, h⟩ := h; exact ⟨h1, vs, h2, h3, h.cut l⟩
  | ins C ks xs => obtain ⟨h1, dx, vs, h2, h3, h⟩ := h; exact ⟨h1, dx, vs, h2, h3, h.cut l⟩
  | dead => trivial
/-- what may be forgotten at a def's end: the objects it made, where none of the elder ones names them -/
def cutOk (S S' : Store) : Prop := S.length ≤ S'.length ∧ ∀ i o, i < S.length → S'[i]? = some o → S[i]? = some o ∨ obLt S.length o = true
theorem Rl.cut {w w' : Wd} {H H' : Hp} {S S' : Store} (R : Rl G w H S) (R' : Rl G w' H' S') (l : w.le w') (c : cutOk S S') : Rl G (w'.cut S.length) H' (S'.take S.length) ∧ w.le (w'.cut S.length) := by
  have at_ : ∀ i o, (S'.take S.length)[i]? = some o → i < S.length ∧ S'[i]? = some o := fun i o e => by
    have hi := (List.getElem?_eq_some_iff.mp e).1
    rw [List.length_take] at hi
    have hi2 : i < S.length := by omega
    rw [List.getElem?_take_of_lt hi2] at e
    exact ⟨hi2, e⟩
  refine ⟨⟨?_, R'.fz, R'.tp, fun i o e lo => R'.tl i o (at_ i o e).2 lo, R'.tf, fun i o e => ?_, fun i j o p e1 e2 l1 l2 e3 => ?_⟩, l.1, l.2.1, ?_, l.2.2.2⟩
  · show S.length = _
    rw [List.length_take]
    have := c.1
    omega
  · obtain ⟨hi, e'⟩ := at_ i o e
    refine (R'.ob i o e').cut ?_
    rcases c.2 i o hi e' with z | z
    · rw [← R.n]; exact (R.ob i o z).lt
    · exact z
  · exact R'.inj i j o p (at_ i o e1).2 (at_ j p e2).2 l1 l2 e3
  · show w.n ≤ S.length
    rw [R.n]
    exact Nat.le_refl _
/-- the same world, with other temporaries -/
abbrev Wd.wT (w : Wd) (t : Hp) : Wd := { w with T := t }
theorem VR.wT {w : Wd} {t : Hp} : ∀ {x : Val} {v : V}, VR G w x v → VR G (w.wT t) x v
  | .d _, _, h => h
  | .r _, _, h => h
theorem VRs.wT {w : Wd} {t : Hp} : ∀ {xs : List Val} {vs : List V}, VRs G w xs vs → VRs G (w.wT t) xs vs
  | [], _, h => h
  | _ :: _, _, ⟨v, r, h1, h2, h3⟩ => ⟨v, r, h1, h2.wT, VRs.wT h3⟩
theorem EnvR.wT {w : Wd} {t : Hp} {env : Env} {σ : St} (h : EnvR G w env σ) : EnvR G (w.wT t) env σ := ⟨h.1, fun i x e => let ⟨v, h1, h2⟩ := h.2 i x e; ⟨v, h1, h2.wT⟩⟩
theorem ObR.wT {w : Wd} {t : Hp} {H H' : Hp} {a : Addr} {o : Ob} (h : ObR G w H a o) (e : o ≠ .dead → H' a = H a) : ObR G (w.wT t) H' a o := by
  cases o with
  | lst xs => obtain ⟨h1, vs, h2, h3⟩ := h; exact ⟨h1, vs, by rw [e (by simp)]; exact h2, h3.wT⟩
  | dct ks xs => obtain ⟨h1, vs, h2, h3, h4⟩ := h; exact ⟨h1, vs, by rw [e (by simp)]; exact h2, h3, h4.wT⟩
  | ins C ks xs => obtain ⟨h1, dx, vs, h2, h3, h4⟩ := h; exact ⟨h1, dx, vs, by rw [e (by simp)]; exact h2, h3, h4.wT⟩
  | dead => trivial
theorem Rl.untmp {w : Wd} {H : Hp} {S : Store} {t : Hp} (R : Rl G w H S) (s : Same t w.T) : Rl G (w.wT t) H S :=
  ⟨R.n, R.fz, s.trans R.tp, fun i o e l => s.free (R.tl i o e l), fun a u e => R.tf a u (s a u e), fun i o e => (R.ob i o e).wT fun _ => rfl, R.inj⟩
/-- a temporary is made, or changed -/
theorem Rl.tmp {w : Wd} {H : Hp} {S : Store} {p : Addr} {o : HO} (R : Rl G w H S) (f : w.F p = none) (nl : ∀ i q, S[i]? = some q → q ≠ Ob.dead → w.ι i ≠ p) : Rl G (w.wT (upd w.T p o)) (upd H p o) S :=
  ⟨R.n, fun b u e => by rw [upd_ne (ne_of_none e f)]; exact R.fz b u e, fun b u e => by
    by_cases hb : b = p
    · subst hb
      have e' : upd w.T b o b = some u := e
      rw [upd_same] at e' ⊢
      exact e'
    · have e' : upd w.T p o b = some u := e
      rw [upd_ne hb] at e' ⊢
      exact R.tp b u e', fun i q e l => by
    show upd w.T p o (w.ι i) = none
    rw [upd_ne (nl i q e l)]
    exact R.tl i q e l, fun a u e => by
    by_cases ha : a = p
    · subst ha
      exact f
    · have e' : upd w.T p o a = some u := e
      rw [upd_ne ha] at e'
      exact R.tf a u e', fun i q e => (R.ob i q e).wT fun l => upd_ne (nl i q e l), R.inj⟩
/-- later, whatever the temporaries -/
def Wd.le0 (w w' : Wd) : Prop := Same w.F w'.F ∧ (∀ i, i < w.n → w'.ι i = w.ι i) ∧ w.n ≤ w'.n
theorem Wd.le.le0 {w w' : Wd} (h : w.le w') : w.le0 w' := ⟨h.1, h.2.1, h.2.2.1⟩
theorem Wd.le0.refl (w : Wd) : w.le0 w := (Wd.le.refl w).le0
theorem Wd.le0.trans {a b c : Wd} (h : a.le0 b) (k : b.le0 c) : a.le0 c := ⟨h.1.trans k.1, fun i hi => (k.2.1 i (Nat.lt_of_lt_of_le hi h.2.2)).trans (h.2.1 i hi), Nat.le_trans h.2.2 k.2.2⟩
theorem VR.mono0 {w w' : Wd} (l : w.le0 w') : ∀ {x : Val} {v : V}, VR G w x v → VR G w' x v
  | .d _, _, h => Rep.mono l.1 h
  | .r i, _, ⟨h1, h2⟩ => ⟨Nat.lt_of_lt_of_le h1 l.2.2, by rw [h2, l.2.1 i h1]⟩
theorem VRs.mono0 {w w' : Wd} (l : w.le0 w') : ∀ {xs : List Val} {vs : List V}, VRs G w xs vs → VRs G w' xs vs
  | [], _, h => h
  | _ :: _, _, ⟨v, r, h1, h2, h3⟩ => ⟨v, r, h1, h2.mono0 l, VRs.mono0 l h3⟩
theorem EnvR.mono0 {w w' : Wd} (l : w.le0 w') {env : Env} {σ : St} (h : EnvR G w env σ) : EnvR G w' env σ := ⟨h.1, fun i x e => let ⟨v, h1, h2⟩ := h.2 i x e; ⟨v, h1, h2.mono0 l⟩⟩
end Y

set_option Elab.async false
set_option linter.all false
set_option maxRecDepth 100000
set_option maxHeartbeats 4000000
namespace Y
open PySem PySem.Spec L2
variable {G : Gx} {E : XK} {X : Cx}

/-! ### outcomes -/
def XR (G : Gx) (w : Wd) (e : Exc) (c : Value) (d : Option Addr) (H : Hp) : Prop := c = .ref (G.cA e.cls)
theorem XR.mono {w w' : Wd} {e : Exc} {c : Value} {d : Option Addr} {H : Hp} (l : w.le w') (h : XR G w e c d H) : XR G w' e c d H := h
def Res (G : Gx) (E : XK) (w : Wd) {α : Type} (o : Option (Ex α × Store)) (P : α → Store → Prop) : Prop := match o with
  | none => False
  | some (.exc e, S') => ∀ c d H' w', w.le w' → Rl G w' H' S' → XR G w' e c d H' → E c d H'
  | some (.ok a, S') => P a S'
theorem Res.imp {w : Wd} {α : Type} {o : Option (Ex α × Store)} {P P' : α → Store → Prop} (h : Res G E w o P) (k : ∀ a S, P a S → P' a S) : Res G E w o P' := by
  match o, h with
  | some (.exc e, S'), h => exact h
  | some (.ok a, S'), h => exact k _ _ h
theorem Res.mono {w w' : Wd} {α : Type} {o : Option (Ex α × Store)} {P P' : α → Store → Prop} (h : Res G E w o P) (l : w.le w') (k : ∀ a S, P a S → P' a S) : Res G E w' o P' := by
  match o, h with
  | some (.exc e, S'), h => exact fun c d H' w2 l2 => h c d H' w2 (l.trans l2)
  | some (.ok a, S'), h => exact k _ _ h
theorem Res.bnd {w : Wd} {α β : Type} {x : M α} {g : α → M β} {S : Store} {P : β → Store → Prop} (h : Res G E w (bnd x g S) P) : Res G E w (x S) (fun a S' => Res G E w (g a S') P) := by
  unfold Y.bnd at h
  cases e : x S with
  | none => rw [e] at h; exact h
  | some p =>
    obtain ⟨o, S'⟩ := p
    rw [e] at h
    cases o with
    | ok a => exact h
    | exc e => exact h
theorem Res.ok {w : Wd} {α : Type} {a : α} {S : Store} {P : α → Store → Prop} (h : Res G E w (ret a S) P) : P a S := h
/-- what is wanted of a value; of a truth value; of a list of values; of a new list that is no one's yet -/
def VP (G : Gx) (w : Wd) (Q : VK) : Val → Store → Prop := fun a S' => ∀ v H' w', w.le w' → Rl G w' H' S' → VR G w' a v → Q v H'
def BP (G : Gx) (w : Wd) (Q : Bool → Hp → Prop) : Bool → Store → Prop := fun b S' => ∀ H' w', w.le w' → Rl G w' H' S' → Q b H'
def AP' (G : Gx) (w : Wd) (Q : List V → Hp → Prop) : List Val → Store → Prop := fun xs S' => ∀ vs H' w', w.le w' → Rl G w' H' S' → VRs G w' xs vs → Q vs H'
def FP (G : Gx) (w : Wd) (Q : VK) : List Val → Store → Prop := fun xs S' => ∀ a vs H' w', w.le w' → Rl G w' H' S' → H' a = some (.lst vs) → w'.F a = none → (∀ i q, S'[i]? = some q → q ≠ Ob.dead → w'.ι i ≠ a) → w'.T a = none → VRs G w' xs vs → Q (.ref a) H'
theorem VP.mono {w w1 : Wd} (l : w.le w1) {Q : VK} {a : Val} {S : Store} (h : VP G w Q a S) : VP G w1 Q a S := fun v H' w' l2 => h v H' w' (l.trans l2)
theorem BP.mono {w w1 : Wd} (l : w.le w1) {Q : Bool → Hp → Prop} {a : Bool} {S : Store} (h : BP G w Q a S) : BP G w1 Q a S := fun H' w' l2 => h H' w' (l.trans l2)
theorem AP'.mono {w w1 : Wd} (l : w.le w1) {Q : List V → Hp → Prop} {a : List Val} {S : Store} (h : AP' G w Q a S) : AP' G w1 Q a S := fun v H' w' l2 => h v H' w' (l.trans l2)
theorem FP.mono {w w1 : Wd} (l : w.le w1) {Q : VK} {a : List Val} {S : Store} (h : FP G w Q a S) : FP G w1 Q a S := fun a v H' w' l2 => h a v H' w' (l.trans l2)

/-! ### the judgements -/
abbrev FA := Env → M (List Val)
abbrev FB := Env → M Bool
def TEx (G : Gx) (E : XK) (f : FE) : TE := fun σ H Q => ∃ w env S, EnvR G w env σ ∧ Rl G w H S ∧ Res G E w (f env S) (VP G w Q)
def TTx (G : Gx) (E : XK) (f : FB) : TT := fun σ H Q => ∃ w env S, EnvR G w env σ ∧ Rl G w H S ∧ Res G E w (f env S) (BP G w Q)
def TAx (G : Gx) (E : XK) (f : FA) : TA := fun σ H Q => ∃ w env S, EnvR G w env σ ∧ Rl G w H S ∧ Res G E w (f env S) (AP' G w Q)
def TFx (G : Gx) (E : XK) (f : FA) : TE := fun σ H Q => ∃ w env S, EnvR G w env σ ∧ Rl G w H S ∧ Res G E w (f env S) (FP G w Q)
abbrev QE (X : Cx) (G : Gx) (E : XK) (e : Expr) (f : FE) : Prop := PE X e (TEx G E f)
abbrev QT (X : Cx) (G : Gx) (E : XK) (e : Expr) (f : FB) : Prop := PT X e (TTx G E f)
abbrev QA (X : Cx) (G : Gx) (E : XK) (es : List Expr) (f : FA) : Prop := PA X es (TAx G E f)
abbrev QF (X : Cx) (G : Gx) (E : XK) (e : Expr) (f : FA) : Prop := PE X e (TFx G E f)
theorem PE.imp {e : Expr} {t t' : TE} (h : PE X e t) (k : ∀ σ H Q, t' σ H Q → t σ H Q) : PE X e t' := ⟨fun pins s σ H Q I q => h.run pins s σ H Q I (k σ H Q q)⟩
theorem PT.imp {e : Expr} {t t' : TT} (h : PT X e t) (k : ∀ σ H Q, t' σ H Q → t σ H Q) : PT X e t' := ⟨fun pins s σ H Q I q => h.run pins s σ H Q I (k σ H Q q)⟩
theorem PW.imp {e : Expr} {t t' : TT} (h : PW X e t) (k : ∀ σ H Q, t' σ H Q → t σ H Q) : PW X e t' := ⟨fun wh pins s σ H Q I q => h.run wh pins s σ H Q I (k σ H Q q)⟩
theorem PA.imp {e : List Expr} {t t' : TA} (h : PA X e t) (k : ∀ σ H Q, t' σ H Q → t σ H Q) : PA X e t' := ⟨fun pos pins s σ H Q I q => h.run pos pins s σ H Q I (k σ H Q q)⟩
theorem PS.imp {e : Stmt} {t t' : TS} (h : PS X e t) (k : ∀ D σ H, t' D σ H → t D σ H) : PS X e t' := ⟨fun pins s σ H D I q => h.run pins s σ H D I (k D σ H q)⟩
theorem PSs.imp {e : List Stmt} {t t' : TS} (h : PSs X e t) (k : ∀ D σ H, t' D σ H → t D σ H) : PSs X e t' := ⟨fun pins s σ H D I q => h.run pins s σ H D I (k D σ H q)⟩
theorem OpR.imp {f : Value → Value → Sem Value} {r r' : R2} (h : OpR X f r) (k : ∀ x y H Q, r' x y H Q → r x y H Q) : OpR X f r' := fun pins s σ H x y v u Q I a b q => h pins s σ H x y v u Q I a b (k x y H Q q)
/-- a sub-expression in its place -/
theorem TEx.sub {f : FE} {g : Val → M β} {w : Wd} {env : Env} {σ : St} {H : Hp} {S : Store} {P : β → Store → Prop} {R : VK} (hE : EnvR G w env σ) (hR : Rl G w H S) (h : Res G E w (bnd (f env) g S) P)
    (k : ∀ x v H1 w1 S1, w.le w1 → Rl G w1 H1 S1 → VR G w1 x v → Res G E w1 (g x S1) P → R v H1) : TEx G E f σ H R :=
  ⟨w, env, S, hE, hR, h.bnd.imp fun x S1 q v H1 w1 l R1 r => k x v H1 w1 S1 l R1 r (q.mono l fun _ _ z => z)⟩
theorem TTx.sub {f : FB} {g : Bool → M β} {w : Wd} {env : Env} {σ : St} {H : Hp} {S : Store} {P : β → Store → Prop} {R : Bool → Hp → Prop} (hE : EnvR G w env σ) (hR : Rl G w H S) (h : Res G E w (bnd (f env) g S) P)
    (k : ∀ x H1 w1 S1, w.le w1 → Rl G w1 H1 S1 → Res G E w1 (g x S1) P → R x H1) : TTx G E f σ H R :=
  ⟨w, env, S, hE, hR, h.bnd.imp fun x S1 q H1 w1 l R1 => k x H1 w1 S1 l R1 (q.mono l fun _ _ z => z)⟩
theorem TAx.sub {f : FA} {g : List Val → M β} {w : Wd} {env : Env} {σ : St} {H : Hp} {S : Store} {P : β → Store → Prop} {R : List V → Hp → Prop} (hE : EnvR G w env σ) (hR : Rl G w H S) (h : Res G E w (bnd (f env) g S) P)
    (k : ∀ x v H1 w1 S1, w.le w1 → Rl G w1 H1 S1 → VRs G w1 x v → Res G E w1 (g x S1) P → R v H1) : TAx G E f σ H R :=
  ⟨w, env, S, hE, hR, h.bnd.imp fun x S1 q v H1 w1 l R1 r => k x v H1 w1 S1 l R1 r (q.mono l fun _ _ z => z)⟩

/-! ### names, constants -/
def fVar (i : Nat) : FE := fun env => lift ((env[i]?).join)
theorem qe_var {i : Nat} {x : Str} {pos : Pos} (h : PE X (.Name x pos) (tVar i)) : QE X G E (.Name x pos) (fVar i) := PE.imp h fun σ H Q ⟨w, env, S, hE, hR, h⟩ => by
  unfold fVar lift at h
  cases e : env[i]? with
  | none => rw [e] at h; exact h.elim
  | some o =>
    cases o with
    | none => rw [e] at h; exact h.elim
    | some x =>
      rw [e] at h
      obtain ⟨v, h1, h2⟩ := hE.2 i x e
      exact ⟨v, h1, h v H w (Wd.le.refl w) hR h2⟩
def fC (x : D) : FE := fun _ => ret (.d x)
theorem qe_const {e : Expr} {x : D} {v : V} (h : PE X e (tC v)) (r : ∀ H, Rep G H x v) : QE X G E e (fC x) := PE.imp h fun σ H Q ⟨w, env, S, hE, hR, h⟩ => h v H w (Wd.le.refl w) hR (r w.F)
theorem qe_int {i j pos} : QE X G E (.Constant (.int i) j pos) (fC (.int i)) := qe_const pe_int fun _ => rfl
theorem qe_bl {b j pos} : QE X G E (.Constant (.bool b) j pos) (fC (.bl b)) := qe_const pe_bl fun _ => rfl
theorem qe_non {j pos} : QE X G E (.Constant .none j pos) (fC .non) := qe_const pe_non fun _ => rfl
theorem qe_str {x j pos} : QE X G E (.Constant (.str x) j pos) (fC (.str x)) := qe_const pe_str fun _ => rfl
/-- nothing is said of it: it is not run -/
def fStk {α : Type} : Env → M α := fun _ _ => none
theorem qe_stk {e : Expr} : QE X G E e fStk := ⟨fun _ _ _ _ _ _ ⟨_, _, _, _, _, h⟩ => h.elim⟩

/-! ### operators on values -/
def rOp (G : Gx) (E : XK) (op : Val → Val → M Val) : R2 := fun v u H Q => ∃ w S x y, Rl G w H S ∧ VR G w x v ∧ VR G w y u ∧ Res G E w (op x y S) (VP G w Q)
def rOpF (G : Gx) (E : XK) (op : Val → Val → M (List Val)) : R2 := fun v u H Q => ∃ w S x y, Rl G w H S ∧ VR G w x v ∧ VR G w y u ∧ Res G E w (op x y S) (FP G w Q)
def fBin (op : Val → Val → M α) (fa fb : FE) : Env → M α := fun env => bnd (fa env) fun x => bnd (fb env) fun y => op x y
theorem tOp_of {op : Val → Val → M Val} {fa fb : FE} {σ : St} {H : Hp} {Q : VK} (h : TEx G E (fBin op fa fb) σ H Q) : tOp (rOp G E op) (TEx G E fa) (TEx G E fb) σ H Q := by
  obtain ⟨w, env, S, hE, hR, h⟩ := h
  refine TEx.sub hE hR h fun x v H1 w1 S1 l R1 r q => ?_
  refine TEx.sub (hE.mono l) R1 q fun y u H2 w2 S2 l2 R2 r2 q2 => ?_
  exact ⟨w2, S2, x, y, R2, r.mono l2, r2, q2.imp fun _ _ z => (z.mono l).mono l2⟩
theorem tOp_ofF {op : Val → Val → M (List Val)} {fa fb : FE} {σ : St} {H : Hp} {Q : VK} (h : TFx G E (fBin op fa fb) σ H Q) : tOp (rOpF G E op) (TEx G E fa) (TEx G E fb) σ H Q := by
  obtain ⟨w, env, S, hE, hR, h⟩ := h
  refine TEx.sub hE hR h fun x v H1 w1 S1 l R1 r q => ?_
  refine TEx.sub (hE.mono l) R1 q fun y u H2 w2 S2 l2 R2 r2 q2 => ?_
  exact ⟨w2, S2, x, y, R2, r.mono l2, r2, q2.imp fun _ _ z => (z.mono l).mono l2⟩
theorem qe_bin {a b : Expr} {op : Operator} {pos : Pos} {fa fb : FE} {o : Val → Val → M Val} (h : OpR X (binaryOp op) (rOp G E o)) (ha : QE X G E a fa) (hb : QE X G E b fb) : QE X G E (.BinOp a op b pos) (fBin o fa fb) :=
  PE.imp (pe_op h ha hb) fun _ _ _ => tOp_of
theorem qf_bin {a b : Expr} {op : Operator} {pos : Pos} {fa fb : FE} {o : Val → Val → M (List Val)} (h : OpR X (binaryOp op) (rOpF G E o)) (ha : QE X G E a fa) (hb : QE X G E b fb) : QF X G E (.BinOp a op b pos) (fBin o fa fb) :=
  PE.imp (pe_op h ha hb) fun _ _ _ => tOp_ofF
theorem qe_cmp {a b : Expr} {op : CmpOp} {pos : Pos} {fa fb : FE} {o : Val → Val → M Val} (h : OpR X (compareOp op) (rOp G E o)) (ha : QE X G E a fa) (hb : QE X G E b fb) (hm : behindInMarks op b = false) : QE X G E (.Compare a [op] [b] pos) (fBin o fa fb) :=
  PE.imp (pe_cmpR h ha hb hm) fun _ _ _ => tOp_of
/-- as a test -/
def asB : Val → M Bool
  | .d (.bl b) => ret b
  | _ => stk
def fT (f : FE) : FB := fun env => bnd (f env) asB
theorem asB_inv {w : Wd} {x : Val} {S : Store} {P : Bool → Store → Prop} (h : Res G E w (asB x S) P) : ∃ b, x = .d (.bl b) ∧ P b S := by
  cases x with
  | r i => exact h.elim
  | d x =>
    cases x with
    | bl b => exact ⟨b, rfl, h⟩
    | _ => exact h.elim
/-- two ints, or nothing -/
def asI : Val → Option Int
  | .d (.int i) => some i
  | _ => none
theorem asI_inv {x : Val} {i : Int} (h : asI x = some i) : x = .d (.int i) := by
  cases x with
  | r i => cases h
  | d x =>
    cases x with
    | int j => cases h; rfl
    | _ => cases h
theorem TTx.of {f : FE} {σ : St} {H : Hp} {Q : Bool → Hp → Prop} (h : TTx G E (fT f) σ H Q) : TEx G E f σ H (fun x H1 => ∃ k, x = .bl k ∧ Q k H1) := by
  obtain ⟨w, env, S, hE, hR, h⟩ := h
  refine TEx.sub hE hR h fun x v H1 w1 S1 l R1 r q => ?_
  obtain ⟨b, rfl, q⟩ := asB_inv q
  exact ⟨b, r, q _ w1 l R1⟩
theorem qt_cmp {a b : Expr} {op : CmpOp} {pos : Pos} {fa fb : FE} {o : Val → Val → M Val} (h : OpR X (compareOp op) (rOp G E o)) (ha : QE X G E a fa) (hb : QE X G E b fb) (hm : behindInMarks op b = false) : QT X G E (.Compare a [op] [b] pos) (fT (fBin o fa fb)) :=
  PT.imp (pt_cmpR h ha hb hm) fun _ _ _ q => tOp_of (TTx.of q)
theorem qt_val {e : Expr} {f : FE} (h : QE X G E e f) (he : ∀ whole, isTrue e X.env whole = (do let v ← whole; standAt e.pos; holding [v] (truthy v)) := by intro _; rfl) : QT X G E e (fT f) :=
  PT.imp (pt_val h he) fun _ _ _ q => TTx.of q
theorem qt_stk {e : Expr} : QT X G E e fStk := ⟨fun _ _ _ _ _ _ ⟨_, _, _, _, _, h⟩ => h.elim⟩

/-! ints -/
def oI2 (k : Int → Int → M Val) : Val → Val → M Val := fun x y => match asI x, asI y with
  | some i, some j => k i j
  | _, _ => stk
theorem oI2_inv {k : Int → Int → M Val} {x y : Val} {w : Wd} {S : Store} {P : Val → Store → Prop} (h : Res G E w (oI2 k x y S) P) : ∃ i j, x = .d (.int i) ∧ y = .d (.int j) ∧ Res G E w (k i j S) P := by
  unfold oI2 at h
  cases e1 : asI x with
  | none => rw [e1] at h; exact h.elim
  | some i =>
    cases e2 : asI y with
    | none => rw [e1, e2] at h; exact h.elim
    | some j => rw [e1, e2] at h; exact ⟨i, j, asI_inv e1, asI_inv e2, h⟩
def oInt (g : Int → Int → Int) : Val → Val → M Val := oI2 fun i j => ret (.d (.int (g i j)))
def oIntC (C : Int → Int → Bool) (g : Int → Int → Int) : Val → Val → M Val := oI2 fun i j => if C i j = true then ret (.d (.int (g i j))) else stk
def oCmp (g : Int → Int → Bool) : Val → Val → M Val := oI2 fun i j => ret (.d (.bl (g i j)))
theorem opI_of {f : Value → Value → Sem Value} {g : Int → Int → Int} (h : OpR X f (rI0 fun i j => .int (g i j))) : OpR X f (rOp G E (oInt g)) := OpR.imp h fun v u H Q ⟨w, S, x, y, R, r1, r2, q⟩ => by
  obtain ⟨i, j, rfl, rfl, q⟩ := oI2_inv q
  exact ⟨i, j, r1, r2, q.ok _ H w (Wd.le.refl w) R rfl⟩
theorem opIC_of {f : Value → Value → Sem Value} {C : Int → Int → Bool} {C' : Int → Int → Prop} {g : Int → Int → Int} (h : OpR X f (rI C' fun i j => .int (g i j))) (k : ∀ i j, C i j = true → C' i j) : OpR X f (rOp G E (oIntC C g)) := OpR.imp h fun v u H Q ⟨w, S, x, y, R, r1, r2, q⟩ => by
  obtain ⟨i, j, rfl, rfl, q2⟩ := oI2_inv q
  by_cases c : C i j = true
  · rw [if_pos c] at q2
    exact ⟨i, j, r1, r2, k i j c, q2.ok _ H w (Wd.le.refl w) R rfl⟩
  · rw [if_neg c] at q2
    exact q2.elim
theorem opB_of {f : Value → Value → Sem Value} {g : Int → Int → Bool} (h : OpR X f (rI0 fun i j => .bl (g i j))) : OpR X f (rOp G E (oCmp g)) := OpR.imp h fun v u H Q ⟨w, S, x, y, R, r1, r2, q⟩ => by
  obtain ⟨i, j, rfl, rfl, q⟩ := oI2_inv q
  exact ⟨i, j, r1, r2, q.ok _ H w (Wd.le.refl w) R rfl⟩
def cMul (i j : Int) : Bool := (decide (-(2 ^ 64) < i) && decide (i < 2 ^ 64)) || (decide (-(2 ^ 64) < j) && decide (j < 2 ^ 64))
abbrev oAdd := oInt fun i j => i + j
abbrev oSub := oInt fun i j => i - j
abbrev oMul := oIntC cMul fun i j => i * j
abbrev oMod := oIntC (fun _ j => decide (0 < j)) fun i j => i % j
abbrev oDiv := oIntC (fun _ j => decide (0 < j) && decide (j < 1073741824)) fun i j => i / j
abbrev oLt := oCmp fun i j => decide (i < j)
abbrev oLe := oCmp fun i j => decide (i ≤ j)
abbrev oGt := oCmp fun i j => decide (j < i)
abbrev oGe := oCmp fun i j => decide (j ≤ i)
theorem q_add : OpR X (binaryOp .Add) (rOp G E oAdd) := opI_of op_add
theorem q_sub : OpR X (binaryOp .Sub) (rOp G E oSub) := opI_of op_sub
theorem q_mul : OpR X (binaryOp .Mult) (rOp G E oMul) := opIC_of op_mul fun i j c => by
  unfold cMul at c
  simp only [Bool.or_eq_true, Bool.and_eq_true, decide_eq_true_eq] at c
  exact c
theorem q_mod : OpR X (binaryOp .Mod) (rOp G E oMod) := opIC_of op_mod fun i j c => of_decide_eq_true c
theorem q_div : OpR X (binaryOp .FloorDiv) (rOp G E oDiv) := opIC_of op_fdiv fun i j c => by
  simp only [Bool.and_eq_true, decide_eq_true_eq] at c
  exact c
theorem q_lt : OpR X (compareOp .Lt) (rOp G E oLt) := opB_of op_lt
theorem q_le : OpR X (compareOp .LtE) (rOp G E oLe) := opB_of op_le
theorem q_gt : OpR X (compareOp .Gt) (rOp G E oGt) := opB_of op_gt
theorem q_ge : OpR X (compareOp .GtE) (rOp G E oGe) := opB_of op_ge

/-! equality of data -/
mutual
def D.toP : D → Option PyData
  | .non => some .none
  | .bl b => some (.bool b)
  | .int i => some (.int i)
  | .str s => some (.str s)
  | .tup ds => (D.toPs ds).map .tuple
  | .lst ds => (D.toPs ds).map .list
  | .dct _ _ => none
  | .fn _ => none
  | .ro _ => none
def D.toPs : List D → Option (List PyData)
  | [] => some []
  | d :: ds => match D.toP d, D.toPs ds with
    | some a, some b => some (a :: b)
    | _, _ => none
end
mutual
theorem Rep.dp {H H' : Hp} (e : Same H H') : ∀ {d : D} {v : V} {p : PyData}, Rep G H d v → d.toP = some p → Dp G.K H' v p
  | .non, v, p, h, k => by cases k; rw [show v = _ from h]; exact .non
  | .bl b, v, p, h, k => by cases k; rw [show v = _ from h]; exact .bl b
  | .int i, v, p, h, k => by cases k; rw [show v = _ from h]; exact .int i
  | .str s, v, p, h, k => by cases k; rw [show v = _ from h]; exact .str s
  | .tup ds, v, p, ⟨a, vs, h1, h2, h3⟩, k => by
    unfold D.toP at k
    cases q : D.toPs ds with
    | none => rw [q] at k; cases k
    | some ps =>
      rw [q] at k
      cases k
      rw [h1]
      exact .tup (same_sqT e h2) (Reps.dp e h3 q)
  | .lst ds, v, p, ⟨a, vs, h1, h2, h3⟩, k => by
    unfold D.toP at k
    cases q : D.toPs ds with
    | none => rw [q] at k; cases k
    | some ps =>
      rw [q] at k
      cases k
      rw [h1]
      exact .lst (.inl (.inl (e _ _ h2))) (Reps.dp e h3 q)
  | .dct _ _, _, _, _, k => by unfold D.toP at k; cases k
  | .fn _, _, _, _, k => by unfold D.toP at k; cases k
  | .ro _, _, _, _, k => by unfold D.toP at k; cases k
theorem Reps.dp {H H' : Hp} (e : Same H H') : ∀ {ds : List D} {vs : List V} {ps : List PyData}, Reps G H ds vs → D.toPs ds = some ps → DpAll G.K H' vs ps
  | [], vs, ps, h, k => by cases k; rw [show vs = _ from h]; exact .nil
  | d :: ds, vs, ps, ⟨v, r, h1, h2, h3⟩, k => by
    unfold D.toPs at k
    cases q1 : d.toP with
    | none => rw [q1] at k; cases k
    | some a =>
      cases q2 : D.toPs ds with
      | none => rw [q1, q2] at k; cases k
      | some b =>
        rw [q1, q2] at k
        cases k
        rw [h1]
        exact .cons (Rep.dp e h2 q1) (Reps.dp e h3 q2)
end
/-- == where it is told -/
def eqD (a b : D) : Option Bool := match a.toP, b.toP with
  | some p, some q => if (SeqAt.shaped p && SeqAt.shaped q) = true then some (PyData.eqv p q) else none
  | _, _ => none
def asD : Val → Option D
  | .d x => some x
  | .r _ => none
theorem asD_inv {x : Val} {a : D} (h : asD x = some a) : x = .d a := by
  cases x with
  | r i => cases h
  | d x => cases h; rfl
def oEq (neg : Bool) : Val → Val → M Val := fun x y => match asD x, asD y with
  | some a, some b => lift ((eqD a b).map fun k => .d (.bl (k != neg)))
  | _, _ => stk
theorem oEq_inv {neg : Bool} {x y : Val} {w : Wd} {S : Store} {P : Val → Store → Prop} (h : Res G E w (oEq neg x y S) P) : ∃ a b k, x = .d a ∧ y = .d b ∧ eqD a b = some k ∧ P (.d (.bl (k != neg))) S := by
  unfold oEq at h
  cases e1 : asD x with
  | none => rw [e1] at h; exact h.elim
  | some a =>
    cases e2 : asD y with
    | none => rw [e1, e2] at h; exact h.elim
    | some b =>
      rw [e1, e2] at h
      unfold lift at h
      cases e : eqD a b with
      | none => dsimp only at h; rw [e] at h; exact h.elim
      | some k => dsimp only at h; rw [e] at h; exact ⟨a, b, k, asD_inv e1, asD_inv e2, e, h⟩
theorem eqD_dp {a b : D} {k : Bool} (h : eqD a b = some k) : ∃ p q, a.toP = some p ∧ b.toP = some q ∧ SeqAt.shaped p = true ∧ SeqAt.shaped q = true ∧ PyData.eqv p q = k := by
  unfold eqD at h
  cases e1 : a.toP with
  | none => rw [e1] at h; cases h
  | some p =>
    cases e2 : b.toP with
    | none => rw [e1, e2] at h; cases h
    | some q =>
      rw [e1, e2] at h
      dsimp only at h
      split at h
      · rename_i c
        rw [Bool.and_eq_true] at c
        exact ⟨p, q, rfl, rfl, c.1, c.2, Option.some.inj h⟩
      · cases h
theorem q_eq (hK : X.K = G.K) (hu : X.A.units + 64 < cLine) : OpR X (compareOp .Eq) (rOp G E (oEq false)) := OpR.imp (op_eqD hu) fun v u H Q ⟨w, S, x, y, R, r1, r2, q⟩ => by
  obtain ⟨a, b, k, rfl, rfl, e, q⟩ := oEq_inv q
  obtain ⟨p1, p2, e1, e2, s1, s2, e3⟩ := eqD_dp e
  rw [hK]
  exact ⟨p1, p2, Rep.dp R.fz r1 e1, Rep.dp R.fz r2 e2, s1, s2, q _ H w (Wd.le.refl w) R (by rw [e3]; show _ = V.bl (k != false); cases k <;> rfl)⟩
theorem q_ne (hK : X.K = G.K) (hu : X.A.units + 64 < cLine) : OpR X (compareOp .NotEq) (rOp G E (oEq true)) := OpR.imp (op_neD hu) fun v u H Q ⟨w, S, x, y, R, r1, r2, q⟩ => by
  obtain ⟨a, b, k, rfl, rfl, e, q⟩ := oEq_inv q
  obtain ⟨p1, p2, e1, e2, s1, s2, e3⟩ := eqD_dp e
  rw [hK]
  exact ⟨p1, p2, Rep.dp R.fz r1 e1, Rep.dp R.fz r2 e2, s1, s2, q _ H w (Wd.le.refl w) R (by rw [e3]; show _ = V.bl (k != true); cases k <;> rfl)⟩
/-- is None, is not None -/
def isNon : Val → Option Bool
  | .d .non => some true
  | .d (.fn _) => none
  | .d (.ro _) => none
  | _ => some false
theorem isNon_inv {x : Val} {k : Bool} {v : V} {w : Wd} (h : isNon x = some k) (r : VR G w x v) : k = decide (v = .non) := by
  cases x with
  | r i =>
    cases h
    rw [show v = _ from r.2]
    rfl
  | d x =>
    cases x with
    | non => cases h; rw [show v = _ from r]; rfl
    | fn f => cases h
    | ro f => cases h
    | bl b => cases h; rw [show v = _ from r]; rfl
    | int b => cases h; rw [show v = _ from r]; rfl
    | str b => cases h; rw [show v = _ from r]; rfl
    | tup b => cases h; obtain ⟨a, vs, e, _⟩ := r; rw [e]; rfl
    | lst b => cases h; obtain ⟨a, vs, e, _⟩ := r; rw [e]; rfl
    | dct b _ => cases h; obtain ⟨a, vs, e, _⟩ := r; rw [e]; rfl
def fIsN (neg : Bool) (fa : FE) : FE := fun env => bnd (fa env) fun x => lift ((isNon x).map fun k => .d (.bl (k != neg)))
theorem isN_res {neg : Bool} {fa : FE} {σ : St} {H : Hp} {Q : VK} (h : TEx G E (fIsN neg fa) σ H Q) : TEx G E fa σ H fun x H1 => Q (.bl (decide (x = .non) != neg)) H1 := by
  obtain ⟨w, env, S, hE, hR, h⟩ := h
  refine TEx.sub hE hR h fun x v H1 w1 S1 l R1 r q => ?_
  unfold lift at q
  cases e : isNon x with
  | none => rw [e] at q; exact q.elim
  | some k =>
    rw [e] at q
    rw [← isNon_inv e r]
    exact q _ H1 w1 l R1 rfl
theorem qe_isN {a : Expr} {fa : FE} {j pos pos'} (ha : QE X G E a fa) : QE X G E (.Compare a [.Is] [.Constant .none j pos'] pos) (fIsN false fa) :=
  PE.imp (pe_cmp (pc_isN ha)) fun _ _ Q h => (isN_res h : TEx G E fa _ _ _) |> fun ⟨w, env, S, a, b, c⟩ => ⟨w, env, S, a, b, c.imp fun _ _ z v H' w' l R r => by
    have q := z v H' w' l R r
    dsimp only at q
    rw [Bool.bne_false] at q
    exact q⟩
theorem qe_notN {a : Expr} {fa : FE} {j pos pos'} (ha : QE X G E a fa) : QE X G E (.Compare a [.IsNot] [.Constant .none j pos'] pos) (fIsN true fa) :=
  PE.imp (pe_cmp (pc_notN ha)) fun _ _ Q h => (isN_res h : TEx G E fa _ _ _) |> fun ⟨w, env, S, a, b, c⟩ => ⟨w, env, S, a, b, c.imp fun _ _ z v H' w' l R r => by
    have q := z v H' w' l R r
    dsimp only at q
    rw [Bool.bne_true] at q
    exact q⟩
theorem qt_isN {a : Expr} {fa : FE} {j pos pos'} (ha : QE X G E a fa) : QT X G E (.Compare a [.Is] [.Constant .none j pos'] pos) (fT (fIsN false fa)) :=
  PT.imp (pt_cmp (pc_isN ha)) fun _ _ Q h => (isN_res (TTx.of h) : TEx G E fa _ _ _) |> fun ⟨w, env, S, a, b, c⟩ => ⟨w, env, S, a, b, c.imp fun _ _ z v H' w' l R r => by
    have q := z v H' w' l R r
    dsimp only at q
    rw [Bool.bne_false] at q
    exact q⟩
theorem qt_notN {a : Expr} {fa : FE} {j pos pos'} (ha : QE X G E a fa) : QT X G E (.Compare a [.IsNot] [.Constant .none j pos'] pos) (fT (fIsN true fa)) :=
  PT.imp (pt_cmp (pc_notN ha)) fun _ _ Q h => (isN_res (TTx.of h) : TEx G E fa _ _ _) |> fun ⟨w, env, S, a, b, c⟩ => ⟨w, env, S, a, b, c.imp fun _ _ z v H' w' l R r => by
    have q := z v H' w' l R r
    dsimp only at q
    rw [Bool.bne_true] at q
    exact q⟩

/-! ### and, or, not, if else -/
variable {a b c : Expr} {rest : List Expr} {pos : Pos} {fa fb fc : FE} {ga gb : FB}
def fAnd (fa fb : FE) : FE := fun env => bnd (fT fa env) fun k => if k = true then fb env else ret (.d (.bl false))
def fOr (fa fb : FE) : FE := fun env => bnd (fT fa env) fun k => if k = true then ret (.d (.bl true)) else fb env
def fNot (fa : FE) : FE := fun env => bnd (fT fa env) fun k => ret (.d (.bl (!k)))
def gAnd (ga gb : FB) : FB := fun env => bnd (ga env) fun k => if k = true then gb env else ret false
def gOr (ga gb : FB) : FB := fun env => bnd (ga env) fun k => if k = true then ret true else gb env
def gNot (ga : FB) : FB := fun env => bnd (ga env) fun k => ret (!k)
def fIf (gc : FB) (fa fb : Env → M α) : Env → M α := fun env => bnd (gc env) fun k => if k = true then fa env else fb env
theorem qe_one {op} (h : QE X G E a fa) : QE X G E (.BoolOp op [a] pos) fa := pe_one h
theorem subB {f : FE} {g : Bool → M β} {w : Wd} {env : Env} {σ : St} {H : Hp} {S : Store} {P : β → Store → Prop} {R : VK} (hE : EnvR G w env σ) (hR : Rl G w H S) (h : Res G E w (bnd (fT f env) g S) P)
    (k : ∀ b H1 w1 S1, w.le w1 → Rl G w1 H1 S1 → Res G E w1 (g b S1) P → R (.bl b) H1) : TEx G E f σ H R := by
  have h2 := h.bnd
  unfold fT at h2
  refine TEx.sub hE hR h2 fun x v H1 w1 S1 l R1 r q => ?_
  obtain ⟨b, rfl, q2⟩ := asB_inv q
  rw [show v = .bl b from r]
  have q3 : Res G E w (g b S1) P := q2
  exact k b H1 w1 S1 l R1 (q3.mono l fun _ _ z => z)
theorem qe_and (ha : QE X G E a fa) (hb : QE X G E (.BoolOp .And (b :: rest) pos) fb) : QE X G E (.BoolOp .And (a :: b :: rest) pos) (fAnd fa fb) :=
  PE.imp (pe_and ha hb) fun σ H Q ⟨w, env, S, hE, hR, h⟩ => subB hE hR h fun k H1 w1 S1 l R1 q => ⟨k, rfl, by
    cases k with
    | true => rw [if_pos rfl]; exact ⟨w1, env, S1, hE.mono l, R1, q.imp fun _ _ z => z.mono l⟩
    | false => rw [if_neg (by decide)]; exact q _ H1 w1 l R1 rfl⟩
theorem qe_or (ha : QE X G E a fa) (hb : QE X G E (.BoolOp .Or (b :: rest) pos) fb) : QE X G E (.BoolOp .Or (a :: b :: rest) pos) (fOr fa fb) :=
  PE.imp (pe_or ha hb) fun σ H Q ⟨w, env, S, hE, hR, h⟩ => subB hE hR h fun k H1 w1 S1 l R1 q => ⟨k, rfl, by
    cases k with
    | false => rw [if_neg (by decide)]; exact ⟨w1, env, S1, hE.mono l, R1, q.imp fun _ _ z => z.mono l⟩
    | true => rw [if_pos rfl]; exact q _ H1 w1 l R1 rfl⟩
theorem qe_not (ha : QE X G E a fa) : QE X G E (.UnaryOp .Not a pos) (fNot fa) :=
  PE.imp (pe_not ha) fun σ H Q ⟨w, env, S, hE, hR, h⟩ => subB hE hR h fun k H1 w1 S1 l R1 q => ⟨k, rfl, q _ H1 w1 l R1 rfl⟩
abbrev QW (X : Cx) (G : Gx) (E : XK) (e : Expr) (f : FB) : Prop := PW X e (TTx G E f)
theorem qw_and1 (h : QT X G E a ga) : QW X G E (.BoolOp .And [a] pos) ga := pw_and1 h
theorem qw_or1 (h : QT X G E a ga) : QW X G E (.BoolOp .Or [a] pos) ga := pw_or1 h
theorem qw_and (ha : QT X G E a ga) (hb : QW X G E (.BoolOp .And (b :: rest) pos) gb) : QW X G E (.BoolOp .And (a :: b :: rest) pos) (gAnd ga gb) :=
  PW.imp (pw_and ha hb) fun σ H Q ⟨w, env, S, hE, hR, h⟩ => TTx.sub hE hR h fun k H1 w1 S1 l R1 q => by
    cases k with
    | true => rw [if_pos rfl]; exact ⟨w1, env, S1, hE.mono l, R1, q.imp fun _ _ z => z.mono l⟩
    | false => rw [if_neg (by decide)]; exact q H1 w1 l R1
theorem qw_or (ha : QT X G E a ga) (hb : QW X G E (.BoolOp .Or (b :: rest) pos) gb) : QW X G E (.BoolOp .Or (a :: b :: rest) pos) (gOr ga gb) :=
  PW.imp (pw_or ha hb) fun σ H Q ⟨w, env, S, hE, hR, h⟩ => TTx.sub hE hR h fun k H1 w1 S1 l R1 q => by
    cases k with
    | false => rw [if_neg (by decide)]; exact ⟨w1, env, S1, hE.mono l, R1, q.imp fun _ _ z => z.mono l⟩
    | true => rw [if_pos rfl]; exact q H1 w1 l R1
theorem qt_w {f : FB} (h : QW X G E a f) : QT X G E a f := h.pt
theorem qt_not (ha : QT X G E a ga) : QT X G E (.UnaryOp .Not a pos) (gNot ga) :=
  PT.imp (pt_not ha) fun σ H Q ⟨w, env, S, hE, hR, h⟩ => TTx.sub hE hR h fun k H1 w1 S1 l R1 q => q H1 w1 l R1
theorem qe_if (hc : QT X G E c ga) (ha : QE X G E a fa) (hb : QE X G E b fb) : QE X G E (.IfExp c a b pos) (fIf ga fa fb) :=
  PE.imp (pe_ifExp hc ha hb) fun σ H Q ⟨w, env, S, hE, hR, h⟩ => TTx.sub hE hR h fun k H1 w1 S1 l R1 q => by
    cases k with
    | true => rw [if_pos rfl]; exact ⟨w1, env, S1, hE.mono l, R1, q.imp fun _ _ z => z.mono l⟩
    | false => rw [if_neg (by decide)]; exact ⟨w1, env, S1, hE.mono l, R1, q.imp fun _ _ z => z.mono l⟩
theorem qf_if {fa fb : FA} (hc : QT X G E c ga) (ha : QF X G E a fa) (hb : QF X G E b fb) : QF X G E (.IfExp c a b pos) (fIf ga fa fb) :=
  PE.imp (pe_ifExp hc ha hb) fun σ H Q ⟨w, env, S, hE, hR, h⟩ => TTx.sub hE hR h fun k H1 w1 S1 l R1 q => by
    cases k with
    | true => rw [if_pos rfl]; exact ⟨w1, env, S1, hE.mono l, R1, q.imp fun _ _ z => z.mono l⟩
    | false => rw [if_neg (by decide)]; exact ⟨w1, env, S1, hE.mono l, R1, q.imp fun _ _ z => z.mono l⟩
/-- chains: a op b op' c -/
def fChain (o o' : Val → Val → M Val) (fa fb fc : FE) : FE := fun env => bnd (fa env) fun x => bnd (fb env) fun y => bnd (bnd (o x y) asB) fun k => if k = true then bnd (fc env) fun z => o' y z else ret (.d (.bl false))
theorem chain_of {o o' : Val → Val → M Val} {σ : St} {H : Hp} {Q : VK} (h : TEx G E (fChain o o' fa fb fc) σ H Q) : tChain (rOp G E o) (rOp G E o') (TEx G E fa) (TEx G E fb) (TEx G E fc) σ H Q := by
  obtain ⟨w, env, S, hE, hR, h⟩ := h
  refine TEx.sub hE hR h fun x v H1 w1 S1 l R1 r q => ?_
  refine TEx.sub (hE.mono l) R1 q fun y u H2 w2 S2 l2 R2 r2 q2 => ?_
  refine ⟨w2, S2, x, y, R2, r.mono l2, r2, q2.bnd.bnd.imp fun z S3 q3 t H3 w3 l3 R3 r3 => ?_⟩
  obtain ⟨k, rfl, q5⟩ := asB_inv q3
  refine ⟨k, r3, ?_⟩
  cases k with
  | false =>
    rw [if_neg (by decide)] at q5 ⊢
    exact q5.ok _ H3 w3 ((l.trans l2).trans l3) R3 rfl
  | true =>
    rw [if_pos rfl] at q5 ⊢
    have q6 := q5.mono l3 fun _ _ z => z
    refine TEx.sub (hE.mono ((l.trans l2).trans l3)) R3 q6 fun z t H4 w4 S4 l4 R4 r4 q4 => ?_
    exact ⟨w4, S4, y, z, R4, (r2.mono l3).mono l4, r4, q4.imp fun _ _ z => z.mono (((l.trans l2).trans l3).trans l4)⟩
theorem qe_chain {op op' : CmpOp} {o o' : Val → Val → M Val} (ho : OpR X (compareOp op) (rOp G E o)) (ho' : OpR X (compareOp op') (rOp G E o')) (ha : QE X G E a fa) (hb : QE X G E b fb) (hc : QE X G E c fc)
    (hm : lastMarks [op, op'] [b, c] = false := by with_unfolding_all rfl) : QE X G E (.Compare a [op, op'] [b, c] pos) (fChain o o' fa fb fc) := PE.imp (pe_chain ho ho' ha hb hc hm) fun _ _ _ => chain_of
theorem qt_chain {op op' : CmpOp} {o o' : Val → Val → M Val} (ho : OpR X (compareOp op) (rOp G E o)) (ho' : OpR X (compareOp op') (rOp G E o')) (ha : QE X G E a fa) (hb : QE X G E b fb) (hc : QE X G E c fc)
    (hm : lastMarks [op, op'] [b, c] = false := by with_unfolding_all rfl) : QT X G E (.Compare a [op, op'] [b, c] pos) (fT (fChain o o' fa fb fc)) := PT.imp (pt_chain ho ho' ha hb hc hm) fun _ _ _ q => chain_of (TTx.of q)
end Y

set_option Elab.async false
set_option linter.all false
set_option maxRecDepth 100000
set_option maxHeartbeats 4000000
namespace Y
open PySem PySem.Spec L2
variable {G : Gx} {E : XK} {X : Cx}

/-! ### sequences -/
/-- the items of a list (plain, or of the store) -/
def lstV : Val → Store → Option (List Val)
  | .d (.lst ds), _ => some (ds.map .d)
  | .r i, S => match S[i]? with
    | some (.lst xs) => some xs
    | _ => none
  | _, _ => none
/-- of a list or a tuple -/
def seqV : Val → Store → Option (List Val)
  | .d (.tup ds), _ => some (ds.map .d)
  | .d (.ro ns), _ => some (ns.map fun n => .d (.int n))
  | x, S => lstV x S
theorem lstV_of {w : Wd} {H : Hp} {S : Store} {x : Val} {v : V} {xs : List Val} (R : Rl G w H S) (r : VR G w x v) (h : lstV x S = some xs) : ∃ a vs, v = .ref a ∧ H a = some (.lst vs) ∧ VRs G w xs vs := by
  cases x with
  | d x =>
    cases x with
    | lst ds =>
      cases h
      obtain ⟨a, vs, h1, h2, h3⟩ := r
      exact ⟨a, vs, h1, R.fz _ _ h2, Reps.vrs h3⟩
    | _ => cases h
  | r i =>
    unfold lstV at h
    cases e : S[i]? with
    | none => dsimp only at h; rw [e] at h; cases h
    | some o =>
      dsimp only at h
      rw [e] at h
      cases o with
      | lst ys =>
        cases h
        obtain ⟨_, vs, h2, h3⟩ := R.ob i _ e
        exact ⟨_, vs, r.2, h2, h3⟩
      | _ => cases h
theorem ints_vrs {w : Wd} : ∀ ns : List Int, VRs G w (ns.map fun n => .d (.int n)) (ns.map V.int)
  | [] => rfl
  | n :: r => ⟨_, _, rfl, rfl, ints_vrs r⟩
theorem seqV_of {w : Wd} {H : Hp} {S : Store} {x : Val} {v : V} {xs : List Val} (R : Rl G w H S) (r : VR G w x v) (h : seqV x S = some xs) : ∃ a vs, v = .ref a ∧ (SqL G.K H a vs ∨ SqT G.K H a vs) ∧ VRs G w xs vs := by
  have go : lstV x S = some xs → ∃ a vs, v = .ref a ∧ (SqL G.K H a vs ∨ SqT G.K H a vs) ∧ VRs G w xs vs := fun h => by
    obtain ⟨a, vs, h1, h2, h3⟩ := lstV_of R r h
    exact ⟨a, vs, h1, .inl (SqL.of h2), h3⟩
  cases x with
  | r i => exact go h
  | d x =>
    cases x with
    | tup ds =>
      cases h
      obtain ⟨a, vs, h1, h2, h3⟩ := r
      exact ⟨a, vs, h1, .inr (same_sqT R.fz h2), Reps.vrs h3⟩
    | ro ns =>
      cases h
      obtain ⟨a, h1, h2⟩ := r
      exact ⟨a, _, h1, .inl (R.fz.seq h2), ints_vrs ns⟩
    | lst ds => exact go h
    | _ => cases h
/-- a tuple's items -/
def tupV : Val → Option (List D)
  | .d (.tup ds) => some ds
  | _ => none
theorem tupV_of {w : Wd} {H : Hp} {S : Store} {x : Val} {v : V} {ds : List D} (R : Rl G w H S) (r : VR G w x v) (h : tupV x = some ds) : ∃ a vs, v = .ref a ∧ SqT G.K H a vs ∧ Reps G w.F ds vs := by
  cases x with
  | r i => cases h
  | d x =>
    cases x with
    | tup es =>
      cases h
      obtain ⟨a, vs, h1, h2, h3⟩ := r
      exact ⟨a, vs, h1, same_sqT R.fz h2, h3⟩
    | _ => cases h

/-! ### new objects -/
theorem Rl.newF {w : Wd} {H : Hp} {S : Store} {p : Addr} (R : Rl G w H S) (n : H p = none) : w.F p = none := R.fz.free n
theorem Rl.newS {w : Wd} {H : Hp} {S : Store} {p : Addr} (R : Rl G w H S) (n : H p = none) : ∀ i q, S[i]? = some q → q ≠ Ob.dead → w.ι i ≠ p := fun i q e l => by
  obtain ⟨_, u, h2, _⟩ := (R.ob i q e).live l
  exact ne_of_none h2 n
theorem FP.fresh {w w0 : Wd} {H : Hp} {S : Store} {Q : VK} {xs : List Val} {vs : List V} (h : FP G w0 Q xs S) (l : w0.le w) (R : Rl G w H S) (r : VRs G w xs vs) : ∀ p, H p = none → Q (.ref p) (upd H p (.lst vs)) := fun p n =>
  h p vs _ w l (R.laid n) upd_same (R.newF n) (R.newS n) (R.tp.free n) r
theorem VP.tup {w w0 : Wd} {H : Hp} {S : Store} {Q : VK} {ds : List D} {vs : List V} (h : VP G w0 Q (.d (.tup ds)) S) (l : w0.le w) (R : Rl G w H S) (r : Reps G w.F ds vs) : ∀ p, H p = none → Q (.ref p) (upd H p (.tup vs)) := fun p n =>
  have l2 : w.le (w.frz p (.tup vs)) := Wd.frz_le (R.newF n)
  h _ _ (w.frz p (.tup vs)) (l.trans l2) ((R.laid n).freeze upd_same (R.newF n) (R.newS n) (R.tp.free n)) ⟨p, vs, rfl, .inl (.inl upd_same), r.mono l2.1⟩
/-- a new list that is no one's becomes plain data, or an object of the store -/
def frz : List Val → M Val := fun xs => lift ((datas xs).map fun ds => .d (.lst ds))
def new : List Val → M Val := fun xs S => some (.ok (.r S.length), S ++ [.lst xs])
theorem FP.frz {w : Wd} {S : Store} {Q : VK} {xs : List Val} (h : Res G E w (frz xs S) (VP G w Q)) : FP G w Q xs S := fun a vs H' w' l R ha hf hl ht r => by
  unfold Y.frz lift at h
  cases e : datas xs with
  | none => rw [e] at h; exact h.elim
  | some ds =>
    rw [e] at h
    have l2 : w'.le (w'.frz a (.lst vs)) := Wd.frz_le hf
    have r2 := VRs.reps e r
    exact h _ H' (w'.frz a (.lst vs)) (l.trans l2) (R.freeze ha hf hl ht) ⟨a, vs, rfl, upd_same, r2.mono l2.1⟩
theorem FP.new {w : Wd} {S : Store} {Q : VK} {xs : List Val} (h : Res G E w (new xs S) (VP G w Q)) : FP G w Q xs S := fun a vs H' w' l R ha hf hl ht r => by
  have h2 : VP G w Q (.r S.length) (S ++ [.lst xs]) := h
  refine h2 _ H' (w'.join a) (l.trans Wd.join_le) (R.joins ⟨hf, vs, ha, r⟩ hl ht) ⟨?_, ?_⟩
  · show S.length < w'.n + 1
    rw [R.n]
    exact Nat.lt_succ_self _
  · show _ = V.ref (if S.length = w'.n then a else _)
    rw [if_pos R.n.symm]
def fFrz (f : FA) : FE := fun env => bnd (f env) frz
def fNew (f : FA) : FE := fun env => bnd (f env) new
theorem qe_frz {e : Expr} {f : FA} (h : QF X G E e f) : QE X G E e (fFrz f) := PE.imp h fun σ H Q ⟨w, env, S, hE, hR, h⟩ => ⟨w, env, S, hE, hR, h.bnd.imp fun _ _ z => FP.frz z⟩
theorem qe_new {e : Expr} {f : FA} (h : QF X G E e f) : QE X G E e (fNew f) := PE.imp h fun σ H Q ⟨w, env, S, hE, hR, h⟩ => ⟨w, env, S, hE, hR, h.bnd.imp fun _ _ z => FP.new z⟩

/-! ### displays -/
variable {a b c e : Expr} {es : List Expr} {pos : Pos} {fa fb : FE} {fs : FA}
def fNil : FA := fun _ => ret []
def fCons (fa : FE) (fs : FA) : FA := fun env => bnd (fa env) fun x => bnd (fs env) fun xs => ret (x :: xs)
theorem qa_nil : QA X G E [] fNil := PA.imp pa_nil fun σ H Q ⟨w, env, S, hE, hR, h⟩ => h [] H w (Wd.le.refl w) hR rfl
theorem qa_cons (ha : QE X G E e fa) (hr : QA X G E es fs) (hs : starEach (e :: es) X.env = (false, eval e X.env) :: starEach es X.env := by rfl) : QA X G E (e :: es) (fCons fa fs) :=
  PA.imp (pa_cons ha hr hs) fun σ H Q ⟨w, env, S, hE, hR, h⟩ => TEx.sub hE hR h fun x v H1 w1 S1 l R1 r q => TAx.sub (hE.mono l) R1 q fun y u H2 w2 S2 l2 R2 r2 q2 =>
    q2.ok _ H2 w2 (l.trans l2) R2 ⟨v, u, rfl, r.mono l2, r2⟩
def mkTup : List Val → M Val := fun xs => if xs.length ≤ sizeLine then lift ((datas xs).map fun ds => .d (.tup ds)) else stk
theorem mkTup_inv {w : Wd} {S : Store} {xs : List Val} {P : Val → Store → Prop} (h : Res G E w (mkTup xs S) P) : xs.length ≤ sizeLine ∧ ∃ ds, datas xs = some ds ∧ P (.d (.tup ds)) S := by
  unfold mkTup at h
  by_cases c : xs.length ≤ sizeLine
  · rw [if_pos c] at h
    unfold lift at h
    cases e : datas xs with
    | none => rw [e] at h; exact h.elim
    | some ds => rw [e] at h; exact ⟨c, ds, rfl, h⟩
  · rw [if_neg c] at h
    exact h.elim
def fTup (fs : FA) : FE := fun env => bnd (fs env) mkTup
theorem qe_tup {x1} (h : QA X G E es fs) : QE X G E (.Tuple es x1 pos) (fTup fs) := PE.imp (pe_tup h) fun σ H Q ⟨w, env, S, hE, hR, h⟩ => TAx.sub hE hR h fun xs vs H1 w1 S1 l R1 r q => by
  obtain ⟨c, ds, e, q⟩ := mkTup_inv q
  exact ⟨by rw [← r.len]; exact c, q.tup l R1 (VRs.reps e r)⟩
def okL (xs : List Val) : M (List Val) := if xs.length ≤ sizeLine then ret xs else stk
theorem okL_inv {w : Wd} {S : Store} {xs : List Val} {P : List Val → Store → Prop} (h : Res G E w (okL xs S) P) : xs.length ≤ sizeLine ∧ P xs S := by
  unfold okL at h
  by_cases c : xs.length ≤ sizeLine
  · rw [if_pos c] at h
    exact ⟨c, h⟩
  · rw [if_neg c] at h
    exact h.elim
def fLst (fs : FA) : FA := fun env => bnd (fs env) okL
theorem qf_lst (h : QA X G E es fs) : QF X G E (.List es pos) (fLst fs) := PE.imp (pe_lst h) fun σ H Q ⟨w, env, S, hE, hR, h⟩ => TAx.sub hE hR h fun xs vs H1 w1 S1 l R1 r q => by
  obtain ⟨c, q⟩ := okL_inv q
  exact ⟨by rw [← r.len]; exact c, q.fresh l R1 r⟩

/-! ### subscripts -/
theorem VRs.at {w : Wd} {xs : List Val} {vs : List V} {i : Int} {x : Val} (r : VRs G w xs vs) (h : atI xs i = some x) : ∃ v, atI vs i = some v ∧ VR G w x v := by
  unfold atI at h ⊢
  rw [← r.len]
  cases e : ixN xs.length i with
  | none => rw [e] at h; cases h
  | some j => rw [e] at h; exact r.get h
/-- a one-sign text -/
def signAt (z : Str) (i : Int) : Option Str := if z.length ≤ sizeLine then (atI z.cps.toList i).map fun c => ⟨#[c]⟩ else none
def oIx : Val → Val → M Val := fun x y => fun S => match asI y with
  | none => none
  | some i => match x with
    | .d (.str z) => (signAt z i).map fun s => (.ok (.d (.str s)), S)
    | x => match seqV x S with
      | none => none
      | some xs => (atI xs i).map fun x => (.ok x, S)
theorem q_ix (hK : X.K = G.K) : IxR X (rOp G E oIx) := fun value slice pins s σ H v u vv uu Q I rx ry ⟨w, S, x, y, R, r1, r2, q⟩ hs => by
  refine ix_seq value slice pins s σ H v u vv uu Q I rx ry ?_ hs
  unfold oIx at q
  cases e : asI y with
  | none => rw [e] at q; exact q.elim
  | some i =>
    rw [e] at q
    obtain rfl := asI_inv e
    have hu : u = .int i := r2
    have seq : (match seqV x S with
      | none => none
      | some xs => (atI xs i).map fun x => (Ex.ok x, S)) = none ∨ rIx X.K v u H Q ∨ ¬ Res G E w (match seqV x S with
      | none => none
      | some xs => (atI xs i).map fun x => (Ex.ok x, S)) (VP G w Q) := by
      cases e2 : seqV x S with
      | none => exact .inl rfl
      | some xs =>
        dsimp only
        cases e3 : atI xs i with
        | none => exact .inl rfl
        | some z =>
          refine .inr ?_
          by_cases q : VP G w Q z S
          · refine .inl ?_
            obtain ⟨p, vs, h1, h2, h3⟩ := seqV_of R r1 e2
            obtain ⟨t, h4, h5⟩ := h3.at e3
            have q2 := q t H w (Wd.le.refl w) R h5
            rw [hK]
            rcases h2 with h2 | h2
            · exact .inl ⟨p, vs, i, t, h1, hu, h2, h4, q2⟩
            · exact .inr (.inl ⟨p, vs, i, t, h1, hu, h2, h4, q2⟩)
          · exact .inr fun z => q z
    have fin : Res G E w (match seqV x S with
      | none => none
      | some xs => (atI xs i).map fun x => (Ex.ok x, S)) (VP G w Q) → rIx X.K v u H Q := fun q => by
      rcases seq with z | z | z
      · rw [z] at q; exact q.elim
      · exact z
      · exact absurd q z
    cases x with
    | r j => exact fin q
    | d x =>
      cases x with
      | str z =>
        dsimp only at q
        unfold signAt at q
        by_cases c : z.length ≤ sizeLine
        · rw [if_pos c] at q
          cases e3 : atI z.cps.toList i with
          | none => rw [e3] at q; exact q.elim
          | some t =>
            rw [e3] at q
            exact .inr (.inr ⟨z, i, t, r1, hu, c, e3, q _ H w (Wd.le.refl w) R rfl⟩)
        · rw [if_neg c] at q
          exact q.elim
      | _ => exact fin q
theorem qe_ix (hK : X.K = G.K) (ha : QE X G E a fa) (hb : QE X G E b fb) (hs : PlainIx b := by intro _ _; rfl) : QE X G E (.Subscript a b pos) (fBin oIx fa fb) := PE.imp (pe_ix (q_ix hK) ha hb hs) fun _ _ _ => tOp_of

/-! ### slices -/
abbrev FO := Env → M (Option Int)
def TOx (G : Gx) (E : XK) (f : FO) : TO := fun σ H Q => ∃ w env S, EnvR G w env σ ∧ Rl G w H S ∧ Res G E w (f env S) (fun o S' => ∀ H' w', w.le w' → Rl G w' H' S' → Q o H')
abbrev QO (X : Cx) (G : Gx) (E : XK) (e : Option Expr) (f : FO) : Prop := PO X e (TOx G E f)
theorem PO.imp {e : Option Expr} {t t' : TO} (h : PO X e t) (k : ∀ σ H Q, t' σ H Q → t σ H Q) : PO X e t' := by
  obtain ⟨r⟩ := h
  constructor
  intros
  apply r
  · assumption
  · apply k; assumption
def fNo : FO := fun _ => ret none
def fPart (f : FE) : FO := fun env => bnd (f env) fun x => lift ((asI x).map some)
theorem qo_none : QO X G E none fNo := PO.imp po_none fun σ H Q ⟨w, env, S, hE, hR, h⟩ => h H w (Wd.le.refl w) hR
theorem qo_some (h : QE X G E e fa) : QO X G E (some e) (fPart fa) := PO.imp (po_some h) fun σ H Q ⟨w, env, S, hE, hR, h⟩ => TEx.sub hE hR h fun x v H1 w1 S1 l R1 r q => by
  unfold lift at q
  cases e : asI x with
  | none => rw [e] at q; exact q.elim
  | some i =>
    rw [e] at q
    obtain rfl := asI_inv e
    exact ⟨i, r, q H1 w1 l R1⟩
def cutL {α : Type} (xs : List α) (lo hi : Option Int) : List α := (xs.drop (HT.sIx xs.length 0 lo)).take (HT.sIx xs.length xs.length hi - HT.sIx xs.length 0 lo)
theorem cutV_eq (xs : List V) (lo hi : Option Int) : cutV xs lo hi = cutL xs lo hi := rfl
theorem VRs.cutL {w : Wd} {xs : List Val} {vs : List V} (r : VRs G w xs vs) (lo hi : Option Int) : VRs G w (cutL xs lo hi) (Y.cutL vs lo hi) := by
  unfold Y.cutL
  rw [← r.len]
  exact (r.drop _).take _
theorem Reps.cutL {H : Hp} {xs : List D} {vs : List V} (r : Reps G H xs vs) (lo hi : Option Int) : Reps G H (cutL xs lo hi) (Y.cutL vs lo hi) := by
  unfold Y.cutL
  rw [← r.len]
  exact (r.drop _).take _
def fSlT (fa : FE) (lo hi : FO) : FE := fun env => bnd (fa env) fun x => bnd (lo env) fun l => bnd (hi env) fun h => lift ((tupV x).map fun ds => .d (.tup (cutL ds l h)))
theorem TOx.sub {f : FO} {g : Option Int → M β} {w : Wd} {env : Env} {σ : St} {H : Hp} {S : Store} {P : β → Store → Prop} {R : Option Int → Hp → Prop} (hE : EnvR G w env σ) (hR : Rl G w H S) (h : Res G E w (bnd (f env) g S) P)
    (k : ∀ x H1 w1 S1, w.le w1 → Rl G w1 H1 S1 → Res G E w1 (g x S1) P → R x H1) : TOx G E f σ H R :=
  ⟨w, env, S, hE, hR, h.bnd.imp fun x S1 q H1 w1 l R1 => k x H1 w1 S1 l R1 (q.mono l fun _ _ z => z)⟩
theorem whole_cut {α : Type} {xs : List α} {lo hi : Option Int} (h : HT.sIx xs.length 0 lo = 0 ∧ HT.sIx xs.length xs.length hi = xs.length) : cutL xs lo hi = xs := by
  unfold cutL
  rw [h.1, h.2, List.drop_zero, Nat.sub_zero, List.take_length]
theorem qe_slT (hK : X.K = G.K) {lo hi : Option Expr} {p2 : Pos} {fl fh : FO} (ha : QE X G E a fa) (hl : QO X G E lo fl) (hh : QO X G E hi fh) : QE X G E (.Subscript a (.Slice lo hi none p2) pos) (fSlT fa fl fh) :=
  PE.imp (pe_slice sl_tupA ha hl hh) fun σ H Q ⟨w, env, S, hE, hR, h⟩ => TEx.sub hE hR h fun x v H1 w1 S1 l R1 r q => TOx.sub (hE.mono l) R1 q fun lo H2 w2 S2 l2 R2 q2 => TOx.sub (hE.mono (l.trans l2)) R2 q2 fun hi H3 w3 S3 l3 R3 q3 => by
    unfold lift at q3
    cases e : tupV x with
    | none => rw [e] at q3; exact q3.elim
    | some ds =>
      rw [e] at q3
      have q4 : VP G w Q (.d (.tup (cutL ds lo hi))) S3 := q3
      obtain ⟨a, vs, h1, h2, h3⟩ := tupV_of R3 ((r.mono l2).mono l3) e
      rw [hK]
      refine ⟨a, vs, h1, h2, fun hw => ?_, fun _ => ?_⟩
      · have hw' : cutL ds lo hi = ds := whole_cut (by rw [h3.len]; exact hw)
        rw [hw'] at q4
        have rr := (r.mono l2).mono l3
        rw [h1] at rr
        cases x with
        | r i => cases e
        | d x =>
          cases x with
          | tup es => cases e; exact q4 _ H3 w3 ((l.trans l2).trans l3) R3 rr
          | _ => cases e
      · rw [cutV_eq]
        exact q4.tup ((l.trans l2).trans l3) R3 (h3.cutL lo hi)
/-- a list's part: a new list -/
def listV : Val → Store → Option (List Val)
  | .d (.ro ns), _ => some (ns.map fun n => .d (.int n))
  | x, S => lstV x S
theorem listV_of {w : Wd} {H : Hp} {S : Store} {x : Val} {v : V} {xs : List Val} (R : Rl G w H S) (r : VR G w x v) (h : listV x S = some xs) : ∃ a vs, v = .ref a ∧ SqL G.K H a vs ∧ VRs G w xs vs := by
  have go : lstV x S = some xs → ∃ a vs, v = .ref a ∧ SqL G.K H a vs ∧ VRs G w xs vs := fun h => by
    obtain ⟨a, vs, h1, h2, h3⟩ := lstV_of R r h
    exact ⟨a, vs, h1, SqL.of h2, h3⟩
  cases x with
  | r i => exact go h
  | d x =>
    cases x with
    | ro ns =>
      cases h
      obtain ⟨a, h1, h2⟩ := r
      exact ⟨a, _, h1, R.fz.seq h2, ints_vrs ns⟩
    | lst ds => exact go h
    | _ => cases h
def fSlL (fa : FE) (lo hi : FO) : FA := fun env => bnd (fa env) fun x => bnd (lo env) fun l => bnd (hi env) fun h => fun S => match listV x S with
  | none => none
  | some xs => some (.ok (cutL xs l h), S)
theorem qf_slL (hK : X.K = G.K) {lo hi : Option Expr} {p2 : Pos} {fl fh : FO} (ha : QE X G E a fa) (hl : QO X G E lo fl) (hh : QO X G E hi fh) : QF X G E (.Subscript a (.Slice lo hi none p2) pos) (fSlL fa fl fh) :=
  PE.imp (pe_slice sl_list ha hl hh) fun σ H Q ⟨w, env, S, hE, hR, h⟩ => TEx.sub hE hR h fun x v H1 w1 S1 l R1 r q => TOx.sub (hE.mono l) R1 q fun lo H2 w2 S2 l2 R2 q2 => TOx.sub (hE.mono (l.trans l2)) R2 q2 fun hi H3 w3 S3 l3 R3 q3 => by
    cases e : listV x S3 with
    | none => rw [e] at q3; exact q3.elim
    | some xs =>
      rw [e] at q3
      obtain ⟨a, vs, h1, h2, h3⟩ := listV_of R3 ((r.mono l2).mono l3) e
      rw [hK]
      refine ⟨a, vs, h1, h2, ?_⟩
      rw [cutV_eq]
      exact FP.fresh q3 ((l.trans l2).trans l3) R3 (h3.cutL lo hi)
end Y

set_option Elab.async false
set_option linter.all false
set_option maxRecDepth 100000
set_option maxHeartbeats 4000000
namespace Y
open PySem PySem.Spec L2
variable {G : Gx} {E : XK} {X : Cx}

/-! ### + -/
def asS : Val → Option Str
  | .d (.str z) => some z
  | _ => none
theorem asS_inv {x : Val} {z : Str} (h : asS x = some z) : x = .d (.str z) := by
  cases x with
  | r i => cases h
  | d x =>
    cases x with
    | str y => cases h; rfl
    | _ => cases h
theorem tupV_inv {x : Val} {ds : List D} (h : tupV x = some ds) : x = .d (.tup ds) := by
  cases x with
  | r i => cases h
  | d x =>
    cases x with
    | tup y => cases h; rfl
    | _ => cases h
/-- two lists: a new one -/
def oCat : Val → Val → M (List Val) := fun x y S => match lstV x S, lstV y S with
  | some a, some b => okL (a ++ b) S
  | _, _ => none
theorem oCat_inv {w : Wd} {x y : Val} {S : Store} {P : List Val → Store → Prop} (h : Res G E w (oCat x y S) P) : ∃ a b, lstV x S = some a ∧ lstV y S = some b ∧ (a ++ b).length ≤ sizeLine ∧ P (a ++ b) S := by
  unfold oCat at h
  cases e1 : lstV x S with
  | none => rw [e1] at h; exact h.elim
  | some a =>
    cases e2 : lstV y S with
    | none => rw [e1, e2] at h; exact h.elim
    | some b =>
      rw [e1, e2] at h
      obtain ⟨c, q⟩ := okL_inv h
      exact ⟨a, b, rfl, rfl, c, q⟩
theorem q_cat : OpR X (binaryOp .Add) (rOpF G E oCat) := OpR.imp op_cat fun v u H Q ⟨w, S, x, y, R, r1, r2, q⟩ => by
  obtain ⟨a, b, e1, e2, c, q⟩ := oCat_inv q
  obtain ⟨p, vs, h1, h2, h3⟩ := lstV_of R r1 e1
  obtain ⟨p', vs', k1, k2, k3⟩ := lstV_of R r2 e2
  refine ⟨p, p', vs, vs', h1, k1, h2, k2, ?_, q.fresh (Wd.le.refl w) R (h3.app k3)⟩
  rw [← h3.len, ← k3.len, ← List.length_append]
  exact c
/-- ints, tuples, texts, lists -/
def oPlus : Val → Val → M Val := fun x y => match asI x, asI y with
  | some i, some j => ret (.d (.int (i + j)))
  | _, _ => match tupV x, tupV y with
    | some a, some b => if a.length + b.length ≤ sizeLine then ret (.d (.tup (a ++ b))) else stk
    | _, _ => match asS x, asS y with
      | some a, some b => if a.length + b.length ≤ sizeLine then ret (.d (.str (a ++ b))) else stk
      | _, _ => bnd (oCat x y) frz
theorem op_plus : OpR X (binaryOp .Add) (fun x y H Q => (rI0 (fun i j => .int (i + j)) x y H Q ∨ rCatA X.K x y H Q) ∨ ((∃ i j, x = .str i ∧ y = .str j ∧ i.length + j.length ≤ sizeLine ∧ Q (.str (i ++ j)) H) ∨ rCat x y H Q)) :=
  OpR.or (OpR.or op_add op_catA) (OpR.or op_add_str op_cat)
theorem q_plus (hK : X.K = G.K) : OpR X (binaryOp .Add) (rOp G E oPlus) := OpR.imp op_plus fun v u H Q ⟨w, S, x, y, R, r1, r2, q⟩ => by
  unfold oPlus at q
  have lists : Res G E w (bnd (oCat x y) frz S) (VP G w Q) → rCat v u H Q := fun ql => by
    obtain ⟨a, b, e1, e2, c, ql⟩ := oCat_inv ql.bnd
    obtain ⟨p, vs, h1, h2, h3⟩ := lstV_of R r1 e1
    obtain ⟨p', vs', k1, k2, k3⟩ := lstV_of R r2 e2
    refine ⟨p, p', vs, vs', h1, k1, h2, k2, ?_, (FP.frz ql).fresh (Wd.le.refl w) R (h3.app k3)⟩
    rw [← h3.len, ← k3.len, ← List.length_append]
    exact c
  have texts : Res G E w ((match asS x, asS y with
      | some a, some b => if a.length + b.length ≤ sizeLine then ret (Val.d (D.str (a ++ b))) else stk
      | _, _ => bnd (oCat x y) frz) S) (VP G w Q) → (∃ i j, v = .str i ∧ u = .str j ∧ i.length + j.length ≤ sizeLine ∧ Q (.str (i ++ j)) H) ∨ rCat v u H Q := fun qt => by
    cases e1 : asS x with
    | none => rw [e1] at qt; exact .inr (lists qt)
    | some a =>
      cases e2 : asS y with
      | none => rw [e1, e2] at qt; exact .inr (lists qt)
      | some b =>
        rw [e1, e2] at qt
        dsimp only at qt
        obtain rfl := asS_inv e1
        obtain rfl := asS_inv e2
        by_cases c : a.length + b.length ≤ sizeLine
        · rw [if_pos c] at qt
          exact .inl ⟨a, b, r1, r2, c, qt.ok _ H w (Wd.le.refl w) R rfl⟩
        · rw [if_neg c] at qt
          exact qt.elim
  have tups : Res G E w ((match tupV x, tupV y with
    | some a, some b => if a.length + b.length ≤ sizeLine then ret (Val.d (D.tup (a ++ b))) else stk
    | _, _ => match asS x, asS y with
      | some a, some b => if a.length + b.length ≤ sizeLine then ret (Val.d (D.str (a ++ b))) else stk
      | _, _ => bnd (oCat x y) frz) S) (VP G w Q) → rCatA X.K v u H Q ∨ ((∃ i j, v = .str i ∧ u = .str j ∧ i.length + j.length ≤ sizeLine ∧ Q (.str (i ++ j)) H) ∨ rCat v u H Q) := fun qu => by
    cases e1 : tupV x with
    | none => rw [e1] at qu; exact .inr (texts qu)
    | some a =>
      cases e2 : tupV y with
      | none => rw [e1, e2] at qu; exact .inr (texts qu)
      | some b =>
        rw [e1, e2] at qu
        dsimp only at qu
        by_cases c : a.length + b.length ≤ sizeLine
        · rw [if_pos c] at qu
          have qu := qu.ok
          obtain ⟨p, vs, h1, h2, h3⟩ := tupV_of R r1 e1
          obtain ⟨p', vs', k1, k2, k3⟩ := tupV_of R r2 e2
          refine .inl ⟨p, p', vs, vs', h1, k1, by rw [hK]; exact h2, by rw [hK]; exact k2, by rw [← h3.len, ← k3.len]; exact c, fun z => ?_, fun z1 z2 => ?_, fun _ _ => qu.tup (Wd.le.refl w) R (h3.app k3)⟩
          · have ea : a = [] := List.eq_nil_of_length_eq_zero (by rw [h3.len, z]; rfl)
            subst ea
            obtain rfl := tupV_inv e2
            rw [k1] at r2
            exact qu _ H w (Wd.le.refl w) R r2
          · have eb : b = [] := List.eq_nil_of_length_eq_zero (by rw [k3.len, z2]; rfl)
            subst eb
            obtain rfl := tupV_inv e1
            rw [h1] at r1
            rw [List.append_nil] at qu
            exact qu _ H w (Wd.le.refl w) R r1
        · rw [if_neg c] at qu
          exact qu.elim
  cases e1 : asI x with
  | none =>
    rw [e1] at q
    rcases tups q with z | z
    · exact .inl (.inr z)
    · exact .inr z
  | some i =>
    cases e2 : asI y with
    | none =>
      rw [e1, e2] at q
      rcases tups q with z | z
      · exact .inl (.inr z)
      · exact .inr z
    | some j =>
      rw [e1, e2] at q
      obtain rfl := asI_inv e1
      obtain rfl := asI_inv e2
      exact .inl (.inl ⟨i, j, r1, r2, q.ok _ H w (Wd.le.refl w) R rfl⟩)

/-! ### in, not in (flat items) -/
def flatD : D → Option V
  | .non => some .non
  | .bl b => some (.bl b)
  | .int i => some (.int i)
  | .str z => some (.str z)
  | _ => none
theorem flatD_of {d : D} {t v : V} {H : Hp} (h : flatD d = some t) (r : Rep G H d v) : v = t ∧ flatV v = true := by
  cases d with
  | non => cases h; exact ⟨r, by rw [show v = _ from r]; rfl⟩
  | bl b => cases h; exact ⟨r, by rw [show v = _ from r]; rfl⟩
  | int b => cases h; exact ⟨r, by rw [show v = _ from r]; rfl⟩
  | str b => cases h; exact ⟨r, by rw [show v = _ from r]; rfl⟩
  | _ => cases h
def flats : List Val → Option (List V)
  | [] => some []
  | .d x :: r => match flatD x, flats r with
    | some a, some b => some (a :: b)
    | _, _ => none
  | .r _ :: _ => none
theorem flats_of {w : Wd} : ∀ {xs : List Val} {ts vs : List V}, flats xs = some ts → VRs G w xs vs → vs = ts ∧ vs.all flatV = true
  | [], ts, vs, h, r => by cases h; rw [show vs = _ from r]; exact ⟨rfl, rfl⟩
  | .d x :: xs, ts, vs, h, ⟨v, q, h1, h2, h3⟩ => by
    unfold flats at h
    cases e1 : flatD x with
    | none => rw [e1] at h; cases h
    | some a =>
      cases e2 : flats xs with
      | none => rw [e1, e2] at h; cases h
      | some b =>
        rw [e1, e2] at h
        cases h
        obtain ⟨k1, k2⟩ := flatD_of e1 h2
        obtain ⟨k3, k4⟩ := flats_of e2 h3
        subst h1
        exact ⟨by rw [k1, k3], by rw [List.all_cons, k2, k4]; rfl⟩
  | .r _ :: _, _, _, h, _ => by cases h
def oIn (neg : Bool) : Val → Val → M Val := fun x y S => match x with
  | .r _ => none
  | .d x => match flatD x, (seqV y S).bind flats with
    | some t, some ts => some (.ok (.d (.bl (if neg then !inV t ts else inV t ts))), S)
    | _, _ => none
theorem oIn_of {neg : Bool} {v u : V} {H : Hp} {Q : VK} (hK : X.K = G.K) (h : rOp G E (oIn neg) v u H Q) : rIn X.K neg v u H Q := by
  obtain ⟨w, S, x, y, R, r1, r2, q⟩ := h
  unfold oIn at q
  cases x with
  | r i => exact q.elim
  | d x =>
    dsimp only at q
    cases e1 : flatD x with
    | none => rw [e1] at q; exact q.elim
    | some t =>
      cases e2 : (seqV y S).bind flats with
      | none => rw [e1, e2] at q; exact q.elim
      | some ts =>
        rw [e1, e2] at q
        obtain ⟨ys, e3, e4⟩ := Option.bind_eq_some_iff.mp e2
        obtain ⟨p, vs, h1, h2, h3⟩ := seqV_of R r2 e3
        obtain ⟨k1, k2⟩ := flatD_of e1 r1
        obtain ⟨k3, k4⟩ := flats_of e4 h3
        rw [hK]
        refine ⟨p, vs, h1, h2, k2, k4, ?_⟩
        rw [k1, k3]
        exact q _ H w (Wd.le.refl w) R rfl
theorem q_in (hK : X.K = G.K) : OpR X (compareOp .In) (rOp G E (oIn false)) := OpR.imp op_in_seq fun v u H Q h => oIn_of hK h
theorem q_notin (hK : X.K = G.K) : OpR X (compareOp .NotIn) (rOp G E (oIn true)) := OpR.imp op_notIn_seq fun v u H Q h => oIn_of hK h

/-! ### calls of built-ins by values -/
def rCall (G : Gx) (E : XK) (op : List Val → M Val) : List V → Hp → VK → Prop := fun vs H Q => ∃ w S xs, Rl G w H S ∧ VRs G w xs vs ∧ Res G E w (op xs S) (VP G w Q)
def rCallF (G : Gx) (E : XK) (op : List Val → M (List Val)) : List V → Hp → VK → Prop := fun vs H Q => ∃ w S xs, Rl G w H S ∧ VRs G w xs vs ∧ Res G E w (op xs S) (FP G w Q)
theorem CallR.imp {f : Value} {r r' : List V → Hp → VK → Prop} (h : CallR X f r) (k : ∀ vs H Q, r' vs H Q → r vs H Q) : CallR X f r' := fun pins s σ H xs us Q I a q => h pins s σ H xs us Q I a (k xs H Q q)
variable {a b c e : Expr} {es : List Expr} {pos p : Pos} {fa fb : FE} {fs : FA}
def fCall (op : List Val → M α) (fs : FA) : Env → M α := fun env => bnd (fs env) op
theorem tCB_of {op : List Val → M Val} {σ : St} {H : Hp} {Q : VK} (h : TEx G E (fCall op fs) σ H Q) : tCB (rCall G E op) (TAx G E fs) σ H Q := by
  obtain ⟨w, env, S, hE, hR, h⟩ := h
  exact TAx.sub hE hR h fun xs vs H1 w1 S1 l R1 r q => ⟨w1, S1, xs, R1, r, q.imp fun _ _ z => z.mono l⟩
theorem tCB_ofF {op : List Val → M (List Val)} {σ : St} {H : Hp} {Q : VK} (h : TFx G E (fCall op fs) σ H Q) : tCB (rCallF G E op) (TAx G E fs) σ H Q := by
  obtain ⟨w, env, S, hE, hR, h⟩ := h
  exact TAx.sub hE hR h fun xs vs H1 w1 S1 l R1 r q => ⟨w1, S1, xs, R1, r, q.imp fun _ _ z => z.mono l⟩
theorem qe_callB {x : Str} {id : String} {op : List Val → M Val} (hc : CallR X (.builtin id) (rCall G E op)) (hg : Gl X x) (hm : X.mg x = none) (hv : bootBuiltins x = some (.builtin id)) (ha : QA X G E (e :: es) fs) (hn : x ≠ "__name__" := by decide) (hdb : (x == ("__debug__" : Str)) = false := by decide)
    (he : starEach (e :: es) X.env = (false, eval e X.env) :: starEach es X.env := by rfl) (hpl : (backTo pos (starEach es X.env)).any (·.1) = false := by rfl) : QE X G E (.Call (.Name x p) (e :: es) [] pos) (fCall op fs) :=
  PE.imp (pe_callB hc hg hm hv ha hn hdb he hpl) fun _ _ _ => tCB_of
theorem qf_callB {x : Str} {id : String} {op : List Val → M (List Val)} (hc : CallR X (.builtin id) (rCallF G E op)) (hg : Gl X x) (hm : X.mg x = none) (hv : bootBuiltins x = some (.builtin id)) (ha : QA X G E (e :: es) fs) (hn : x ≠ "__name__" := by decide) (hdb : (x == ("__debug__" : Str)) = false := by decide)
    (he : starEach (e :: es) X.env = (false, eval e X.env) :: starEach es X.env := by rfl) (hpl : (backTo pos (starEach es X.env)).any (·.1) = false := by rfl) : QF X G E (.Call (.Name x p) (e :: es) [] pos) (fCall op fs) :=
  PE.imp (pe_callB hc hg hm hv ha hn hdb he hpl) fun _ _ _ => tCB_ofF
theorem qe_callTy {x : Str} {T : String} {op : List Val → M Val} (hc : CallR X (.type T) (rCall G E op)) (hg : Gl X x) (hm : X.mg x = none) (hv : bootBuiltins x = some (.type T)) (ha : QA X G E (e :: es) fs) (hn : x ≠ "__name__" := by decide) (hdb : (x == ("__debug__" : Str)) = false := by decide)
    (he : starEach (e :: es) X.env = (false, eval e X.env) :: starEach es X.env := by rfl) (hpl : (backTo pos (starEach es X.env)).any (·.1) = false := by rfl) : QE X G E (.Call (.Name x p) (e :: es) [] pos) (fCall op fs) :=
  PE.imp (pe_callTy hc hg hm hv ha hn hdb he hpl) fun _ _ _ => tCB_of
theorem qf_callTy {x : Str} {T : String} {op : List Val → M (List Val)} (hc : CallR X (.type T) (rCallF G E op)) (hg : Gl X x) (hm : X.mg x = none) (hv : bootBuiltins x = some (.type T)) (ha : QA X G E (e :: es) fs) (hn : x ≠ "__name__" := by decide) (hdb : (x == ("__debug__" : Str)) = false := by decide)
    (he : starEach (e :: es) X.env = (false, eval e X.env) :: starEach es X.env := by rfl) (hpl : (backTo pos (starEach es X.env)).any (·.1) = false := by rfl) : QF X G E (.Call (.Name x p) (e :: es) [] pos) (fCall op fs) :=
  PE.imp (pe_callTy hc hg hm hv ha hn hdb he hpl) fun _ _ _ => tCB_ofF
/-- of one argument, by what is read off it -/
def c1 {α β : Type} (g : Val → Store → Option α) (k : α → M β) : List Val → M β := fun xs S => match xs with
  | [x] => match g x S with
    | some a => k a S
    | none => none
  | _ => none
theorem c1_inv {α β : Type} {g : Val → Store → Option α} {k : α → M β} {xs : List Val} {S : Store} {w : Wd} {P : β → Store → Prop} (h : Res G E w (c1 g k xs S) P) : ∃ x a, xs = [x] ∧ g x S = some a ∧ Res G E w (k a S) P := by
  unfold c1 at h
  match xs, h with
  | [], h => exact h.elim
  | [x], h =>
    dsimp only at h
    cases e : g x S with
    | none => rw [e] at h; exact h.elim
    | some a => rw [e] at h; exact ⟨x, a, rfl, e, h⟩
  | _ :: _ :: _, h => exact h.elim
theorem VRs.one {w : Wd} {x : Val} {vs : List V} (h : VRs G w [x] vs) : ∃ v, vs = [v] ∧ VR G w x v := by
  obtain ⟨v, r, h1, h2, h3⟩ := h
  exact ⟨v, by rw [h1, show r = [] from h3], h2⟩
theorem VRs.two {w : Wd} {x y : Val} {vs : List V} (h : VRs G w [x, y] vs) : ∃ v u, vs = [v, u] ∧ VR G w x v ∧ VR G w y u := by
  obtain ⟨v, r, h1, h2, h3⟩ := h
  obtain ⟨u, e, h4⟩ := h3.one
  exact ⟨v, u, by rw [h1, e], h2, h4⟩
/-- len -/
def lenV (x : Val) (S : Store) : Option Nat := match x with
  | .d (.str z) => if z.length ≤ sizeLine then some z.length else none
  | x => (seqV x S).map List.length
def oLen : List Val → M Val := c1 lenV fun n => ret (.d (.int n))
theorem q_len (hK : X.K = G.K) : CallR X (.builtin "len") (rCall G E oLen) := CallR.imp call_len fun vs H Q ⟨w, S, xs, R, r, q⟩ => by
  obtain ⟨x, n, rfl, e, q⟩ := c1_inv q
  obtain ⟨v, rfl, r'⟩ := r.one
  replace r := r'
  refine ⟨v, n, rfl, ?_, q.ok _ H w (Wd.le.refl w) R rfl⟩
  have go : (seqV x S).map List.length = some n → LenV X.K v H n := fun e => by
    cases e2 : seqV x S with
    | none => rw [e2] at e; cases e
    | some ys =>
      rw [e2] at e
      cases e
      obtain ⟨p, us, h1, h2, h3⟩ := seqV_of R r e2
      rw [hK, h1, h3.len]
      rcases h2 with h2 | h2
      · exact .inl ⟨us, h2, rfl⟩
      · exact .inr ⟨us, h2, rfl⟩
  cases x with
  | r i => exact go e
  | d x =>
    cases x with
    | str z =>
      unfold lenV at e
      dsimp only at e
      split at e
      · rename_i c
        cases e
        rw [show v = _ from r]
        exact ⟨c, rfl⟩
      · cases e
    | _ => exact go e
/-- ints of a list -/
def intsL (x : Val) (S : Store) : Option (List Int) := (lstV x S).bind fun xs => xs.mapM asI
theorem mapM_asI {w : Wd} : ∀ {xs : List Val} {ns : List Int} {vs : List V}, xs.mapM asI = some ns → VRs G w xs vs → vs = ns.map V.int
  | [], ns, vs, h, r => by
    simp only [List.mapM_nil] at h
    cases h
    exact r
  | x :: xs, ns, vs, h, ⟨v, q, h1, h2, h3⟩ => by
    simp only [List.mapM_cons] at h
    obtain ⟨i, e1, h⟩ := Option.bind_eq_some_iff.mp h
    obtain ⟨is, e2, h⟩ := Option.bind_eq_some_iff.mp h
    cases h
    obtain rfl := asI_inv e1
    rw [h1, mapM_asI e2 h3, show v = _ from h2]
    rfl
theorem intsL_of {w : Wd} {H : Hp} {S : Store} {x : Val} {v : V} {ns : List Int} (R : Rl G w H S) (r : VR G w x v) (h : intsL x S = some ns) : ∃ a, v = .ref a ∧ H a = some (.lst (ns.map V.int)) := by
  obtain ⟨xs, e1, e2⟩ := Option.bind_eq_some_iff.mp h
  obtain ⟨a, vs, h1, h2, h3⟩ := lstV_of R r e1
  rw [mapM_asI e2 h3] at h2
  exact ⟨a, h1, h2⟩
def oSum : List Val → M Val := c1 intsL fun ns => ret (.d (.int ns.sum))
theorem q_sum (hc : X.calm = true) : CallR X (.builtin "sum") (rCall G E oSum) := CallR.imp (cr_sum hc) fun vs H Q ⟨w, S, xs, R, r, q⟩ => by
  obtain ⟨x, n, rfl, e, q⟩ := c1_inv q
  obtain ⟨v, rfl, r'⟩ := r.one
  replace r := r'
  obtain ⟨a, h1, h2⟩ := intsL_of R r e
  rw [h1]
  exact ⟨a, n, rfl, SqL.of h2, q.ok _ H w (Wd.le.refl w) R rfl⟩
def maxI : List Int → Int
  | [] => 0
  | [x] => x
  | x :: y :: r => max x (maxI (y :: r))
theorem maxI_mem : ∀ {ns : List Int}, ns ≠ [] → maxI ns ∈ ns
  | [], h => absurd rfl h
  | [x], _ => by simp [maxI]
  | x :: y :: r, _ => by
    have := maxI_mem (ns := y :: r) (by simp)
    show max x (maxI (y :: r)) ∈ _
    by_cases c : x ≤ maxI (y :: r)
    · rw [Int.max_eq_right c]; exact List.mem_cons_of_mem _ this
    · rw [Int.max_eq_left (by omega)]; exact List.mem_cons_self
theorem maxI_le : ∀ {ns : List Int} {m : Int}, m ∈ ns → m ≤ maxI ns
  | [x], m, h => by simp at h; rw [h]; exact Int.le_refl _
  | x :: y :: r, m, h => by
    show m ≤ max x (maxI (y :: r))
    rcases List.mem_cons.mp h with h | h
    · rw [h]; omega
    · have := maxI_le h
      omega
def minI : List Int → Int
  | [] => 0
  | [x] => x
  | x :: y :: r => min x (minI (y :: r))
theorem minI_mem : ∀ {ns : List Int}, ns ≠ [] → minI ns ∈ ns
  | [], h => absurd rfl h
  | [x], _ => by simp [minI]
  | x :: y :: r, _ => by
    have := minI_mem (ns := y :: r) (by simp)
    show min x (minI (y :: r)) ∈ _
    by_cases c : x ≤ minI (y :: r)
    · rw [Int.min_eq_left c]; exact List.mem_cons_self
    · rw [Int.min_eq_right (by omega)]; exact List.mem_cons_of_mem _ this
theorem minI_le : ∀ {ns : List Int} {m : Int}, m ∈ ns → minI ns ≤ m
  | [x], m, h => by simp at h; rw [h]; exact Int.le_refl _
  | x :: y :: r, m, h => by
    show min x (minI (y :: r)) ≤ m
    rcases List.mem_cons.mp h with h | h
    · rw [h]; omega
    · have := minI_le h
      omega
/-- max, min: of a list of ints, not empty, or of two ints -/
def oMx (g : List Int → Int) : List Val → M Val := fun xs S => match xs with
  | [x] => match intsL x S with
    | some (n :: ns) => some (.ok (.d (.int (g (n :: ns)))), S)
    | _ => none
  | [x, y] => match asI x, asI y with
    | some i, some j => some (.ok (.d (.int (g [i, j]))), S)
    | _, _ => none
  | _ => none
theorem oMx_inv {g : List Int → Int} {xs : List Val} {S : Store} {w : Wd} {P : Val → Store → Prop} (h : Res G E w (oMx g xs S) P) : (∃ x n ns, xs = [x] ∧ intsL x S = some (n :: ns) ∧ P (.d (.int (g (n :: ns)))) S) ∨ ∃ i j, xs = [.d (.int i), .d (.int j)] ∧ P (.d (.int (g [i, j]))) S := by
  unfold oMx at h
  match xs, h with
  | [], h => exact h.elim
  | [x], h =>
    dsimp only at h
    cases e : intsL x S with
    | none => rw [e] at h; exact h.elim
    | some l =>
      rw [e] at h
      cases l with
      | nil => exact h.elim
      | cons n ns => exact .inl ⟨x, n, ns, rfl, e, h⟩
  | [x, y], h =>
    dsimp only at h
    cases e1 : asI x with
    | none => rw [e1] at h; exact h.elim
    | some i =>
      cases e2 : asI y with
      | none => rw [e1, e2] at h; exact h.elim
      | some j =>
        rw [e1, e2] at h
        exact .inr ⟨i, j, by rw [asI_inv e1, asI_inv e2], h⟩
  | _ :: _ :: _ :: _, h => exact h.elim
theorem q_max (hc : X.calm = true) : CallR X (.builtin "max") (rCall G E (oMx maxI)) := CallR.imp (CallR.or (cr_max hc) (call_max2 hc)) fun vs H Q ⟨w, S, xs, R, r, q⟩ => by
  rcases oMx_inv q with ⟨x, n, ns, rfl, e, q1⟩ | ⟨i, j, rfl, q1⟩
  · obtain ⟨v, rfl, r'⟩ := r.one
    replace r := r'
    obtain ⟨a, h1, h2⟩ := intsL_of R r e
    rw [h1]
    refine .inl ⟨a, n :: ns, rfl, SqL.of h2, by simp, fun m hm hl => ?_⟩
    have em : m = maxI (n :: ns) := Int.le_antisymm (maxI_le hm) (hl _ (maxI_mem (by simp)))
    rw [em]
    exact q1 _ H w (Wd.le.refl w) R rfl
  · obtain ⟨v, u, rfl, r1, r2⟩ := r.two
    refine .inr ⟨i, j, by rw [show v = _ from r1, show u = _ from r2], ?_⟩
    have em : (if j > i then j else i) = maxI [i, j] := by
      show _ = max i j
      split <;> omega
    rw [em]
    exact q1 _ H w (Wd.le.refl w) R rfl
theorem q_min (hc : X.calm = true) : CallR X (.builtin "min") (rCall G E (oMx minI)) := CallR.imp (CallR.or (cr_min hc) (call_min2 hc)) fun vs H Q ⟨w, S, xs, R, r, q⟩ => by
  rcases oMx_inv q with ⟨x, n, ns, rfl, e, q1⟩ | ⟨i, j, rfl, q1⟩
  · obtain ⟨v, rfl, r'⟩ := r.one
    replace r := r'
    obtain ⟨a, h1, h2⟩ := intsL_of R r e
    rw [h1]
    refine .inl ⟨a, n :: ns, rfl, SqL.of h2, by simp, fun m hm hl => ?_⟩
    have em : m = minI (n :: ns) := Int.le_antisymm (hl _ (minI_mem (by simp))) (minI_le hm)
    rw [em]
    exact q1 _ H w (Wd.le.refl w) R rfl
  · obtain ⟨v, u, rfl, r1, r2⟩ := r.two
    refine .inr ⟨i, j, by rw [show v = _ from r1, show u = _ from r2], ?_⟩
    have em : (if j < i then j else i) = minI [i, j] := by
      show _ = min i j
      split <;> omega
    rw [em]
    exact q1 _ H w (Wd.le.refl w) R rfl
/-- sorted of ints -/
def insI (x : Int) : List Int → List Int
  | [] => [x]
  | y :: r => if x ≤ y then x :: y :: r else y :: insI x r
def sortI : List Int → List Int
  | [] => []
  | x :: r => insI x (sortI r)
theorem insI_perm (x : Int) : ∀ l, (insI x l).Perm (x :: l)
  | [] => .refl _
  | y :: r => by
    unfold insI
    split
    · exact .refl _
    · exact ((insI_perm x r).cons y).trans (.swap x y r)
theorem sortI_perm : ∀ l, (sortI l).Perm l
  | [] => .refl _
  | x :: r => (insI_perm x _).trans ((sortI_perm r).cons x)
theorem insI_sorted (x : Int) : ∀ {l : List Int}, l.Pairwise (· ≤ ·) → (insI x l).Pairwise (· ≤ ·)
  | [], _ => by simp [insI]
  | y :: r, h => by
    unfold insI
    split
    · rename_i c
      refine List.pairwise_cons.mpr ⟨fun z hz => ?_, h⟩
      rcases List.mem_cons.mp hz with e | e
      · omega
      · have := (List.pairwise_cons.mp h).1 z e
        omega
    · rename_i c
      refine List.pairwise_cons.mpr ⟨fun z hz => ?_, insI_sorted x (List.pairwise_cons.mp h).2⟩
      rcases List.mem_cons.mp ((insI_perm x r).mem_iff.mp hz) with e | e
      · omega
      · exact (List.pairwise_cons.mp h).1 z e
theorem sortI_sorted : ∀ l, (sortI l).Pairwise (· ≤ ·)
  | [] => .nil
  | x :: r => insI_sorted x (sortI_sorted r)
theorem sorted_unique : ∀ {a b : List Int}, a.Perm b → a.Pairwise (· ≤ ·) → b.Pairwise (· ≤ ·) → a = b
  | [], b, h, _, _ => by rw [h.nil_eq]
  | x :: r, [], h, _, _ => by simp at h
  | x :: r, y :: q, h, ha, hb => by
    have h1 : x ≤ y := by
      rcases List.mem_cons.mp (h.mem_iff.mpr (List.mem_cons_self : y ∈ y :: q)) with e | e
      · omega
      · exact (List.pairwise_cons.mp ha).1 y e
    have h2 : y ≤ x := by
      rcases List.mem_cons.mp (h.mem_iff.mp (List.mem_cons_self : x ∈ x :: r)) with e | e
      · omega
      · exact (List.pairwise_cons.mp hb).1 x e
    have e : x = y := by omega
    subst e
    rw [sorted_unique (List.Perm.cons_inv h) (List.pairwise_cons.mp ha).2 (List.pairwise_cons.mp hb).2]
def intsV (ns : List Int) : List Val := ns.map fun n => .d (.int n)
def oSorted : List Val → M (List Val) := c1 intsL fun ns => ret (intsV (sortI ns))
theorem q_sorted : CallR X (.builtin "sorted") (rCallF G E oSorted) := CallR.imp cr_sortedI fun vs H Q ⟨w, S, xs, R, r, q⟩ => by
  obtain ⟨x, n, rfl, e, q⟩ := c1_inv q
  obtain ⟨v, rfl, r'⟩ := r.one
  replace r := r'
  obtain ⟨a, h1, h2⟩ := intsL_of R r e
  rw [h1]
  refine ⟨a, n, rfl, SqL.of h2, fun ns' p pm pw hp => ?_⟩
  have em : ns' = sortI n := sorted_unique (pm.trans (sortI_perm n).symm) pw (sortI_sorted n)
  rw [em]
  exact q.ok.fresh (Wd.le.refl w) R (ints_vrs _) p hp
/-- all, any of truth values -/
def asBl : Val → Option Bool
  | .d (.bl b) => some b
  | _ => none
theorem asBl_inv {x : Val} {b : Bool} (h : asBl x = some b) : x = .d (.bl b) := by
  cases x with
  | r i => cases h
  | d x =>
    cases x with
    | bl y => cases h; rfl
    | _ => cases h
def blsL (x : Val) (S : Store) : Option (List Bool) := (lstV x S).bind fun xs => xs.mapM asBl
theorem mapM_asBl {w : Wd} : ∀ {xs : List Val} {ns : List Bool} {vs : List V}, xs.mapM asBl = some ns → VRs G w xs vs → vs = ns.map V.bl
  | [], ns, vs, h, r => by
    simp only [List.mapM_nil] at h
    cases h
    exact r
  | x :: xs, ns, vs, h, ⟨v, q, h1, h2, h3⟩ => by
    simp only [List.mapM_cons] at h
    obtain ⟨i, e1, h⟩ := Option.bind_eq_some_iff.mp h
    obtain ⟨is, e2, h⟩ := Option.bind_eq_some_iff.mp h
    cases h
    obtain rfl := asBl_inv e1
    rw [h1, mapM_asBl e2 h3, show v = _ from h2]
    rfl
theorem blsL_of {w : Wd} {H : Hp} {S : Store} {x : Val} {v : V} {ns : List Bool} (R : Rl G w H S) (r : VR G w x v) (h : blsL x S = some ns) : ∃ a, v = .ref a ∧ H a = some (.lst (ns.map V.bl)) := by
  obtain ⟨xs, e1, e2⟩ := Option.bind_eq_some_iff.mp h
  obtain ⟨a, vs, h1, h2, h3⟩ := lstV_of R r e1
  rw [mapM_asBl e2 h3] at h2
  exact ⟨a, h1, h2⟩
def oAll : List Val → M Val := c1 blsL fun ns => ret (.d (.bl (ns.all id)))
def oAny : List Val → M Val := c1 blsL fun ns => ret (.d (.bl (ns.any id)))
theorem q_all (hc : X.calm = true) : CallR X (.builtin "all") (rCall G E oAll) := CallR.imp (cr_all hc) fun vs H Q ⟨w, S, xs, R, r, q⟩ => by
  obtain ⟨x, n, rfl, e, q⟩ := c1_inv q
  obtain ⟨v, rfl, r'⟩ := r.one
  replace r := r'
  obtain ⟨a, h1, h2⟩ := blsL_of R r e
  rw [h1]
  exact ⟨a, n, rfl, SqL.of h2, q.ok _ H w (Wd.le.refl w) R rfl⟩
theorem q_any (hc : X.calm = true) : CallR X (.builtin "any") (rCall G E oAny) := CallR.imp (cr_any hc) fun vs H Q ⟨w, S, xs, R, r, q⟩ => by
  obtain ⟨x, n, rfl, e, q⟩ := c1_inv q
  obtain ⟨v, rfl, r'⟩ := r.one
  replace r := r'
  obtain ⟨a, h1, h2⟩ := blsL_of R r e
  rw [h1]
  exact ⟨a, n, rfl, SqL.of h2, q.ok _ H w (Wd.le.refl w) R rfl⟩
/-- int of an int, of a truth value -/
def intV (x : Val) (_ : Store) : Option Int := match asI x with
  | some i => some i
  | none => (asBl x).map fun b => if b = true then 1 else 0
def oInt1 : List Val → M Val := c1 intV fun n => ret (.d (.int n))
theorem q_int : CallR X (.type "int") (rCall G E oInt1) := CallR.imp call_int1 fun vs H Q ⟨w, S, xs, R, r, q⟩ => by
  obtain ⟨x, n, rfl, e, q⟩ := c1_inv q
  obtain ⟨v, rfl, r'⟩ := r.one
  replace r := r'
  have qq : Q (.int n) H := q.ok (.int n) H w (Wd.le.refl w) R rfl
  unfold intV at e
  cases e1 : asI x with
  | some i =>
    rw [e1] at e
    cases e
    obtain rfl := asI_inv e1
    exact .inl ⟨n, by rw [show v = _ from r], qq⟩
  | none =>
    rw [e1] at e
    dsimp only at e
    cases e2 : asBl x with
    | none => rw [e2] at e; cases e
    | some b =>
      rw [e2] at e
      cases e
      obtain rfl := asBl_inv e2
      exact .inr ⟨b, by rw [show v = _ from r], qq⟩
/-- tuple(..), list(..) of a list, a tuple -/
def tplV (x : Val) (S : Store) : Option (List D) := match tupV x with
  | some ds => some ds
  | none => (listV x S).bind datas
def oTuple : List Val → M Val := c1 tplV fun ds => ret (.d (.tup ds))
theorem q_tuple (hK : X.K = G.K) : CallR X (.type "tuple") (rCall G E oTuple) := CallR.imp call_tuple_of fun vs H Q ⟨w, S, xs, R, r, q⟩ => by
  obtain ⟨x, ds, rfl, e, q⟩ := c1_inv q
  obtain ⟨v, rfl, r'⟩ := r.one
  replace r := r'
  have q := q.ok
  unfold tplV at e
  cases e1 : tupV x with
  | some es =>
    rw [e1] at e
    cases e
    obtain ⟨p, us, h1, h2, h3⟩ := tupV_of R r e1
    obtain rfl := tupV_inv e1
    rw [hK, h1]
    rw [h1] at r
    exact ⟨p, us, rfl, .inr ⟨h2, q _ H w (Wd.le.refl w) R r⟩⟩
  | none =>
    rw [e1] at e
    obtain ⟨ys, e1, e2⟩ := Option.bind_eq_some_iff.mp (show (listV x S).bind datas = some ds from e)
    obtain ⟨p, us, h1, h2, h3⟩ := listV_of R r e1
    rw [hK, h1]
    exact ⟨p, us, rfl, .inl ⟨h2, q.tup (Wd.le.refl w) R (VRs.reps e2 h3)⟩⟩
def oList : List Val → M (List Val) := c1 seqV fun xs => ret xs
theorem q_list (hK : X.K = G.K) : CallR X (.type "list") (rCallF G E oList) := CallR.imp call_list_of fun vs H Q ⟨w, S, xs, R, r, q⟩ => by
  obtain ⟨x, ys, rfl, e, q⟩ := c1_inv q
  obtain ⟨v, rfl, r'⟩ := r.one
  replace r := r'
  obtain ⟨p, us, h1, h2, h3⟩ := seqV_of R r e
  rw [hK, h1]
  exact ⟨p, us, rfl, h2, q.ok.fresh (Wd.le.refl w) R h3⟩
/-- str of an int -/
def oStr : List Val → M Val := c1 (fun x _ => (asI x).bind fun i => if i.natAbs.log2 < 1920 then some i else none) fun n => ret (.d (.str (toString n)))
theorem q_str : CallR X (.type "str") (rCall G E oStr) := CallR.imp call_str_int fun vs H Q ⟨w, S, xs, R, r, q⟩ => by
  obtain ⟨x, n, rfl, e, q1⟩ := c1_inv q
  obtain ⟨v, rfl, r'⟩ := r.one
  replace r := r'
  obtain ⟨i, e1, e2⟩ := Option.bind_eq_some_iff.mp e
  split at e2
  · rename_i c
    cases e2
    obtain rfl := asI_inv e1
    exact ⟨n, by rw [show v = _ from r], c, q1.ok _ H w (Wd.le.refl w) R rfl⟩
  · cases e2

/-! ### isinstance(x, T), T one of tuple, list, int, bool, str -/
def tyD : Val → Store → Option String
  | .d .non, _ => some "NoneType"
  | .d (.bl _), _ => some "bool"
  | .d (.int _), _ => some "int"
  | .d (.str _), _ => some "str"
  | .d (.tup _), _ => some "tuple"
  | .d (.lst _), _ => some "list"
  | .d (.dct _ _), _ => some "dict"
  | _, _ => none
theorem tyD_of {w : Wd} {H : Hp} {S : Store} {x : Val} {v : V} {t : String} (R : Rl G w H S) (r : VR G w x v) (h : tyD x S = some t) : TyX G.K H v (.type t) := by
  cases x with
  | r i => cases h
  | d x =>
    cases x with
    | non => cases h; rw [show v = _ from r]; exact .base .non
    | bl b => cases h; rw [show v = _ from r]; exact .base (.bl b)
    | int b => cases h; rw [show v = _ from r]; exact .base (.int b)
    | str b => cases h; rw [show v = _ from r]; exact .base (.str b)
    | tup b =>
      cases h
      obtain ⟨a, vs, e, h2, _⟩ := r
      rw [e]
      rcases same_sqT R.fz h2 with (z | ⟨o, z⟩) | ⟨o, its, n, k, c, _⟩
      · exact .base (.tup z)
      · exact .fTuple z
      · exact .kTuple k c
    | lst b => cases h; obtain ⟨a, vs, e, h2, _⟩ := r; rw [e]; exact .base (.lst (R.fz _ _ h2))
    | dct b _ => cases h; obtain ⟨a, vs, e, h2, _⟩ := r; rw [e]; exact .base (.dK (R.fz _ _ h2))
    | _ => cases h
/-- the answers, a table -/
def isaT (t T : String) : Option Bool := kitB t T
def fIsa (T : String) (fa : FE) : FE := fun env => bnd (fa env) fun x S => match (tyD x S).bind fun t => isaT t T with
  | some k => some (.ok (.d (.bl k)), S)
  | none => none
theorem qe_isa {T : String} {x : Str} {t2 : Pos} (hg : Gl X "isinstance") (hm : X.mg "isinstance" = none) (hK : X.K = G.K) (hT : PE X (.Name x t2) (tC (.ty T))) (ha : QE X G E a fa)
    (he : starEach [a, .Name x t2] X.env = (false, eval a X.env) :: starEach [.Name x t2] X.env := by rfl) (hpl : (backTo pos (starEach [.Name x t2] X.env)).any (·.1) = false := by rfl) (he2 : starEach [.Name x t2] X.env = (false, eval (.Name x t2) X.env) :: starEach [] X.env := by rfl) :
    QE X G E (.Call (.Name "isinstance" p) [a, .Name x t2] [] pos) (fIsa T fa) :=
  PE.imp (pe_callB call_isi hg hm PyProof.Rows.boot_isinstance (pa_cons ha (pa_cons hT pa_nil he2) he) (by decide) (by decide) he hpl) fun σ H Q ⟨w, env, S, hE, hR, h⟩ => TEx.sub hE hR h fun x v H1 w1 S1 l R1 r q => by
    cases e : (tyD x S1).bind fun t => isaT t T with
    | none => rw [e] at q; exact q.elim
    | some k =>
      rw [e] at q
      obtain ⟨t, e1, e2⟩ := Option.bind_eq_some_iff.mp e
      refine ⟨v, .ty T, .type t, .type T, k, rfl, .ty T, by rw [hK]; exact tyD_of R1 r e1, kit_ty e2, ?_⟩
      exact q _ H1 w1 l R1 rfl
end Y

set_option Elab.async false
set_option linter.all false
set_option maxRecDepth 100000
set_option maxHeartbeats 4000000
namespace Y
open PySem PySem.Spec L2
variable {G : Gx} {E : XK} {X : Cx}

/-! ### statements -/
abbrev SO := Option (Fl × Env × Store)
def SRes (G : Gx) (E : XK) (w : Wd) (o : SO) (D : Ends) : Prop := match o with
  | none => False
  | some (.nx, env', S') => ∀ σ' H' w', w.le w' → EnvR G w' env' σ' → Rl G w' H' S' → D.nx σ' H'
  | some (.bk, env', S') => ∀ σ' H' w', w.le w' → EnvR G w' env' σ' → Rl G w' H' S' → D.bk σ' H'
  | some (.ct, env', S') => ∀ σ' H' w', w.le w' → EnvR G w' env' σ' → Rl G w' H' S' → D.ct σ' H'
  | some (.rt r, env', S') => ∀ v H' w', w.le w' → Rl G w' H' S' → VR G w' r v → D.rt v H'
  | some (.xc e, env', S') => ∀ c d H' w', w.le w' → Rl G w' H' S' → XR G w' e c d H' → E c d H'
theorem SRes.mono {w w' : Wd} {o : SO} {D : Ends} (l : w.le w') (h : SRes G E w o D) : SRes G E w' o D := by
  match o, h with
  | some (.nx, env', S'), h => exact fun σ' H' w2 l2 => h σ' H' w2 (l.trans l2)
  | some (.bk, env', S'), h => exact fun σ' H' w2 l2 => h σ' H' w2 (l.trans l2)
  | some (.ct, env', S'), h => exact fun σ' H' w2 l2 => h σ' H' w2 (l.trans l2)
  | some (.rt r, env', S'), h => exact fun σ' H' w2 l2 => h σ' H' w2 (l.trans l2)
  | some (.xc e, env', S'), h => exact fun c d H' w2 l2 => h c d H' w2 (l.trans l2)
def TSx (G : Gx) (E : XK) (g : FS) : TS := fun D σ H => ∃ w env S, EnvR G w env σ ∧ Rl G w H S ∧ SRes G E w (g env S) D
abbrev QS (X : Cx) (G : Gx) (E : XK) (st : Stmt) (g : FS) : Prop := PS X st (TSx G E g)
abbrev QSs (X : Cx) (G : Gx) (E : XK) (st : List Stmt) (g : FS) : Prop := PSs X st (TSx G E g)
/-- an expression first -/
def bS {α : Type} (o : Option (Ex α × Store)) (env : Env) (k : α → Store → SO) : SO := match o with
  | none => none
  | some (.exc e, S') => some (.xc e, env, S')
  | some (.ok a, S') => k a S'
theorem SRes.bS {α : Type} {w : Wd} {o : Option (Ex α × Store)} {env : Env} {k : α → Store → SO} {D : Ends} (h : SRes G E w (bS o env k) D) : Res G E w o (fun a S' => SRes G E w (k a S') D) := by
  match o, h with
  | some (.exc e, S'), h => exact h
  | some (.ok a, S'), h => exact h
theorem TEx.subS {f : FE} {k : Val → Store → SO} {w : Wd} {env env0 : Env} {σ : St} {H : Hp} {S : Store} {D : Ends} {R : VK} (hE : EnvR G w env σ) (hR : Rl G w H S) (h : SRes G E w (bS (f env S) env0 k) D)
    (kk : ∀ x v H1 w1 S1, w.le w1 → Rl G w1 H1 S1 → VR G w1 x v → SRes G E w1 (k x S1) D → R v H1) : TEx G E f σ H R :=
  ⟨w, env, S, hE, hR, h.bS.imp fun x S1 q v H1 w1 l R1 r => kk x v H1 w1 S1 l R1 r (q.mono l)⟩
theorem TTx.subS {f : FB} {k : Bool → Store → SO} {w : Wd} {env env0 : Env} {σ : St} {H : Hp} {S : Store} {D : Ends} {R : Bool → Hp → Prop} (hE : EnvR G w env σ) (hR : Rl G w H S) (h : SRes G E w (bS (f env S) env0 k) D)
    (kk : ∀ x H1 w1 S1, w.le w1 → Rl G w1 H1 S1 → SRes G E w1 (k x S1) D → R x H1) : TTx G E f σ H R :=
  ⟨w, env, S, hE, hR, h.bS.imp fun x S1 q H1 w1 l R1 => kk x H1 w1 S1 l R1 (q.mono l)⟩
def sNil : FS := fun env S => some (.nx, env, S)
def sSeq (g1 g2 : FS) : FS := fun env S => match g1 env S with
  | some (.nx, env', S') => g2 env' S'
  | o => o
theorem qss_nil : QSs X G E [] sNil := PSs.imp pss_nil fun D σ H ⟨w, env, S, hE, hR, h⟩ => h σ H w (Wd.le.refl w) hE hR
variable {st : Stmt} {rest : List Stmt} {g1 g2 : FS} {pos : Pos} {a b c e : Expr} {fa fb : FE} {gc : FB}
theorem SRes.seq {w : Wd} {env : Env} {S : Store} {D : Ends} (h : SRes G E w (sSeq g1 g2 env S) D) : SRes G E w (g1 env S) { D with nx := TSx G E g2 D } := by
  unfold sSeq at h
  match g1 env S, h with
  | none, h => exact h
  | some (.nx, env', S'), h => exact fun σ' H' w' l hE hR => ⟨w', env', S', hE, hR, h.mono l⟩
  | some (.bk, env', S'), h => exact h
  | some (.ct, env', S'), h => exact h
  | some (.rt r, env', S'), h => exact h
  | some (.xc e, env', S'), h => exact h
theorem qss_cons (h1 : QS X G E st g1) (h2 : QSs X G E rest g2) : QSs X G E (st :: rest) (sSeq g1 g2) := PSs.imp (pss_cons h1 h2) fun D σ H ⟨w, env, S, hE, hR, h⟩ => ⟨w, env, S, hE, hR, h.seq⟩
theorem qss_one (h1 : QS X G E st g1) : QSs X G E [st] g1 := pss_one h1
def sStk : FS := fun _ _ => none
/-- what is not run -/
theorem qs_stk : QS X G E st sStk := PS.imp ps_never fun D σ H ⟨w, env, S, hE, hR, h⟩ => h
theorem qs_pass : QS X G E (.Pass pos) sNil := PS.imp ps_pass fun D σ H ⟨w, env, S, hE, hR, h⟩ => h σ H w (Wd.le.refl w) hE hR
def sCont : FS := fun env S => some (.ct, env, S)
theorem qs_cont : QS X G E (.Continue pos) sCont := PS.imp ps_continue fun D σ H ⟨w, env, S, hE, hR, h⟩ => h σ H w (Wd.le.refl w) hE hR
def sRet (f : FE) : FS := fun env S => bS (f env S) env fun x S' => some (.rt x, env, S')
theorem qs_ret (h : QE X G E e fa) : QS X G E (.Return (some e) pos) (sRet fa) := PS.imp (ps_ret h) fun D σ H ⟨w, env, S, hE, hR, h⟩ => TEx.subS hE hR h fun x v H1 w1 S1 l R1 r q => q v H1 w1 (Wd.le.refl w1) R1 r
def sDo (f : FE) : FS := fun env S => bS (f env S) env fun _ S' => some (.nx, env, S')
theorem qs_do (h : QE X G E e fa) (hs : swapsWith e none pos.line X.env = pure false := by rfl) : QS X G E (.Expr e pos) (sDo fa) := PS.imp (ps_expr h hs) fun D σ H ⟨w, env, S, hE, hR, h⟩ => TEx.subS hE hR h fun x v H1 w1 S1 l R1 r q => q σ H1 w1 (Wd.le.refl w1) (hE.mono l) R1
def sIf (gc : FB) (g1 g2 : FS) : FS := fun env S => bS (gc env S) env fun k S' => if k = true then g1 env S' else g2 env S'
theorem qs_if {p q : List Stmt} (hc : QT X G E c gc) (h1 : QSs X G E p g1) (h2 : QSs X G E q g2) : QS X G E (.If c p q pos) (sIf gc g1 g2) := PS.imp (ps_if hc h1 h2) fun D σ H ⟨w, env, S, hE, hR, h⟩ => TTx.subS hE hR h fun k H1 w1 S1 l R1 q => by
  cases k with
  | true => rw [if_pos rfl]; exact ⟨w1, env, S1, hE.mono l, R1, q⟩
  | false => rw [if_neg (by decide)]; exact ⟨w1, env, S1, hE.mono l, R1, q⟩
def sSet (i : Nat) (f : FE) : FS := fun env S => bS (f env S) env fun x S' => some (.nx, env.set i (some x), S')
theorem qs_set {i : Nat} {x : Str} {pos' : Pos} (hN : X.N.Nodup) (hi : X.N[i]? = some x) (hx : Loc X.env.scope x) (he : QE X G E e fa) (hs : swapsWith e (some (.Name x pos')) pos.line X.env = pure false := by rfl) (hf : X.fn x = true ∨ X.env.scope.names.lookup x = some .local := by first | exact .inl rfl | exact .inr rfl | assumption) :
    QS X G E (.Assign [.Name x pos'] e pos) (sSet i fa) := PS.imp (ps_set hN hi hx he hs hf) fun D σ H ⟨w, env, S, hE, hR, h⟩ => TEx.subS hE hR h fun x v H1 w1 S1 l R1 r q => q _ H1 w1 (Wd.le.refl w1) ((hE.mono l).set i r) R1
/-- a list of the store, plain again (what is handed back, or kept, and not written any more) -/
def unN : Val → M Val
  | .d x => ret (.d x)
  | .r i => fun S => match S[i]? with
    | some (.lst xs) => (datas xs).map fun ds => (.ok (.d (.lst ds)), S.set i .dead)
    | _ => none
theorem VP.unN {w : Wd} {x : Val} {S : Store} {Q : VK} (h : Res G E w (unN x S) (VP G w Q)) : VP G w Q x S := fun v H' w' l R r => by
  cases x with
  | d x => exact h v H' w' l R r
  | r i =>
    unfold Y.unN at h
    dsimp only at h
    cases e : S[i]? with
    | none => rw [e] at h; exact h.elim
    | some o =>
      rw [e] at h
      cases o with
      | lst xs =>
        dsimp only at h
        cases e2 : datas xs with
        | none => rw [e2] at h; exact h.elim
        | some ds =>
          rw [e2] at h
          obtain ⟨f0, vs, h2, h3⟩ := R.ob i _ e
          have hi := (List.getElem?_eq_some_iff.mp e).1
          have K := R.kill i
          have l2 : w'.le (w'.frz (w'.ι i) (.lst vs)) := Wd.frz_le f0
          have nl : ∀ j q, (S.set i Ob.dead)[j]? = some q → q ≠ Ob.dead → w'.ι j ≠ w'.ι i := fun j q z lq ej => by
            by_cases hj : i = j
            · subst hj
              rw [List.getElem?_set_self hi] at z
              cases z
              exact lq rfl
            · rw [List.getElem?_set_ne hj] at z
              exact hj (R.inj i j _ q e z (by simp) lq ej.symm)
          have h4 : VP G w Q (.d (.lst ds)) (S.set i .dead) := h
          rw [r.2]
          exact h4 _ H' _ (l.trans l2) (K.freeze h2 f0 nl (R.tl i _ e (by simp))) ⟨w'.ι i, vs, rfl, upd_same, (VRs.reps e2 h3).mono l2.1⟩
      | _ => exact h.elim
def fUn (f : FE) : FE := fun env => bnd (f env) unN
theorem qe_un (h : QE X G E e fa) : QE X G E e (fUn fa) := PE.imp h fun σ H Q ⟨w, env, S, hE, hR, h⟩ => ⟨w, env, S, hE, hR, h.bnd.imp fun _ _ z => VP.unN z⟩

/-! ### targets: which slots are written (ts), how -/
def TGx (G : Gx) (ts : List Nat) (gt : Val → Env → Option Env) : TG := fun v σ H Q => ∃ w env S x env', EnvR G w env σ ∧ Rl G w H S ∧ VR G w x v ∧ gt x env = some env' ∧
  ∀ σ', EnvR G w env' σ' → (∀ vs : List Nat, (∀ i, i ∈ ts → i ∈ vs) → wipe σ' vs = wipe σ vs) → Q σ' H
abbrev QG (X : Cx) (G : Gx) (tg : Expr) (ts : List Nat) (gt : Val → Env → Option Env) : Prop := PG X tg (TGx G ts gt)
theorem wipe_set' {σ : St} {i : Nat} {v : Option V} : ∀ vs : List Nat, (wipe (σ.set i v) vs).set i none = (wipe σ vs).set i none
  | [] => by show (σ.set i v).set i none = σ.set i none; rw [List.set_set]
  | j :: vs => by
    show ((wipe (σ.set i v) vs).set j none).set i none = ((wipe σ vs).set j none).set i none
    by_cases e : j = i
    · subst e
      rw [List.set_set, List.set_set]
      exact wipe_set' vs
    · rw [List.set_comm _ _ e, wipe_set' vs, List.set_comm _ _ (Ne.symm e)]
theorem wipe_set {σ : St} {i : Nat} {v : Option V} : ∀ {vs : List Nat}, i ∈ vs → wipe (σ.set i v) vs = wipe σ vs
  | j :: vs, h => by
    show (wipe (σ.set i v) vs).set j none = (wipe σ vs).set j none
    by_cases e : i = j
    · subst e
      exact wipe_set' vs
    · rw [wipe_set (by
        rcases List.mem_cons.mp h with z | z
        · exact absurd z e
        · exact z)]
def gN (i : Nat) : Val → Env → Option Env := fun x env => some (env.set i (some x))
theorem PG.imp {tg : Expr} {t t' : TG} (h : PG X tg t) (k : ∀ v σ H Q, t' v σ H Q → t v σ H Q) : PG X tg t' := by
  obtain ⟨r⟩ := h
  constructor
  intros
  apply r
  · assumption
  · assumption
  · apply k; assumption
theorem qg_name {i : Nat} {x : Str} (hN : X.N.Nodup) (hi : X.N[i]? = some x) (hx : Loc X.env.scope x) (hf : X.fn x = true ∨ X.env.scope.names.lookup x = some .local := by first | exact .inl rfl | exact .inr rfl | assumption) : QG X G (.Name x pos) [i] (gN i) :=
  PG.imp (pg_name hN hi hx hf) fun v σ H Q ⟨w, env, S, x, env', hE, hR, r, e, k⟩ => by
    cases e
    exact k _ (hE.set i r) fun vs h => wipe_set (h i List.mem_cons_self)
/-- several names, from a tuple -/
def setsE : List Nat → List D → Env → Option Env
  | [], [], env => some env
  | i :: is, d :: ds, env => setsE is ds (env.set i (some (.d d)))
  | _, _, _ => none
def gT (ts : List Nat) : Val → Env → Option Env := fun x env => (tupV x).bind fun ds => setsE ts ds env
def TGsx (G : Gx) (ts : List Nat) : TGs := fun vs σ H Q => ∃ w env S ds env', EnvR G w env σ ∧ Rl G w H S ∧ Reps G w.F ds vs ∧ setsE ts ds env = some env' ∧
  ∀ σ', EnvR G w env' σ' → (∀ vs : List Nat, (∀ i, i ∈ ts → i ∈ vs) → wipe σ' vs = wipe σ vs) → Q σ' H
abbrev QGs (X : Cx) (G : Gx) (tg : List Expr) (ts : List Nat) : Prop := PGs X tg (TGsx G ts)
theorem PGs.imp {tg : List Expr} {t t' : TGs} (h : PGs X tg t) (k : ∀ v σ H Q, t' v σ H Q → t v σ H Q) : PGs X tg t' := by
  obtain ⟨r⟩ := h
  constructor
  intros
  apply r
  · assumption
  · assumption
  · apply k; assumption
theorem qgs_nil : QGs X G [] [] := PGs.imp pgs_nil fun vs σ H Q ⟨w, env, S, ds, env', hE, hR, r, e, k⟩ => by
  cases ds with
  | nil =>
    cases e
    exact ⟨r, k σ hE fun _ _ => rfl⟩
  | cons d ds => cases e
theorem qgs_cons {i : Nat} {is : List Nat} {tg : Expr} {tgs : List Expr} (h1 : PG X tg (gName i)) (h2 : QGs X G tgs is) (hs : (assignEach (tg :: tgs) X.env).map (·.2) = assign tg X.env :: (assignEach tgs X.env).map (·.2) := by rfl) : QGs X G (tg :: tgs) (i :: is) :=
  PGs.imp (pgs_cons h1 h2 hs) fun vs σ H Q ⟨w, env, S, ds, env', hE, hR, r, e, k⟩ => by
    cases ds with
    | nil => cases e
    | cons d ds =>
      obtain ⟨v, q, h1, h2, h3⟩ := r
      exact ⟨v, q, h1, w, env.set i (some (.d d)), S, ds, env', hE.set i h2, hR, h3, e, fun σ' hE' hw => k σ' hE' fun vs hv => by
        rw [hw vs fun j hj => hv j (List.mem_cons_of_mem _ hj)]
        exact wipe_set (hv i List.mem_cons_self)⟩
theorem setsE_len : ∀ {ts : List Nat} {ds : List D} {env env' : Env}, setsE ts ds env = some env' → ds.length = ts.length
  | [], [], _, _, _ => rfl
  | i :: is, d :: ds, env, env', h => by rw [List.length_cons, List.length_cons, setsE_len (ts := is) h]
  | [], _ :: _, _, _, h => by cases h
  | _ :: _, [], _, _, h => by cases h
theorem qg_tup {es : List Expr} {k : Nat} {ts : List Nat} (hK : X.K = G.K) (hc : X.calm = true) (h : QGs X G es ts) (hn : (assignEach es X.env).length = ts.length := by rfl) (hst : (assignEach es X.env).findIdx? (·.1) = none := by rfl) : QG X G (.Tuple es k pos) ts (gT ts) :=
  PG.imp (pg_tup hc h hn hst) fun v σ H Q ⟨w, env, S, x, env', hE, hR, r, e, k⟩ => by
    obtain ⟨ds, e1, e2⟩ := Option.bind_eq_some_iff.mp e
    obtain ⟨a, vs, h1, h2, h3⟩ := tupV_of hR r e1
    exact ⟨a, vs, h1, by rw [hK]; exact h2, by rw [← h3.len]; exact setsE_len e2, w, env, S, ds, env', hE, hR, h3, e2, k⟩
/-- a, b = e with e a tuple by value -/
def sAsg (gt : Val → Env → Option Env) (f : FE) : FS := fun env S => bS (f env S) env fun x S' => (gt x env).map fun env' => (.nx, env', S')
theorem qs_asg {tg : Expr} {ts : List Nat} {gt : Val → Env → Option Env} (he : QE X G E e fa) (hg : QG X G tg ts gt) (hs : swapsWithSole [tg] e pos.line X.env = pure false := by rfl) (hw : swappedStores [tg] e X.env = pure none := by rfl)
    (h1 : (assignEach [tg] X.env).map (·.2) = [assign tg X.env] := by rfl) : QS X G E (.Assign [tg] e pos) (sAsg gt fa) := PS.imp (ps_asg he hg hs hw h1) fun D σ H ⟨w, env, S, hE, hR, h⟩ => TEx.subS hE hR h fun x v H1 w1 S1 l R1 r q => by
  cases e : gt x env with
  | none => rw [e] at q; exact q.elim
  | some env' =>
    rw [e] at q
    exact ⟨w1, env, S1, x, env', hE.mono l, R1, r, e, fun σ' hE' _ => q σ' H1 w1 (Wd.le.refl w1) hE' R1⟩

/-! ### what is walked: the values, each as it comes -/
def WalkR (G : Gx) (w : Wd) (J : It) (xs : List Val) : Prop := ∀ H2 w2 S2, w.le0 w2 → Rl G w2 H2 S2 →
  (∀ i, i < xs.length → J.go i H2) ∧ J.stop xs.length H2 ∧ ∀ i x H3, i < xs.length → J.yld i H2 x H3 → ∃ y w3, xs[i]? = some y ∧ w2.le w3 ∧ Rl G w3 H3 S2 ∧ VR G w3 y x
def TIx (G : Gx) (E : XK) (f : FA) : TI := fun σ H R => ∃ w env S, EnvR G w env σ ∧ Rl G w H S ∧ Res G E w (f env S) (fun xs S' => ∀ J H' w', w.le w' → Rl G w' H' S' → WalkR G w' J xs → R J H')
abbrev QI (X : Cx) (G : Gx) (E : XK) (tg iter : Expr) (f : FA) : Prop := PI X tg iter (TIx G E f)
theorem PI.imp {tg it : Expr} {t t' : TI} (h : PI X tg it t) (k : ∀ σ H R, t' σ H R → t σ H R) : PI X tg it t' := by
  obtain ⟨r⟩ := h
  constructor
  intros
  apply r
  · assumption
  · apply k; assumption
/-- a list or a tuple, whichever the value is -/
def iSeq (K : PySem.W.Frag) (tl : TE) : TI := fun σ H R => tl σ H fun x H1 => ∃ a, x = .ref a ∧ (((∃ xs, SqL K H1 a xs) ∧ R (Itl K a) H1) ∨ ((∃ xs, SqT K H1 a xs) ∧ R (Itt K a) H1))
theorem pi_seq {tg l : Expr} {tl : TE} (hl : PE X l tl) : PI X tg l (iSeq X.K tl) := by
  refine ⟨fun pins s σ H R I h => ?_⟩
  refine thn (hl.run pins s σ H _ I h) fun v s1 ⟨x, H1, I1, r1, q1⟩ => ?_
  obtain ⟨a, e, q⟩ := q1
  subst e
  cases r1
  have fp : ∀ b ∈ [s1.heap.objs.size], FpOk X pins H1 b := fun b hb => by
    have e : b = s1.heap.objs.size := by simpa using hb
    subst e
    exact I1.fpOk (Nat.le_refl _) (I1.hok.fresh (Nat.le_refl _))
  rcases q with ⟨⟨xs, hq⟩, q⟩ | ⟨⟨xs, hq⟩, q⟩
  · obtain ⟨its, rv, p, hz⟩ := I1.list hq
    refine wpAny_pyIter_list p.isList ?_
    exact ⟨s1.heap.objs.size, [s1.heap.objs.size], _, _, H1, rfl, I1.kept (t' := s1.toks) fun b o e => Heap.get?_push_of_some _ e, turn_list a _, ⟨_, Heap.get?_push_size _ rfl, rfl, rfl⟩, fp, q⟩
  · obtain ⟨its, rv, p, hz⟩ := I1.tuple hq
    refine PySem.wpAny_pyIter_tuple (show s1.heap.IsTuple a its.toArray from p) ?_
    exact ⟨s1.heap.objs.size, [s1.heap.objs.size], _, _, H1, rfl, I1.kept (t' := s1.toks) fun b o e => Heap.get?_push_of_some _ e, turn_tuple a _, ⟨_, Heap.get?_push_size _ rfl, rfl, rfl⟩, fp, q⟩
/-- plain sequences -/
def fzV : Val → Option (List Val)
  | .d (.tup ds) => some (ds.map .d)
  | .d (.lst ds) => some (ds.map .d)
  | .d (.ro ns) => some (ns.map fun n => .d (.int n))
  | _ => none
def fSeq (f : FE) : FA := fun env => bnd (f env) fun x => lift (fzV x)
theorem walkR_list {w : Wd} {a : Addr} {vs : List V} {xs : List Val} (h : ∀ H2 w2 S2, w.le0 w2 → Rl G w2 H2 S2 → SqL G.K H2 a vs) (r : VRs G w xs vs) : WalkR G w (Itl G.K a) xs := fun H2 w2 S2 l R => by
  have q := h H2 w2 S2 l R
  refine ⟨fun i hi => ⟨vs, vs[i]'(by rw [← r.len]; exact hi), q, by simp⟩, ⟨vs, q, by rw [r.len]; exact Nat.le_refl _⟩, fun i x H3 hi y => ?_⟩
  obtain ⟨e, k⟩ := y
  obtain ⟨v, h1, h2⟩ := r.get (List.getElem?_eq_getElem hi)
  have h3 := k vs q
  rw [h1] at h3
  cases h3
  exact ⟨_, w2, List.getElem?_eq_getElem hi, Wd.le.refl _, by rw [e]; exact R, h2.mono0 l⟩
theorem walkR_tup {w : Wd} {a : Addr} {vs : List V} {xs : List Val} (h : ∀ H2 w2 S2, w.le0 w2 → Rl G w2 H2 S2 → SqT G.K H2 a vs) (r : VRs G w xs vs) : WalkR G w (Itt G.K a) xs := fun H2 w2 S2 l R => by
  have q := h H2 w2 S2 l R
  refine ⟨fun i hi => ⟨vs, vs[i]'(by rw [← r.len]; exact hi), q, by simp⟩, ⟨vs, q, by rw [r.len]; exact Nat.le_refl _⟩, fun i x H3 hi y => ?_⟩
  obtain ⟨e, k⟩ := y
  obtain ⟨v, h1, h2⟩ := r.get (List.getElem?_eq_getElem hi)
  have h3 := k vs q
  rw [h1] at h3
  cases h3
  exact ⟨_, w2, List.getElem?_eq_getElem hi, Wd.le.refl _, by rw [e]; exact R, h2.mono0 l⟩
theorem qi_seq {tg : Expr} (hK : X.K = G.K) (h : QE X G E e fa) : QI X G E tg e (fSeq fa) := PI.imp (pi_seq h) fun σ H R ⟨w, env, S, hE, hR, h⟩ => TEx.sub hE hR h fun x v H1 w1 S1 l R1 r q => by
  have q2 : ∀ xs, fzV x = some xs → ∀ J, WalkR G w1 J xs → R J H1 := fun xs e J hJ => by
    unfold lift at q
    rw [e] at q
    exact q J H1 w1 l R1 hJ
  rw [hK]
  cases x with
  | r i => exact q.elim
  | d x =>
    cases x with
    | tup ds =>
      obtain ⟨a, vs, h1, h2, h3⟩ := r
      refine ⟨a, h1, .inr ⟨⟨vs, same_sqT R1.fz h2⟩, q2 _ rfl _ (walkR_tup (fun H2 w2 S2 l2 R2 => same_sqT (l2.1.trans R2.fz) h2) (Reps.vrs h3))⟩⟩
    | lst ds =>
      obtain ⟨a, vs, h1, h2, h3⟩ := r
      refine ⟨a, h1, .inl ⟨⟨vs, SqL.of (R1.fz _ _ h2)⟩, q2 _ rfl _ (walkR_list (fun H2 w2 S2 l2 R2 => SqL.of (R2.fz _ _ (l2.1 _ _ h2))) (Reps.vrs h3))⟩⟩
    | ro ns =>
      obtain ⟨a, h1, h2⟩ := r
      refine ⟨a, h1, .inl ⟨⟨_, R1.fz.seq h2⟩, q2 _ rfl _ (walkR_list (fun H2 w2 S2 l2 R2 => (l2.1.trans R2.fz).seq h2) (ints_vrs ns))⟩⟩
    | _ => exact q.elim
/-- range -/
def rngV (lo hi : Int) : List Val := (List.range (hi - lo).toNat).map fun (i : Nat) => .d (.int (lo + i))
def inR (i : Int) : Bool := decide (-(2 ^ 62) ≤ i) && decide (i < 2 ^ 62)
theorem inR_iff {i : Int} (h : inR i = true) : -(2 ^ 62) ≤ i ∧ i < 2 ^ 62 := by
  unfold inR at h
  rw [Bool.and_eq_true, decide_eq_true_eq, decide_eq_true_eq] at h
  exact h
def rng1 : List Val → M (List Val) := fun xs => match xs with
  | [x] => fun S => match asI x with
    | some j => if inR j = true then some (.ok (rngV 0 j), S) else none
    | none => none
  | _ => stk
def rng2 : List Val → M (List Val) := fun xs => match xs with
  | [x, y] => fun S => match asI x, asI y with
    | some i, some j => if (inR i && inR j) = true then some (.ok (rngV i j), S) else none
    | _, _ => none
  | _ => stk
theorem rngV_get {lo hi : Int} {i : Nat} (h : i < (hi - lo).toNat) : (rngV lo hi)[i]? = some (.d (.int (lo + i))) := by
  unfold rngV
  rw [List.getElem?_map, List.getElem?_range h]
  rfl
theorem rngV_len (lo hi : Int) : (rngV lo hi).length = (hi - lo).toNat := by unfold rngV; rw [List.length_map, List.length_range]
theorem walkR_rng {w : Wd} (lo hi : Int) : WalkR G w (Itr lo (hi - lo).toNat) (rngV lo hi) := fun H2 w2 S2 l R => by
  rw [rngV_len]
  refine ⟨fun i hi => hi, Nat.le_refl _, fun i x H3 hi y => ?_⟩
  obtain ⟨e, k⟩ := y
  exact ⟨_, w2, rngV_get hi, Wd.le.refl _, by rw [e]; exact R, k⟩
variable {fs : FA}
theorem qi_rng1 {tg : Expr} {p : Pos} (hg : Gl X "range") (hm : X.mg "range" = none) (ha : QA X G E [a] fs) (hs : starEach [a] X.env = [(false, eval a X.env)] := by rfl) : QI X G E tg (.Call (.Name "range" p) [a] [] pos) (fCall rng1 fs) :=
  PI.imp (pi_range1 hg hm ha hs) fun σ H R ⟨w, env, S, hE, hR, h⟩ => TAx.sub hE hR h fun xs vs H1 w1 S1 l R1 r q => by
    unfold rng1 at q
    match xs, r, q with
    | [], _, q => exact q.elim
    | [x], r, q =>
      dsimp only at q
      cases e : asI x with
      | none => rw [e] at q; exact q.elim
      | some j =>
        rw [e] at q
        dsimp only at q
        by_cases c : inR j = true
        · rw [if_pos c] at q
          obtain ⟨v, h1, r1⟩ := r.one
          obtain rfl := asI_inv e
          obtain ⟨c1, c2⟩ := inR_iff c
          have q2 := q (Itr 0 (j - 0).toNat) H1 w1 l R1 (walkR_rng 0 j)
          rw [Int.sub_zero] at q2
          exact ⟨j, by rw [h1, show v = _ from r1], c1, c2, q2⟩
        · rw [if_neg c] at q
          exact q.elim
    | _ :: _ :: _, _, q => exact q.elim
theorem qi_rng2 {tg : Expr} {p : Pos} (hg : Gl X "range") (hm : X.mg "range" = none) (ha : QA X G E [a, b] fs) (hs : starEach [a, b] X.env = [(false, eval a X.env), (false, eval b X.env)] := by rfl) (hs2 : starEach [b] X.env = [(false, eval b X.env)] := by rfl) : QI X G E tg (.Call (.Name "range" p) [a, b] [] pos) (fCall rng2 fs) :=
  PI.imp (pi_range2 hg hm ha hs hs2) fun σ H R ⟨w, env, S, hE, hR, h⟩ => TAx.sub hE hR h fun xs vs H1 w1 S1 l R1 r q => by
    unfold rng2 at q
    match xs, r, q with
    | [], _, q => exact q.elim
    | [_], _, q => exact q.elim
    | [x, y], r, q =>
      dsimp only at q
      cases e : asI x with
      | none => rw [e] at q; exact q.elim
      | some i =>
        cases e2 : asI y with
        | none => rw [e, e2] at q; exact q.elim
        | some j =>
          rw [e, e2] at q
          dsimp only at q
          by_cases c : (inR i && inR j) = true
          · rw [if_pos c] at q
            rw [Bool.and_eq_true] at c
            obtain ⟨v, u, h1, r1, r2⟩ := r.two
            obtain rfl := asI_inv e
            obtain rfl := asI_inv e2
            obtain ⟨c1, c2⟩ := inR_iff c.1
            obtain ⟨c3, c4⟩ := inR_iff c.2
            exact ⟨i, j, by rw [h1, show v = _ from r1, show u = _ from r2], ⟨c1, c2, c3, c4⟩, q (Itr i (j - i).toNat) H1 w1 l R1 (walkR_rng i j)⟩
          · rw [if_neg c] at q
            exact q.elim
    | _ :: _ :: _ :: _, _, q => exact q.elim

/-! ### for -/
def forL (gt : Val → Env → Option Env) (body : FS) : List Val → FS
  | [], env, S => some (.nx, env, S)
  | x :: xs, env, S => match gt x env with
    | none => none
    | some env1 => match body env1 S with
      | none => none
      | some (.nx, env', S') => forL gt body xs env' S'
      | some (.ct, env', S') => forL gt body xs env' S'
      | some (.bk, env', S') => some (.nx, env', S')
      | some (.rt r, env', S') => some (.rt r, env', S')
      | some (.xc e, env', S') => some (.xc e, env', S')
def sFor (fi : FA) (gt : Val → Env → Option Env) (body : FS) : FS := fun env S => bS (fi env S) env fun xs S' => forL gt body xs env S'
theorem TIx.subS {f : FA} {k : List Val → Store → SO} {w : Wd} {env env0 : Env} {σ : St} {H : Hp} {S : Store} {D : Ends} {R : It → Hp → Prop} (hE : EnvR G w env σ) (hR : Rl G w H S) (h : SRes G E w (bS (f env S) env0 k) D)
    (kk : ∀ xs J H1 w1 S1, w.le w1 → Rl G w1 H1 S1 → WalkR G w1 J xs → SRes G E w1 (k xs S1) D → R J H1) : TIx G E f σ H R :=
  ⟨w, env, S, hE, hR, h.bS.imp fun xs S1 q J H1 w1 l R1 r => kk xs J H1 w1 S1 l R1 r (q.mono l)⟩
theorem forL_cons {gt : Val → Env → Option Env} {body : FS} {x : Val} {xs : List Val} {env : Env} {S : Store} {w : Wd} {D : Ends} (h : SRes G E w (forL gt body (x :: xs) env S) D) :
    ∃ env1, gt x env = some env1 ∧ SRes G E w (body env1 S) { D with nx := TSx G E (forL gt body xs) D, ct := TSx G E (forL gt body xs) D, bk := D.nx } := by
  unfold forL at h
  cases e : gt x env with
  | none => rw [e] at h; exact h.elim
  | some env1 =>
    rw [e] at h
    dsimp only at h
    refine ⟨env1, rfl, ?_⟩
    match body env1 S, h with
    | none, h => exact h
    | some (.nx, env', S'), h => exact fun σ' H' w' l hE hR => ⟨w', env', S', hE, hR, h.mono l⟩
    | some (.ct, env', S'), h => exact fun σ' H' w' l hE hR => ⟨w', env', S', hE, hR, h.mono l⟩
    | some (.bk, env', S'), h => exact h
    | some (.rt r, env', S'), h => exact h
    | some (.xc e, env', S'), h => exact h
theorem qs_for {tg iter : Expr} {body : List Stmt} {ts : List Nat} {fi : FA} {gt : Val → Env → Option Env} {g : FS} (hp : PassesOwn (model X.prog X.w) X.A X.env X.xe) (hc : X.calm = true) (hi : QI X G E tg iter fi) (hg : QG X G tg ts gt) (hb : QSs X G E body g)
    (hs : ∀ x, foldedSetIterable iter X.env x = pure x := by intro _; rfl) : QS X G E (.For tg iter body [] pos) (sFor fi gt g) :=
  PS.imp (ps_for hp hc hi hg hb hs) fun D σ H ⟨w, env, S, hE, hR, h⟩ => TIx.subS hE hR h fun xs J H1 w1 S1 l R1 hJ q => by
    refine ⟨fun i m σ H => m = xs.length - i ∧ i ≤ xs.length ∧ ∃ w2 env S, w1.le w2 ∧ EnvR G w2 env σ ∧ Rl G w2 H S ∧ SRes G E w2 (forL gt g (xs.drop i) env S) D, ⟨xs.length, by simp, Nat.zero_le _, w1, env, S1, Wd.le.refl _, hE.mono l, R1, q⟩, ?_⟩
    rintro i m σ2 H2 ⟨rfl, hi, w2, env2, S2, l2, hE2, R2, q2⟩
    obtain ⟨j1, j2, j3⟩ := hJ H2 w2 S2 l2.le0 R2
    by_cases hlt : i < xs.length
    · refine .inr ⟨j1 i hlt, fun σ' H' => (i + 1 ≤ xs.length ∧ ∃ w3 env S, w1.le w3 ∧ EnvR G w3 env σ' ∧ Rl G w3 H' S ∧ SRes G E w3 (forL gt g (xs.drop (i + 1)) env S) D), fun σ' H' hN => ⟨xs.length - (i + 1), by omega, rfl, hN.1, hN.2⟩, fun x H3 y => ?_⟩
      obtain ⟨yv, w3, e1, l3, R3, r3⟩ := j3 i x H3 hlt y
      rw [List.drop_eq_getElem_cons hlt] at q2
      have ey : xs[i] = yv := by rw [List.getElem?_eq_getElem hlt] at e1; exact Option.some.inj e1
      rw [ey] at q2
      obtain ⟨env1, e2, q3⟩ := forL_cons (q2.mono l3)
      refine ⟨w3, env2, S2, yv, env1, hE2.mono l3, R3, r3, e2, fun σ' hE' _ => ⟨w3, env1, S2, hE', R3, ?_⟩⟩
      have up : ∀ σ' H' w', w3.le w' → TSx G E (forL gt g (xs.drop (i + 1))) D σ' H' → True := fun _ _ _ _ _ => trivial
      match hbody : g env1 S2, q3 with
      | none, q3 => exact q3.elim
      | some (.nx, env', S'), q3 =>
        exact fun σ' H' w' l' hE' R' => ⟨hlt, w', env', S', (l2.trans l3).trans l', hE', R', by
          have z := forL_cons (q2.mono l3)
          obtain ⟨env9, e9, q9⟩ := z
          rw [e2] at e9
          cases e9
          unfold forL at q2
          rw [e2] at q2
          dsimp only at q2
          rw [hbody] at q2
          exact (q2.mono l3).mono l'⟩
      | some (.ct, env', S'), q3 =>
        exact fun σ' H' w' l' hE' R' => ⟨hlt, w', env', S', (l2.trans l3).trans l', hE', R', by
          unfold forL at q2
          rw [e2] at q2
          dsimp only at q2
          rw [hbody] at q2
          exact (q2.mono l3).mono l'⟩
      | some (.bk, env', S'), q3 => exact q3
      | some (.rt r, env', S'), q3 => exact q3
      | some (.xc e, env', S'), q3 => exact q3
    · have ei : i = xs.length := by omega
      subst ei
      rw [List.drop_length] at q2
      exact .inl ⟨j2, q2 σ2 H2 w2 (Wd.le.refl _) hE2 R2⟩

/-! ### while -/
def whileN (gc : FB) (body : FS) : Nat → FS
  | 0, _, _ => none
  | n + 1, env, S => bS (gc env S) env fun k S' => if k = true then (match body env S' with
      | none => none
      | some (.nx, env', S') => whileN gc body n env' S'
      | some (.ct, env', S') => whileN gc body n env' S'
      | some (.bk, env', S') => some (.nx, env', S')
      | some (.rt r, env', S') => some (.rt r, env', S')
      | some (.xc e, env', S') => some (.xc e, env', S')) else some (.nx, env, S')
open Classical in
noncomputable def sWhile (gc : FB) (body : FS) : FS := fun env S => if h : ∃ n r, whileN gc body n env S = some r then whileN gc body h.choose env S else none
theorem sWhile_some {gc : FB} {body : FS} {env : Env} {S : Store} {r : Fl × Env × Store} (h : sWhile gc body env S = some r) : ∃ n, whileN gc body n env S = some r := by
  unfold sWhile at h
  split at h
  · rename_i q
    exact ⟨_, h⟩
  · cases h
theorem qs_while {body : List Stmt} {g : FS} (hp : PassesOwn (model X.prog X.w) X.A X.env X.xe) (hc : QT X G E c gc) (hb : QSs X G E body g) : QS X G E (.While c body [] pos) (sWhile gc g) :=
  PS.imp (ps_while hp hc hb) fun D σ H ⟨w, env, S, hE, hR, h⟩ => by
    have h2 : ∃ n, SRes G E w (whileN gc g n env S) D := by
      cases e : sWhile gc g env S with
      | none => rw [e] at h; exact h.elim
      | some r =>
        obtain ⟨n, hn⟩ := sWhile_some e
        exact ⟨n, by rw [hn, ← e]; exact h⟩
    obtain ⟨n, h2⟩ := h2
    refine ⟨fun m σ H => ∃ w env S, EnvR G w env σ ∧ Rl G w H S ∧ SRes G E w (whileN gc g m env S) D, ⟨n, w, env, S, hE, hR, h2⟩, ?_⟩
    rintro m σ2 H2 ⟨w2, env2, S2, hE2, R2, q2⟩
    cases m with
    | zero => exact q2.elim
    | succ m =>
      refine TTx.subS hE2 R2 q2 fun k H3 w3 S3 l3 R3 q3 => ?_
      cases k with
      | false =>
        rw [if_neg (by decide)] at q3 ⊢
        exact q3 σ2 H3 w3 (Wd.le.refl _) (hE2.mono l3) R3
      | true =>
        rw [if_pos rfl] at q3 ⊢
        refine ⟨fun σ H => ∃ w env S, EnvR G w env σ ∧ Rl G w H S ∧ SRes G E w (whileN gc g m env S) D, fun σ' H' hN => ⟨m, Nat.lt_succ_self _, hN⟩, w3, env2, S3, hE2.mono l3, R3, ?_⟩
        match g env2 S3, q3 with
        | none, q3 => exact q3.elim
        | some (.nx, env', S'), q3 => exact fun σ' H' w' l' hE' R' => ⟨w', env', S', hE', R', q3.mono l'⟩
        | some (.ct, env', S'), q3 => exact fun σ' H' w' l' hE' R' => ⟨w', env', S', hE', R', q3.mono l'⟩
        | some (.bk, env', S'), q3 => exact q3
        | some (.rt r, env', S'), q3 => exact q3
        | some (.xc e, env', S'), q3 => exact q3
end Y

set_option Elab.async false
set_option linter.all false
set_option maxRecDepth 100000
set_option maxHeartbeats 4000000
namespace Y
open PySem PySem.Spec L2
variable {G : Gx} {E : XK} {X : Cx}

/-! ### list comprehensions -/
abbrev E0 : XK := fun _ _ _ => False
def wipeE (env : Env) : List Nat → Env
  | [] => env
  | v :: vs => (wipeE env vs).set v none
theorem EnvR.wipe {w : Wd} {env : Env} {σ : St} (h : EnvR G w env σ) : ∀ vs : List Nat, EnvR G w (wipeE env vs) (wipe σ vs)
  | [] => h
  | v :: vs => by
    have ih := EnvR.wipe h vs
    refine ⟨by show ((wipeE env vs).set v none).length = ((L2.wipe σ vs).set v none).length; rw [List.length_set, List.length_set]; exact ih.1, fun i x e => ?_⟩
    have e' : ((wipeE env vs).set v none)[i]? = some (some x) := e
    by_cases hv : v = i
    · subst hv
      by_cases hl : v < (wipeE env vs).length
      · rw [List.getElem?_set_self hl] at e'
        cases e'
      · rw [List.getElem?_eq_none (by simpa using hl)] at e'
        cases e'
    · rw [List.getElem?_set_ne hv] at e'
      obtain ⟨u, h1, h2⟩ := ih.2 i x e'
      exact ⟨u, by show ((L2.wipe σ vs).set v none)[i]? = _; rw [List.getElem?_set_ne hv]; exact h1, h2⟩
/-- within a comprehension nothing is raised -/
def noX {α : Type} (m : M α) : M α := fun S => match m S with
  | some (.exc _, _) => none
  | o => o
def lcL (gt : Val → Env → Option Env) (gc : FB) (f : FE) (env0 : Env) : List Val → List Val → M (List Val)
  | [], acc => ret acc
  | x :: xs, acc => fun S => match gt x env0 with
    | none => none
    | some env1 => bnd (gc env1) (fun k => if k = true then bnd (f env1) (fun y S' => if acc.length < sizeLine then lcL gt gc f env0 xs (acc ++ [y]) S' else none) else lcL gt gc f env0 xs acc) S
def fLc (fi : FA) (gt : Val → Env → Option Env) (gc : FB) (f : FE) (vs : List Nat) : FA := fun env => bnd (fi env) fun xs => noX (lcL gt gc f (wipeE env vs) xs [])
def gYes : FB := fun _ => ret true
def gNo (c : Bool) : FB := fun _ => ret c
theorem qts_nil : PTs X [] (TTx G E gYes) := by
  have h : PTs X [] tYes := pts_nil
  obtain ⟨r⟩ := h
  constructor
  intro pins s σ H Q I ⟨w, env, S, hE, hR, h⟩
  exact r pins s σ H Q I (h H w (Wd.le.refl _) hR)
theorem qts_one {c : Expr} {gc : FB} (h : QT X G E c gc) : PTs X [c] (TTx G E gc) := pts_one h
theorem TIx.sub {f : FA} {g : List Val → M β} {w : Wd} {env : Env} {σ : St} {H : Hp} {S : Store} {P : β → Store → Prop} {R : It → Hp → Prop} (hE : EnvR G w env σ) (hR : Rl G w H S) (h : Res G E w (bnd (f env) g S) P)
    (k : ∀ xs J H1 w1 S1, w.le w1 → Rl G w1 H1 S1 → WalkR G w1 J xs → Res G E w1 (g xs S1) P → R J H1) : TIx G E f σ H R :=
  ⟨w, env, S, hE, hR, h.bnd.imp fun xs S1 q J H1 w1 l R1 r => k xs J H1 w1 S1 l R1 r (q.mono l fun _ _ z => z)⟩
/-- the temporaries of a loop within a comprehension: D the list that is made -/
structure Mk (G : Gx) (w1 w2 : Wd) (H : Hp) (S : Store) (D : Addr) (acc : List Val) : Prop where
  R : Rl G w2 H S
  le : w1.le (w2.wT w1.T)
  d : ∃ avs, w2.T = upd w1.T D (.lst avs) ∧ VRs G w2 acc avs
theorem Mk.start {w1 : Wd} {H : Hp} {S : Store} {D : Addr} (R : Rl G w1 H S) (n : H D = none) : Mk G w1 (w1.wT (upd w1.T D (.lst []))) (upd H D (.lst [])) S D [] :=
  ⟨R.tmp (R.newF n) (R.newS n), Wd.le.refl _, [], rfl, rfl⟩
theorem Mk.step {w1 w2 w3 : Wd} {H H3 : Hp} {S S3 : Store} {D : Addr} {acc : List Val} (m : Mk G w1 w2 H S D acc) (l : w2.le w3) (R : Rl G w3 H3 S3) : Mk G w1 w3 H3 S3 D acc := by
  obtain ⟨avs, h1, h2⟩ := m.d
  exact ⟨R, m.le.trans ⟨l.1, l.2.1, l.2.2.1, rfl⟩, avs, l.2.2.2.trans h1, h2.mono l⟩
theorem Mk.at {w1 w2 : Wd} {H : Hp} {S : Store} {D : Addr} {acc : List Val} (m : Mk G w1 w2 H S D acc) : ∃ avs, H D = some (.lst avs) ∧ acc.length = avs.length ∧ VRs G w2 acc avs ∧ w2.T D = some (.lst avs) := by
  obtain ⟨avs, h1, h2⟩ := m.d
  have h3 : w2.T D = some (.lst avs) := by rw [h1, upd_same]
  exact ⟨avs, m.R.tp D _ h3, h2.len, h2, h3⟩
theorem Mk.push {w1 w2 : Wd} {H : Hp} {S : Store} {D : Addr} {acc : List Val} {y : Val} {v : V} (m : Mk G w1 w2 H S D acc) (r : VR G w2 y v) : ∀ avs, H D = some (.lst avs) → ∃ w3, Mk G w1 w3 (upd H D (.lst (avs ++ [v]))) S D (acc ++ [y]) := fun avs e => by
  obtain ⟨avs', e', _, h2, h3⟩ := m.at
  rw [e] at e'
  cases e'
  obtain ⟨_, k1, _⟩ := m.d
  have nl : ∀ i q, S[i]? = some q → q ≠ Ob.dead → w2.ι i ≠ D := fun i q z l c => by
    have := m.R.tl i q z l
    rw [c, h3] at this
    cases this
  refine ⟨w2.wT (upd w2.T D (.lst (avs ++ [v]))), m.R.tmp (m.R.tf D _ h3) nl, m.le, avs ++ [v], ?_, ?_⟩
  · show upd w2.T D _ = _
    rw [k1, upd_upd]
  · exact (h2.app (show VRs G w2 [y] [v] from ⟨v, [], rfl, r, rfl⟩)).wT
theorem Mk.push0 {w1 w2 : Wd} {H : Hp} {S : Store} {D : Addr} {acc : List Val} {y : Val} {v : V} (m : Mk G w1 w2 H S D acc) (r : VR G w2 y v) : ∀ avs, H D = some (.lst avs) → ∃ w3, Mk G w1 w3 (upd H D (.lst (avs ++ [v]))) S D (acc ++ [y]) ∧ w2.le0 w3 := fun avs e => by
  obtain ⟨avs', e', _, h2, h3⟩ := m.at
  rw [e] at e'
  cases e'
  obtain ⟨_, k1, _⟩ := m.d
  have nl : ∀ i q, S[i]? = some q → q ≠ Ob.dead → w2.ι i ≠ D := fun i q z l c => by
    have := m.R.tl i q z l
    rw [c, h3] at this
    cases this
  refine ⟨w2.wT (upd w2.T D (.lst (avs ++ [v]))), ⟨m.R.tmp (m.R.tf D _ h3) nl, m.le, avs ++ [v], ?_, ?_⟩, Wd.le0.refl _⟩
  · show upd w2.T D _ = _
    rw [k1, upd_upd]
  · exact (h2.app (show VRs G w2 [y] [v] from ⟨v, [], rfl, r, rfl⟩)).wT
/-- the list is done: no one's -/
theorem Mk.done {w1 w2 : Wd} {H : Hp} {S : Store} {D : Addr} {acc : List Val} {Q : VK} (m : Mk G w1 w2 H S D acc) (n : w1.T D = none) (q : FP G w1 Q acc S) : Q (.ref D) H := by
  obtain ⟨avs, e, _, h2, h3⟩ := m.at
  obtain ⟨_, k1, _⟩ := m.d
  refine q D avs H (w2.wT w1.T) m.le (m.R.untmp ?_) e (m.R.tf D _ h3) (fun i q z l c => ?_) n h2.wT
  · intro b u eb
    rw [k1, upd_ne (ne_of_none eb n)]
    exact eb
  · have := m.R.tl i q z l
    have c' : w2.ι i = D := c
    rw [c', h3] at this
    cases this
theorem wipe_wipe {σ : St} : ∀ vs : List Nat, wipe (wipe σ vs) vs = wipe σ vs := fun vs => by
  have go : ∀ us : List Nat, (∀ i, i ∈ us → i ∈ vs) → wipe (wipe σ us) vs = wipe σ vs := by
    intro us
    induction us with
    | nil => intro _; rfl
    | cons i us ih =>
      intro h
      show wipe ((wipe σ us).set i none) vs = _
      rw [wipe_set (h i List.mem_cons_self)]
      exact ih fun j hj => h j (List.mem_cons_of_mem _ hj)
  exact go vs fun _ h => h
/-- it ends with a value -/
def ORes {α : Type} (o : Option (Ex α × Store)) (P : α → Store → Prop) : Prop := match o with
  | some (.ok a, S') => P a S'
  | _ => False
theorem ORes.res {α : Type} {w : Wd} {o : Option (Ex α × Store)} {P : α → Store → Prop} (h : ORes o P) : Res G E w o P := by
  match o, h with
  | some (.ok a, S'), h => exact h
  | some (.exc e, S'), h => exact h.elim
theorem ORes.bnd {α β : Type} {x : M α} {g : α → M β} {S : Store} {P : β → Store → Prop} (h : ORes (bnd x g S) P) : ORes (x S) (fun a S' => ORes (g a S') P) := by
  unfold Y.bnd at h
  match x S, h with
  | none, h => exact h
  | some (.exc e, S'), h => exact h
  | some (.ok a, S'), h => exact h
theorem Res.noX {α : Type} {w : Wd} {m : M α} {S : Store} {P : α → Store → Prop} (h : Res G E w (noX m S) P) : ORes (m S) P := by
  unfold Y.noX at h
  match m S, h with
  | none, h => exact h
  | some (.exc e, S'), h => exact h
  | some (.ok a, S'), h => exact h
theorem lcL_cons {gt : Val → Env → Option Env} {gc : FB} {f : FE} {env0 : Env} {x : Val} {xs acc : List Val} {S : Store} {P : List Val → Store → Prop} (h : ORes (lcL gt gc f env0 (x :: xs) acc S) P) :
    ∃ env1, gt x env0 = some env1 ∧ ORes (bnd (gc env1) (fun k => if k = true then bnd (f env1) (fun y S' => if acc.length < sizeLine then lcL gt gc f env0 xs (acc ++ [y]) S' else none) else lcL gt gc f env0 xs acc) S) P := by
  unfold lcL at h
  cases e : gt x env0 with
  | none => rw [e] at h; exact h.elim
  | some env1 => rw [e] at h; exact ⟨env1, rfl, h⟩
theorem lc_read {fi : FA} {gt : Val → Env → Option Env} {gc : FB} {f : FE} {vs ts : List Nat} (hts : ∀ i, i ∈ ts → i ∈ vs) {σ : St} {H : Hp} {Q : VK} (h : TFx G E (fLc fi gt gc f vs) σ H Q) :
    tLc (TIx G E fi) (TGx G ts gt) (TTx G E0 gc) (TEx G E0 f) vs σ H Q := by
  obtain ⟨w, env, S, hE, hR, h⟩ := h
  refine TIx.sub hE hR h fun xs J H1 w1 S1 l R1 hJ q D nD => ?_
  have nT : w1.T D = none := R1.tp.free nD
  have q0 : FP G w Q = FP G w Q := rfl
  refine ⟨fun i m H => m = xs.length - i ∧ i ≤ xs.length ∧ ∃ w2 S2 acc, Mk G w1 w2 H S2 D acc ∧ ORes (lcL gt gc f (wipeE env vs) (xs.drop i) acc S2) (FP G w Q), ⟨xs.length, by simp, Nat.zero_le _, _, S1, [], Mk.start R1 nD, q.noX⟩, ?_⟩
  rintro i m H2 ⟨rfl, hi, w2, S2, acc, mk, q2⟩
  obtain ⟨j1, j2, j3⟩ := hJ H2 w2 S2 mk.le.le0 mk.R
  by_cases hlt : i < xs.length
  · refine .inr ⟨j1 i hlt, fun H' => (i + 1 ≤ xs.length ∧ ∃ w3 S3 acc, Mk G w1 w3 H' S3 D acc ∧ ORes (lcL gt gc f (wipeE env vs) (xs.drop (i + 1)) acc S3) (FP G w Q)), fun H' hN => ⟨xs.length - (i + 1), by omega, rfl, hN.1, hN.2⟩, fun x H3 y => ?_⟩
    obtain ⟨yv, w3, e1, l3, R3, r3⟩ := j3 i x H3 hlt y
    rw [List.drop_eq_getElem_cons hlt] at q2
    have ey : xs[i] = yv := by rw [List.getElem?_eq_getElem hlt] at e1; exact Option.some.inj e1
    rw [ey] at q2
    have mk3 := mk.step l3 R3
    obtain ⟨env1, e2, q3⟩ := lcL_cons q2
    have hE3 : EnvR G w3 (wipeE env vs) (wipe σ vs) := ((hE.mono l).wipe vs).mono0 mk3.le.le0
    refine ⟨w3, wipeE env vs, S2, yv, env1, hE3, R3, r3, e2, fun σ' hE' hw => ⟨?_, ?_⟩⟩
    · rw [hw vs hts, wipe_wipe]
    · refine ⟨w3, env1, S2, hE', R3, q3.bnd.res.imp fun k S4 q4 H4 w4 l4 R4 => ?_⟩
      have mk4 := mk3.step l4 R4
      cases k with
      | false =>
        dsimp only at q4 ⊢
        rw [if_neg (by decide)] at q4 ⊢
        exact ⟨hlt, w4, S4, acc, mk4, q4⟩
      | true =>
        dsimp only at q4 ⊢
        rw [if_pos rfl] at q4 ⊢
        refine ⟨w4, env1, S4, hE'.mono l4, R4, q4.bnd.res.imp fun y S5 q5 v H5 w5 l5 R5 r5 => ?_⟩
        have mk5 := mk4.step l5 R5
        obtain ⟨avs, d1, d2, _, _⟩ := mk5.at
        by_cases c : acc.length < sizeLine
        · rw [if_pos c] at q5
          obtain ⟨w6, mk6⟩ := mk5.push r5 avs d1
          exact ⟨avs, d1, by rw [← d2]; exact c, hlt, w6, S5, acc ++ [y], mk6, q5⟩
        · rw [if_neg c] at q5
          exact q5.elim
  · have ei : i = xs.length := by omega
    subst ei
    rw [List.drop_length] at q2
    have q3 : FP G w Q acc S2 := q2
    exact .inl ⟨j2, mk.done nT (q3.mono l)⟩
theorem qf_lc {elt tg iter : Expr} {ifs : List Expr} {scope : Scope} {own : List (Str × Nat)} {pos : Pos} {ts : List Nat} {fi : FA} {gt : Val → Env → Option Env} {gc : FB} {f : FE} (hc : X.calm = true) (hN : X.N.Nodup) (hi : QI X G E tg iter fi) (ok : BlkOk X.N X.env.scope scope own)
    (hg : ∀ (s : Shared) (H : Hp) (C : Addr) (cl : List (Str × Addr)) (fp : List Addr), QG (X.blk s H scope (compEnvC scope cl C X.env) fp) G tg ts gt) (ht : ∀ (s : Shared) (H : Hp) (C : Addr) (cl : List (Str × Addr)) (fp : List Addr), PTs (X.blk s H scope (compEnvC scope cl C X.env) fp) ifs (TTx G E0 gc))
    (he : ∀ (s : Shared) (H : Hp) (C : Addr) (cl : List (Str × Addr)) (fp : List Addr), QE (X.blk s H scope (compEnvC scope cl C X.env) fp) G E0 elt f) (hts : ∀ i, i ∈ ts → i ∈ own.map (·.2)) (hs : ∀ x, foldedSetIterable iter X.env x = pure x := by intro _; rfl) :
    QF X G E (.ListComp elt [⟨tg, iter, ifs, 0⟩] scope pos) (fLc fi gt gc f (own.map (·.2))) := PE.imp (pe_lc hc hN hi ok hg ht he hs) fun σ H Q h => lc_read hts h
/-- name = [..] -/
theorem qs_setLc {i : Nat} {y : Str} {py : Pos} {elt tg iter : Expr} {ifs : List Expr} {scope : Scope} {own : List (Str × Nat)} {pos spos : Pos} {ts : List Nat} {fi : FA} {gt : Val → Env → Option Env} {gc : FB} {f F : FE} (conv : ∀ σ H Q, TEx G E F σ H Q → TFx G E (fLc fi gt gc f (own.map (·.2))) σ H Q)
    (hc : X.calm = true) (hN : X.N.Nodup) (hy : X.N[i]? = some y) (hyl : X.env.scope.names.lookup y = some .local)
    (hsw : swapsWith (.ListComp elt [⟨tg, iter, ifs, 0⟩] scope pos) (some (.Name y py)) spos.line X.env = pure true) (hi : QI X G E tg iter fi) (ok : BlkOk X.N X.env.scope scope own)
    (hg : ∀ (s : Shared) (H : Hp) (C : Addr) (cl : List (Str × Addr)) (fp : List Addr), QG (X.blk s H scope (compEnvC scope cl C X.env) fp) G tg ts gt) (ht : ∀ (s : Shared) (H : Hp) (C : Addr) (cl : List (Str × Addr)) (fp : List Addr), PTs (X.blk s H scope (compEnvC scope cl C X.env) fp) ifs (TTx G E0 gc))
    (he : ∀ (s : Shared) (H : Hp) (C : Addr) (cl : List (Str × Addr)) (fp : List Addr), QE (X.blk s H scope (compEnvC scope cl C X.env) fp) G E0 elt f) (hts : ∀ i, i ∈ ts → i ∈ own.map (·.2)) (hs : ∀ x, foldedSetIterable iter X.env x = pure x := by intro _; rfl) :
    QS X G E (.Assign [.Name y py] (.ListComp elt [⟨tg, iter, ifs, 0⟩] scope pos) spos) (sSet i F) := PS.imp (ps_setLc hc hN hy hyl hsw hi ok hg ht he hs) fun D σ H ⟨w, env, S, hE, hR, h⟩ => by
  have h2 : TEx G E F σ H (fun x H1 => gName i x σ H1 D.nx) := TEx.subS hE hR h fun x v H1 w1 S1 l R1 r q => q _ H1 w1 (Wd.le.refl w1) ((hE.mono l).set i r) R1
  exact lc_read hts (conv _ _ _ h2)
theorem frz_conv {f : FA} : ∀ σ H Q, TEx G E (fFrz f) σ H Q → TFx G E f σ H Q := fun σ H Q ⟨w, env, S, hE, hR, h⟩ => ⟨w, env, S, hE, hR, h.bnd.imp fun _ _ z => FP.frz z⟩
theorem new_conv {f : FA} : ∀ σ H Q, TEx G E (fNew f) σ H Q → TFx G E f σ H Q := fun σ H Q ⟨w, env, S, hE, hR, h⟩ => ⟨w, env, S, hE, hR, h.bnd.imp fun _ _ z => FP.new z⟩
end Y

set_option Elab.async false
set_option linter.all false
set_option maxRecDepth 100000
set_option maxHeartbeats 4000000
namespace Y
open PySem PySem.Spec L2
variable {G : Gx} {E : XK} {X : Cx}

/-! ### two clauses -/
def lc2L (gt : Val → Env → Option Env) (gc : FB) (fi1 : FA) (gt1 : Val → Env → Option Env) (gc1 : FB) (f : FE) (vs1 : List Nat) (env0 : Env) : List Val → List Val → M (List Val)
  | [], acc => ret acc
  | x :: xs, acc => fun S => match gt x env0 with
    | none => none
    | some env1 => bnd (gc env1) (fun k => if k = true then bnd (fi1 env1) (fun ys => bnd (lcL gt1 gc1 f (wipeE env1 vs1) ys acc) (fun acc' => lc2L gt gc fi1 gt1 gc1 f vs1 env0 xs acc')) else lc2L gt gc fi1 gt1 gc1 f vs1 env0 xs acc) S
def fLc2 (fi : FA) (gt : Val → Env → Option Env) (gc : FB) (fi1 : FA) (gt1 : Val → Env → Option Env) (gc1 : FB) (f : FE) (vs vs1 : List Nat) : FA := fun env => bnd (fi env) fun xs => noX (lc2L gt gc fi1 gt1 gc1 f vs1 (wipeE env vs) xs [])
theorem lc2L_cons {gt : Val → Env → Option Env} {gc : FB} {fi1 : FA} {gt1 : Val → Env → Option Env} {gc1 : FB} {f : FE} {vs1 : List Nat} {env0 : Env} {x : Val} {xs acc : List Val} {S : Store} {P : List Val → Store → Prop} (h : ORes (lc2L gt gc fi1 gt1 gc1 f vs1 env0 (x :: xs) acc S) P) :
    ∃ env1, gt x env0 = some env1 ∧ ORes (bnd (gc env1) (fun k => if k = true then bnd (fi1 env1) (fun ys => bnd (lcL gt1 gc1 f (wipeE env1 vs1) ys acc) (fun acc' => lc2L gt gc fi1 gt1 gc1 f vs1 env0 xs acc')) else lc2L gt gc fi1 gt1 gc1 f vs1 env0 xs acc) S) P := by
  unfold lc2L at h
  cases e : gt x env0 with
  | none => rw [e] at h; exact h.elim
  | some env1 => rw [e] at h; exact ⟨env1, rfl, h⟩
theorem lc2_read {fi fi1 : FA} {gt gt1 : Val → Env → Option Env} {gc gc1 : FB} {f : FE} {vs vs1 ts ts1 : List Nat} (hts : ∀ i, i ∈ ts → i ∈ vs) (hts1 : ∀ i, i ∈ ts1 → i ∈ vs1) {σ : St} {H : Hp} {Q : VK} (h : TFx G E (fLc2 fi gt gc fi1 gt1 gc1 f vs vs1) σ H Q) :
    tLc2 (TIx G E fi) (TGx G ts gt) (TTx G E0 gc) (TIx G E0 fi1) (TGx G ts1 gt1) (TTx G E0 gc1) (TEx G E0 f) vs vs1 σ H Q := by
  obtain ⟨w, env, S, hE, hR, h⟩ := h
  refine TIx.sub hE hR h fun xs J H1 w1 S1 l R1 hJ q D nD => ?_
  have nT : w1.T D = none := R1.tp.free nD
  refine ⟨fun i m H => m = xs.length - i ∧ i ≤ xs.length ∧ ∃ w2 S2 acc, Mk G w1 w2 H S2 D acc ∧ ORes (lc2L gt gc fi1 gt1 gc1 f vs1 (wipeE env vs) (xs.drop i) acc S2) (FP G w Q), ⟨xs.length, by simp, Nat.zero_le _, _, S1, [], Mk.start R1 nD, q.noX⟩, ?_⟩
  rintro i m H2 ⟨rfl, hi, w2, S2, acc, mk, q2⟩
  obtain ⟨j1, j2, j3⟩ := hJ H2 w2 S2 mk.le.le0 mk.R
  by_cases hlt : i < xs.length
  · refine .inr ⟨j1 i hlt, fun H' => (i + 1 ≤ xs.length ∧ ∃ w3 S3 acc, Mk G w1 w3 H' S3 D acc ∧ ORes (lc2L gt gc fi1 gt1 gc1 f vs1 (wipeE env vs) (xs.drop (i + 1)) acc S3) (FP G w Q)), fun H' hN => ⟨xs.length - (i + 1), by omega, rfl, hN.1, hN.2⟩, fun x H3 y => ?_⟩
    obtain ⟨yv, w3, e1, l3, R3, r3⟩ := j3 i x H3 hlt y
    rw [List.drop_eq_getElem_cons hlt] at q2
    have ey : xs[i] = yv := by rw [List.getElem?_eq_getElem hlt] at e1; exact Option.some.inj e1
    rw [ey] at q2
    have mk3 := mk.step l3 R3
    obtain ⟨env1, e2, q3⟩ := lc2L_cons q2
    have hE3 : EnvR G w3 (wipeE env vs) (wipe σ vs) := ((hE.mono l).wipe vs).mono0 mk3.le.le0
    refine ⟨w3, wipeE env vs, S2, yv, env1, hE3, R3, r3, e2, fun σ' hE' hw => ⟨?_, ?_⟩⟩
    · rw [hw vs hts, wipe_wipe]
    · refine ⟨w3, env1, S2, hE', R3, q3.bnd.res.imp fun k S4 q4 H4 w4 l4 R4 => ?_⟩
      have mk4 := mk3.step l4 R4
      cases k with
      | false =>
        dsimp only at q4 ⊢
        rw [if_neg (by decide)] at q4 ⊢
        exact ⟨hlt, w4, S4, acc, mk4, q4⟩
      | true =>
        dsimp only at q4 ⊢
        rw [if_pos rfl] at q4 ⊢
        refine ⟨w4, env1, S4, hE'.mono l4, R4, q4.bnd.res.imp fun ys S5 q5 J1 H5 w5 l5 R5 hJ1 => ?_⟩
        have mk5 := mk4.step l5 R5
        refine ⟨fun j k H => k = ys.length - j ∧ j ≤ ys.length ∧ ∃ w6 S6 acc, w5.le0 w6 ∧ Mk G w1 w6 H S6 D acc ∧ ORes (lcL gt1 gc1 f (wipeE env1 vs1) (ys.drop j) acc S6) (fun acc' S' => ORes (lc2L gt gc fi1 gt1 gc1 f vs1 (wipeE env vs) (xs.drop (i + 1)) acc' S') (FP G w Q)), ⟨ys.length, by simp, Nat.zero_le _, w5, S5, acc, Wd.le0.refl _, mk5, q5.bnd⟩, ?_⟩
        rintro j k H6 ⟨rfl, hj, w6, S6, acc6, l6, mk6, q6⟩
        obtain ⟨k1, k2, k3⟩ := hJ1 H6 w6 S6 l6 mk6.R
        by_cases hlt1 : j < ys.length
        · refine .inr ⟨k1 j hlt1, fun H' => (j + 1 ≤ ys.length ∧ ∃ w7 S7 acc, w5.le0 w7 ∧ Mk G w1 w7 H' S7 D acc ∧ ORes (lcL gt1 gc1 f (wipeE env1 vs1) (ys.drop (j + 1)) acc S7) (fun acc' S' => ORes (lc2L gt gc fi1 gt1 gc1 f vs1 (wipeE env vs) (xs.drop (i + 1)) acc' S') (FP G w Q))), fun H' hN => ⟨ys.length - (j + 1), by omega, rfl, hN.1, hN.2⟩, fun x1 H7 y1 => ?_⟩
          obtain ⟨yv1, w7, e7, l7, R7, r7⟩ := k3 j x1 H7 hlt1 y1
          rw [List.drop_eq_getElem_cons hlt1] at q6
          have ey1 : ys[j] = yv1 := by rw [List.getElem?_eq_getElem hlt1] at e7; exact Option.some.inj e7
          rw [ey1] at q6
          have mk7 := mk6.step l7 R7
          obtain ⟨env2, e8, q7⟩ := lcL_cons q6
          have hE7 : EnvR G w7 (wipeE env1 vs1) (wipe σ' vs1) := (((hE'.mono l4).mono l5).wipe vs1).mono0 (l6.trans l7.le0)
          refine ⟨w7, wipeE env1 vs1, S6, yv1, env2, hE7, R7, r7, e8, fun σ2 hE2 hw2 => ⟨?_, ?_⟩⟩
          · rw [hw2 vs1 hts1, wipe_wipe]
          · refine ⟨w7, env2, S6, hE2, R7, q7.bnd.res.imp fun k S8 q8 H8 w8 l8 R8 => ?_⟩
            have mk8 := mk7.step l8 R8
            cases k with
            | false =>
              dsimp only at q8 ⊢
              rw [if_neg (by decide)] at q8 ⊢
              exact ⟨hlt1, w8, S8, acc6, (l6.trans l7.le0).trans l8.le0, mk8, q8⟩
            | true =>
              dsimp only at q8 ⊢
              rw [if_pos rfl] at q8 ⊢
              refine ⟨w8, env2, S8, hE2.mono l8, R8, q8.bnd.res.imp fun y S9 q9 v H9 w9 l9 R9 r9 => ?_⟩
              have mk9 := mk8.step l9 R9
              obtain ⟨avs, d1, d2, _, _⟩ := mk9.at
              by_cases c : acc6.length < sizeLine
              · rw [if_pos c] at q9
                obtain ⟨wz, mkz, lz⟩ := mk9.push0 r9 avs d1
                exact ⟨avs, d1, by rw [← d2]; exact c, hlt1, wz, S9, acc6 ++ [y], (((l6.trans l7.le0).trans l8.le0).trans l9.le0).trans lz, mkz, q9⟩
              · rw [if_neg c] at q9
                exact q9.elim
        · have ej : j = ys.length := by omega
          subst ej
          rw [List.drop_length] at q6
          exact .inl ⟨k2, hlt, w6, S6, acc6, mk6, q6⟩
  · have ei : i = xs.length := by omega
    subst ei
    rw [List.drop_length] at q2
    have q3 : FP G w Q acc S2 := q2
    exact .inl ⟨j2, mk.done nT (q3.mono l)⟩
theorem qf_lc2 {elt tg iter tg1 iter1 : Expr} {ifs ifs1 : List Expr} {scope : Scope} {own : List (Str × Nat)} {vs1 : List Nat} {pos : Pos} {ts ts1 : List Nat} {fi fi1 : FA} {gt gt1 : Val → Env → Option Env} {gc gc1 : FB} {f : FE} (hc : X.calm = true) (hN : X.N.Nodup) (hi : QI X G E tg iter fi) (ok : BlkOk X.N X.env.scope scope own) (hv : ∀ i ∈ vs1, i ∈ own.map (·.2))
    (hg : ∀ (s : Shared) (H : Hp) (C : Addr) (cl : List (Str × Addr)) (fp : List Addr), QG (X.blk s H scope (compEnvC scope cl C X.env) fp) G tg ts gt) (ht : ∀ (s : Shared) (H : Hp) (C : Addr) (cl : List (Str × Addr)) (fp : List Addr), PTs (X.blk s H scope (compEnvC scope cl C X.env) fp) ifs (TTx G E0 gc))
    (hi1 : ∀ (s : Shared) (H : Hp) (C : Addr) (cl : List (Str × Addr)) (fp : List Addr), QI (X.blk s H scope (compEnvC scope cl C X.env) fp) G E0 tg1 iter1 fi1)
    (hg1 : ∀ (s : Shared) (H : Hp) (C : Addr) (cl : List (Str × Addr)) (fp : List Addr), QG (X.blk s H scope (compEnvC scope cl C X.env) fp) G tg1 ts1 gt1) (ht1 : ∀ (s : Shared) (H : Hp) (C : Addr) (cl : List (Str × Addr)) (fp : List Addr), PTs (X.blk s H scope (compEnvC scope cl C X.env) fp) ifs1 (TTx G E0 gc1))
    (he : ∀ (s : Shared) (H : Hp) (C : Addr) (cl : List (Str × Addr)) (fp : List Addr), QE (X.blk s H scope (compEnvC scope cl C X.env) fp) G E0 elt f) (hts : ∀ i, i ∈ ts → i ∈ own.map (·.2)) (hts1 : ∀ i, i ∈ ts1 → i ∈ vs1) (hs : ∀ x, foldedSetIterable iter X.env x = pure x := by intro _; rfl) (hs1 : ∀ env x, foldedSetIterable iter1 env x = pure x := by intro _ _; rfl) :
    QF X G E (.ListComp elt [⟨tg, iter, ifs, 0⟩, ⟨tg1, iter1, ifs1, 0⟩] scope pos) (fLc2 fi gt gc fi1 gt1 gc1 f (own.map (·.2)) vs1) := PE.imp (pe_lc2 hc hN hi ok hv hg ht hi1 hg1 ht1 he hs hs1) fun σ H Q h => lc2_read hts hts1 h
theorem qs_setLc2 {i : Nat} {y : Str} {py : Pos} {elt tg iter tg1 iter1 : Expr} {ifs ifs1 : List Expr} {scope : Scope} {own : List (Str × Nat)} {vs1 : List Nat} {pos spos : Pos} {ts ts1 : List Nat} {fi fi1 : FA} {gt gt1 : Val → Env → Option Env} {gc gc1 : FB} {f F : FE} (conv : ∀ σ H Q, TEx G E F σ H Q → TFx G E (fLc2 fi gt gc fi1 gt1 gc1 f (own.map (·.2)) vs1) σ H Q)
    (hc : X.calm = true) (hN : X.N.Nodup) (hy : X.N[i]? = some y) (hyl : X.env.scope.names.lookup y = some .local)
    (hsw : swapsWith (.ListComp elt [⟨tg, iter, ifs, 0⟩, ⟨tg1, iter1, ifs1, 0⟩] scope pos) (some (.Name y py)) spos.line X.env = pure true) (hi : QI X G E tg iter fi) (ok : BlkOk X.N X.env.scope scope own) (hv : ∀ i ∈ vs1, i ∈ own.map (·.2))
    (hg : ∀ (s : Shared) (H : Hp) (C : Addr) (cl : List (Str × Addr)) (fp : List Addr), QG (X.blk s H scope (compEnvC scope cl C X.env) fp) G tg ts gt) (ht : ∀ (s : Shared) (H : Hp) (C : Addr) (cl : List (Str × Addr)) (fp : List Addr), PTs (X.blk s H scope (compEnvC scope cl C X.env) fp) ifs (TTx G E0 gc))
    (hi1 : ∀ (s : Shared) (H : Hp) (C : Addr) (cl : List (Str × Addr)) (fp : List Addr), QI (X.blk s H scope (compEnvC scope cl C X.env) fp) G E0 tg1 iter1 fi1)
    (hg1 : ∀ (s : Shared) (H : Hp) (C : Addr) (cl : List (Str × Addr)) (fp : List Addr), QG (X.blk s H scope (compEnvC scope cl C X.env) fp) G tg1 ts1 gt1) (ht1 : ∀ (s : Shared) (H : Hp) (C : Addr) (cl : List (Str × Addr)) (fp : List Addr), PTs (X.blk s H scope (compEnvC scope cl C X.env) fp) ifs1 (TTx G E0 gc1))
    (he : ∀ (s : Shared) (H : Hp) (C : Addr) (cl : List (Str × Addr)) (fp : List Addr), QE (X.blk s H scope (compEnvC scope cl C X.env) fp) G E0 elt f) (hts : ∀ i, i ∈ ts → i ∈ own.map (·.2)) (hts1 : ∀ i, i ∈ ts1 → i ∈ vs1) (hs : ∀ x, foldedSetIterable iter X.env x = pure x := by intro _; rfl) (hs1 : ∀ env x, foldedSetIterable iter1 env x = pure x := by intro _ _; rfl) :
    QS X G E (.Assign [.Name y py] (.ListComp elt [⟨tg, iter, ifs, 0⟩, ⟨tg1, iter1, ifs1, 0⟩] scope pos) spos) (sSet i F) := PS.imp (ps_setLc2 hc hN hy hyl hsw hi ok hv hg ht hi1 hg1 ht1 he hs hs1) fun D σ H ⟨w, env, S, hE, hR, h⟩ => by
  have h2 : TEx G E F σ H (fun x H1 => gName i x σ H1 D.nx) := TEx.subS hE hR h fun x v H1 w1 S1 l R1 r q => q _ H1 w1 (Wd.le.refl w1) ((hE.mono l).set i r) R1
  exact lc2_read hts hts1 (conv _ _ _ h2)
end Y

set_option Elab.async false
set_option linter.all false
set_option maxRecDepth 100000
set_option maxHeartbeats 4000000
namespace Y
open PySem PySem.Spec L2
variable {G : Gx} {E : XK} {X : Cx}

/-! ### defs -/
abbrev Fn := List Val → M Val
open Classical in
/-- a def's end: what it made is forgotten, where nothing names it -/
noncomputable def cutF (cut : Bool) (S : Store) (x : Ex Val) (S' : Store) : Option (Ex Val × Store) :=
  if cut = true then (if cutOk S S' ∧ (∀ r, x = .ok r → vLt S.length r = true) then some (x, S'.take S.length) else none) else some (x, S')
noncomputable def fin (cut : Bool) (S : Store) (o : SO) : Option (Ex Val × Store) := match o with
  | some (.nx, _, S') => cutF cut S (.ok (.d .non)) S'
  | some (.rt r, _, S') => cutF cut S (.ok r) S'
  | some (.xc e, _, S') => cutF cut S (.exc e) S'
  | _ => none
def envOf (N : Nat) (args : List Val) : Env := args.map some ++ List.replicate (N - args.length) none
noncomputable def fnM (n N : Nat) (cut : Bool) (body : FS) : Fn := fun args S => if args.length = n then fin cut S (body (envOf N args) S) else none
/-- the promise of a def -/
def spF (G : Gx) (n : Nat) (F : Fn) : Sp := fun vs H Q E => ∃ w S args, Rl G w H S ∧ VRs G w args vs ∧ args.length = n ∧ Res G E w (F args S) (VP G w Q)
theorem envOf_r {w : Wd} {N : List Str} {args : List Val} {vs : List V} (r : VRs G w args vs) : EnvR G w (envOf N.length args) (L2.start N vs) := by
  unfold envOf L2.start
  refine ⟨by rw [List.length_append, List.length_append, List.length_map, List.length_map, List.length_replicate, List.length_replicate, r.len], fun i x e => ?_⟩
  by_cases hi : i < args.length
  · rw [List.getElem?_append_left (by simpa using hi), List.getElem?_map] at e
    cases e2 : args[i]? with
    | none => rw [e2] at e; cases e
    | some a =>
      rw [e2] at e
      cases e
      obtain ⟨v, h1, h2⟩ := r.get e2
      refine ⟨v, ?_, h2⟩
      rw [List.getElem?_append_left (by rw [List.length_map, ← r.len]; exact hi), List.getElem?_map, h1]
      rfl
  · rw [List.getElem?_append_right (by simpa using Nat.le_of_not_lt hi), List.getElem?_replicate] at e
    split at e <;> cases e
theorem cutF_res {w : Wd} {cut : Bool} {H0 : Hp} {S S' : Store} {x : Ex Val} {Q : VK} (R : Rl G w H0 S) (h : Res G E w (cutF cut S x S') (VP G w Q)) :
    (∀ r, x = .ok r → ∀ v H' w', w.le w' → Rl G w' H' S' → VR G w' r v → Q v H') ∧ (∀ e, x = .exc e → ∀ c d H' w', w.le w' → Rl G w' H' S' → XR G w' e c d H' → E c d H') := by
  unfold cutF at h
  cases cut with
  | false =>
    rw [if_neg (by decide)] at h
    refine ⟨fun r e => ?_, fun e ee => ?_⟩
    · subst e; exact h
    · subst ee; exact h
  | true =>
    rw [if_pos rfl] at h
    by_cases c : cutOk S S' ∧ (∀ r, x = .ok r → vLt S.length r = true)
    · rw [if_pos c] at h
      refine ⟨fun r e v H' w' l R' rr => ?_, fun e ee c1 d H' w' l R' rr => ?_⟩
      · subst e
        obtain ⟨R2, l2⟩ := Rl.cut R R' l c.1
        exact h v H' _ l2 R2 (rr.cut (c.2 r rfl))
      · subst ee
        obtain ⟨R2, l2⟩ := Rl.cut R R' l c.1
        exact h c1 d H' _ l2 R2 rr
    · rw [if_neg c] at h
      exact h.elim
theorem fin_res {w : Wd} {cut : Bool} {H0 : Hp} {S : Store} {o : SO} {Q : VK} (R : Rl G w H0 S) (h : Res G E w (fin cut S o) (VP G w Q)) : SRes G E w o { nx := fun _ H' => Q .non H', rt := Q } := by
  match o, h with
  | none, h => exact h
  | some (.nx, env', S'), h => exact fun σ' H' w' l _ R' => (cutF_res R h).1 _ rfl .non H' w' l R' rfl
  | some (.rt r, env', S'), h => exact (cutF_res R h).1 _ rfl
  | some (.xc e, env', S'), h => exact (cutF_res R h).2 _ rfl
  | some (.bk, env', S'), h => exact h.elim
  | some (.ct, env', S'), h => exact h.elim
section
variable {P : Program} {w : World} {mg : Str → Option Value} {base : Heap}
/-- THE RULE: a def by its body -/
theorem fn_ok {x qual : Str} {st : Stmt} {f : Addr} {fd : FuncData} {N ps : List Str} {k n NN : Nat} {g : FS} {cut : Bool} (F : Fun G.K x qual st f fd) (S : FnScope N ps (defScope st)) (hn : ps.length = n) (hN : N.length = NN)
    (hb : ∀ (cdv : Value) (A : Around) (outer : List PySem.Env) (s : Shared) (H : Hp) (E : XK), Room k (A.deeper (PyProof.Rows.envOfC qual (defScope st) s.heap.objs.size f cdv)) →
      QSs (cxOf (L2.CX P w) P w G.K mg base N qual (defScope st) f cdv A outer s H E) G E (defBody st) g) : FnOk P w G.K mg base (L2.CX P w) (k + 1) f fd ps (spF G n (fnM n NN cut g)) := by
  refine F.okX S (fun vs H Q E h => ?_) (fun cdv A outer s H vs Q E hr h => ?_)
  · obtain ⟨w, S, args, R, r, e, _⟩ := h
    rw [← r.len, e, hn]
  · obtain ⟨w1, S1, args, R, r, e, q⟩ := h
    unfold fnM at q
    rw [if_pos e] at q
    refine ⟨_, hb cdv A outer s H E hr, w1, _, S1, ?_, R, fin_res R q⟩
    rw [← hN]
    exact envOf_r r
/-- the module's name x holds a def that keeps F -/
def Has (P : Program) (w : World) (G : Gx) (mg : Str → Option Value) (base : Heap) (k : Nat) (x : Str) (n : Nat) (F : Fn) : Prop :=
  ∃ f fd ps, mg x = some (.ref f) ∧ PySem.W.keepIn G.K (.ref f) = true ∧ Binds G.K fd ps [] ∧ FnOk P w G.K mg base (L2.CX P w) k f fd ps (spF G n F)
end
def ck (n : Nat) (F : Fn) : Fn := fun args S => if args.length = n then F args S else none
variable {a b c e : Expr} {es : List Expr} {pos p : Pos} {fa fb : FE} {fs : FA} {k n : Nat} {x : Str} {F : Fn}
theorem tCall_of {σ : St} {H : Hp} {Q : VK} (h : TEx G E (fCall (ck n F) fs) σ H Q) : tCall (spF G n F) [] E (TAx G E fs) σ H Q := by
  obtain ⟨w, env, S, hE, hR, h⟩ := h
  refine TAx.sub hE hR h fun xs vs H1 w1 S1 l R1 r q => ?_
  rw [List.append_nil]
  unfold ck at q
  by_cases c : xs.length = n
  · rw [if_pos c] at q
    exact ⟨w1, S1, xs, R1, r, c, q.imp fun _ _ z => z.mono l⟩
  · rw [if_neg c] at q
    exact q.elim
theorem qe_call (h : Has X.prog X.w G X.mg X.base k x n F) (hK : X.K = G.K) (hr : Room k X.A) (hg : Gl X x) (hx : Passes (L2.CX X.prog X.w) X E) (ha : QA X G E (e :: es) fs)
    (hdb : (x == ("__debug__" : Str)) = false := by decide) (he : starEach (e :: es) X.env = (false, eval e X.env) :: starEach es X.env := by rfl) (hpl : (backTo pos (starEach es X.env)).any (·.1) = false := by rfl) : QE X G E (.Call (.Name x p) (e :: es) [] pos) (fCall (ck n F) fs) := by
  obtain ⟨f, fd, ps, h1, h2, h3, h4⟩ := h
  rw [← hK] at h2 h3 h4
  exact PE.imp (pe_call h4 hr hg h1 h2 h3 .nil hx ha hdb he hpl) fun σ H Q h => tCall_of h
theorem qe_call0 (h : Has X.prog X.w G X.mg X.base k x n F) (hK : X.K = G.K) (hr : Room k X.A) (hg : Gl X x) (hx : Passes (L2.CX X.prog X.w) X E) (hdb : (x == ("__debug__" : Str)) = false := by decide) : QE X G E (.Call (.Name x p) [] [] pos) (fCall (ck n F) fNil) := by
  obtain ⟨f, fd, ps, h1, h2, h3, h4⟩ := h
  rw [← hK] at h2 h3 h4
  refine PE.imp (pe_call0 h4 hr hg h1 h2 h3 .nil hx hdb) fun σ H Q h => ?_
  obtain ⟨w, env, S, hE, hR, h⟩ := h
  have h := h.bnd
  unfold ck at h
  show spF G n F ([] ++ []) H Q E
  have h2 : Res G E w ((if ([] : List Val).length = n then F [] S else none)) (VP G w Q) := h
  by_cases c : ([] : List Val).length = n
  · rw [if_pos c] at h2
    exact ⟨w, S, [], hR, rfl, c, h2⟩
  · rw [if_neg c] at h2
    exact h2.elim

/-! ### writing lists of the store -/
def oApp : Val → Val → M Val := fun x y S => match x with
  | .r i => match S[i]? with
    | some (.lst xs) => if xs.length < sizeLine then some (.ok (.d .non), S.set i (.lst (xs ++ [y]))) else none
    | _ => none
  | _ => none
theorem oApp_inv {w : Wd} {x y : Val} {S : Store} {P : Val → Store → Prop} (h : Res G E w (oApp x y S) P) : ∃ i xs, x = .r i ∧ S[i]? = some (.lst xs) ∧ xs.length < sizeLine ∧ P (.d .non) (S.set i (.lst (xs ++ [y]))) := by
  unfold oApp at h
  cases x with
  | d x => exact h.elim
  | r i =>
    dsimp only at h
    cases e : S[i]? with
    | none => rw [e] at h; exact h.elim
    | some o =>
      rw [e] at h
      cases o with
      | lst xs =>
        dsimp only at h
        by_cases c : xs.length < sizeLine
        · rw [if_pos c] at h
          exact ⟨i, xs, rfl, e, c, h⟩
        · rw [if_neg c] at h
          exact h.elim
      | _ => exact h.elim
/-- it is a list of the store -/
def isL : Val → M Unit := fun x S => match x with
  | .r i => match S[i]? with
    | some (.lst _) => some (.ok (), S)
    | _ => none
  | _ => none
theorem isL_inv {w : Wd} {x : Val} {S : Store} {P : Unit → Store → Prop} (h : Res G E w (isL x S) P) : ∃ i xs, x = .r i ∧ S[i]? = some (.lst xs) ∧ P () S := by
  unfold isL at h
  cases x with
  | d x => exact h.elim
  | r i =>
    dsimp only at h
    cases e : S[i]? with
    | none => rw [e] at h; exact h.elim
    | some o =>
      rw [e] at h
      cases o with
      | lst xs => exact ⟨i, xs, rfl, e, h⟩
      | _ => exact h.elim
def fApp (fa fb : FE) : FE := fun env => bnd (fa env) fun x => bnd (isL x) fun _ => bnd (fb env) fun y => oApp x y
theorem VRs.one' {w : Wd} {x : Val} {v : V} (r : VR G w x v) : VRs G w [x] [v] := ⟨v, [], rfl, r, rfl⟩
theorem qe_app {apos cpos : Pos} (ha : QE X G E a fa) (hb : QE X G E b fb) (hs2 : starEach [b] X.env = (false, eval b X.env) :: starEach [] X.env := by rfl)
    (hbase : attributeBase a "append" X.env (eval a X.env) = eval a X.env := by rfl)
    (hfew : ((backTo cpos (starEach [b] X.env)).all (fun x => !x.1) && (backToKw cpos (keywordEach [] X.env)).all (fun x => x.1.isSome)
      && decide (([b] : List Expr).length + ([] : List Keyword).length + (if ([] : List Keyword).isEmpty then 0 else 1) < 30)) = true := by rfl)
    (hline : (apos.endLine == cpos.line) = true := by rfl) (hplain : (backTo cpos (starEach [] X.env)).any (·.1) = false := by rfl) :
    QE X G E (.Call (.Attribute a "append" apos) [b] [] cpos) (fApp fa fb) :=
  PE.imp (pe_bm PySem.F.plainAttrs_list PySem.F.slot_list_append PySem.F.type_list_append mt_append ha (pa_cons hb pa_nil hs2) hbase hfew hline hs2 hplain) fun σ H Q ⟨w, env, S, hE, hR, h⟩ => TEx.sub hE hR h fun x v H1 w1 S1 l R1 r q => by
    obtain ⟨j, ys, e0, e1, q1⟩ := isL_inv q.bnd
    refine ⟨?_, TEx.sub (hE.mono l) R1 q1 fun y u H2 w2 S2 l2 R2 r2 q2 => ?_⟩
    · subst e0
      obtain ⟨f0, vs, h2, h3⟩ := R1.ob j _ e1
      rw [r.2]
      exact .inl ⟨rfl, vs, SqL.of h2⟩
    · obtain ⟨i, xs, rfl, e, c, q3⟩ := oApp_inv q2
      obtain ⟨f0, vs, h2, h3⟩ := R2.ob i _ e
      have rr := r.mono l2
      refine ⟨w2.ι i, vs, u, rr.2, rfl, h2, by rw [← h3.len]; exact c, ?_⟩
      exact q3 _ _ w2 (l.trans l2) (R2.write e (by simp) ⟨f0, _, upd_same, h3.app (VRs.one' r2)⟩) rfl
/-- xs[i] = v, xs a list of the store -/
def oPut : Val → Val → Val → Store → Option Store := fun x i v S => match x, asI i with
  | .r j, some k => match S[j]? with
    | some (.lst xs) => (ixN xs.length k).map fun m => S.set j (.lst (xs.set m v))
    | _ => none
  | _, _ => none
def sPut (fo fi fv : FE) : FS := fun env S => bS (bnd (fv env) (fun v => bnd (fo env) fun o => bnd (fi env) fun i => fun S => (oPut o i v S).map fun S' => (.ok (), S')) S) env fun _ S' => some (.nx, env, S')
theorem oPut_inv {x i v : Val} {S S' : Store} (h : oPut x i v S = some S') : ∃ j k xs m, x = .r j ∧ i = .d (.int k) ∧ S[j]? = some (.lst xs) ∧ ixN xs.length k = some m ∧ S' = S.set j (.lst (xs.set m v)) := by
  unfold oPut at h
  cases x with
  | d x => cases h
  | r j =>
    cases e : asI i with
    | none => rw [e] at h; cases h
    | some k =>
      rw [e] at h
      dsimp only at h
      cases e2 : S[j]? with
      | none => rw [e2] at h; cases h
      | some o =>
        rw [e2] at h
        cases o with
        | lst xs =>
          dsimp only at h
          cases e3 : ixN xs.length k with
          | none => rw [e3] at h; cases h
          | some m =>
            rw [e3] at h
            cases h
            exact ⟨j, k, xs, m, rfl, asI_inv e, e2, e3, rfl⟩
        | _ => cases h
theorem qs_put {i o : Expr} {fo fi fv : FE} {pos' : Pos} (hv : QE X G E e fv) (ho : QE X G E o fo) (hi : QE X G E i fi) (hs : swapsWithSole [.Subscript o i pos'] e pos.line X.env = pure false := by rfl) (hw : swappedStores [.Subscript o i pos'] e X.env = pure none := by rfl)
    (h1 : (assignEach [.Subscript o i pos'] X.env).map (·.2) = [assign (.Subscript o i pos') X.env] := by rfl)
    (ha : ∀ v, assign (.Subscript o i pos') X.env v = (do
      let ov ← holding [v] (eval o X.env)
      let iv ← holding [v, ov] (eval i X.env)
      standAt pos'
      holding [v, ov, iv] (setItem ov iv v)
      release [v, ov, iv] []) := by intro _; rfl) : QS X G E (.Assign [.Subscript o i pos'] e pos) (sPut fo fi fv) :=
  PS.imp (ps_asg hv (pg_sub ho hi set_list ha) hs hw h1) fun D σ H ⟨w, env, S, hE, hR, h⟩ => by
    have h2 := h.bS
    refine TEx.sub hE hR h2 fun x v H1 w1 S1 l R1 r q => ?_
    refine TEx.sub (hE.mono l) R1 q fun y u H2 w2 S2 l2 R2 r2 q2 => ?_
    refine TEx.sub ((hE.mono l).mono l2) R2 q2 fun z t H3 w3 S3 l3 R3 r3 q3 => ?_
    cases e : oPut y z x S3 with
    | none => rw [e] at q3; exact q3.elim
    | some S' =>
      rw [e] at q3
      obtain ⟨j, k, xs, m, rfl, rfl, e1, e2, rfl⟩ := oPut_inv e
      obtain ⟨f0, vs, h4, h5⟩ := R3.ob j _ e1
      refine ⟨w3.ι j, vs, k, m, (r2.mono l3).2, r3, h4, by rw [← h5.len]; exact e2, ?_⟩
      have q4 : SRes G E w (some (Fl.nx, env, S3.set j (.lst (xs.set m x)))) D := q3
      exact q4 σ _ w3 ((l.trans l2).trans l3) (((hE.mono l).mono l2).mono l3) (R3.write e1 (by simp) ⟨f0, _, upd_same, h5.set m ((r.mono l2).mono l3)⟩)
end Y

set_option Elab.async false
set_option linter.all false
set_option maxRecDepth 100000
set_option maxHeartbeats 4000000
namespace Y
open PySem PySem.Spec L2
variable {G : Gx} {E : XK} {X : Cx} {a b c e : Expr} {es : List Expr} {pos p : Pos} {fa fb : FE} {fs : FA} {k n : Nat} {x : Str} {F : Fn}

/-! ### module constants -/
theorem qe_glob {x : Str} {d : D} {v : V} {u : Value} (hg : Gl X x) (hm : X.mg x = some u) (r : RelV v u) (h : ∀ H, Rep G H d v) (hd : (x == ("__debug__" : Str)) = false := by decide) : QE X G E (.Name x pos) (fC d) := qe_const (pe_glob hg hm r hd) h

/-! ### a written dict: what its keys stand for -/
def oInTab (neg : Bool) (tab : List (Str × Bool)) : Val → M Val := fun z => lift (((asS z).bind fun z => tab.lookup z).map fun k => .d (.bl (k != neg)))
def fInTab (neg : Bool) (tab : List (Str × Bool)) (fb : FE) : FE := fun env => bnd (fb env) (oInTab neg tab)
theorem oInTab_inv {neg : Bool} {tab : List (Str × Bool)} {z : Val} {w : Wd} {S : Store} {P : Val → Store → Prop} (h : Res G E w (oInTab neg tab z S) P) : ∃ s k, z = .d (.str s) ∧ tab.lookup s = some k ∧ P (.d (.bl (k != neg))) S := by
  unfold oInTab lift at h
  cases e : (asS z).bind fun z => tab.lookup z with
  | none => rw [e] at h; exact h.elim
  | some k =>
    rw [e] at h
    obtain ⟨s, e1, e2⟩ := Option.bind_eq_some_iff.mp e
    exact ⟨s, k, asS_inv e1, e2, h⟩
theorem qe_notinTab {T : Str} {d : Addr} {tab : List (Str × Bool)} {p0 : Pos} (hT : PE X (.Name T p0) (tC (.ref d))) (KD : ∃ des dn, KDict X.K X.w d des dn)
    (hall : ∀ z r, tab.lookup z = some r → ∃ o, PySem.W.nsIn X.K d z = some o ∧ o.isSome = r) (hb : QE X G E b fb) (hm : behindInMarks .NotIn (.Name T p0) = false := by with_unfolding_all rfl) : QE X G E (.Compare b [.NotIn] [.Name T p0] pos) (fInTab true tab fb) := by
  obtain ⟨des, dn, KD⟩ := KD
  exact PE.imp (pe_cmpR (op_notIn_kd KD) hb hT hm) fun σ H Q ⟨w, env, S, hE, hR, h⟩ => TEx.sub hE hR h fun z v H1 w1 S1 l R1 r q => by
    obtain ⟨s, k, rfl, e, q⟩ := oInTab_inv q
    obtain ⟨o, e1, e2⟩ := hall s k e
    refine ⟨s, o, r, rfl, e1, ?_⟩
    rw [e2]
    exact q _ H1 w1 l R1 (by cases k <;> rfl)
theorem qt_notinTab {T : Str} {d : Addr} {tab : List (Str × Bool)} {p0 : Pos} (hT : PE X (.Name T p0) (tC (.ref d))) (KD : ∃ des dn, KDict X.K X.w d des dn)
    (hall : ∀ z r, tab.lookup z = some r → ∃ o, PySem.W.nsIn X.K d z = some o ∧ o.isSome = r) (hb : QE X G E b fb) (hm : behindInMarks .NotIn (.Name T p0) = false := by with_unfolding_all rfl) : QT X G E (.Compare b [.NotIn] [.Name T p0] pos) (fT (fInTab true tab fb)) := by
  obtain ⟨des, dn, KD⟩ := KD
  exact PT.imp (pt_cmpR (op_notIn_kd KD) hb hT hm) fun σ H Q h => by
    obtain ⟨w, env, S, hE, hR, h⟩ := TTx.of h
    refine TEx.sub hE hR h fun z v H1 w1 S1 l R1 r q => ?_
    obtain ⟨s, k, rfl, e, q⟩ := oInTab_inv q
    obtain ⟨o, e1, e2⟩ := hall s k e
    refine ⟨s, o, r, rfl, e1, ?_⟩
    rw [e2]
    exact q _ H1 w1 l R1 (by cases k <;> rfl)
/-- T[b](..), T a written dict of defs -/
def fTab (n : Nat) (tab : List (Str × Fn)) (fb : FE) (fs : FA) : FE := fun env => bnd (fb env) fun z => bnd (lift ((asS z).bind fun z => tab.lookup z)) fun F => bnd (fs env) (ck n F)
theorem qe_tab {T : Str} {d : Addr} {tab : List (Str × Fn)} {p0 p1 : Pos} (hT : PE X (.Name T p0) (tC (.ref d)))
    (hall : ∀ z F, tab.lookup z = some F → ∃ f fd ps, KDct X.K X.w d z (.ref f) ∧ PySem.W.keepIn X.K (.ref f) = true ∧ Binds X.K fd ps [] ∧ FnOk X.prog X.w X.K X.mg X.base (L2.CX X.prog X.w) k f fd ps (spF G n F))
    (hr : Room k X.A) (hx : Passes (L2.CX X.prog X.w) X E) (hb : QE X G E b fb) (ha : QA X G E (e :: es) fs) (hs : PlainIx b := by intro _ _; rfl)
    (he : starEach (e :: es) X.env = (false, eval e X.env) :: starEach es X.env := by rfl) (hpl : (backTo pos (starEach es X.env)).any (·.1) = false := by rfl)
    (hev : eval (.Call (.Subscript (.Name T p0) b p1) (e :: es) [] pos) X.env = (do callWith pos (← eval (.Subscript (.Name T p0) b p1) X.env) [] (backTo pos (starEach (e :: es) X.env)) (backToKw pos (keywordEach [] X.env))) := by rfl) :
    QE X G E (.Call (.Subscript (.Name T p0) b p1) (e :: es) [] pos) (fTab n tab fb fs) := by
  have h1 := pe_ix (pos := p1) ix_kdict hT hb hs
  refine ⟨fun pins s σ H Q I h => ?_⟩
  obtain ⟨w, env, S, hE, hR, h⟩ := h
  refine PyProof.Rows.Call_ (thn (h1.run pins s σ H (fun x H1 => ∃ f fd ps F w1 S1, x = .ref f ∧ PySem.W.keepIn X.K (.ref f) = true ∧ Binds X.K fd ps [] ∧ FnOk X.prog X.w X.K X.mg X.base (L2.CX X.prog X.w) k f fd ps (spF G n F) ∧ w.le w1 ∧ Rl G w1 H1 S1 ∧ Res G E w1 (bnd (fs env) (ck n F) S1) (VP G w Q)) I ?_) fun v s1 ⟨x, H1, I1, r1, f, fd, ps, F, w1, S1, ex, hk, hbd, hF, l1, R1, q1⟩ => ?_) hev
  · refine TEx.sub hE hR h fun z v H1 w1 S1 l R1 r q => ?_
    have q2 := q.bnd
    unfold lift at q2
    cases e1 : (asS z).bind fun z => tab.lookup z with
    | none => rw [e1] at q2; exact q2.elim
    | some F =>
      rw [e1] at q2
      obtain ⟨s2, e2, e3⟩ := Option.bind_eq_some_iff.mp e1
      obtain rfl := asS_inv e2
      obtain ⟨f, fd, ps, k1, k2, k3, k4⟩ := hall s2 F e3
      exact ⟨d, s2, .ref f, rfl, r, k1, f, fd, ps, F, w1, S1, rfl, k2, k3, k4, l, R1, q2⟩
  · subst ex
    cases r1
    have h3 : TEx G E (fCall (ck n F) fs) σ H1 Q := ⟨w1, env, S1, hE.mono l1, R1, q1.imp fun _ _ z => z.mono l1⟩
    have h4 := tCall_of h3
    refine PySem.W.callWith_K (h₀ := X.base) I1.ok.mod.kin hk (thn (ha.run pos pins s1 σ _ _ I1 h4) fun us s2 ⟨vs, H2, I2, r, q⟩ => ⟨I2.kIn, ?_⟩) he hpl
    exact run_fn hF hr hbd .nil hx I2 r q
end Y
namespace Y
open PySem PySem.Spec L2
variable {G : Gx} {E : XK} {X : Cx} {a b c e : Expr} {es : List Expr} {pos p : Pos} {fa fb : FE} {fs : FA} {k n : Nat} {x : Str} {F : Fn}
/-! ### - i -/
def fNeg (fa : FE) : FE := fun env => bnd (fa env) fun x => lift ((asI x).map fun i => .d (.int (-i)))
theorem qe_neg (ha : QE X G E a fa) : QE X G E (.UnaryOp .USub a pos) (fNeg fa) := PE.imp (pe_un un_neg ha) fun σ H Q ⟨w, env, S, hE, hR, h⟩ => TEx.sub hE hR h fun z v H1 w1 S1 l R1 r q => by
  unfold lift at q
  cases e : asI z with
  | none => rw [e] at q; exact q.elim
  | some i =>
    rw [e] at q
    obtain rfl := asI_inv e
    exact ⟨i, r, q _ H1 w1 l R1 rfl⟩
/-! ### slices of whatever it is -/
def oSl : Val → Option Int → Option Int → M Val := fun x lo hi S => match tupV x with
  | some ds => some (.ok (.d (.tup (cutL ds lo hi))), S)
  | none => match listV x S with
    | some xs => frz (cutL xs lo hi) S
    | none => none
def fSl (fa : FE) (lo hi : FO) : FE := fun env => bnd (fa env) fun x => bnd (lo env) fun l => bnd (hi env) fun h => oSl x l h
theorem qe_sl (hK : X.K = G.K) {lo hi : Option Expr} {p2 : Pos} {fl fh : FO} (ha : QE X G E a fa) (hl : QO X G E lo fl) (hh : QO X G E hi fh) : QE X G E (.Subscript a (.Slice lo hi none p2) pos) (fSl fa fl fh) :=
  PE.imp (pe_slice (SlR.or sl_tupA sl_list) ha hl hh) fun σ H Q ⟨w, env, S, hE, hR, h⟩ => TEx.sub hE hR h fun x v H1 w1 S1 l R1 r q => TOx.sub (hE.mono l) R1 q fun lo H2 w2 S2 l2 R2 q2 => TOx.sub (hE.mono (l.trans l2)) R2 q2 fun hi H3 w3 S3 l3 R3 q3 => by
    unfold oSl at q3
    cases e : tupV x with
    | some ds =>
      rw [e] at q3
      have q4 : VP G w Q (.d (.tup (cutL ds lo hi))) S3 := q3
      obtain ⟨a, vs, h1, h2, h3⟩ := tupV_of R3 ((r.mono l2).mono l3) e
      rw [hK]
      refine .inl ⟨a, vs, h1, h2, fun hw => ?_, fun _ => ?_⟩
      · have hw' : cutL ds lo hi = ds := whole_cut (by rw [h3.len]; exact hw)
        rw [hw'] at q4
        have rr := (r.mono l2).mono l3
        obtain rfl := tupV_inv e
        rw [h1] at rr
        exact q4 _ H3 w3 ((l.trans l2).trans l3) R3 rr
      · rw [cutV_eq]
        exact q4.tup ((l.trans l2).trans l3) R3 (h3.cutL lo hi)
    | none =>
      rw [e] at q3
      dsimp only at q3
      cases e2 : listV x S3 with
      | none => rw [e2] at q3; exact q3.elim
      | some xs =>
        rw [e2] at q3
        obtain ⟨a, vs, h1, h2, h3⟩ := listV_of R3 ((r.mono l2).mono l3) e2
        rw [hK]
        refine .inr ⟨a, vs, h1, h2, ?_⟩
        rw [cutV_eq]
        have q5 : Res G E w3 (frz (cutL xs lo hi) S3) (VP G w3 Q) := Res.imp (show Res G E w3 (frz (cutL xs lo hi) S3) (VP G w Q) from q3) fun _ _ z => z.mono ((l.trans l2).trans l3)
        exact (FP.frz q5).fresh (Wd.le.refl _) R3 (h3.cutL lo hi)
/-! ### i, j = a, b with plain local names -/
def sPar (i j : Nat) (fs : FA) : FS := fun env S => bS (fs env S) env fun xs S' => match xs with
  | [x, y] => some (.nx, (env.set i (some x)).set j (some y), S')
  | _ => none
theorem qs_par {i j : Nat} {x y : Str} {px py pt : Pos} {kt k2 pt2} (hc : X.calm = true) (hN : X.N.Nodup) (hi : X.N[i]? = some x) (hj : X.N[j]? = some y) (hij : i ≠ j)
    (hx : X.env.scope.names.lookup x = some .local) (hy : X.env.scope.names.lookup y = some .local) (ha : QA X G E [a, b] fs)
    (hw : swappedStores [.Tuple [.Name x px, .Name y py] kt pt] (.Tuple [a, b] k2 pt2) X.env = pure (some [x, y]) := by rfl)
    (hs : swapsWithSole [.Tuple [.Name x px, .Name y py] kt pt] (.Tuple [a, b] k2 pt2) pos.line X.env = pure false := by rfl) : QS X G E (.Assign [.Tuple [.Name x px, .Name y py] kt pt] (.Tuple [a, b] k2 pt2) pos) (sPar i j fs) :=
  PS.imp (ps_par hc hN hi hj hij hx hy ha hw hs) fun D σ H ⟨w, env, S, hE, hR, h⟩ => by
    have h2 := h.bS
    refine ⟨w, env, S, hE, hR, h2.imp fun xs S1 q vs H1 w1 l R1 r => ?_⟩
    match xs, r, q with
    | [], _, q => exact q.elim
    | [_], _, q => exact q.elim
    | [u, v], r, q =>
      obtain ⟨uu, vv, e, r1, r2⟩ := r.two
      exact ⟨uu, vv, e, q _ H1 w1 l (((hE.mono l).set i r1).set j r2) R1⟩
    | _ :: _ :: _ :: _, _, q => exact q.elim
end Y
namespace Y
open PySem PySem.Spec L2
theorem lookup_map {α β γ : Type} [BEq α] {l : List (α × β)} {f : β → γ} {z : α} {F : γ} (h : (l.map fun p => (p.1, f p.2)).lookup z = some F) : ∃ n, l.lookup z = some n ∧ F = f n := by
  induction l with
  | nil => cases h
  | cons p r ih =>
    obtain ⟨a, b⟩ := p
    rw [List.map_cons] at h
    dsimp only at h
    rw [List.lookup_cons] at h ⊢
    cases e : z == a with
    | true => rw [e] at h; cases h; exact ⟨b, rfl, rfl⟩
    | false => rw [e] at h; exact ih h
theorem tab_ar {α β : Type} [BEq α] {l : List (α × β)} {ar : β → Nat} {k : Nat} (h : l.all (fun p => ar p.2 == k) = true) {z : α} {n : β} (e : l.lookup z = some n) : ar n = k := by
  induction l with
  | nil => cases e
  | cons p r ih =>
    obtain ⟨a, b⟩ := p
    rw [List.all_cons, Bool.and_eq_true] at h
    rw [List.lookup_cons] at e
    cases e2 : z == a with
    | true => rw [e2] at e; cases e; exact beq_iff_eq.mp h.1
    | false => rw [e2] at e; exact ih h.2 e
theorem scope_blk {X0 : Cx} {s : Shared} {H : Hp} {scope0 sc0 : Scope} {cl : List (Str × Addr)} {C : Addr} {fp : List Addr} (h : X0.env.scope = sc0) : (X0.blk s H scope0 (compEnvC scope0 cl C X0.env) fp).env.scope = relS scope0 sc0 := by subst h; rfl
theorem blk_in {N : List Str} {sc1 sc scope : Scope} {own : List (Str × Nat)} (h : sc1 = sc) (ok : BlkOk N sc scope own) : BlkOk N sc1 scope own := h ▸ ok
end Y

set_option Elab.async false
set_option linter.all false
set_option maxRecDepth 100000
set_option maxHeartbeats 4000000
namespace Y
open PySem PySem.Spec L2
theorem fun_of {K : PySem.W.Frag} {x qual : Str} {st : Stmt} {f : Addr} {fd : FuncData} (F : FunD K x qual (defArgs st) (defBody st) (defScope st) [] [] f fd) : Fun K x qual st f fd := by
  obtain ⟨⟨oc, od, dV, kV, doc, pm, an, cdv, ct, osl, h1, h2, h3, h4, h5⟩, kp⟩ := F
  rcases h4 with ⟨_, rfl⟩ | ⟨e, _⟩
  · exact ⟨⟨oc, od, kV, doc, pm, an, cdv, ct, osl, h1, h2, h3⟩, kp⟩
  · exact absurd rfl e
theorem has_0 {P : Program} {w : World} {G : Gx} {mg : Str → Option Value} {base : Heap} {x : Str} {n : Nat} {f : Addr} {fd : FuncData} {ps : List Str} (hm : mg x = some (.ref f)) (hk : PySem.W.keepIn G.K (.ref f) = true) (hb : Binds G.K fd ps []) (hn : ps.length = n) :
    Has P w G mg base 0 x n (fun _ _ => none) := by
  refine ⟨f, fd, ps, hm, hk, hb, ⟨fun vs H Q E h => ?_, fun A outer s H args us vs Q E _ _ _ _ h => ?_⟩⟩
  · obtain ⟨w, S, args, R, r, e, _⟩ := h
    rw [← r.len, e, hn]
  · obtain ⟨w, S, args, R, r, e, q⟩ := h
    exact q.elim
/-- the law's promise, from what the mirror answers -/
theorem law_sp {G : Gx} {F : Fn} {n : Nat} (h : ∀ ns : List Int, ns.length ≤ n → ∃ S, F [.d (.ro ns)] [] = some (.ok (.d (.bl true)), S)) (H : Hp) (a : Addr) (ns : List Int) (hl : ns.length ≤ n) (hS : SqL G.K H a (ns.map V.int)) :
    spF G 1 F [.ref a] H (fun v _ => v = .bl true) fun _ _ _ => False := by
  obtain ⟨S, e⟩ := h ns hl
  refine ⟨⟨fun _ => 0, H, fun _ => none, 0⟩, [], [.d (.ro ns)], ⟨rfl, Same.refl _, (fun _ _ e => nomatch e), (fun i o e => by simp at e), (fun _ _ e => nomatch e), (fun i o e => by simp at e), (fun i j o p e => by simp at e)⟩, ⟨_, _, rfl, ⟨a, rfl, hS⟩, rfl⟩, rfl, ?_⟩
  rw [e]
  exact fun v H' w' l R r => r
theorem cx_no {P : Program} {w : World} (H : Hp) (s : Shared) (e : Value) (s' : Shared) : L2.CX P w [] H s (fun _ _ _ => False) e s' → False := fun ⟨_, _, _, _, _, _, _, _, _, _, _, _, f⟩ => f
theorem lookup_memS {α : Type} {z : Str} {r : α} : ∀ {l : List (Str × α)}, l.lookup z = some r → (z, r) ∈ l
  | [], h => by cases h
  | (b, u) :: l, h => by
    rw [List.lookup_cons] at h
    cases q : (z == b) with
    | true =>
      rw [q] at h
      cases h
      rw [eq_of_beq q]
      exact List.mem_cons_self
    | false =>
      rw [q] at h
      exact List.mem_cons_of_mem _ (lookup_memS h)
theorem tk_mem {tk : List (Str × Bool)} {vs : List (Str × He.Dv)} {z : Str} {r : Bool} (h : tk = vs.map fun q => (q.1, true)) (e : tk.lookup z = some r) : ∃ q, q ∈ vs ∧ q.1 = z ∧ r = true := by
  have m := lookup_memS e
  rw [h] at m
  obtain ⟨q, hq, e2⟩ := List.mem_map.mp m
  cases e2
  exact ⟨q, hq, rfl, rfl⟩
def tnOk {F : Type} (nm : F → Str) (tn : List (Str × F)) (vs : List (Str × He.Dv)) : Bool := tn.all fun p => match vs.lookup p.1 with
  | some (.glo x) => decide (x = nm p.2)
  | _ => false
theorem tn_mem {F : Type} {nm : F → Str} {tn : List (Str × F)} {vs : List (Str × He.Dv)} {z : Str} {n : F} (h : tnOk nm tn vs = true) (e : tn.lookup z = some n) : ∃ q, q ∈ vs ∧ q.1 = z ∧ q.2 = .glo (nm n) := by
  have h2 := List.all_eq_true.mp h _ (lookup_memS e)
  dsimp only at h2
  cases e2 : vs.lookup z with
  | none => rw [e2] at h2; cases h2
  | some v =>
    rw [e2] at h2
    cases v with
    | glo x =>
      have h3 : x = nm n := of_decide_eq_true h2
      subst h3
      exact ⟨_, lookup_memS e2, rfl, rfl⟩
    | _ => cases h2
end Y
namespace Y
open PySem PySem.Spec PyProof.Rows L2
theorem walk_ofW {l : PySem.W.OpenLaw} {n k : Nat} {q : Program} {loose : List Str} {XP : (Str → Option Value) → Heap → Prop} {YP : World → Heap → Prop} {d : DefRec} {x : Str}
    (hn : l.most = some n) (hn2 : n ≤ sizeLine) (hdf : d.params.defaults = []) (hr : Room k callerA)
    (F : ∀ (w : World) (mg : Str → Option Value) (fa : Addr) (h : Heap), YP w h → h.Ns mainGlobals mg → mg d.name = some (.ref fa) →
      ∃ (K : PySem.W.Frag) (fd : FuncData) (sp : Sp), K.In h ∧ (∀ (s : Shared) (u : Value), BindsTo s fd ⟨[u], []⟩ [(x, u)]) ∧
        (∀ (H : Hp) (a : Addr) (ns : List Int), ns.length ≤ n → Only H → SqL K H a (ns.map V.int) → sp [.ref a] H (fun v _ => v = .bl true) fun _ _ _ => False) ∧
        ∀ base : Heap, K.In base → base.Ns mainGlobals mg → FnOk l.prog w K mg base (L2.CX l.prog w) k fa fd [x] sp) :
    PySem.W.WalkO q loose XP YP l.row.toRowW d [] (fun f vs => PySem.call f vs) := by
  refine Att.attach_call hn hdf fun w s₀ s₁ mg mb fa o pm cd doc a vs ns G Y ho hd hcd hmg hobj hints hlen hg => ?_
  obtain ⟨K, fd, sp, KX, hb, hsp, hF⟩ := F w mg fa _ Y G.T.g hmg
  exact law_call KX G.T.g G.T.b G.T.builtins G.T.nolimit hg hobj hints (Nat.le_trans hlen hn2) hr hF hb (fun H hO hS => hsp H a ns hlen hO hS) fun H e s' => cx_no H s₁ e s'
end Y

set_option Elab.async false
set_option linter.all false
set_option maxRecDepth 100000
set_option maxHeartbeats 4000000
namespace Y
open PySem PySem.Spec PyProof.Rows L2 HT
/-! ### t += u -/
theorem noI_tuple_add : typeLookup (.type "tuple") (dunderI "add") = pure none := by rw [typeLookup_type, builtinLookup_eq_fast]; kernel_rfl
section
variable {prog : Program} {w : World} {A : Around} {E : Value → Shared → Prop} {s : Shared}
theorem iconcat_meets {T id : String} {B : Builtin} {a b : Value} {S : PySem.Spec} {Q : Value → Shared → Prop} (ha : s.TypeIs a T) (hb : s.TypeIs b T) (hno : typeLookup (.type T) (dunderI "add") = pure none)
    (hfill : fillsNumberSlot (.type T) "add" = pure false) (hseq : seqSlot? (.type T) "__add__" = pure (some (.builtin id))) (slot : Slot T "__add__" id)
    (entry : entryFor table id = some B) (args : argsOk id ⟨[a, b], []⟩) (g : Meets (B ⟨[a, b], []⟩) S) (h : S A (wants Q E) s) : wpAny (model prog w) A (inplaceOp .Add a b) Q E s :=
  wpAny_inplaceOp_concat ha hb hno hfill hseq (call_meets slot ha entry args g h)
theorem icat_tup0 {t b : Addr} {ws : List Value} {Q : Value → Shared → Prop} (ht : IsTup s.heap t ([] : List Value).toArray) (hb : IsTup s.heap b ws.toArray) (h : Q (.ref b) s) : wpAny (model prog w) A (inplaceOp .Add (.ref t) (.ref b)) Q E s := by
  obtain ⟨⟨cls, dd, data, sl⟩, ho, hc, n, hd⟩ := id ht
  obtain ⟨⟨cls2, dd2, data2, sl2⟩, ho2, hc2, n2, hd2⟩ := id hb
  simp only at hc hd hc2 hd2
  subst hc hd hc2 hd2
  exact iconcat_meets ⟨_, ho, rfl⟩ ⟨_, ho2, rfl⟩ noI_tuple_add noFill_tuple_add seq_tuple_add PySem.F.slot_tuple_add PySem.F.entry_tuple_add (PySem.F.args_tuple_add_2 _ _)
    (tuple_addW0 t b ([] : List Value).toArray ws.toArray n n2 dd dd2 sl sl2 (by simp)) ⟨ho, ho2, h⟩
theorem icat_tup {t b : Addr} {vs ws : List Value} {Q : Value → Shared → Prop} (ht : IsTup s.heap t vs.toArray) (hb : IsTup s.heap b ws.toArray) (hv : vs ≠ [])
    (h1 : ws = [] → Q (.ref t) s) (h2 : ws ≠ [] → Q (.ref s.heap.objs.size) { s with heap := s.heap.push { cls := .type "tuple", data := .seq (vs ++ ws).toArray } })
    (hsz : vs.length + ws.length ≤ sizeLine) : wpAny (model prog w) A (inplaceOp .Add (.ref t) (.ref b)) Q E s := by
  obtain ⟨⟨cls, dd, data, sl⟩, ho, hc, n, hd⟩ := id ht
  obtain ⟨⟨cls2, dd2, data2, sl2⟩, ho2, hc2, n2, hd2⟩ := id hb
  simp only at hc hd hc2 hd2
  subst hc hd hc2 hd2
  have e : vs.toArray ++ ws.toArray = (vs ++ ws).toArray := by simp
  by_cases hw : ws = []
  · exact iconcat_meets ⟨_, ho, rfl⟩ ⟨_, ho2, rfl⟩ noI_tuple_add noFill_tuple_add seq_tuple_add PySem.F.slot_tuple_add PySem.F.entry_tuple_add (PySem.F.args_tuple_add_2 _ _)
      (tuple_addW1 t b vs.toArray ws.toArray n n2 dd dd2 sl sl2 (by simpa using hv) (by simp [hw])) ⟨ho, ho2, h1 hw⟩
  · refine iconcat_meets ⟨_, ho, rfl⟩ ⟨_, ho2, rfl⟩ noI_tuple_add noFill_tuple_add seq_tuple_add PySem.F.slot_tuple_add PySem.F.entry_tuple_add (PySem.F.args_tuple_add_2 _ _)
      (tuple_addW2 t b vs.toArray ws.toArray n n2 dd dd2 sl sl2 (by simpa using hv) (by simpa using hw) (by rw [List.size_toArray, List.size_toArray]; exact hsz)) ⟨ho, ho2, ?_⟩
    rw [e]
    exact h2 hw
end
section
variable {X : Cx}
theorem iop_catA : OpR X (inplaceOp .Add) (rCatA X.K) := by
  intro pins s σ H x y v u Q I rx ry h
  obtain ⟨a, b, xs, ys, rfl, rfl, ha, hb, hz, q0, q1, q2⟩ := h
  cases rx
  cases ry
  obtain ⟨its, r1, p1, _⟩ := I.tuple ha
  obtain ⟨its2, r2, p2, _⟩ := I.tuple hb
  by_cases hx : xs = []
  · subst hx
    cases r1
    exact icat_tup0 p1 p2 ⟨.ref b, H, I, rfl, q0 rfl⟩
  · refine icat_tup p1 p2 (fun z => hx (r1.nil_iff.mp z)) (fun z => ⟨.ref a, H, I, rfl, q1 hx (r2.nil_iff.mp z)⟩) (fun z => ?_) (by rw [← r1.length, ← r2.length]; exact hz)
    refine ⟨.ref s.heap.objs.size, _, I.laid (t' := s.toks) (o := .tup (xs ++ ys)) (fun b ob q => Heap.get?_push_of_some _ q) (Nat.le_refl _) ?_, rfl, q2 hx (fun w => z (r2.nil_iff.mpr w)) _ (I.hok.fresh (Nat.le_refl _))⟩
    exact ⟨by rw [List.length_append]; exact hz, _, r1.append r2, IsTup.new _ _⟩
end
end Y
namespace Y
open PySem PySem.Spec L2
variable {G : Gx} {E : XK} {X : Cx}
/-- += of ints, tuples -/
def oIadd : Val → Val → M Val := fun x y => match asI x, asI y with
  | some i, some j => ret (.d (.int (i + j)))
  | _, _ => match tupV x, tupV y with
    | some a, some b => if a.length + b.length ≤ sizeLine then ret (.d (.tup (a ++ b))) else stk
    | _, _ => stk
theorem oIadd_inv {w : Wd} {x y : Val} {S : Store} {P : Val → Store → Prop} (h : Res G E w (oIadd x y S) P) : (∃ i j, x = .d (.int i) ∧ y = .d (.int j) ∧ P (.d (.int (i + j))) S) ∨ ∃ a b, x = .d (.tup a) ∧ y = .d (.tup b) ∧ a.length + b.length ≤ sizeLine ∧ P (.d (.tup (a ++ b))) S := by
  unfold oIadd at h
  have tups : Res G E w ((match tupV x, tupV y with
    | some a, some b => if a.length + b.length ≤ sizeLine then ret (Val.d (D.tup (a ++ b))) else stk
    | _, _ => stk) S) P → ∃ a b, x = .d (.tup a) ∧ y = .d (.tup b) ∧ a.length + b.length ≤ sizeLine ∧ P (.d (.tup (a ++ b))) S := fun h => by
    cases e1 : tupV x with
    | none => rw [e1] at h; exact h.elim
    | some a =>
      cases e2 : tupV y with
      | none => rw [e1, e2] at h; exact h.elim
      | some b =>
        rw [e1, e2] at h
        dsimp only at h
        by_cases c : a.length + b.length ≤ sizeLine
        · rw [if_pos c] at h
          exact ⟨a, b, tupV_inv e1, tupV_inv e2, c, h.ok⟩
        · rw [if_neg c] at h
          exact h.elim
  cases e1 : asI x with
  | none => rw [e1] at h; exact .inr (tups h)
  | some i =>
    cases e2 : asI y with
    | none => rw [e1, e2] at h; exact .inr (tups h)
    | some j =>
      rw [e1, e2] at h
      exact .inl ⟨i, j, asI_inv e1, asI_inv e2, h.ok⟩
theorem q_iadd (hK : X.K = G.K) : OpR X (inplaceOp .Add) (rOp G E oIadd) := OpR.imp (OpR.or iop_add iop_catA) fun v u H Q ⟨w, S, x, y, R, r1, r2, q⟩ => by
  rcases oIadd_inv q with ⟨i, j, rfl, rfl, q⟩ | ⟨a, b, rfl, rfl, c, qu⟩
  · exact .inl ⟨i, j, r1, r2, q _ H w (Wd.le.refl w) R rfl⟩
  · obtain ⟨p, vs, h1, h2, h3⟩ := tupV_of R r1 (ds := a) rfl
    obtain ⟨p', vs', k1, k2, k3⟩ := tupV_of R r2 (ds := b) rfl
    refine .inr ⟨p, p', vs, vs', h1, k1, by rw [hK]; exact h2, by rw [hK]; exact k2, by rw [← h3.len, ← k3.len]; exact c, fun z => ?_, fun z1 z2 => ?_, fun _ _ => qu.tup (Wd.le.refl w) R (h3.app k3)⟩
    · have ea : a = [] := List.eq_nil_of_length_eq_zero (by rw [h3.len, z]; rfl)
      subst ea
      rw [k1] at r2
      exact qu _ H w (Wd.le.refl w) R r2
    · have eb : b = [] := List.eq_nil_of_length_eq_zero (by rw [k3.len, z2]; rfl)
      subst eb
      rw [h1] at r1
      rw [List.append_nil] at qu
      exact qu _ H w (Wd.le.refl w) R r1
theorem q_isub : OpR X (inplaceOp .Sub) (rOp G E oSub) := opI_of iop_sub
/-- name op= e -/
def sAug (i : Nat) (op : Val → Val → M Val) (f : FE) : FS := fun env S => bS (bnd (lift ((env[i]?).join)) (fun x => bnd (f env) fun y => op x y) S) env fun z S' => some (.nx, env.set i (some z), S')
variable {e o value : Expr} {pos pos' tpos : Pos} {fa fb : FE}
theorem qs_aug {i : Nat} {x : Str} {op : Operator} {g : Val → Val → M Val} (hN : X.N.Nodup) (hi : X.N[i]? = some x) (hx : Loc X.env.scope x) (he : QE X G E e fa) (ho : OpR X (inplaceOp op) (rOp G E g)) (hf : X.fn x = true ∨ X.env.scope.names.lookup x = some .local := by first | exact .inl rfl | exact .inr rfl | assumption) :
    QS X G E (.AugAssign (.Name x pos') op e pos) (sAug i g fa) := PS.imp (ps_aug (ti := rOp G E g) hN hi hx he (fun pins s σ H x y v u Q I a b q => ho pins s σ H x y v u Q I a b q) hf) fun D σ H ⟨w, env, S, hE, hR, h⟩ => by
  have h2 := h.bS
  have h3 := h2.bnd
  unfold lift at h3
  cases e1 : (env[i]?).join with
  | none => rw [e1] at h3; exact h3.elim
  | some x =>
    rw [e1] at h3
    have e2 : env[i]? = some (some x) := by
      cases e3 : env[i]? with
      | none => rw [e3] at e1; cases e1
      | some o => rw [e3] at e1; exact congrArg some e1
    obtain ⟨v, k1, k2⟩ := hE.2 i x e2
    refine ⟨v, k1, TEx.sub hE hR h3 fun y u H1 w1 S1 l R1 r q => ⟨w1, S1, x, y, R1, k2.mono l, r, q.imp fun z S2 q2 t H2 w2 l2 R2 r2 => ?_⟩⟩
    have q3 : SRes G E w (some (Fl.nx, env.set i (some z), S2)) D := q2
    exact q3 _ H2 w2 (l.trans l2) ((hE.mono (l.trans l2)).set i r2) R2
end Y

set_option Elab.async false
set_option linter.all false
set_option maxRecDepth 100000
set_option maxHeartbeats 4000000
namespace Y
open PySem PySem.Spec L2
variable {G : Gx} {E : XK} {X : Cx} {e o value a b : Expr} {es : List Expr} {pos pos' tpos p apos : Pos} {fa fb fv : FE} {fs : FA} {k n : Nat} {x : Str} {F : Fn}
/-! ### fields -/
def insV (C : Str) (x : Val) (S : Store) : Option (Nat × List Str × List Val) := match x with
  | .r i => match S[i]? with
    | some (.ins D ks xs) => if D = C then some (i, ks, xs) else none
    | _ => none
  | _ => none
theorem insV_inv {C : Str} {x : Val} {S : Store} {i : Nat} {ks : List Str} {xs : List Val} (h : insV C x S = some (i, ks, xs)) : x = .r i ∧ S[i]? = some (.ins C ks xs) := by
  unfold insV at h
  cases x with
  | d x => cases h
  | r j =>
    dsimp only at h
    cases e : S[j]? with
    | none => rw [e] at h; cases h
    | some ob =>
      rw [e] at h
      cases ob with
      | ins D ks' xs' =>
        dsimp only at h
        by_cases c : D = C
        · rw [if_pos c] at h
          cases h
          exact ⟨rfl, by rw [e, c]⟩
        · rw [if_neg c] at h; cases h
      | _ => cases h
def fldV (f : Str) : List Str → List Val → Option Val
  | k :: ks, x :: xs => if k = f then some x else fldV f ks xs
  | _, _ => none
def putV (f : Str) (y : Val) : List Str → List Val → List Str × List Val
  | k :: ks, x :: xs => if k = f then (k :: ks, y :: xs) else (k :: (putV f y ks xs).1, x :: (putV f y ks xs).2)
  | _, _ => ([f], [y])
theorem fldV_of {w : Wd} {f : Str} : ∀ {ks : List Str} {xs : List Val} {vs : List V} {y : Val}, VRs G w xs vs → fldV f ks xs = some y → ∃ v, (ks.zip vs).lookup f = some v ∧ VR G w y v
  | k :: ks, x :: xs, vs, y, ⟨v, r, h1, h2, h3⟩, h => by
    subst h1
    unfold fldV at h
    by_cases c : k = f
    · rw [if_pos c] at h
      cases h
      refine ⟨v, ?_, h2⟩
      have hb : (f == k) = true := beq_iff_eq.mpr c.symm
      simp only [List.zip_cons_cons, List.lookup, hb]
    · rw [if_neg c] at h
      obtain ⟨u, q1, q2⟩ := fldV_of h3 h
      refine ⟨u, ?_, q2⟩
      have hb : (f == k) = false := beq_eq_false_iff_ne.mpr (Ne.symm c)
      simp only [List.zip_cons_cons, List.lookup, hb]
      exact q1
  | [], _, _, _, _, h => by cases h
  | _ :: _, [], _, _, _, h => by cases h
theorem putV_of {w : Wd} {f : Str} {y : Val} {u : V} (ry : VR G w y u) : ∀ {ks : List Str} {xs : List Val} {vs : List V}, ks.length = vs.length → VRs G w xs vs → ∃ us, putF f u (ks.zip vs) = (putV f y ks xs).1.zip us ∧ (putV f y ks xs).1.length = us.length ∧ VRs G w (putV f y ks xs).2 us
  | k :: ks, x :: xs, vs, hl, ⟨v, r, h1, h2, h3⟩ => by
    subst h1
    unfold putV
    rw [List.zip_cons_cons]
    unfold putF
    by_cases c : k = f
    · rw [if_pos c, if_pos c]
      exact ⟨u :: r, rfl, by simpa using hl, u, r, rfl, ry, h3⟩
    · rw [if_neg c, if_neg c]
      obtain ⟨us, q1, q2, q3⟩ := putV_of ry (ks := ks) (xs := xs) (vs := r) (by simpa using hl) h3
      exact ⟨v :: us, by rw [q1]; rfl, by simpa using q2, v, us, rfl, h2, q3⟩
  | [], [], vs, _, h => by
    rw [show vs = [] from h]
    exact ⟨[u], rfl, rfl, u, [], rfl, ry, rfl⟩
  | [], x :: xs, vs, hl, ⟨v, r, h1, h2, h3⟩ => by subst h1; cases hl
  | k :: ks, [], vs, hl, h => by rw [show vs = [] from h] at hl; cases hl
theorem insV_of {C : Str} {w : Wd} {H : Hp} {S : Store} {x : Val} {v : V} {i : Nat} {ks : List Str} {xs : List Val} (R : Rl G w H S) (r : VR G w x v) (h : insV C x S = some (i, ks, xs)) :
    v = .ref (w.ι i) ∧ S[i]? = some (.ins C ks xs) ∧ w.F (w.ι i) = none ∧ ∃ dx vs, H (w.ι i) = some (.ins (G.cA C) dx (ks.zip vs)) ∧ ks.length = vs.length ∧ VRs G w xs vs := by
  obtain ⟨rfl, e⟩ := insV_inv h
  obtain ⟨f0, dx, vs, h1, h2, h3⟩ := R.ob i _ e
  exact ⟨r.2, e, f0, dx, vs, h1, h2, h3⟩
def oFld (C f : Str) : Val → M Val := fun x S => match insV C x S with
  | some (_, ks, xs) => (fldV f ks xs).map fun y => (.ok y, S)
  | none => none
theorem oFld_inv {C f : Str} {x : Val} {S : Store} {w : Wd} {P : Val → Store → Prop} (h : Res G E w (oFld C f x S) P) : ∃ i ks xs y, insV C x S = some (i, ks, xs) ∧ fldV f ks xs = some y ∧ P y S := by
  unfold oFld at h
  cases e : insV C x S with
  | none => rw [e] at h; exact h.elim
  | some q =>
    obtain ⟨i, ks, xs⟩ := q
    rw [e] at h
    dsimp only at h
    cases e2 : fldV f ks xs with
    | none => rw [e2] at h; exact h.elim
    | some y => rw [e2] at h; exact ⟨i, ks, xs, y, rfl, e2, h⟩
/-- e.f, e of class C -/
def fFld (C f : Str) (fa : FE) : FE := fun env => bnd (fa env) (oFld C f)
theorem qe_fld {C f : Str} (hK : X.K = G.K) (c : Cls G.K (G.cA C)) (hn : NoAttr G.K (G.cA C) f) (he : QE X G E e fa) (hb : attributeBase e f X.env (eval e X.env) = eval e X.env := by rfl) : QE X G E (.Attribute e f pos) (fFld C f fa) :=
  PE.imp (pe_fld he hb) fun σ H Q ⟨w, env, S, hE, hR, h⟩ => TEx.sub hE hR h fun x v H1 w1 S1 l R1 r q => by
    obtain ⟨i, ks, xs, y, e1, e2, q2⟩ := oFld_inv q
    obtain ⟨hv, _, _, dx, vs, h1, h2, h3⟩ := insV_of R1 r e1
    obtain ⟨u, k1, k2⟩ := fldV_of h3 e2
    rw [hK]
    exact ⟨_, _, dx, _, u, hv, h1, c, hn, k1, q2 _ H1 w1 l R1 k2⟩
def oFldPut (C f : Str) (x y : Val) : M Unit := fun S => match insV C x S with
  | some (i, ks, xs) => if ks.length < 1000 then some (.ok (), S.set i (.ins C (putV f y ks xs).1 (putV f y ks xs).2)) else none
  | none => none
theorem oFldPut_inv {C f : Str} {x y : Val} {S : Store} {w : Wd} {P : Unit → Store → Prop} (h : Res G E w (oFldPut C f x y S) P) : ∃ i ks xs, insV C x S = some (i, ks, xs) ∧ ks.length < 1000 ∧ P () (S.set i (.ins C (putV f y ks xs).1 (putV f y ks xs).2)) := by
  unfold oFldPut at h
  cases e : insV C x S with
  | none => rw [e] at h; exact h.elim
  | some q =>
    obtain ⟨i, ks, xs⟩ := q
    rw [e] at h
    dsimp only at h
    by_cases c : ks.length < 1000
    · rw [if_pos c] at h
      exact ⟨i, ks, xs, rfl, c, h⟩
    · rw [if_neg c] at h; exact h.elim
/-- e.f = v -/
def sFldPut (C f : Str) (fa fv : FE) : FS := fun env S => bS (bnd (fv env) (fun y => bnd (fa env) fun x => oFldPut C f x y) S) env fun _ S' => some (.nx, env, S')
theorem qs_fldPut {C f : Str} (hK : X.K = G.K) (c : Cls G.K (G.cA C)) (hn : NoAttr G.K (G.cA C) f) (ha : QE X G E o fa) (hv : QE X G E value fv) (hs : swapsWith value (some (.Attribute o f pos')) pos.line X.env = pure false := by rfl) :
    QS X G E (.Assign [.Attribute o f pos'] value pos) (sFldPut C f fa fv) := PS.imp (ps_fld ha hv hs) fun D σ H ⟨w, env, S, hE, hR, h⟩ => by
  refine TEx.sub hE hR h.bS fun y u H1 w1 S1 l R1 r q => ?_
  refine TEx.sub (hE.mono l) R1 q fun x v H2 w2 S2 l2 R2 r2 q2 => ?_
  obtain ⟨i, ks, xs, e1, e2, q3⟩ := oFldPut_inv q2
  obtain ⟨hv, e3, f0, dx, vs, h1, h2, h3⟩ := insV_of R2 r2 e1
  obtain ⟨us, k1, k2, k3⟩ := putV_of (f := f) (r.mono l2) h2 h3
  rw [hK]
  refine ⟨_, _, dx, _, hv, h1, c, hn, by rw [List.length_zip]; omega, ?_⟩
  have q4 : SRes G E w (some (Fl.nx, env, S2.set i (.ins C (putV f y ks xs).1 (putV f y ks xs).2))) D := q3
  exact q4 σ _ w2 (l.trans l2) ((hE.mono l).mono l2) (R2.write e3 (by simp) ⟨f0, dx, us, by rw [upd_same, k1], k2, k3⟩)
/-- e.f op= v -/
def sFldAug (C f : Str) (op : Val → Val → M Val) (fa fv : FE) : FS := fun env S => bS (bnd (fa env) (fun x => bnd (oFld C f x) fun z => bnd (fv env) fun y => bnd (op z y) fun t => oFldPut C f x t) S) env fun _ S' => some (.nx, env, S')
theorem qs_fldAug {C f : Str} {op : Operator} {g : Val → Val → M Val} (hK : X.K = G.K) (c : Cls G.K (G.cA C)) (hn : NoAttr G.K (G.cA C) f) (ha : QE X G E o fa) (hv : QE X G E value fv) (ho : OpR X (inplaceOp op) (rOp G E g)) :
    QS X G E (.AugAssign (.Attribute o f tpos) op value pos) (sFldAug C f g fa fv) := PS.imp (ps_fldaug (rd := rOp G E g) ha hv (fun pins s σ H x y u v Q I a b q => ho pins s σ H x y u v Q I a b q)) fun D σ H ⟨w, env, S, hE, hR, h⟩ => by
  refine TEx.sub hE hR h.bS fun x v H1 w1 S1 l R1 r q => ?_
  obtain ⟨i, ks, xs, z, e1, e2, q2⟩ := oFld_inv q.bnd
  obtain ⟨hv, _, _, dx, vs, h1, h2, h3⟩ := insV_of R1 r e1
  obtain ⟨u, k1, k2⟩ := fldV_of h3 e2
  rw [hK]
  refine ⟨_, _, dx, _, u, hv, h1, c, hn, k1, ?_⟩
  refine TEx.sub (hE.mono l) R1 q2 fun y u2 H2 w2 S2 l2 R2 r2 q3 => ?_
  refine ⟨w2, S2, z, y, R2, k2.mono l2, r2, q3.bnd.imp fun t S3 q4 t' H3 w3 l3 R3 r3 => ?_⟩
  obtain ⟨i', ks', xs', e3, e4, q5⟩ := oFldPut_inv q4
  obtain ⟨hv', e5, f0, dx', vs', h4, h5, h6⟩ := insV_of R3 ((r.mono l2).mono l3) e3
  obtain ⟨us, k3, k4, k5⟩ := putV_of (f := f) r3 h5 h6
  obtain ⟨ei, _⟩ := insV_inv e1
  obtain ⟨ei', _⟩ := insV_inv e3
  rw [ei] at ei'
  cases ei'
  have ea : w1.ι i = w3.ι i := by rw [hv] at hv'; exact V.ref.inj hv'
  rw [ea]
  refine ⟨dx', _, h4, by rw [List.length_zip]; omega, ?_⟩
  have q6 : SRes G E w (some (Fl.nx, env, S3.set i (.ins C (putV f t ks' xs').1 (putV f t ks' xs').2))) D := q5
  exact q6 σ _ w3 ((l.trans l2).trans l3) (((hE.mono l).mono l2).mono l3) (R3.write e5 (by simp) ⟨f0, dx', us, by rw [upd_same, k3], k4, k5⟩)
/-! ### methods -/
def HasM (P : Program) (w : World) (G : Gx) (mg : Str → Option Value) (base : Heap) (k : Nat) (C m : Str) (n : Nat) (F : Fn) : Prop :=
  ∃ f fd ps, Meth G.K (G.cA C) m f ∧ Binds G.K fd ps [] ∧ FnOk P w G.K mg base (L2.CX P w) k f fd ps (spF G n F)
def isI (C m : Str) : Val → M Unit := fun x S => match insV C x S with
  | some (_, ks, _) => if m ∈ ks then none else some (.ok (), S)
  | none => none
theorem isI_inv {C m : Str} {x : Val} {S : Store} {w : Wd} {P : Unit → Store → Prop} (h : Res G E w (isI C m x S) P) : ∃ i ks xs, insV C x S = some (i, ks, xs) ∧ ¬ m ∈ ks ∧ P () S := by
  unfold isI at h
  cases e : insV C x S with
  | none => rw [e] at h; exact h.elim
  | some q =>
    obtain ⟨i, ks, xs⟩ := q
    rw [e] at h
    dsimp only at h
    by_cases c : m ∈ ks
    · rw [if_pos c] at h; exact h.elim
    · rw [if_neg c] at h
      exact ⟨i, ks, xs, rfl, c, h⟩
theorem lookup_zip_none {m : Str} : ∀ {ks : List Str} {vs : List V}, ¬ m ∈ ks → (ks.zip vs).lookup m = none
  | [], _, _ => rfl
  | _ :: _, [], _ => rfl
  | k :: ks, v :: vs, h => by
    rw [List.mem_cons, not_or] at h
    have hb : (m == k) = false := beq_eq_false_iff_ne.mpr h.1
    simp only [List.zip_cons_cons, List.lookup, hb]
    exact lookup_zip_none h.2
/-- e.m(..) -/
def fMeth (C m : Str) (n : Nat) (F : Fn) (fa : FE) (fs : FA) : FE := fun env => bnd (fa env) fun x => bnd (isI C m x) fun _ => bnd (fs env) fun xs => ck n F (x :: xs)
theorem tMeth_of {C m : Str} {σ : St} {H : Hp} {Q : VK} (h : TEx G E (fMeth C m n F fa fs) σ H Q) : tMeth (G.cA C) m (spF G n F) [] E (TEx G E fa) (TAx G E fs) σ H Q := by
  obtain ⟨w, env, S, hE, hR, h⟩ := h
  refine TEx.sub hE hR h fun x v H1 w1 S1 l R1 r q => ?_
  obtain ⟨i, ks, xs, e1, e2, q2⟩ := isI_inv q.bnd
  obtain ⟨hv, _, _, dx, vs, h1, h2, h3⟩ := insV_of R1 r e1
  refine ⟨_, dx, _, hv, h1, lookup_zip_none e2, TAx.sub (hE.mono l) R1 q2 fun ys us H2 w2 S2 l2 R2 r2 q3 => ?_⟩
  rw [List.append_nil]
  unfold ck at q3
  by_cases c : (x :: ys).length = n
  · rw [if_pos c] at q3
    exact ⟨w2, S2, x :: ys, R2, ⟨_, _, rfl, r.mono l2, r2⟩, c, q3.imp fun _ _ z => (z.mono l).mono l2⟩
  · rw [if_neg c] at q3
    exact q3.elim
theorem qe_meth {C m : Str} {pl : Sem Bool} (h : HasM X.prog X.w G X.mg X.base k C m n F) (hK : X.K = G.K) (c : Cls G.K (G.cA C)) (hr : Room k X.A) (hx : Passes (L2.CX X.prog X.w) X E) (ho : QE X G E o fa) (ha : QA X G E (e :: es) fs)
    (he : starEach (e :: es) X.env = (false, eval e X.env) :: starEach es X.env := by rfl) (hpl : (backTo pos (starEach es X.env)).any (·.1) = false := by rfl)
    (ht : eval (.Call (.Attribute o m apos) (e :: es) [] pos) X.env = (do
      let ov ← eval o X.env
      standAt apos.atName
      let (f, first) ← holding [ov] (getMethod ov m pl)
      callWith pos f first (backTo pos (starEach (e :: es) X.env)) (backToKw pos (keywordEach [] X.env))) := by rfl) :
    QE X G E (.Call (.Attribute o m apos) (e :: es) [] pos) (fMeth C m n F fa fs) := by
  obtain ⟨f, fd, ps, h1, h3, h4⟩ := h
  rw [← hK] at h1 h3 h4 c
  exact PE.imp (pe_meth (ht := ht) ho c h1 h4 hr h3 .nil hx ha he hpl) fun σ H Q h => tMeth_of h
theorem qe_meth0 {C m : Str} {pl : Sem Bool} (h : HasM X.prog X.w G X.mg X.base k C m n F) (hK : X.K = G.K) (c : Cls G.K (G.cA C)) (hr : Room k X.A) (hx : Passes (L2.CX X.prog X.w) X E) (ho : QE X G E o fa)
    (ht : eval (.Call (.Attribute o m apos) [] [] pos) X.env = (do
      let ov ← eval o X.env
      standAt apos.atName
      let (f, first) ← holding [ov] (getMethod ov m pl)
      callWith pos f first (backTo pos (starEach [] X.env)) (backToKw pos (keywordEach [] X.env))) := by rfl) :
    QE X G E (.Call (.Attribute o m apos) [] [] pos) (fMeth C m n F fa fNil) := by
  obtain ⟨f, fd, ps, h1, h3, h4⟩ := h
  rw [← hK] at h1 h3 h4 c
  refine PE.imp (pe_meth0 ho c h1 h4 hr h3 .nil hx ht) fun σ H Q h => ?_
  obtain ⟨w, env, S, hE, hR, h⟩ := h
  refine TEx.sub hE hR h fun x v H1 w1 S1 l R1 r q => ?_
  obtain ⟨i, ks, xs, e1, e2, q2⟩ := isI_inv q.bnd
  obtain ⟨hv, _, _, dx, vs, h1, h2, h3⟩ := insV_of R1 r e1
  refine ⟨_, dx, _, hv, h1, lookup_zip_none e2, ?_⟩
  have q3 : Res G E w1 (ck n F [x] S1) (VP G w Q) := q2
  show spF G n F (_ :: ([] ++ [])) H1 Q E
  rw [List.append_nil]
  unfold ck at q3
  by_cases c : [x].length = n
  · rw [if_pos c] at q3
    exact ⟨w1, S1, [x], R1, ⟨_, _, rfl, r, rfl⟩, c, q3.imp fun _ _ z => z.mono l⟩
  · rw [if_neg c] at q3
    exact q3.elim
/-! ### a new object -/
def isNo : Val → M Unit := fun x S => match x with
  | .d .non => some (.ok (), S)
  | _ => none
theorem isNo_inv {x : Val} {S : Store} {w : Wd} {P : Unit → Store → Prop} (h : Res G E w (isNo x S) P) : x = .d .non ∧ P () S := by
  unfold isNo at h
  match x, h with
  | .d .non, h => exact ⟨rfl, h⟩
  | .r _, h => exact h.elim
  | .d (.bl _), h => exact h.elim
  | .d (.int _), h => exact h.elim
  | .d (.str _), h => exact h.elim
  | .d (.tup _), h => exact h.elim
  | .d (.lst _), h => exact h.elim
  | .d (.dct _ _), h => exact h.elim
  | .d (.fn _), h => exact h.elim
  | .d (.ro _), h => exact h.elim
/-- C(..) -/
def oMake (C : Str) (n : Nat) (F : Fn) (xs : List Val) : M Val := fun S => bnd (ck n F (.r S.length :: xs)) (fun y => bnd (isNo y) fun _ => ret (.r S.length)) (S ++ [.ins C [] []])
theorem Rl.make {C : Str} {w : Wd} {H : Hp} {S : Store} (R : Rl G w H S) {p dx : Addr} (h1 : H p = none) (h2 : H dx = none) (h3 : dx ≠ p) : Rl G (w.join p) (upd (upd H dx (.own p)) p (.ins (G.cA C) dx [])) (S ++ [.ins C [] []]) := by
  have R1 := R.laid (o := .own p) h2
  have n1 : (upd H dx (.own p)) p = none := by rw [upd_ne (Ne.symm h3)]; exact h1
  have R2 := R1.laid (o := .ins (G.cA C) dx []) n1
  exact R2.joins ⟨R.newF h1, dx, [], by rw [upd_same]; rfl, rfl, rfl⟩ (R.newS h1) (R.tp.free h1)
theorem qe_make {C : Str} {f : Addr} (h : HasM X.prog X.w G X.mg X.base k C "__init__" n F) (M : L2.Mk G.K (G.cA C) f) (hg : Gl X C) (hm : X.mg C = some (.ref (G.cA C))) (hK : X.K = G.K) (hr : Room (k + 1) X.A) (hx : Passes (L2.CX X.prog X.w) X E) (ha : QA X G E (e :: es) fs)
    (hdb : (C == ("__debug__" : Str)) = false := by decide) (he : starEach (e :: es) X.env = (false, eval e X.env) :: starEach es X.env := by rfl) (hpl : (backTo pos (starEach es X.env)).any (·.1) = false := by rfl) :
    QE X G E (.Call (.Name C p) (e :: es) [] pos) (fCall (oMake C n F) fs) := by
  obtain ⟨f', fd, ps, h1, h3, h4⟩ := h
  have ef : f' = f := by
    have := h1.at_.symm.trans M.init
    simpa using this
  subst ef
  rw [← hK] at M h3 h4
  refine PE.imp (pe_make M h4 hr hg hm h3 .nil hx ha hdb he hpl) fun σ H Q h => ?_
  obtain ⟨w, env, S, hE, hR, h⟩ := h
  refine TAx.sub hE hR h fun xs vs H1 w1 S1 l R1 r q => ?_
  intro p dx n1 n2 n3
  have R2 := R1.make (C := C) n1 n2 n3
  rw [List.append_nil]
  have q2 := Res.bnd (show Res G E w1 (bnd (ck n F (.r S1.length :: xs)) (fun y => bnd (isNo y) fun _ => ret (.r S1.length)) (S1 ++ [.ins C [] []])) (VP G w Q) from q)
  unfold ck at q2
  by_cases c : (Val.r S1.length :: xs).length = n
  · rw [if_pos c] at q2
    refine ⟨w1.join p, S1 ++ [.ins C [] []], .r S1.length :: xs, R2, ⟨_, _, rfl, ⟨?_, ?_⟩, r.mono Wd.join_le⟩, c, q2.mono Wd.join_le fun y S3 q3 v H3 w3 l3 R3 r3 => ?_⟩
    · show S1.length < w1.n + 1
      rw [R1.n]; exact Nat.lt_succ_self _
    · show _ = V.ref (if S1.length = w1.n then p else _)
      rw [if_pos R1.n.symm]
    · obtain ⟨rfl, q4⟩ := isNo_inv q3.bnd
      refine ⟨r3, ?_⟩
      have q5 : VP G w Q (.r S1.length) S3 := q4
      refine q5 _ H3 w3 ((l.trans Wd.join_le).trans l3) R3 ⟨?_, ?_⟩
      · have := l3.2.2.1
        have e2 : (w1.join p).n = w1.n + 1 := rfl
        rw [R1.n] at e2
        omega
      · have e3 := l3.2.1 S1.length (by show S1.length < w1.n + 1; rw [R1.n]; exact Nat.lt_succ_self _)
        rw [e3]
        show _ = V.ref (if S1.length = w1.n then p else _)
        rw [if_pos R1.n.symm]
  · rw [if_neg c] at q2
    exact q2.elim
end Y

set_option Elab.async false
set_option linter.all false
set_option maxRecDepth 100000
set_option maxHeartbeats 4000000
namespace Y
open PySem PySem.Spec L2
variable {G : Gx} {E : XK} {X : Cx} {e o i value a b c : Expr} {es : List Expr} {pos pos' tpos p apos : Pos} {fa fb fv fi : FE} {fs : FA} {k n : Nat} {x : Str} {F : Fn}
/-! ### dicts of the store -/
def keyV : Val → Option Key
  | .d (.int i) => some (.inl i)
  | .d (.str z) => some (.inr z)
  | _ => none
theorem keyV_of {w : Wd} {y : Val} {u : V} {k : Key} (h : keyV y = some k) (r : VR G w y u) : u = kV k := by
  cases y with
  | r i => cases h
  | d y =>
    cases y with
    | int i => cases h; exact r
    | str z => cases h; exact r
    | _ => cases h
def dctV (x : Val) (S : Store) : Option (Nat × List Key × List Val) := match x with
  | .r i => match S[i]? with
    | some (.dct ks xs) => some (i, ks, xs)
    | _ => none
  | _ => none
theorem dctV_inv {x : Val} {S : Store} {i : Nat} {ks : List Key} {xs : List Val} (h : dctV x S = some (i, ks, xs)) : x = .r i ∧ S[i]? = some (.dct ks xs) := by
  unfold dctV at h
  cases x with
  | d x => cases h
  | r j =>
    dsimp only at h
    cases e : S[j]? with
    | none => rw [e] at h; cases h
    | some ob =>
      rw [e] at h
      cases ob with
      | dct ks' xs' => cases h; exact ⟨rfl, e⟩
      | _ => cases h
theorem dctV_of {w : Wd} {H : Hp} {S : Store} {x : Val} {v : V} {i : Nat} {ks : List Key} {xs : List Val} (R : Rl G w H S) (r : VR G w x v) (h : dctV x S = some (i, ks, xs)) :
    v = .ref (w.ι i) ∧ S[i]? = some (.dct ks xs) ∧ w.F (w.ι i) = none ∧ ∃ vs, H (w.ι i) = some (.dK (ks.zip vs)) ∧ ks.length = vs.length ∧ VRs G w xs vs := by
  obtain ⟨rfl, e⟩ := dctV_inv h
  obtain ⟨f0, vs, h1, h2, h3⟩ := R.ob i _ e
  exact ⟨r.2, e, f0, vs, h1, h2, h3⟩
def dgetV (k : Key) : List Key → List Val → Option Val
  | q :: ks, x :: xs => if q = k then some x else dgetV k ks xs
  | _, _ => none
theorem dgetV_of {w : Wd} {k : Key} : ∀ {ks : List Key} {xs : List Val} {vs : List V} {y : Val}, VRs G w xs vs → dgetV k ks xs = some y → ∃ v, valV (ks.zip vs) k = some v ∧ VR G w y v
  | q :: ks, x :: xs, vs, y, ⟨v, r, h1, h2, h3⟩, h => by
    subst h1
    unfold dgetV at h
    rw [List.zip_cons_cons]
    by_cases c : q = k
    · rw [if_pos c] at h
      cases h
      exact ⟨v, valV_pos c, h2⟩
    · rw [if_neg c] at h
      obtain ⟨u, q1, q2⟩ := dgetV_of h3 h
      exact ⟨u, (valV_neg c).trans q1, q2⟩
  | [], _, _, _, _, h => by cases h
  | _ :: _, [], _, _, _, h => by cases h
def memB (k : Key) : List Key → Bool
  | [] => false
  | q :: r => decide (q = k) || memB k r
def repV (k : Key) (y : Val) : List Key → List Val → List Val
  | q :: ks, x :: xs => (if q = k then y else x) :: repV k y ks xs
  | _, _ => []
def dputV (k : Key) (y : Val) (ks : List Key) (xs : List Val) : List Key × List Val := if memB k ks = true then (ks, repV k y ks xs) else (ks ++ [k], xs ++ [y])
theorem any_zip {k : Key} : ∀ {ks : List Key} {vs : List V}, ks.length = vs.length → ((ks.zip vs).any fun kv => decide (kv.1 = k)) = memB k ks
  | [], [], _ => rfl
  | q :: ks, v :: vs, h => by
    rw [List.zip_cons_cons, List.any_cons, any_zip (ks := ks) (vs := vs) (by simpa using h)]
    rfl
  | [], _ :: _, h => by cases h
  | _ :: _, [], h => by cases h
theorem repV_of {w : Wd} {k : Key} {y : Val} {u : V} (ry : VR G w y u) : ∀ {ks : List Key} {xs : List Val} {vs : List V}, ks.length = vs.length → VRs G w xs vs →
    ∃ us, (ks.zip vs).map (fun kv => if kv.1 = k then (kv.1, u) else kv) = ks.zip us ∧ ks.length = us.length ∧ VRs G w (repV k y ks xs) us
  | q :: ks, x :: xs, vs, hl, ⟨v, r, h1, h2, h3⟩ => by
    subst h1
    obtain ⟨us, q1, q2, q3⟩ := repV_of ry (ks := ks) (xs := xs) (vs := r) (by simpa using hl) h3
    rw [List.zip_cons_cons, List.map_cons, q1]
    unfold repV
    by_cases c : q = k
    · refine ⟨u :: us, ?_, by simpa using q2, u, us, rfl, ?_, q3⟩
      · simp [c]
      · rw [if_pos c]; exact ry
    · refine ⟨v :: us, ?_, by simpa using q2, v, us, rfl, ?_, q3⟩
      · simp [c]
      · rw [if_neg c]; exact h2
  | [], [], vs, _, h => by rw [show vs = [] from h]; exact ⟨[], rfl, rfl, rfl⟩
  | [], x :: xs, vs, hl, ⟨v, r, h1, h2, h3⟩ => by subst h1; cases hl
  | q :: ks, [], vs, hl, h => by rw [show vs = [] from h] at hl; cases hl
theorem dputV_of {w : Wd} {k : Key} {y : Val} {u : V} (ry : VR G w y u) {ks : List Key} {xs : List Val} {vs : List V} (hl : ks.length = vs.length) (h : VRs G w xs vs) :
    ∃ us, putK (ks.zip vs) k u = (dputV k y ks xs).1.zip us ∧ (dputV k y ks xs).1.length = us.length ∧ VRs G w (dputV k y ks xs).2 us := by
  unfold putK dputV
  rw [any_zip hl]
  by_cases c : memB k ks = true
  · rw [if_pos c, if_pos c]
    exact repV_of ry hl h
  · rw [if_neg c, if_neg c]
    refine ⟨vs ++ [u], ?_, by simp [hl], h.app ⟨u, [], rfl, ry, rfl⟩⟩
    rw [List.zip_append hl]
    rfl
def oDGet : Val → Val → M Val := fun x y S => match dctV x S, keyV y with
  | some (_, ks, xs), some k => (dgetV k ks xs).map fun z => (.ok z, S)
  | _, _ => none
theorem oDGet_inv {x y : Val} {S : Store} {w : Wd} {P : Val → Store → Prop} (h : Res G E w (oDGet x y S) P) : ∃ i ks xs k z, dctV x S = some (i, ks, xs) ∧ keyV y = some k ∧ dgetV k ks xs = some z ∧ P z S := by
  unfold oDGet at h
  cases e : dctV x S with
  | none => rw [e] at h; exact h.elim
  | some q =>
    obtain ⟨i, ks, xs⟩ := q
    rw [e] at h
    cases e2 : keyV y with
    | none => rw [e2] at h; exact h.elim
    | some k =>
      rw [e2] at h
      dsimp only at h
      cases e3 : dgetV k ks xs with
      | none => rw [e3] at h; exact h.elim
      | some z => rw [e3] at h; exact ⟨i, ks, xs, k, z, rfl, rfl, e3, h⟩
theorem qe_dget (hu : X.A.units + 64 < cLine) (ho : QE X G E o fa) (hi : QE X G E i fi) (hs : NoSl i := by intro _ _; rfl) : QE X G E (.Subscript o i pos) (fBin oDGet fa fi) :=
  PE.imp (pe_dget (by omega) ho hi hs) fun σ H Q ⟨w, env, S, hE, hR, h⟩ => TEx.sub hE hR h fun x v H1 w1 S1 l R1 r q => TEx.sub (hE.mono l) R1 q fun y u H2 w2 S2 l2 R2 r2 q2 => by
    obtain ⟨j, ks, xs, k, z, e1, e2, e3, q3⟩ := oDGet_inv q2
    obtain ⟨hv, _, _, vs, h1, h2, h3⟩ := dctV_of R2 (r.mono l2) e1
    obtain ⟨t, k1, k2⟩ := dgetV_of h3 e3
    have hk := keyV_of e2 r2
    refine ⟨_, t, hv, ?_, q3 _ H2 w2 (l.trans l2) R2 k2⟩
    rw [hk, ← k1]
    exact DGet.k h1
def oDPut (x y z : Val) : M Unit := fun S => match dctV x S, keyV y with
  | some (i, ks, xs), some k => if ks.length < sizeLine then some (.ok (), S.set i (.dct (dputV k z ks xs).1 (dputV k z ks xs).2)) else none
  | _, _ => none
theorem oDPut_inv {x y z : Val} {S : Store} {w : Wd} {P : Unit → Store → Prop} (h : Res G E w (oDPut x y z S) P) : ∃ i ks xs k, dctV x S = some (i, ks, xs) ∧ keyV y = some k ∧ ks.length < sizeLine ∧ P () (S.set i (.dct (dputV k z ks xs).1 (dputV k z ks xs).2)) := by
  unfold oDPut at h
  cases e : dctV x S with
  | none => rw [e] at h; exact h.elim
  | some q =>
    obtain ⟨i, ks, xs⟩ := q
    rw [e] at h
    cases e2 : keyV y with
    | none => rw [e2] at h; exact h.elim
    | some k =>
      rw [e2] at h
      dsimp only at h
      by_cases c : ks.length < sizeLine
      · rw [if_pos c] at h
        exact ⟨i, ks, xs, k, rfl, rfl, c, h⟩
      · rw [if_neg c] at h; exact h.elim
def sDPut (fo fi fv : FE) : FS := fun env S => bS (bnd (fv env) (fun z => bnd (fo env) fun x => bnd (fi env) fun y => oDPut x y z) S) env fun _ S' => some (.nx, env, S')
theorem qs_dput (hu : X.A.units + 64 < cLine) (ho : QE X G E o fa) (hi : QE X G E i fi) (hv : QE X G E value fv) (hs : swapsWith value (some (.Subscript o i pos')) pos.line X.env = pure false := by rfl) :
    QS X G E (.Assign [.Subscript o i pos'] value pos) (sDPut fa fi fv) := PS.imp (ps_dput (by omega) ho hi hv hs) fun D σ H ⟨w, env, S, hE, hR, h⟩ => by
  refine TEx.sub hE hR h.bS fun z t H1 w1 S1 l R1 r q => ?_
  refine TEx.sub (hE.mono l) R1 q fun x v H2 w2 S2 l2 R2 r2 q2 => ?_
  refine TEx.sub ((hE.mono l).mono l2) R2 q2 fun y u H3 w3 S3 l3 R3 r3 q3 => ?_
  obtain ⟨j, ks, xs, k, e1, e2, c, q4⟩ := oDPut_inv q3
  obtain ⟨hv, e3, f0, vs, h1, h2, h3⟩ := dctV_of R3 (r2.mono l3) e1
  obtain ⟨us, k1, k2, k3⟩ := dputV_of (k := k) ((r.mono l2).mono l3) h2 h3
  have hk := keyV_of e2 r3
  refine ⟨_, _, hv, .inl ⟨_, k, h1, hk, by rw [List.length_zip]; omega, rfl⟩, ?_⟩
  have q5 : SRes G E w (some (Fl.nx, env, S3.set j (.dct (dputV k z ks xs).1 (dputV k z ks xs).2))) D := q4
  exact q5 σ _ w3 ((l.trans l2).trans l3) (((hE.mono l).mono l2).mono l3) (R3.write e3 (by simp) ⟨f0, us, by rw [upd_same, k1], k2, k3⟩)
/-! a display of a dict -/
def QD (X : Cx) (G : Gx) (E : XK) (pos : Pos) (keys : List (Option Expr)) (values : List Expr) (ks : List Key) (fs : FA) : Prop := ∃ trs, PPs X pos keys values trs ∧
  ∀ σ H Q, (∃ w env S, EnvR G w env σ ∧ Rl G w H S ∧ Res G E w (fs env S) (fun xs S' => ∀ vs H' w', w.le w' → Rl G w' H' S' → VRs G w' xs vs → xs.length = ks.length → Q ((ks.map kV).zip vs) H')) → tPairs trs σ H Q
theorem qd_nil : QD X G E pos [] [] [] fNil := ⟨[], pps_nil, fun σ H Q ⟨w, env, S, hE, hR, h⟩ => h [] H w (Wd.le.refl w) hR rfl rfl⟩
theorem qd_cons {kx v : Expr} {keys : List (Option Expr)} {values : List Expr} {k : Key} {ks : List Key} (hk : PE X kx (tC (kV k))) (hv : QE X G E v fv) (hr : QD X G E pos keys values ks fs) : QD X G E pos (some kx :: keys) (v :: values) (k :: ks) (fCons fv fs) := by
  obtain ⟨trs, h1, h2⟩ := hr
  refine ⟨_, pps_cons hk hv h1, fun σ H Q ⟨w, env, S, hE, hR, h⟩ => ?_⟩
  show kV k |> fun x => TEx G E fv σ H fun y H2 => tPairs trs σ H2 fun ps H3 => Q ((x, y) :: ps) H3
  dsimp only
  refine TEx.sub hE hR h fun y u H1 w1 S1 l R1 r q => ?_
  refine h2 σ H1 _ ⟨w1, env, S1, hE.mono l, R1, q.bnd.imp fun xs S2 q2 vs H2 w2 l2 R2 r2 hl => ?_⟩
  exact q2.ok (u :: vs) H2 w2 (l.trans l2) R2 ⟨u, vs, rfl, r.mono l2, r2⟩ (by rw [List.length_cons, List.length_cons, hl])
def ndB : List Key → Bool
  | [] => true
  | k :: r => !memB k r && ndB r
theorem memB_iff {k : Key} : ∀ {ks : List Key}, memB k ks = true ↔ k ∈ ks
  | [] => by simp [memB]
  | q :: r => by
    unfold memB
    rw [Bool.or_eq_true, memB_iff, decide_eq_true_eq, List.mem_cons]
    exact ⟨fun h => h.imp Eq.symm id, fun h => h.imp Eq.symm id⟩
theorem ndB_iff : ∀ {ks : List Key}, ndB ks = true → ks.Nodup
  | [], _ => List.nodup_nil
  | k :: r, h => by
    unfold ndB at h
    rw [Bool.and_eq_true] at h
    refine List.nodup_cons.mpr ⟨fun c => ?_, ndB_iff h.2⟩
    rw [memB_iff.mpr c] at h
    cases h.1
theorem zip_kV : ∀ (ks : List Key) (vs : List V), (ks.map kV).zip vs = (ks.zip vs).map fun kv => (kV kv.1, kv.2)
  | [], _ => rfl
  | _ :: _, [] => rfl
  | k :: ks, v :: vs => by rw [List.map_cons, List.zip_cons_cons, List.zip_cons_cons, List.map_cons, zip_kV ks vs]
def fDisp (ks : List Key) (fs : FA) : FE := fun env => bnd (noX (fs env)) fun xs S => if (ndB ks && decide (xs.length = ks.length)) = true then some (.ok (.r S.length), S ++ [.dct ks xs]) else none
theorem merge_nodup : ∀ {more kvs : List (Key × V)}, ((kvs ++ more).map (·.1)).Nodup → mergeK kvs more = kvs ++ more
  | [], kvs, _ => by rw [List.append_nil]; rfl
  | (k, v) :: r, kvs, h => by
    have h1 : putK kvs k v = kvs ++ [(k, v)] := by
      unfold putK
      rw [if_neg]
      intro c
      obtain ⟨p, hp, hk⟩ := List.any_eq_true.mp c
      have hk' : p.1 = k := of_decide_eq_true hk
      rw [List.map_append, List.map_cons, List.nodup_append] at h
      exact h.2.2 p.1 (List.mem_map_of_mem hp) k (by simp) hk'
    show mergeK (putK kvs k v) r = _
    rw [h1, merge_nodup (by simpa using h)]
    simp
theorem qe_disp {keys : List (Option Expr)} {values : List Expr} {ks : List Key} (h : QD X G E0 pos keys values ks fs) (hall : keys.all (·.isSome) = true := by rfl) (hl : keys.length = values.length := by rfl) (h0 : keys ≠ [] := by simp)
    (h15 : keys.length ≤ 15 := by decide) (hk : ks.length ≤ 15 := by decide) : QE X G E (.Dict keys values pos) (fDisp ks fs) := by
  obtain ⟨trs, h1, h2⟩ := h
  refine PE.imp (pe_disp h1 hall hl h0 h15) fun σ H Q ⟨w, env, S, hE, hR, h⟩ => ?_
  intro p np
  have nF := hR.newF np
  have nT : w.T p = none := hR.tp.free np
  have R1 := hR.tmp (o := .dK []) nF (hR.newS np)
  refine h2 σ _ _ ⟨_, env, S, hE.wT, R1, ?_⟩
  refine (h.bnd.noX).res.imp fun xs S2 q2 vs H2 w2 l2 R2 r2 hlx => ?_
  have eT : w2.T = upd w.T p (.dK []) := l2.2.2.2
  have e2 : H2 p = some (.dK []) := R2.tp p _ (by rw [eT, upd_same])
  refine ⟨e2, ks.zip vs, ?_, by rw [List.length_zip]; omega, ?_⟩
  · exact zip_kV ks vs
  · by_cases c : (ndB ks && decide (xs.length = ks.length)) = true
    · rw [if_pos c] at q2
      rw [Bool.and_eq_true, decide_eq_true_eq] at c
      have hlen : ks.length = vs.length := by rw [← r2.len, c.2]
      have hm : mergeK [] (ks.zip vs) = ks.zip vs := by
        have := merge_nodup (kvs := []) (more := ks.zip vs) (by
          rw [List.nil_append]
          have e : (ks.zip vs).map (·.1) = ks := by rw [← List.unzip_fst, List.unzip_zip_left (by omega)]
          rw [e]; exact ndB_iff c.1)
        simpa using this
      rw [hm]
      have f2 : w2.F p = none := R2.tf p _ (by rw [eT, upd_same])
      have nl : ∀ i q, S2[i]? = some q → q ≠ Ob.dead → w2.ι i ≠ p := fun i q z l cc => by
        have := R2.tl i q z l
        rw [cc, eT, upd_same] at this
        cases this
      have R3 := R2.tmp (o := .dK (ks.zip vs)) f2 nl
      have R4 : Rl G (w2.wT w.T) (upd H2 p (.dK (ks.zip vs))) S2 := R3.untmp (t := w.T) (by
        intro b u eb
        show upd w2.T p _ b = some u
        have hb : b ≠ p := ne_of_none eb nT
        rw [upd_ne hb, eT, upd_ne hb]
        exact eb)
      have l4 : w.le (w2.wT w.T) := ⟨l2.1, l2.2.1, l2.2.2.1, rfl⟩
      have R5 := R4.joins (p := p) (o := .dct ks xs) ⟨f2, vs, upd_same, hlen, r2.wT⟩ (fun i q z l => nl i q z l) nT
      have q3 : VP G w Q (.r S2.length) (S2 ++ [.dct ks xs]) := q2
      refine q3 _ _ _ (l4.trans Wd.join_le) R5 ⟨?_, ?_⟩
      · show S2.length < w2.n + 1
        rw [R2.n]; exact Nat.lt_succ_self _
      · show _ = V.ref (if S2.length = w2.n then p else _)
        rw [if_pos R2.n.symm]
    · rw [if_neg c] at q2
      exact q2.elim
/-! ### three names at once -/
def sPar3 (i j l : Nat) (fs : FA) : FS := fun env S => bS (fs env S) env fun xs S' => match xs with
  | [x, y, z] => some (.nx, ((env.set i (some x)).set j (some y)).set l (some z), S')
  | _ => none
theorem qs_par3 {i j l : Nat} {x y z : Str} {px py pz pt : Pos} {kt k2 pt2} (hc : X.calm = true) (hN : X.N.Nodup) (hi : X.N[i]? = some x) (hj : X.N[j]? = some y) (hl : X.N[l]? = some z) (hij : i ≠ j) (hil : i ≠ l) (hjl : j ≠ l)
    (hx : X.env.scope.names.lookup x = some .local) (hy : X.env.scope.names.lookup y = some .local) (hz : X.env.scope.names.lookup z = some .local) (ha : QA X G E [a, b, c] fs)
    (hw : swappedStores [.Tuple [.Name x px, .Name y py, .Name z pz] kt pt] (.Tuple [a, b, c] k2 pt2) X.env = pure (some [x, y, z]))
    (hs : swapsWithSole [.Tuple [.Name x px, .Name y py, .Name z pz] kt pt] (.Tuple [a, b, c] k2 pt2) pos.line X.env = pure false := by rfl) :
    QS X G E (.Assign [.Tuple [.Name x px, .Name y py, .Name z pz] kt pt] (.Tuple [a, b, c] k2 pt2) pos) (sPar3 i j l fs) :=
  PS.imp (ps_par3 hc hN hi hj hl hij hil hjl hx hy hz ha hw hs) fun D σ H ⟨w, env, S, hE, hR, h⟩ => ⟨w, env, S, hE, hR, h.bS.imp fun xs S1 q vs H1 w1 l1 R1 r => by
    match xs, r, q with
    | [x, y, z], r, q =>
      obtain ⟨u, q0, e0, r0, rr⟩ := r
      obtain ⟨v, t, e1, r1, r2⟩ := rr.two
      subst e0
      exact ⟨u, v, t, by rw [e1], q _ H1 w1 l1 ((((hE.mono l1).set i r0).set j r1).set l r2) R1⟩
    | [], _, q => exact q.elim
    | [_], _, q => exact q.elim
    | [_, _], _, q => exact q.elim
    | _ :: _ :: _ :: _ :: _, _, q => exact q.elim⟩
/-! ### extend -/
def oExt : Val → Val → M Val := fun x y S => match x, lstV y S with
  | .r i, some ys => match S[i]? with
    | some (.lst xs) => if xs.length + ys.length ≤ sizeLine then some (.ok (.d .non), S.set i (.lst (xs ++ ys))) else none
    | _ => none
  | _, _ => none
theorem oExt_inv {w : Wd} {x y : Val} {S : Store} {P : Val → Store → Prop} (h : Res G E w (oExt x y S) P) : ∃ i xs ys, x = .r i ∧ lstV y S = some ys ∧ S[i]? = some (.lst xs) ∧ xs.length + ys.length ≤ sizeLine ∧ P (.d .non) (S.set i (.lst (xs ++ ys))) := by
  unfold oExt at h
  cases x with
  | d x => exact h.elim
  | r i =>
    cases e0 : lstV y S with
    | none => rw [e0] at h; exact h.elim
    | some ys =>
      rw [e0] at h
      dsimp only at h
      cases e : S[i]? with
      | none => rw [e] at h; exact h.elim
      | some o =>
        rw [e] at h
        cases o with
        | lst xs =>
          dsimp only at h
          by_cases c : xs.length + ys.length ≤ sizeLine
          · rw [if_pos c] at h
            exact ⟨i, xs, ys, rfl, rfl, e, c, h⟩
          · rw [if_neg c] at h
            exact h.elim
        | _ => exact h.elim
def fExt (fa fb : FE) : FE := fun env => bnd (fa env) fun x => bnd (isL x) fun _ => bnd (fb env) fun y => oExt x y
theorem qe_ext {apos cpos : Pos} (ha : QE X G E a fa) (hb : QE X G E b fb) (hs2 : starEach [b] X.env = (false, eval b X.env) :: starEach [] X.env := by rfl)
    (hbase : attributeBase a "extend" X.env (eval a X.env) = eval a X.env := by rfl)
    (hfew : ((backTo cpos (starEach [b] X.env)).all (fun x => !x.1) && (backToKw cpos (keywordEach [] X.env)).all (fun x => x.1.isSome)
      && decide (([b] : List Expr).length + ([] : List Keyword).length + (if ([] : List Keyword).isEmpty then 0 else 1) < 30)) = true := by rfl)
    (hline : (apos.endLine == cpos.line) = true := by rfl) (hplain : (backTo cpos (starEach [] X.env)).any (·.1) = false := by rfl) :
    QE X G E (.Call (.Attribute a "extend" apos) [b] [] cpos) (fExt fa fb) :=
  PE.imp (pe_bm PySem.F.plainAttrs_list PySem.F.slot_list_extend PySem.F.type_list_extend mt_extend ha (pa_cons hb pa_nil hs2) hbase hfew hline hs2 hplain) fun σ H Q ⟨w, env, S, hE, hR, h⟩ => TEx.sub hE hR h fun x v H1 w1 S1 l R1 r q => by
    obtain ⟨j, ys, e0, e1, q1⟩ := isL_inv q.bnd
    refine ⟨?_, TEx.sub (hE.mono l) R1 q1 fun y u H2 w2 S2 l2 R2 r2 q2 => ?_⟩
    · subst e0
      obtain ⟨f0, vs, h2, h3⟩ := R1.ob j _ e1
      rw [r.2]
      exact .inl ⟨rfl, vs, SqL.of h2⟩
    · obtain ⟨i, xs, zs, rfl, e2, e, c, q3⟩ := oExt_inv q2
      obtain ⟨f0, vs, h2, h3⟩ := R2.ob i _ e
      obtain ⟨p, us, k1, k2, k3⟩ := lstV_of R2 r2 e2
      have rr := r.mono l2
      refine ⟨w2.ι i, p, vs, us, rr.2, by rw [k1], h2, k2, by rw [← h3.len, ← k3.len]; exact c, ?_⟩
      exact q3 _ _ w2 (l.trans l2) (R2.write e (by simp) ⟨f0, _, upd_same, h3.app k3⟩) rfl
end Y

set_option Elab.async false
set_option linter.all false
set_option maxRecDepth 100000
set_option maxHeartbeats 4000000
namespace Y
open PySem PySem.Spec PyProof.Rows L2
/-! ### list(T), T a written dict -/
theorem dicW_at {K : PySem.W.Frag} {P : Params} {a : Addr} {ks : List Str} (h : He.dicW K a = some (He.keysIn P ks)) : ∃ es n, K.lookup a = some ⟨.type "dict", none, .dict es n, #[]⟩ ∧ es.toList.map He.keyOf = He.keysIn P ks ∧ (a == sysModules) = false := by
  unfold He.dicW at h
  cases q : K.lookup a with
  | none => rw [q] at h; cases h
  | some o =>
    obtain ⟨oc, od, dt, osl⟩ := o
    rw [q] at h
    cases oc with
    | type c =>
      cases od with
      | none =>
        cases dt with
        | dict es n =>
          have h1 : (match decide (c = "dict") && (osl.isEmpty && !(a == sysModules)) with
            | true => some (es.toList.map He.keyOf)
            | false => none) = some (He.keysIn P ks) := h
          cases hc : decide (c = "dict") && (osl.isEmpty && !(a == sysModules)) with
          | false => rw [hc] at h1; cases h1
          | true =>
            rw [hc] at h1
            rw [Bool.and_eq_true, Bool.and_eq_true] at hc
            have hc1 : c = "dict" := of_decide_eq_true hc.1
            have hc2 : osl = #[] := by
              have := hc.2.1
              simpa using this
            subst hc1 hc2
            exact ⟨es, n, rfl, Option.some.inj h1, by simpa using hc.2.2⟩
        | _ => cases h
      | some d => cases h
    | _ => cases h
theorem keyOf_str {e : DictEntry} {k : Str} {z : Int} (h : He.keyOf e = some (k, z)) : ∃ t, e.key = .str k t ∧ e.hash = z := by
  unfold He.keyOf at h
  cases q : e.key with
  | str x t =>
    rw [q] at h
    dsimp only at h
    have h4 := Option.some.inj h
    obtain ⟨h5, h6⟩ := Prod.mk.inj h4
    exact ⟨t, by rw [h5], h6⟩
  | _ => rw [q] at h; cases h
section
variable {X : Cx}
theorem kd_pairs {prog : Program} {w : World} {P : Params} : ∀ {l : List DictEntry} {ks : List Str}, l.map He.keyOf = He.keysIn P ks → Pairs (strKind prog w) l (ks.zip (l.map (·.val)))
  | [], [], _ => .nil
  | [], _ :: _, h => by cases h
  | _ :: _, [], h => by cases h
  | e :: l, k :: ks, h => by
    have h1 : He.keyOf e :: l.map He.keyOf = some (k, PyData.keyHash P k) :: He.keysIn P ks := h
    injection h1 with h2 h3
    obtain ⟨t, e1, e2⟩ := keyOf_str h2
    exact .cons (by show (strKind prog w).is k e.key = true; rw [e1]; exact strKind_is prog w k t) rfl (kd_pairs h3)
theorem call_list_kd (hc : X.calm = true) {d : Addr} {ks : List Str} (h : He.dicW X.K d = some (He.keysIn X.w.params ks)) (hn : ks.Nodup) (hz : ks.length ≤ sizeLine) :
    CallR X (.type "list") (fun xs H Q => xs = [.ref d] ∧ ∀ q, H q = none → Q (.ref q) (upd H q (.lst (ks.map V.str)))) := by
  intro pins s σ H xs us Q I r h
  obtain ⟨e, q⟩ := h
  subst e
  obtain ⟨u, eu, rx⟩ := vals1 r
  subst eu
  obtain rfl : u = Value.ref d := rx
  obtain ⟨es, n, hl, hk, lo⟩ := dicW_at (by assumption)
  have hlen : es.toList.length = ks.length := by
    have := congrArg List.length hk
    simpa [He.keysIn] using this
  have hat : s.heap.DictAt (strKind X.prog X.w) d (ks.zip (es.toList.map (·.val))) n := by
    refine ⟨_, es, I.kIn _ _ hl, ⟨rfl, rfl, rfl⟩, rfl, fun e he => ?_, kd_pairs hk, ?_⟩
    · have hm : He.keyOf e ∈ es.toList.map He.keyOf := List.mem_map_of_mem (Array.mem_toList_iff.mpr he)
      rw [hk] at hm
      obtain ⟨k, _, e1⟩ := List.mem_map.mp hm
      obtain ⟨t, e2, e3⟩ := keyOf_str e1.symm
      exact ⟨k, by rw [e2]; exact strKind_is X.prog X.w k t, e3⟩
    · rw [← List.unzip_fst, List.unzip_zip_left (by rw [List.length_map, hlen]; exact Nat.le_refl _)]
      exact hn
  refine PySem.W.kdl_call (PySem.W.kdl_dict (knd := strKind X.prog X.w) (kvs := ks.zip (es.toList.map (·.val))) (ep := n) lo) (I.ok.hd hc) hat (by rw [List.length_zip, List.length_map, hlen, Nat.min_self]; exact hz) fun h' tk acc' c' hkeep hS hacc => ?_
  have hzl : (ks.zip (es.toList.map (·.val))).length = ks.length := by rw [List.length_zip, List.length_map, hlen, Nat.min_self]
  refine ⟨.ref s.heap.objs.size, upd H s.heap.objs.size (.lst (ks.map V.str)), I.laid hkeep (Nat.le_refl _) (show ObjOk X.prog X.w _ _ _ (.lst (ks.map V.str)) from ⟨?_, acc'.toList, c', ?_, ?_⟩), rfl, q _ (I.hok.fresh (Nat.le_refl _))⟩
  · rw [List.length_map]; exact hz
  · have el : acc'.toList.length = acc'.size := by simp
    refine vals_of_at (by rw [List.length_map, el, hacc.1, hzl]) fun j x w h1 h2 => ?_
    obtain ⟨k, y, hky, hi⟩ := hacc.2 j w (by rw [← Array.getElem?_toList]; exact h2)
    rw [List.getElem?_zip_eq_some] at hky
    rw [List.getElem?_map, hky.1] at h1
    cases h1
    obtain ⟨t, e⟩ := Value.isStrOf_shape (show Value.isStrOf k w = true from hi)
    exact ⟨t, e⟩
  · rw [Array.toArray_toList]; exact hS
end
end Y
namespace Y
open PySem PySem.Spec L2
variable {G : Gx} {E : XK} {X : Cx} {e o i value a b c : Expr} {es : List Expr} {pos pos' tpos p p1 p2 p3 apos : Pos} {fa fb fv fi : FE} {fs : FA} {k n : Nat} {x : Str} {F : Fn}
/-- sorted(list(T)): the names in order -/
theorem strs_vrs {w : Wd} : ∀ zs : List Str, VRs G w (zs.map fun z => .d (.str z)) (zs.map V.str)
  | [] => rfl
  | z :: r => ⟨_, _, rfl, rfl, strs_vrs r⟩
def fStrs (zs : List Str) : FA := fun _ => ret (zs.map fun z => .d (.str z))
theorem qf_sortTab {T : Str} {d : Addr} {ks zs : List Str} {q1 q2 : Pos} (hc : X.calm = true) (hT : PE X (.Name T p1) (tC (.ref d))) (hd : He.dicW X.K d = some (He.keysIn X.w.params ks)) (hn : ks.Nodup) (h64 : ks.length < 64)
    (hu : ∀ ys : List Str, ys.Perm ks → PyProof.Rows.sortedS ys = true → ys = zs) (gl : Gl X "list") (ml : X.mg "list" = none) (gs : Gl X "sorted") (ms : X.mg "sorted" = none)
    (he : starEach [.Name T p1] X.env = (false, eval (.Name T p1) X.env) :: starEach [] X.env := by rfl) (hpl : (backTo p2 (starEach [] X.env)).any (·.1) = false := by rfl)
    (he2 : starEach [.Call (.Name "list" q1) [.Name T p1] [] p2] X.env = (false, eval (.Call (.Name "list" q1) [.Name T p1] [] p2) X.env) :: starEach [] X.env := by rfl) (hpl2 : (backTo pos (starEach [] X.env)).any (·.1) = false := by rfl) :
    QF X G E (.Call (.Name "sorted" q2) [.Call (.Name "list" q1) [.Name T p1] [] p2] [] pos) (fStrs zs) := by
  have hz : ks.length ≤ sizeLine := by rw [sizeLine_eq]; omega
  have h1 := pe_callTy (p := q1) (call_list_kd hc hd hn hz) gl ml PyProof.Rows.boot_list (pa_cons hT pa_nil he) (by decide) (by decide) he hpl
  have h2 := pe_callB (p := q2) cr_sortedS gs ms PyProof.Rows.boot_sorted (pa_cons h1 pa_nil he2) (by decide) (by decide) he2 hpl2
  refine PE.imp h2 fun σ H Q ⟨w, env, S, hE, hR, h⟩ => ?_
  show tCB _ _ σ H Q
  refine ⟨rfl, fun q nq => ?_⟩
  have h3 : FP G w Q (zs.map fun z => .d (.str z)) S := h
  refine ⟨q, ks, rfl, SqL.of upd_same, h64, fun ys p pm st np => ?_⟩
  rw [hu ys pm st]
  have R1 := hR.laid (o := .lst (ks.map V.str)) nq
  exact h3.fresh (Wd.le.refl w) R1 (strs_vrs zs) p np
/-! ### t[::-1] of a tuple -/
theorem adjust_rev (n : Nat) : Builtin.Slice.sliceAdjust none none (-1) (n : Int) = ((n : Int) - 1, -1) := rfl
theorem places_rev (n : Nat) : Builtin.Slice.slicePlaces ((n : Int) - 1) (-1) (-1) = n := by
  unfold Builtin.Slice.slicePlaces
  rw [if_neg (by decide)]
  by_cases h : (n : Int) - 1 > -1
  · rw [if_pos h, show (- -1 : Int) = 1 by decide, Int.ediv_one]
    omega
  · rw [if_neg h]
    omega
theorem fm_congr {α β : Type} {f g : α → Option β} : ∀ {l : List α}, (∀ m ∈ l, f m = g m) → l.filterMap f = l.filterMap g
  | [], _ => rfl
  | m :: l, h => by
    rw [List.filterMap_cons, List.filterMap_cons, h m List.mem_cons_self, fm_congr fun x hx => h x (List.mem_cons_of_mem _ hx)]
theorem pick_rev (xs : Array Value) : ((List.range xs.size).filterMap fun (m : Nat) => xs[(((xs.size : Int) - 1) + (m : Int) * (-1)).toNat]?).toArray = xs.toList.reverse.toArray := by
  have e : ((List.range xs.size).filterMap fun (m : Nat) => xs[(((xs.size : Int) - 1) + (m : Int) * (-1)).toNat]?) = ((List.range xs.size).map fun k => xs.size - 1 - k).filterMap (xs[·]?) := by
    rw [List.filterMap_map]
    refine fm_congr fun m hm => ?_
    have := List.mem_range.mp hm
    show xs[(((xs.size : Int) - 1) + (m : Int) * (-1)).toNat]? = xs[xs.size - 1 - m]?
    congr 1
    omega
  rw [e, PySem.W.krv_range, List.filterMap_reverse, PySem.W.krv_all]
section
open HT PyProof.Rows
variable {prog : Program} {w : World} {A : Around} {E : Value → Shared → Prop} {s : Shared}
theorem slicePart_' {v : Value} {o : Option Int} {Q : Option Int → Shared → Prop} (p : IsPart v o) (h : Q o s) : wpAny (model prog w) A (Builtin.Slice.slicePartIndex v) Q E s := HT.slicePart_ p h
theorem sliceApplied_rev {sl : Addr} {vl vu vs : Value} {n : Nat} {Q : Int × Int × Nat → Shared → Prop} (hs : s.heap.IsSliceOf sl vl vu vs) (pl : IsPart vl none) (pu : IsPart vu none) (ps : IsPart vs (some (-1)))
    (h : Q ((n : Int) - 1, -1, n) s) : wpAny (model prog w) A (Builtin.Slice.sliceApplied (.ref sl) (pure (n : Int))) Q E s := by
  obtain ⟨os, hos, hcs, hds⟩ := id hs
  unfold Builtin.Slice.sliceApplied Builtin.Slice.sliceFields
  refine wpAny_bind (wpAny_bind (wpAny_field hos hds (x := vl) rfl (wpAny_bind (wpAny_field hos hds (x := vu) rfl (wpAny_bind (wpAny_field hos hds (x := vs) rfl (wpAny_pure ?_)))))))
  refine wpAny_bind (HT.slicePart_ ps ?_)
  show wpAny _ _ (if ((-1 : Int) == 0) = true then _ else _) _ _ s
  rw [if_neg (by decide)]
  refine wpAny_bind (HT.slicePart_ pl (wpAny_bind (HT.slicePart_ pu (wpAny_bind (wpAny_pure ?_)))))
  show wpAny _ _ (match Builtin.Slice.sliceAdjust none none (-1) (n : Int) with | (lo, hi) => pure (lo, (-1 : Int), Builtin.Slice.slicePlaces lo hi (-1))) _ _ s
  rw [adjust_rev n]
  show wpAny _ _ (pure ((n : Int) - 1, (-1 : Int), Builtin.Slice.slicePlaces ((n : Int) - 1) (-1) (-1))) _ _ s
  rw [places_rev]
  exact wpAny_pure h
theorem getItem_tuple_rev {t sl : Addr} {items : Array Value} {vl vu vs : Value} {Q : Value → Shared → Prop} (ht : IsTup s.heap t items) (hs : s.heap.IsSliceOf sl vl vu vs) (pl : IsPart vl none) (pu : IsPart vu none) (ps : IsPart vs (some (-1)))
    (h : Q (.ref s.heap.objs.size) { s with heap := s.heap.push { cls := .type "tuple", data := .seq items.toList.reverse.toArray } })
    (hsz : items.size ≤ sizeLine) : wpAny (model prog w) A (getItem (.ref t) (.ref sl)) Q E s := by
  have htake : sizeOk (.seq items.toList.reverse.toArray) := by
    show items.toList.reverse.toArray.size ≤ sizeLine
    rw [List.size_toArray, List.length_reverse, Array.length_toList]
    exact hsz
  obtain ⟨os, hos, hcs, hds⟩ := id hs
  have hTs : s.TypeIs (.ref sl) "slice" := ⟨os, hos, hcs⟩
  unfold getItem
  try with_reducible refine wpAny_holding ?_
  first | refine wpAny_bind (wpAny_pure ?_) | skip
  refine wpAny_bind (wpAny_sequenceKey ht.typeIs (by decide) ?_)
  refine wpAny_bind (wpAny_callSpecial?_slot (name := Str.ofString "__getitem__") ht.typeIs PyProof.Rows.slot_tuple_getitem
    (wpAny_call_entry PyProof.Rows.slot_tuple_getitem ht.typeIs entry_tuple_getitem ?_ (args_tuple_getitem _ _)))
  show wpAny _ _ (Builtin.Tuple.tupleItemsOf (.ref t) >>= _) _ _ s
  refine wpAny_bind (tupleItemsOf_ ht ?_)
  refine wpAny_bind (wpAny_typeOf hTs ?_)
  rw [if_pos (by decide)]
  refine wpAny_bind (sliceApplied_rev hs pl pu ps ?_)
  have hno : ¬ ((((items.size : Int) - 1) == 0 && (-1 : Int) == 1 && items.size == items.size) = true) := by
    intro q
    rw [Bool.and_eq_true, Bool.and_eq_true] at q
    exact absurd q.1.2 (by decide)
  show wpAny _ _ (if (((items.size : Int) - 1) == 0 && (-1 : Int) == 1 && items.size == items.size) = true then _ else _) _ _ s
  rw [if_neg hno, pick_rev]
  first
    | exact wpAny_bind (m := Builtin.Tuple.tupleExact _) (wpAny_newObj_type (wpAny_pure ⟨_, rfl, wpAny_pure h⟩) htake)
    | exact wpAny_bind (m := Builtin.Tuple.tupleExact _) (wpAny_newObj_type (wpAny_bind (wpAny_pure (wpAny_pure ⟨_, rfl, wpAny_pure h⟩))) htake)
    | exact wpAny_bind (wpAny_bind (m := Builtin.Tuple.tupleExact _) (wpAny_newObj_type (wpAny_pure (wpAny_pure ⟨_, rfl, wpAny_pure h⟩)) htake))
    | exact wpAny_bind (wpAny_bind (m := Builtin.Tuple.tupleExact _) (wpAny_newObj_type (wpAny_pure ⟨_, rfl, wpAny_pure h⟩) htake))
end
/-- t[::-1], a new tuple -/
def tRevT (K : PySem.W.Frag) (te : TE) : TE := fun σ H Q => te σ H fun x H1 => ∃ a xs, x = .ref a ∧ SqT K H1 a xs ∧ ∀ p, H1 p = none → Q (.ref p) (upd H1 p (.tup xs.reverse))
theorem pe_revT {e : Expr} {te : TE} {k : Nat} {p1 p2 p3 pos : Pos} (he : PE X e te) : PE X (.Subscript e (.Slice none none (some (.UnaryOp .USub (.Constant (.int 1) k p1) p2)) p3) pos) (tRevT X.K te) := by
  refine ⟨fun pins s σ H Q I h => ?_⟩
  refine PyProof.Rows.Subscript_ (thn (he.run pins s σ H _ I h) fun v s1 ⟨x, H1, I1, r1, q1⟩ => ?_)
  obtain ⟨a, xs, ex, hx, q⟩ := q1
  subst ex
  cases r1
  have hst : PO X (some (.UnaryOp .USub (.Constant (.int 1) k p1) p2)) (tPart (tUn (rU fun i => .int (-i)) (tC (.int 1)))) := po_some (pe_un un_neg pe_int)
  refine wpAny_Slice (thn (po_none.run pins s1 σ H1 (fun o H2 => o = none ∧ H2 = H1) I1 ⟨rfl, rfl⟩) fun vl s2 ⟨l, H2, I2, pl, el, e2⟩ => ?_)
  subst el e2
  refine thn (po_none.run pins s2 σ H2 (fun o H3 => o = none ∧ H3 = H2) I2 ⟨rfl, rfl⟩) fun vu s3 ⟨u, H3, I3, pu, eu, e3⟩ => ?_
  subst eu e3
  refine thn (hst.run pins s3 σ H3 (fun o H4 => o = some (-1) ∧ H4 = H3) I3 ⟨1, rfl, -1, rfl, rfl, rfl⟩) fun vs s4 ⟨o, H4, I4, ps, eo, e4⟩ => ?_
  subst eo e4
  have I5 : Inv X pins σ H4 { s4 with heap := s4.heap.push { cls := .type "slice", data := .fields #[vl, vu, vs] } } := I4.kept (t' := s4.toks) fun b ob q => Heap.get?_push_of_some _ q
  obtain ⟨its, r, ht, hz⟩ := I5.tuple hx
  have hlen := r.length
  show wpAny (model X.prog X.w) X.A (PyProof.Rows.subscriptTail e (.Slice none none (some (.UnaryOp .USub (.Constant (.int 1) k p1) p2)) p3) (.ref a) (.ref s4.heap.objs.size)) (EP X pins σ Q) X.xe { s4 with heap := s4.heap.push { cls := .type "slice", data := .fields #[vl, vu, vs] } }
  refine PyProof.Rows.tail_any (ops := [.ref a, .ref s4.heap.objs.size]) ht.typeIs (PyProof.Rows.slot_tuple_getitem.lookup) ?_ (by with_unfolding_all rfl)
  refine getItem_tuple_rev ht (Heap.IsSliceOf.new _ vl vu vs) pl pu ps ?_ (by rw [List.size_toArray]; omega)
  refine ⟨.ref _, _, I5.laid (t' := s4.toks) (o := .tup xs.reverse) (fun b ob q => Heap.get?_push_of_some _ q) (Nat.le_refl _) ?_, rfl, q _ (I5.hok.fresh (Nat.le_refl _))⟩
  exact ⟨by rw [List.length_reverse]; exact hz, _, r.reverse, PyProof.Rows.IsTup.new _ _⟩
theorem Reps.rev {H : Hp} {ds : List D} {vs : List V} (r : Reps G H ds vs) : Reps G H ds.reverse vs.reverse := by
  induction ds generalizing vs with
  | nil => rw [show vs = [] from r]; exact rfl
  | cons d ds ih =>
    obtain ⟨v, q, h1, h2, h3⟩ := r
    subst h1
    rw [List.reverse_cons, List.reverse_cons]
    exact (ih h3).app ⟨v, [], rfl, h2, rfl⟩
def fRev (fa : FE) : FE := fun env => bnd (fa env) fun x => lift ((tupV x).map fun ds => .d (.tup ds.reverse))
theorem qe_rev {e : Expr} {k : Nat} {p1 p2 p3 pos : Pos} (hK : X.K = G.K) (he : QE X G E e fa) : QE X G E (.Subscript e (.Slice none none (some (.UnaryOp .USub (.Constant (.int 1) k p1) p2)) p3) pos) (fRev fa) :=
  PE.imp (pe_revT he) fun σ H Q ⟨w, env, S, hE, hR, h⟩ => TEx.sub hE hR h fun x v H1 w1 S1 l R1 r q => by
    unfold lift at q
    cases e1 : tupV x with
    | none => rw [e1] at q; exact q.elim
    | some ds =>
      rw [e1] at q
      obtain ⟨a, vs, h1, h2, h3⟩ := tupV_of R1 r e1
      have q4 : VP G w Q (.d (.tup ds.reverse)) S1 := q
      rw [hK]
      exact ⟨a, vs, h1, h2, q4.tup l R1 h3.rev⟩
/-! ### len(x), x an instance -/
theorem len_own2 {prog : Program} {w : World} {A : Around} {EE : Value → Shared → Prop} {s : Shared} {K : PySem.W.Frag} {x C f : Addr} {ox : Obj} {odd : Option Obj} {Q : Value → Shared → Prop} (I : K.In s.heap) (J : PySem.W.InstAt s.heap x ox C odd)
    (hs : PySem.W.findIn K (.ref C) "__len__" = some (some (.ref f))) (hf : PySem.W.isFn K (.ref f) = true)
    (hcall : wpAny (model prog w) A.in1 (call (.ref f) [.ref x]) (fun r s' => ∃ n u, r = .int n u ∧ 0 ≤ n ∧ n < 2 ^ 63 ∧ Q (.int n s'.toks) { s' with toks := s'.toks + 1 }) EE s) :
    wpAny (model prog w) A (call (.builtin "len") [.ref x]) Q EE s := by
  refine Calls.call_function_entry PySem.kind_len PySem.plain_len PySem.entry_len (PySem.args_len1 _) ?_
  unfold Builtin.«len»
  refine wpAny_bind (m := oneArg "len" _) (wpAny_pure ?_)
  refine wpAny_bind (m := callSpecial? (.ref x) (Str.ofString "__len__")) (PySem.W.special_fn I J hs (beq_iff_eq.mp hf) (wpAny_mono hcall (fun r s' hr => ?_) fun _ _ y => y))
  obtain ⟨n, u, rfl, h0, h1, hq⟩ := hr
  refine wpAny_bind (wpAny_holding (wpAny_pure ?_))
  refine wpAny_bind (wpAny_letGo ?_)
  show wpAny _ _ (if n < 0 then _ else _) _ _ _
  rw [if_neg (by omega)]
  show wpAny _ _ (if n ≥ 2 ^ 63 then _ else _) _ _ _
  rw [if_neg (by omega)]
  exact wpAny_bind (wpAny_mkInt (wpAny_pure ⟨_, rfl, hq⟩))
theorem run_ok_at {pins : List (Addr × Obj)} {σ : L2.St} {H : Hp} {s : Shared} {A : Around} {Q : VK} {us : List Value} {ws : List V} {f : Addr} {fd : FuncData} {ps : List Str} {sp : Sp} {CX : CXT} (F : FnOk X.prog X.w X.K X.mg X.base CX k f fd ps sp) (hb : Binds X.K fd ps []) (hr : Room k A)
    (e0 : Env0 X.prog X.w X.K X.mg X.base A X.stack s H) (hx : Passes CX X E) (I : Inv X pins σ H s) (r : Vals ws us) (h : sp ws H Q E) :
    codeAny (model X.prog X.w) A (.call (.ref f) ⟨us, []⟩) (fun r s' => match r with | .ok (.ret v) => EP X pins σ Q v s' | .ok _ => False | .error e => X.xe e s') s := by
  have hl : (us ++ []).length = ps.length := by rw [List.append_nil, ← r.length]; exact F.len _ _ _ _ h
  have hbt := hb s us I.kIn hl
  rw [List.append_nil] at hbt
  refine codeAny_mono (F.run A X.stack s H ⟨us, []⟩ us ws Q E hr e0 hbt r h) fun r s' hq => ?_
  cases r with
  | error e => exact hx pins σ H s e s' I hq
  | ok fl =>
    cases fl with
    | ret u => exact I.after hq
    | next => exact False.elim hq
    | brk => exact False.elim hq
    | cont => exact False.elim hq
def posI (y : Val) : Option Val := match asI y with
  | some i => if 0 ≤ i ∧ i < 2 ^ 63 then some (.d (.int i)) else none
  | none => none
theorem posI_inv {y z : Val} (h : posI y = some z) : ∃ i, y = .d (.int i) ∧ z = .d (.int i) ∧ 0 ≤ i ∧ i < 2 ^ 63 := by
  unfold posI at h
  cases e : asI y with
  | none => rw [e] at h; cases h
  | some i =>
    rw [e] at h
    dsimp only at h
    by_cases c : 0 ≤ i ∧ i < 2 ^ 63
    · rw [if_pos c] at h
      cases h
      exact ⟨i, asI_inv e, rfl, c.1, c.2⟩
    · rw [if_neg c] at h; cases h
def oLenO (C : Str) (F : Fn) : List Val → M Val := fun xs => match xs with
  | [x] => bnd (isI C "__len__" x) fun _ => bnd (ck 1 F [x]) fun y => lift (posI y)
  | _ => stk
theorem qe_lenO {C : Str} (h : HasM X.prog X.w G X.mg X.base k C "__len__" 1 F) (hK : X.K = G.K) (hr : Room (k + 1) X.A) (hx : Passes (L2.CX X.prog X.w) X E) (hg : Gl X "len") (hm : X.mg "len" = none) (ha : QE X G E e fa)
    (he : starEach [e] X.env = (false, eval e X.env) :: starEach [] X.env := by rfl) (hpl : (backTo pos (starEach [] X.env)).any (·.1) = false := by rfl) :
    QE X G E (.Call (.Name "len" p) [e] [] pos) (fCall (oLenO C F) (fCons fa fNil)) := by
  obtain ⟨f, fd, ps, h1, h3, h4⟩ := h
  rw [← hK] at h1 h3 h4
  have hc : CallR X (.builtin "len") (rCall G E (oLenO C F)) := by
    intro pins s σ H vs us Q I r ⟨w, S, xs, R, rv, q⟩
    unfold oLenO at q
    match xs, rv, q with
    | [], _, q => exact q.elim
    | _ :: _ :: _, _, q => exact q.elim
    | [x], rv, q =>
      obtain ⟨v, rfl, r1⟩ := rv.one
      obtain ⟨i, ks, ys, e1, e2, q2⟩ := isI_inv q.bnd
      obtain ⟨hv, _, _, dx, ws, k1, k2, k3⟩ := insV_of R r1 e1
      have q3 : Res G E w (F [x] S) (fun a S' => Res G E w (lift (posI a) S') (VP G w Q)) := q2.bnd
      obtain ⟨u, rfl, ru⟩ := Vals.one r
      subst hv
      cases (show u = Value.ref _ from ru)
      obtain ⟨mA, O, _, _, _, _⟩ := ins_get I.hok k1
      obtain ⟨od, J, _⟩ := O.look
      have hr1 : Room k X.A.in1 := Room.in1 hr
      have hsp : spF G 1 F [.ref (w.ι i)] H (fun z H' => ∃ n, z = .int n ∧ 0 ≤ n ∧ n < 2 ^ 63 ∧ Q (.int n) H') E := by
        refine ⟨w, S, [x], R, ⟨_, _, rfl, r1, rfl⟩, rfl, q3.imp fun y S2 q4 z H2 w2 l2 R2 r2 => ?_⟩
        cases e3 : posI y with
        | none => rw [e3] at q4; exact q4.elim
        | some t =>
          rw [e3] at q4
          obtain ⟨n, rfl, rfl, n0, n1⟩ := posI_inv e3
          have q5 : VP G w Q (.d (.int n)) S2 := q4
          exact ⟨n, r2, n0, n1, q5 _ H2 w2 l2 R2 rfl⟩
      refine len_own2 I.kIn J h1.at_ h1.fn (wpAny_mono (wpAny_call (run_ok_at (us := [.ref (w.ι i)]) (ws := [.ref (w.ι i)]) h4 h3 hr1 I.env0.in1 hx I (.cons rfl .nil) hsp)) (fun y s' z => ?_) fun _ _ z => z)
      obtain ⟨z', H', I', rz, n, ez, n0, n1, qz⟩ := z
      subst ez
      obtain ⟨t, et⟩ := (show ∃ t, y = Value.int n t from rz)
      subst et
      exact ⟨n, t, rfl, n0, n1, .int n, H', I'.tok _, ⟨_, rfl⟩, qz⟩
  exact qe_callB hc hg hm PySem.boot_len (qa_cons ha qa_nil he) (by decide) (by decide) he hpl
end Y

set_option Elab.async false
set_option linter.all false
set_option maxRecDepth 100000
set_option maxHeartbeats 4000000
namespace Y
open PySem PySem.Spec L2
section
variable {P : Program} {w : World} {G : Gx} {mg : Str → Option Value} {base : Heap} {k n : Nat} {F : Fn} {f : Addr} {fd : FuncData} {ps : List Str}
abbrev HasAt (P : Program) (w : World) (G : Gx) (mg : Str → Option Value) (base : Heap) (k : Nat) (l : Sum Str (Str × Str)) (n : Nat) (F : Fn) : Prop := match l with
  | .inl x => Has P w G mg base k x n F
  | .inr p => HasM P w G mg base k p.1 p.2 n F
abbrev LocAt (G : Gx) (mg : Str → Option Value) (l : Sum Str (Str × Str)) (f : Addr) : Prop := match l with
  | .inl x => mg x = some (.ref f)
  | .inr p => Meth G.K (G.cA p.1) p.2 f
theorem hasAt_of {l : Sum Str (Str × Str)} (hk : PySem.W.keepIn G.K (.ref f) = true) (hb : Binds G.K fd ps []) (hl : LocAt G mg l f) (h : FnOk P w G.K mg base (L2.CX P w) k f fd ps (spF G n F)) : HasAt P w G mg base k l n F := by
  cases l with
  | inl x => exact ⟨f, fd, ps, hl, hk, hb, h⟩
  | inr p => exact ⟨f, fd, ps, hl, hb, h⟩
theorem fn_0 (hn : ps.length = n) : FnOk P w G.K mg base (L2.CX P w) 0 f fd ps (spF G n fun _ _ => none) := by
  refine ⟨fun vs H Q E h => ?_, fun A outer s H args us vs Q E _ _ _ _ h => ?_⟩
  · obtain ⟨w, S, args, R, r, e, _⟩ := h
    rw [← r.len, e, hn]
  · obtain ⟨w, S, args, R, r, e, q⟩ := h
    exact q.elim
theorem binds_dfl {K : PySem.W.Frag} {l : List V} (h : ∃ ds, Vals l ds ∧ Binds K fd ps ds) (e : l = [] := by simp [He.DefD.dvs]) : Binds K fd ps [] := by
  obtain ⟨ds, h1, h2⟩ := h
  subst e
  cases h1
  exact h2
/-- a def by its body, with defaults -/
theorem fn_okD {x qual : Str} {st : Stmt} {N : List Str} {NN : Nat} {g : FS} {cut : Bool} {dvs : List V} {kws : List (Str × V)} (F : FunD G.K x qual (defArgs st) (defBody st) (defScope st) dvs kws f fd) (S : FnScope N ps (defScope st)) (hn : ps.length = n) (hN : N.length = NN)
    (hb : ∀ (cdv : Value) (A : Around) (outer : List PySem.Env) (s : Shared) (H : Hp) (E : XK), Room k (A.deeper (PyProof.Rows.envOfC qual (defScope st) s.heap.objs.size f cdv)) →
      QSs (cxOf (L2.CX P w) P w G.K mg base N qual (defScope st) f cdv A outer s H E) G E (defBody st) g) : FnOk P w G.K mg base (L2.CX P w) (k + 1) f fd ps (spF G n (fnM n NN cut g)) := by
  refine F.ok S (fun vs H Q E h => ?_) (fun cdv A outer s H vs Q E hr h => ?_)
  · obtain ⟨w, S, args, R, r, e, _⟩ := h
    rw [← r.len, e, hn]
  · obtain ⟨w1, S1, args, R, r, e, q⟩ := h
    unfold fnM at q
    rw [if_pos e] at q
    refine ⟨_, hb cdv A outer s H E hr, w1, _, S1, ?_, R, fin_res R q⟩
    rw [← hN]
    exact envOf_r r
end
def clsBody : Stmt → List Stmt
  | .ClassDef _ _ _ b _ _ _ _ _ _ _ => b
  | _ => []
theorem tab_P {α β : Type} [BEq α] [LawfulBEq α] {l : List (α × β)} {P : β → Prop} (h : ∀ p ∈ l, P p.2) {z : α} {n : β} (e : l.lookup z = some n) : P n := by
  induction l with
  | nil => cases e
  | cons p r ih =>
    rw [List.lookup_cons] at e
    cases q : (z == p.1) with
    | true => rw [q] at e; cases e; exact h p List.mem_cons_self
    | false => rw [q] at e; exact ih (fun x hx => h x (List.mem_cons_of_mem _ hx)) e
theorem tab_dicW {fa : List He.Fa} {fn : List He.DefD} {ts : List He.Tab} {w : World} {K : PySem.W.Frag} (c : He.SaysT fa fn ts w K) (i : Nat) {t : He.Tab} (h : ts[i]? = some t) : He.dicW K (t.1 K) = some (He.keysIn w.params t.2) := by
  have e : ts.map (fun t => He.dicW K (t.1 K)) = ts.map fun t => some (He.keysIn w.params t.2) := congrArg (fun z : He.AlT => z.2) c
  have e2 : (ts.map fun t => He.dicW K (t.1 K))[i]? = (ts.map fun t => some (He.keysIn w.params t.2))[i]? := by rw [e]
  rw [List.getElem?_map, List.getElem?_map, h] at e2
  exact Option.some.inj e2
/-! texts in order: the only order -/
theorem lt_anti : ∀ {a b : List Nat}, ltCps a b = false → ltCps b a = false → a = b
  | [], [], _, _ => rfl
  | [], _ :: _, h, _ => by simp [ltCps] at h
  | _ :: _, [], _, h => by simp [ltCps] at h
  | x :: r, y :: t, h1, h2 => by
    simp only [ltCps, Bool.or_eq_false_iff, decide_eq_false_iff_not, Bool.and_eq_false_iff, beq_eq_false_iff_ne] at h1 h2
    have e : x = y := by omega
    subst e
    have h3 : ltCps r t = false := by rcases h1.2 with h | h; exact absurd rfl h; exact h
    have h4 : ltCps t r = false := by rcases h2.2 with h | h; exact absurd rfl h; exact h
    rw [lt_anti h3 h4]
theorem lt_tr : ∀ {a b c : List Nat}, ltCps b a = false → ltCps c b = false → ltCps c a = false
  | a, b, [], h1, h2 => by
    cases b with
    | cons y t => simp [ltCps] at h2
    | nil => exact h1
  | a, [], z :: c, h1, h2 => by
    cases a with
    | cons y t => simp [ltCps] at h1
    | nil => rfl
  | [], y :: b, z :: c, h1, h2 => rfl
  | x :: a, y :: b, z :: c, h1, h2 => by
    simp only [ltCps, Bool.or_eq_false_iff, decide_eq_false_iff_not, Bool.and_eq_false_iff, beq_eq_false_iff_ne] at h1 h2 ⊢
    refine ⟨by omega, ?_⟩
    by_cases e : z = x
    · have e1 : y = x := by omega
      subst e e1
      have h3 : ltCps b a = false := by rcases h1.2 with h | h; exact absurd rfl h; exact h
      have h4 : ltCps c b = false := by rcases h2.2 with h | h; exact absurd rfl h; exact h
      exact .inr (lt_tr h3 h4)
    · exact .inl e
def leS (a b : Str) : Prop := ltCps b.cps.toList a.cps.toList = false
theorem leS_anti {a b : Str} (h1 : leS a b) (h2 : leS b a) : a = b := by
  have := lt_anti h2 h1
  cases a; cases b
  simp at this
  rw [this]
theorem rising_pw : ∀ {l : List Str} {p : Str}, PyProof.Rows.risingS p l = true → (p :: l).Pairwise leS
  | [], p, _ => by simp
  | x :: r, p, h => by
    have h' : (!ltCps x.cps.toList p.cps.toList && PyProof.Rows.risingS x r) = true := h
    rw [Bool.and_eq_true, Bool.not_eq_true'] at h'
    have ih := rising_pw h'.2
    refine List.pairwise_cons.mpr ⟨fun y hy => ?_, ih⟩
    rcases List.mem_cons.mp hy with rfl | hy
    · exact h'.1
    · exact lt_tr h'.1 ((List.pairwise_cons.mp ih).1 y hy)
theorem sorted_pw : ∀ {l : List Str}, PyProof.Rows.sortedS l = true → l.Pairwise leS
  | [], _ => .nil
  | x :: r, h => rising_pw h
theorem pw_unique : ∀ {a b : List Str}, a.Perm b → a.Pairwise leS → b.Pairwise leS → a = b
  | [], b, h, _, _ => by rw [h.nil_eq]
  | x :: r, [], h, _, _ => by simp at h
  | x :: r, y :: q, h, ha, hb => by
    have e : x = y := by
      rcases List.mem_cons.mp (h.mem_iff.mpr (List.mem_cons_self : y ∈ y :: q)) with e | e
      · exact e.symm
      · rcases List.mem_cons.mp (h.mem_iff.mp (List.mem_cons_self : x ∈ x :: r)) with e2 | e2
        · exact e2
        · exact leS_anti ((List.pairwise_cons.mp ha).1 y e) ((List.pairwise_cons.mp hb).1 x e2)
    subst e
    rw [pw_unique (List.Perm.cons_inv h) (List.pairwise_cons.mp ha).2 (List.pairwise_cons.mp hb).2]
theorem sort_only {ys ks zs : List Str} (hp : zs.isPerm ks = true) (hs : PyProof.Rows.sortedS zs = true) (h1 : ys.Perm ks) (h2 : PyProof.Rows.sortedS ys = true) : ys = zs :=
  pw_unique (h1.trans (List.isPerm_iff.mp hp).symm) (sorted_pw h2) (sorted_pw hs)
end Y

set_option Elab.async false
set_option linter.all false
set_option maxRecDepth 100000
set_option maxHeartbeats 4000000
namespace Y
open PySem PySem.Spec L2
/-! the mirror: printed by gen.py -/
inductive Fnm where
  | f_is_whole
  | f_is_from
  | f_is_store
  | f_is_tagged
  | f_with_value
  | f_has_shape
  | f_is_expression
  | f_worked
  | f_value_of
  | f_is_deed
  | f_is_block
  | f_fault_trees
  | f_Run___init__
  | f_Run_do_block
  | f_Run_do
  | f_run_trees
  | f_is_state
  | f_is_told
  | f_takes_turn_steps
  | f_step_steps
  | f_trace
  | f_run_steps
  | f_fault_steps
  | f_Debugger___init__
  | f_Debugger___len__
  | f_Debugger_state
  | f_Debugger_turns
  | f_Debugger_forth
  | f_logged
  | f_is_log
  | f_taken_back
  | f_start
  | f_is_done
  | f_takes_turn_frames
  | f_deed_state
  | f_eval_state
  | f_give_state
  | f_step_frames
  | f_run_frames
  | f_ways
  | f_run_way
  | f_law_same
  | f_law_pool
  | f_law_spread
  | f_law_draw
  | f_law_pick
  | f_law_worked
  | f_law_value
  | f_law_expression
  | f_law_store
  | f_law_block
  | f_law_deed
  | f_law_program
  | f_law_do
  | f_law_loop
  | f_law_run
  | f_law_deeds_of
  | f_law
def loc : Fnm → Sum Str (Str × Str)
  | .f_is_whole => .inl "is_whole"
  | .f_is_from => .inl "is_from"
  | .f_is_store => .inl "is_store"
  | .f_is_tagged => .inl "is_tagged"
  | .f_with_value => .inl "with_value"
  | .f_has_shape => .inl "has_shape"
  | .f_is_expression => .inl "is_expression"
  | .f_worked => .inl "worked"
  | .f_value_of => .inl "value_of"
  | .f_is_deed => .inl "is_deed"
  | .f_is_block => .inl "is_block"
  | .f_fault_trees => .inl "fault_trees"
  | .f_Run___init__ => .inr ("Run", "__init__")
  | .f_Run_do_block => .inr ("Run", "do_block")
  | .f_Run_do => .inr ("Run", "do")
  | .f_run_trees => .inl "run_trees"
  | .f_is_state => .inl "is_state"
  | .f_is_told => .inl "is_told"
  | .f_takes_turn_steps => .inl "takes_turn_steps"
  | .f_step_steps => .inl "step_steps"
  | .f_trace => .inl "trace"
  | .f_run_steps => .inl "run_steps"
  | .f_fault_steps => .inl "fault_steps"
  | .f_Debugger___init__ => .inr ("Debugger", "__init__")
  | .f_Debugger___len__ => .inr ("Debugger", "__len__")
  | .f_Debugger_state => .inr ("Debugger", "state")
  | .f_Debugger_turns => .inr ("Debugger", "turns")
  | .f_Debugger_forth => .inr ("Debugger", "forth")
  | .f_logged => .inl "logged"
  | .f_is_log => .inl "is_log"
  | .f_taken_back => .inl "taken_back"
  | .f_start => .inl "start"
  | .f_is_done => .inl "is_done"
  | .f_takes_turn_frames => .inl "takes_turn_frames"
  | .f_deed_state => .inl "deed_state"
  | .f_eval_state => .inl "eval_state"
  | .f_give_state => .inl "give_state"
  | .f_step_frames => .inl "step_frames"
  | .f_run_frames => .inl "run_frames"
  | .f_ways => .inl "ways"
  | .f_run_way => .inl "run_way"
  | .f_law_same => .inl "_law_same"
  | .f_law_pool => .inl "_law_pool"
  | .f_law_spread => .inl "_law_spread"
  | .f_law_draw => .inl "_law_draw"
  | .f_law_pick => .inl "_law_pick"
  | .f_law_worked => .inl "_law_worked"
  | .f_law_value => .inl "_law_value"
  | .f_law_expression => .inl "_law_expression"
  | .f_law_store => .inl "_law_store"
  | .f_law_block => .inl "_law_block"
  | .f_law_deed => .inl "_law_deed"
  | .f_law_program => .inl "_law_program"
  | .f_law_do => .inl "_law_do"
  | .f_law_loop => .inl "_law_loop"
  | .f_law_run => .inl "_law_run"
  | .f_law_deeds_of => .inl "_law_deeds_of"
  | .f_law => .inl "law"
def nm : Fnm → Str
  | .f_is_whole => "is_whole"
  | .f_is_from => "is_from"
  | .f_is_store => "is_store"
  | .f_is_tagged => "is_tagged"
  | .f_with_value => "with_value"
  | .f_has_shape => "has_shape"
  | .f_is_expression => "is_expression"
  | .f_worked => "worked"
  | .f_value_of => "value_of"
  | .f_is_deed => "is_deed"
  | .f_is_block => "is_block"
  | .f_fault_trees => "fault_trees"
  | .f_Run___init__ => "Run.__init__"
  | .f_Run_do_block => "Run.do_block"
  | .f_Run_do => "Run.do"
  | .f_run_trees => "run_trees"
  | .f_is_state => "is_state"
  | .f_is_told => "is_told"
  | .f_takes_turn_steps => "takes_turn_steps"
  | .f_step_steps => "step_steps"
  | .f_trace => "trace"
  | .f_run_steps => "run_steps"
  | .f_fault_steps => "fault_steps"
  | .f_Debugger___init__ => "Debugger.__init__"
  | .f_Debugger___len__ => "Debugger.__len__"
  | .f_Debugger_state => "Debugger.state"
  | .f_Debugger_turns => "Debugger.turns"
  | .f_Debugger_forth => "Debugger.forth"
  | .f_logged => "logged"
  | .f_is_log => "is_log"
  | .f_taken_back => "taken_back"
  | .f_start => "start"
  | .f_is_done => "is_done"
  | .f_takes_turn_frames => "takes_turn_frames"
  | .f_deed_state => "deed_state"
  | .f_eval_state => "eval_state"
  | .f_give_state => "give_state"
  | .f_step_frames => "step_frames"
  | .f_run_frames => "run_frames"
  | .f_ways => "ways"
  | .f_run_way => "run_way"
  | .f_law_same => "_law_same"
  | .f_law_pool => "_law_pool"
  | .f_law_spread => "_law_spread"
  | .f_law_draw => "_law_draw"
  | .f_law_pick => "_law_pick"
  | .f_law_worked => "_law_worked"
  | .f_law_value => "_law_value"
  | .f_law_expression => "_law_expression"
  | .f_law_store => "_law_store"
  | .f_law_block => "_law_block"
  | .f_law_deed => "_law_deed"
  | .f_law_program => "_law_program"
  | .f_law_do => "_law_do"
  | .f_law_loop => "_law_loop"
  | .f_law_run => "_law_run"
  | .f_law_deeds_of => "_law_deeds_of"
  | .f_law => "law"
def ar : Fnm → Nat
  | .f_is_whole => 1
  | .f_is_from => 3
  | .f_is_store => 1
  | .f_is_tagged => 3
  | .f_with_value => 3
  | .f_has_shape => 3
  | .f_is_expression => 1
  | .f_worked => 3
  | .f_value_of => 2
  | .f_is_deed => 2
  | .f_is_block => 2
  | .f_fault_trees => 1
  | .f_Run___init__ => 3
  | .f_Run_do_block => 2
  | .f_Run_do => 2
  | .f_run_trees => 3
  | .f_is_state => 1
  | .f_is_told => 1
  | .f_takes_turn_steps => 1
  | .f_step_steps => 1
  | .f_trace => 3
  | .f_run_steps => 3
  | .f_fault_steps => 3
  | .f_Debugger___init__ => 3
  | .f_Debugger___len__ => 1
  | .f_Debugger_state => 1
  | .f_Debugger_turns => 1
  | .f_Debugger_forth => 2
  | .f_logged => 3
  | .f_is_log => 1
  | .f_taken_back => 3
  | .f_start => 2
  | .f_is_done => 1
  | .f_takes_turn_frames => 1
  | .f_deed_state => 4
  | .f_eval_state => 4
  | .f_give_state => 4
  | .f_step_frames => 1
  | .f_run_frames => 3
  | .f_ways => 0
  | .f_run_way => 4
  | .f_law_same => 2
  | .f_law_pool => 1
  | .f_law_spread => 1
  | .f_law_draw => 2
  | .f_law_pick => 2
  | .f_law_worked => 3
  | .f_law_value => 2
  | .f_law_expression => 2
  | .f_law_store => 1
  | .f_law_block => 2
  | .f_law_deed => 2
  | .f_law_program => 1
  | .f_law_do => 2
  | .f_law_loop => 2
  | .f_law_run => 3
  | .f_law_deeds_of => 1
  | .f_law => 1
def k_DEEPEST_expressions : D := .int 60
def k_DEEPEST_steps : D := .int 31
def k_DEEPEST_trees : D := .int 30
def k_FORM : D := .tup [.str "form", .int 0]
def k_MOST_basics : D := .int 100000
def k_MOST_debugger : D := .int 100000
def k_NAMES : D := .int 4
def k_NEXT : D := .tup [.str "next"]
def k_PAIRS : D := .tup [.str "plus", .str "minus", .str "times", .str "less", .str "same"]
def k_SIZE : D := .int 1000
def tn_WAYS : List (Str × Fnm) := [("frames", .f_run_frames), ("steps", .f_run_steps), ("trees", .f_run_trees)]
def tab_WAYS (c : Fnm → Fn) : List (Str × Fn) := tn_WAYS.map fun p => (p.1, c p.2)
def tk_WAYS : List (Str × Bool) := [("frames", true), ("steps", true), ("trees", true)]
noncomputable def m_is_whole (c : Fnm → Fn) : FS := sSeq (sRet (fAnd (fIsa "int" (fVar 0)) (fNot (fIsa "bool" (fVar 0))))) (sNil)
noncomputable def m_is_from (c : Fnm → Fn) : FS := sSeq (sRet (fAnd (fCall (ck 1 (c .f_is_whole)) (fCons (fVar 0) (fNil))) (fChain oLe oLe (fVar 1) (fVar 0) (fVar 2)))) (sNil)
noncomputable def m_is_store (c : Fnm → Fn) : FS := sSeq (sRet (fAnd (fIsa "tuple" (fVar 0)) (fAnd (fBin (oEq false) (fCall oLen (fCons (fVar 0) (fNil))) (fC k_NAMES)) (fCall oAll (fCons (fFrz (fLc (fSeq (fVar 0)) (gN 1) (gYes) (fCall (ck 3 (c .f_is_from)) (fCons (fVar 1) (fCons (fC (.int 0)) (fCons (fBin oSub (fC k_SIZE) (fC (.int 1))) (fNil))))) [1])) (fNil)))))) (sNil)
noncomputable def m_is_tagged (c : Fnm → Fn) : FS := sSeq (sRet (fAnd (fIsa "tuple" (fVar 0)) (fAnd (fBin (oEq false) (fCall oLen (fCons (fVar 0) (fNil))) (fVar 2)) (fAnd (fIsa "str" (fBin oIx (fVar 0) (fC (.int 0)))) (fBin (oEq false) (fBin oIx (fVar 0) (fC (.int 0))) (fVar 1)))))) (sNil)
noncomputable def m_with_value (c : Fnm → Fn) : FS := sSeq (sRet (fBin oPlus (fBin oPlus (fSl (fVar 0) (fNo) (fPart (fVar 1))) (fTup (fCons (fVar 2) (fNil)))) (fSl (fVar 0) (fPart (fBin oPlus (fVar 1) (fC (.int 1)))) (fNo)))) (sNil)
noncomputable def m_has_shape (c : Fnm → Fn) : FS := sSeq (sIf (gOr (gNot (fT (fIsa "tuple" (fVar 0)))) (gOr (fT (fBin (oEq false) (fCall oLen (fCons (fVar 0) (fNil))) (fC (.int 0)))) (gOr (gNot (fT (fIsa "str" (fBin oIx (fVar 0) (fC (.int 0)))))) (fT (fBin (oEq false) (fVar 2) (fC (.int 0))))))) (sSeq (sRet (fC (.bl false))) (sNil)) (sNil)) (sSeq (sIf (fT (fBin (oEq false) (fBin oIx (fVar 0) (fC (.int 0))) (fC (.str "number")))) (sSeq (sRet (fAnd (fBin (oEq false) (fCall oLen (fCons (fVar 0) (fNil))) (fC (.int 2))) (fCall (ck 3 (c .f_is_from)) (fCons (fBin oIx (fVar 0) (fC (.int 1))) (fCons (fC (.int 0)) (fCons (fBin oSub (fC k_SIZE) (fC (.int 1))) (fNil))))))) (sNil)) (sNil)) (sSeq (sIf (fT (fBin (oEq false) (fBin oIx (fVar 0) (fC (.int 0))) (fC (.str "name")))) (sSeq (sRet (fAnd (fBin (oEq false) (fCall oLen (fCons (fVar 0) (fNil))) (fC (.int 2))) (fCall (ck 3 (c .f_is_from)) (fCons (fBin oIx (fVar 0) (fC (.int 1))) (fCons (fC (.int 0)) (fCons (fBin oSub (fVar 1) (fC (.int 1))) (fNil))))))) (sNil)) (sNil)) (sSeq (sIf (fT (fBin (oEq false) (fBin oIx (fVar 0) (fC (.int 0))) (fC (.str "not")))) (sSeq (sRet (fAnd (fBin (oEq false) (fCall oLen (fCons (fVar 0) (fNil))) (fC (.int 2))) (fCall (ck 3 (c .f_has_shape)) (fCons (fBin oIx (fVar 0) (fC (.int 1))) (fCons (fVar 1) (fCons (fBin oSub (fVar 2) (fC (.int 1))) (fNil))))))) (sNil)) (sNil)) (sSeq (sIf (gOr (fT (fBin (oIn true) (fBin oIx (fVar 0) (fC (.int 0))) (fC k_PAIRS))) (fT (fBin (oEq true) (fCall oLen (fCons (fVar 0) (fNil))) (fC (.int 3))))) (sSeq (sRet (fC (.bl false))) (sNil)) (sNil)) (sSeq (sRet (fAnd (fCall (ck 3 (c .f_has_shape)) (fCons (fBin oIx (fVar 0) (fC (.int 1))) (fCons (fVar 1) (fCons (fBin oSub (fVar 2) (fC (.int 1))) (fNil))))) (fCall (ck 3 (c .f_has_shape)) (fCons (fBin oIx (fVar 0) (fC (.int 2))) (fCons (fVar 1) (fCons (fBin oSub (fVar 2) (fC (.int 1))) (fNil))))))) (sNil))))))
noncomputable def m_is_expression (c : Fnm → Fn) : FS := sSeq (sRet (fCall (ck 3 (c .f_has_shape)) (fCons (fVar 0) (fCons (fC k_NAMES) (fCons (fC k_DEEPEST_expressions) (fNil)))))) (sNil)
noncomputable def m_worked (c : Fnm → Fn) : FS := sSeq (sIf (fT (fBin (oEq false) (fVar 0) (fC (.str "plus")))) (sSeq (sRet (fBin oMod (fBin oPlus (fVar 1) (fVar 2)) (fC k_SIZE))) (sNil)) (sNil)) (sSeq (sIf (fT (fBin (oEq false) (fVar 0) (fC (.str "minus")))) (sSeq (sRet (fBin oMod (fBin oSub (fVar 1) (fVar 2)) (fC k_SIZE))) (sNil)) (sNil)) (sSeq (sIf (fT (fBin (oEq false) (fVar 0) (fC (.str "times")))) (sSeq (sRet (fBin oMod (fBin oMul (fVar 1) (fVar 2)) (fC k_SIZE))) (sNil)) (sNil)) (sSeq (sRet (fIf (fT (fBin (oEq false) (fVar 0) (fC (.str "less")))) (fCall oInt1 (fCons (fBin oLt (fVar 1) (fVar 2)) (fNil))) (fCall oInt1 (fCons (fBin (oEq false) (fVar 1) (fVar 2)) (fNil))))) (sNil))))
noncomputable def m_value_of (c : Fnm → Fn) : FS := sSeq (sIf (fT (fBin (oEq false) (fBin oIx (fVar 0) (fC (.int 0))) (fC (.str "number")))) (sSeq (sRet (fBin oIx (fVar 0) (fC (.int 1)))) (sNil)) (sNil)) (sSeq (sIf (fT (fBin (oEq false) (fBin oIx (fVar 0) (fC (.int 0))) (fC (.str "name")))) (sSeq (sRet (fBin oIx (fVar 1) (fBin oIx (fVar 0) (fC (.int 1))))) (sNil)) (sNil)) (sSeq (sIf (fT (fBin (oEq false) (fBin oIx (fVar 0) (fC (.int 0))) (fC (.str "not")))) (sSeq (sRet (fCall oInt1 (fCons (fBin (oEq false) (fCall (ck 2 (c .f_value_of)) (fCons (fBin oIx (fVar 0) (fC (.int 1))) (fCons (fVar 1) (fNil)))) (fC (.int 0))) (fNil)))) (sNil)) (sNil)) (sSeq (sRet (fCall (ck 3 (c .f_worked)) (fCons (fBin oIx (fVar 0) (fC (.int 0))) (fCons (fCall (ck 2 (c .f_value_of)) (fCons (fBin oIx (fVar 0) (fC (.int 1))) (fCons (fVar 1) (fNil)))) (fCons (fCall (ck 2 (c .f_value_of)) (fCons (fBin oIx (fVar 0) (fC (.int 2))) (fCons (fVar 1) (fNil)))) (fNil)))))) (sNil))))
noncomputable def m_is_deed (c : Fnm → Fn) : FS := sSeq (sIf (fT (fCall (ck 3 (c .f_is_tagged)) (fCons (fVar 0) (fCons (fC (.str "set")) (fCons (fC (.int 3)) (fNil)))))) (sSeq (sRet (fAnd (fCall (ck 3 (c .f_is_from)) (fCons (fBin oIx (fVar 0) (fC (.int 1))) (fCons (fC (.int 0)) (fCons (fBin oSub (fC k_NAMES) (fC (.int 1))) (fNil))))) (fCall (ck 1 (c .f_is_expression)) (fCons (fBin oIx (fVar 0) (fC (.int 2))) (fNil))))) (sNil)) (sNil)) (sSeq (sIf (fT (fCall (ck 3 (c .f_is_tagged)) (fCons (fVar 0) (fCons (fC (.str "tell")) (fCons (fC (.int 2)) (fNil)))))) (sSeq (sRet (fCall (ck 1 (c .f_is_expression)) (fCons (fBin oIx (fVar 0) (fC (.int 1))) (fNil)))) (sNil)) (sNil)) (sSeq (sIf (fT (fCall (ck 3 (c .f_is_tagged)) (fCons (fVar 0) (fCons (fC (.str "if")) (fCons (fC (.int 4)) (fNil)))))) (sSeq (sRet (fAnd (fCall (ck 1 (c .f_is_expression)) (fCons (fBin oIx (fVar 0) (fC (.int 1))) (fNil))) (fAnd (fCall (ck 2 (c .f_is_block)) (fCons (fBin oIx (fVar 0) (fC (.int 2))) (fCons (fBin oSub (fVar 1) (fC (.int 1))) (fNil)))) (fCall (ck 2 (c .f_is_block)) (fCons (fBin oIx (fVar 0) (fC (.int 3))) (fCons (fBin oSub (fVar 1) (fC (.int 1))) (fNil))))))) (sNil)) (sNil)) (sSeq (sRet (fAnd (fCall (ck 3 (c .f_is_tagged)) (fCons (fVar 0) (fCons (fC (.str "while")) (fCons (fC (.int 3)) (fNil))))) (fAnd (fCall (ck 1 (c .f_is_expression)) (fCons (fBin oIx (fVar 0) (fC (.int 1))) (fNil))) (fCall (ck 2 (c .f_is_block)) (fCons (fBin oIx (fVar 0) (fC (.int 2))) (fCons (fBin oSub (fVar 1) (fC (.int 1))) (fNil))))))) (sNil))))
noncomputable def m_is_block (c : Fnm → Fn) : FS := sSeq (sIf (gOr (gNot (fT (fIsa "tuple" (fVar 0)))) (gOr (fT (fBin oGt (fCall oLen (fCons (fVar 0) (fNil))) (fC k_MOST_basics))) (fT (fBin oLt (fVar 1) (fC (.int 0)))))) (sSeq (sRet (fC (.bl false))) (sNil)) (sNil)) (sSeq (sRet (fCall oAll (fCons (fFrz (fLc (fSeq (fVar 0)) (gN 2) (gYes) (fCall (ck 2 (c .f_is_deed)) (fCons (fVar 2) (fCons (fVar 1) (fNil)))) [2])) (fNil)))) (sNil))
noncomputable def m_fault_trees (c : Fnm → Fn) : FS := sSeq (sRet (fIf (fT (fCall (ck 2 (c .f_is_block)) (fCons (fVar 0) (fCons (fC k_DEEPEST_trees) (fNil))))) (fC .non) (fC k_FORM))) (sNil)
noncomputable def m_Run___init__ (c : Fnm → Fn) : FS := sSeq (sFldPut "Run" "store" (fVar 0) (fVar 1)) (sSeq (sFldPut "Run" "told" (fVar 0) (fTup (fNil))) (sSeq (sFldPut "Run" "turns" (fVar 0) (fVar 2)) (sNil)))
noncomputable def b_Run_do_block_1 (c : Fnm → Fn) : FS := sSeq (sIf (gNot (fT (fMeth "Run" "do" 2 (c .f_Run_do) (fVar 0) (fCons (fVar 2) (fNil))))) (sSeq (sRet (fC (.bl false))) (sNil)) (sNil)) (sNil)
noncomputable def m_Run_do_block (c : Fnm → Fn) : FS := sSeq (sFor (fSeq (fVar 1)) (gN 2) (b_Run_do_block_1 c)) (sSeq (sRet (fC (.bl true))) (sNil))
noncomputable def b_Run_do_1 (c : Fnm → Fn) : FS := sSeq (sFldAug "Run" "turns" oSub (fVar 0) (fC (.int 1))) (sSeq (sIf (fT (fBin (oEq false) (fCall (ck 2 (c .f_value_of)) (fCons (fBin oIx (fVar 1) (fC (.int 1))) (fCons (fFld "Run" "store" (fVar 0)) (fNil)))) (fC (.int 0)))) (sSeq (sRet (fC (.bl true))) (sNil)) (sNil)) (sSeq (sIf (gNot (fT (fMeth "Run" "do_block" 2 (c .f_Run_do_block) (fVar 0) (fCons (fBin oIx (fVar 1) (fC (.int 2))) (fNil))))) (sSeq (sRet (fC (.bl false))) (sNil)) (sNil)) (sNil)))
noncomputable def m_Run_do (c : Fnm → Fn) : FS := sSeq (sIf (fT (fBin (oEq false) (fBin oIx (fVar 1) (fC (.int 0))) (fC (.str "set")))) (sSeq (sFldPut "Run" "store" (fVar 0) (fCall (ck 3 (c .f_with_value)) (fCons (fFld "Run" "store" (fVar 0)) (fCons (fBin oIx (fVar 1) (fC (.int 1))) (fCons (fCall (ck 2 (c .f_value_of)) (fCons (fBin oIx (fVar 1) (fC (.int 2))) (fCons (fFld "Run" "store" (fVar 0)) (fNil)))) (fNil)))))) (sSeq (sRet (fC (.bl true))) (sNil))) (sNil)) (sSeq (sIf (fT (fBin (oEq false) (fBin oIx (fVar 1) (fC (.int 0))) (fC (.str "tell")))) (sSeq (sFldAug "Run" "told" oIadd (fVar 0) (fTup (fCons (fCall (ck 2 (c .f_value_of)) (fCons (fBin oIx (fVar 1) (fC (.int 1))) (fCons (fFld "Run" "store" (fVar 0)) (fNil)))) (fNil)))) (sSeq (sRet (fC (.bl true))) (sNil))) (sNil)) (sSeq (sIf (fT (fBin (oEq false) (fBin oIx (fVar 1) (fC (.int 0))) (fC (.str "if")))) (sSeq (sRet (fMeth "Run" "do_block" 2 (c .f_Run_do_block) (fVar 0) (fCons (fIf (fT (fBin (oEq true) (fCall (ck 2 (c .f_value_of)) (fCons (fBin oIx (fVar 1) (fC (.int 1))) (fCons (fFld "Run" "store" (fVar 0)) (fNil)))) (fC (.int 0)))) (fBin oIx (fVar 1) (fC (.int 2))) (fBin oIx (fVar 1) (fC (.int 3)))) (fNil)))) (sNil)) (sNil)) (sSeq (sWhile (fT (fBin oGt (fFld "Run" "turns" (fVar 0)) (fC (.int 0)))) (b_Run_do_1 c)) (sSeq (sRet (fC (.bl false))) (sNil)))))
noncomputable def m_run_trees (c : Fnm → Fn) : FS := sSeq (sSet 3 (fCall (oMake "Run" 3 (c .f_Run___init__)) (fCons (fVar 1) (fCons (fVar 2) (fNil))))) (sSeq (sSet 4 (fMeth "Run" "do_block" 2 (c .f_Run_do_block) (fVar 3) (fCons (fVar 0) (fNil)))) (sSeq (sRet (fIf (fT (fVar 4)) (fTup (fCons (fC (.str "end")) (fCons (fFld "Run" "store" (fVar 3)) (fCons (fFld "Run" "told" (fVar 3)) (fNil))))) (fTup (fCons (fC (.str "going")) (fCons (fFld "Run" "told" (fVar 3)) (fNil)))))) (sNil)))
noncomputable def m_is_state (c : Fnm → Fn) : FS := sSeq (sIf (gOr (gNot (fT (fIsa "tuple" (fVar 0)))) (gOr (fT (fBin (oEq true) (fCall oLen (fCons (fVar 0) (fNil))) (fC (.int 3)))) (gOr (gNot (fT (fCall (ck 2 (c .f_is_block)) (fCons (fBin oIx (fVar 0) (fC (.int 0))) (fCons (fC k_DEEPEST_steps) (fNil)))))) (gNot (fT (fCall (ck 1 (c .f_is_store)) (fCons (fBin oIx (fVar 0) (fC (.int 1))) (fNil)))))))) (sSeq (sRet (fC (.bl false))) (sNil)) (sNil)) (sSeq (sRet (fAnd (fIsa "tuple" (fBin oIx (fVar 0) (fC (.int 2)))) (fCall oAll (fCons (fFrz (fLc (fSeq (fBin oIx (fVar 0) (fC (.int 2)))) (gN 1) (gYes) (fCall (ck 1 (c .f_is_told)) (fCons (fVar 1) (fNil))) [1])) (fNil))))) (sNil))
noncomputable def m_is_told (c : Fnm → Fn) : FS := sSeq (sRet (fCall (ck 1 (c .f_is_store)) (fCons (fTup (fCons (fVar 0) (fCons (fC (.int 0)) (fCons (fC (.int 0)) (fCons (fC (.int 0)) (fNil)))))) (fNil)))) (sNil)
noncomputable def m_takes_turn_steps (c : Fnm → Fn) : FS := sSeq (sRet (fAnd (fBin oGt (fCall oLen (fCons (fBin oIx (fVar 0) (fC (.int 0))) (fNil))) (fC (.int 0))) (fBin (oEq false) (fBin oIx (fBin oIx (fBin oIx (fVar 0) (fC (.int 0))) (fC (.int 0))) (fC (.int 0))) (fC (.str "while"))))) (sNil)
noncomputable def m_step_steps (c : Fnm → Fn) : FS := sSeq (sAsg (gT [1, 2, 3]) (fVar 0)) (sSeq (sIf (fT (fBin (oEq false) (fCall oLen (fCons (fVar 1) (fNil))) (fC (.int 0)))) (sSeq (sRet (fC .non)) (sNil)) (sNil)) (sSeq (sPar 4 5 (fCons (fBin oIx (fVar 1) (fC (.int 0))) (fCons (fSl (fVar 1) (fPart (fC (.int 1))) (fNo)) (fNil)))) (sSeq (sIf (fT (fBin (oEq false) (fBin oIx (fVar 4) (fC (.int 0))) (fC (.str "set")))) (sSeq (sRet (fTup (fCons (fVar 5) (fCons (fCall (ck 3 (c .f_with_value)) (fCons (fVar 2) (fCons (fBin oIx (fVar 4) (fC (.int 1))) (fCons (fCall (ck 2 (c .f_value_of)) (fCons (fBin oIx (fVar 4) (fC (.int 2))) (fCons (fVar 2) (fNil)))) (fNil))))) (fCons (fVar 3) (fNil)))))) (sNil)) (sNil)) (sSeq (sSet 6 (fCall (ck 2 (c .f_value_of)) (fCons (fBin oIx (fVar 4) (fC (.int 1))) (fCons (fVar 2) (fNil))))) (sSeq (sIf (fT (fBin (oEq false) (fBin oIx (fVar 4) (fC (.int 0))) (fC (.str "tell")))) (sSeq (sRet (fTup (fCons (fVar 5) (fCons (fVar 2) (fCons (fBin oPlus (fVar 3) (fTup (fCons (fVar 6) (fNil)))) (fNil)))))) (sNil)) (sNil)) (sSeq (sIf (fT (fBin (oEq false) (fBin oIx (fVar 4) (fC (.int 0))) (fC (.str "if")))) (sSeq (sRet (fTup (fCons (fBin oPlus (fIf (fT (fBin (oEq true) (fVar 6) (fC (.int 0)))) (fBin oIx (fVar 4) (fC (.int 2))) (fBin oIx (fVar 4) (fC (.int 3)))) (fVar 5)) (fCons (fVar 2) (fCons (fVar 3) (fNil)))))) (sNil)) (sNil)) (sSeq (sRet (fTup (fCons (fIf (fT (fBin (oEq true) (fVar 6) (fC (.int 0)))) (fBin oPlus (fBin oIx (fVar 4) (fC (.int 2))) (fVar 1)) (fVar 5)) (fCons (fVar 2) (fCons (fVar 3) (fNil)))))) (sNil))))))))
noncomputable def b_trace_1 (c : Fnm → Fn) : FS := sSeq (sIf (fT (fCall (ck 1 (c .f_takes_turn_steps)) (fCons (fBin oIx (fVar 3) (fNeg (fC (.int 1)))) (fNil)))) (sSeq (sIf (fT (fBin (oEq false) (fVar 2) (fC (.int 0)))) (sSeq (sRet (fUn (fVar 3))) (sNil)) (sNil)) (sSeq (sAug 2 oSub (fC (.int 1))) (sNil))) (sNil)) (sSeq (sSet 4 (fCall (ck 1 (c .f_step_steps)) (fCons (fBin oIx (fVar 3) (fNeg (fC (.int 1)))) (fNil)))) (sSeq (sIf (fT (fIsN false (fVar 4))) (sSeq (sRet (fUn (fVar 3))) (sNil)) (sNil)) (sSeq (sDo (fApp (fVar 3) (fVar 4))) (sNil))))
noncomputable def m_trace (c : Fnm → Fn) : FS := sSeq (sSet 3 (fNew (fLst (fCons (fTup (fCons (fVar 0) (fCons (fVar 1) (fCons (fTup (fNil)) (fNil))))) (fNil))))) (sSeq (sWhile (fT (fC (.bl true))) (b_trace_1 c)) (sNil))
noncomputable def m_run_steps (c : Fnm → Fn) : FS := sSeq (sAsg (gT [3, 4, 5]) (fBin oIx (fCall (ck 3 (c .f_trace)) (fCons (fVar 0) (fCons (fVar 1) (fCons (fVar 2) (fNil))))) (fNeg (fC (.int 1))))) (sSeq (sRet (fIf (fT (fBin (oEq false) (fCall oLen (fCons (fVar 3) (fNil))) (fC (.int 0)))) (fTup (fCons (fC (.str "end")) (fCons (fVar 4) (fCons (fVar 5) (fNil))))) (fTup (fCons (fC (.str "going")) (fCons (fVar 5) (fNil)))))) (sNil))
noncomputable def b_fault_steps_1 (c : Fnm → Fn) : FS := sSeq (sIf (fT (fBin (oEq true) (fCall (ck 1 (c .f_step_steps)) (fCons (fBin oIx (fVar 2) (fVar 3)) (fNil))) (fBin oIx (fVar 2) (fBin oPlus (fVar 3) (fC (.int 1)))))) (sSeq (sRet (fTup (fCons (fC (.str "step")) (fCons (fBin oPlus (fVar 3) (fC (.int 1))) (fNil))))) (sNil)) (sNil)) (sNil)
noncomputable def m_fault_steps (c : Fnm → Fn) : FS := sSeq (sIf (gOr (gNot (fT (fIsa "tuple" (fVar 2)))) (gOr (fT (fBin (oEq false) (fCall oLen (fCons (fVar 2) (fNil))) (fC (.int 0)))) (gNot (fT (fCall oAll (fCons (fFrz (fLc (fSeq (fVar 2)) (gN 4) (gYes) (fCall (ck 1 (c .f_is_state)) (fCons (fVar 4) (fNil))) [4])) (fNil))))))) (sSeq (sRet (fTup (fCons (fC (.str "form")) (fCons (fC (.int 0)) (fNil))))) (sNil)) (sNil)) (sSeq (sIf (fT (fBin (oEq true) (fBin oIx (fVar 2) (fC (.int 0))) (fTup (fCons (fVar 0) (fCons (fVar 1) (fCons (fTup (fNil)) (fNil))))))) (sSeq (sRet (fTup (fCons (fC (.str "start")) (fCons (fC (.int 0)) (fNil))))) (sNil)) (sNil)) (sSeq (sFor (fCall rng1 (fCons (fBin oSub (fCall oLen (fCons (fVar 2) (fNil))) (fC (.int 1))) (fNil))) (gN 3) (b_fault_steps_1 c)) (sSeq (sRet (fC .non)) (sNil))))
noncomputable def m_Debugger___init__ (c : Fnm → Fn) : FS := sSeq (sIf (fT (fIsN true (fCall (ck 1 (c .f_fault_trees)) (fCons (fVar 1) (fNil))))) (sSeq (sStk) (sNil)) (sNil)) (sSeq (sFldPut "Debugger" "_states" (fVar 0) (fNew (fLst (fCons (fTup (fCons (fVar 1) (fCons (fVar 2) (fCons (fTup (fNil)) (fNil))))) (fNil))))) (sNil))
noncomputable def m_Debugger___len__ (c : Fnm → Fn) : FS := sSeq (sRet (fCall oLen (fCons (fSl (fFld "Debugger" "_states" (fVar 0)) (fPart (fC (.int 1))) (fNo)) (fNil)))) (sNil)
noncomputable def m_Debugger_state (c : Fnm → Fn) : FS := sSeq (sRet (fBin oIx (fFld "Debugger" "_states" (fVar 0)) (fNeg (fC (.int 1))))) (sNil)
noncomputable def m_Debugger_turns (c : Fnm → Fn) : FS := sSeq (sRet (fCall oLen (fCons (fFrz (fLc (fSeq (fSl (fFld "Debugger" "_states" (fVar 0)) (fNo) (fPart (fNeg (fC (.int 1)))))) (gN 1) (fT (fCall (ck 1 (c .f_takes_turn_steps)) (fCons (fVar 1) (fNil)))) (fVar 1) [1])) (fNil)))) (sNil)
noncomputable def b_Debugger_forth_1 (c : Fnm → Fn) : FS := sSeq (sSet 3 (fCall (ck 1 (c .f_step_steps)) (fCons (fVar 3) (fNil)))) (sSeq (sIf (fT (fIsN false (fVar 3))) (sSeq (sStk) (sNil)) (sNil)) (sSeq (sDo (fApp (fVar 2) (fVar 3))) (sNil)))
noncomputable def m_Debugger_forth (c : Fnm → Fn) : FS := sSeq (sIf (gNot (fT (fCall (ck 3 (c .f_is_from)) (fCons (fVar 1) (fCons (fC (.int 0)) (fCons (fC k_MOST_debugger) (fNil))))))) (sSeq (sStk) (sNil)) (sNil)) (sSeq (sSet 2 (fNew (fLst (fNil)))) (sSeq (sSet 3 (fBin oIx (fFld "Debugger" "_states" (fVar 0)) (fNeg (fC (.int 1))))) (sSeq (sFor (fCall rng1 (fCons (fVar 1) (fNil))) (gN 4) (b_Debugger_forth_1 c)) (sSeq (sDo (fExt (fFld "Debugger" "_states" (fVar 0)) (fVar 2))) (sNil)))))
noncomputable def b_logged_1 (c : Fnm → Fn) : FS := sSeq (sAug 2 oSub (fCall oInt1 (fCons (fCall (ck 1 (c .f_takes_turn_steps)) (fCons (fVar 3) (fNil))) (fNil)))) (sSeq (sSet 5 (fBin oIx (fBin oIx (fVar 3) (fC (.int 0))) (fC (.int 0)))) (sSeq (sIf (fT (fBin (oEq false) (fBin oIx (fVar 5) (fC (.int 0))) (fC (.str "set")))) (sSeq (sAug 4 oIadd (fTup (fCons (fTup (fCons (fBin oIx (fVar 5) (fC (.int 1))) (fCons (fBin oIx (fBin oIx (fVar 3) (fC (.int 1))) (fBin oIx (fVar 5) (fC (.int 1)))) (fNil)))) (fNil)))) (sNil)) (sNil)) (sSeq (sSet 3 (fCall (ck 1 (c .f_step_steps)) (fCons (fVar 3) (fNil)))) (sNil))))
noncomputable def m_logged (c : Fnm → Fn) : FS := sSeq (sSet 3 (fTup (fCons (fVar 0) (fCons (fVar 1) (fCons (fTup (fNil)) (fNil)))))) (sSeq (sSet 4 (fTup (fNil))) (sSeq (sWhile (gAnd (fT (fBin oGt (fCall oLen (fCons (fBin oIx (fVar 3) (fC (.int 0))) (fNil))) (fC (.int 0)))) (gNot (gAnd (fT (fCall (ck 1 (c .f_takes_turn_steps)) (fCons (fVar 3) (fNil)))) (fT (fBin (oEq false) (fVar 2) (fC (.int 0))))))) (b_logged_1 c)) (sSeq (sRet (fTup (fCons (fVar 3) (fCons (fVar 4) (fCons (fVar 2) (fNil)))))) (sNil))))
noncomputable def m_is_log (c : Fnm → Fn) : FS := sSeq (sIf (gOr (gNot (fT (fIsa "tuple" (fVar 0)))) (gNot (fT (fCall oAll (fCons (fFrz (fLc (fSeq (fVar 0)) (gN 1) (gYes) (fAnd (fIsa "tuple" (fVar 1)) (fBin (oEq false) (fCall oLen (fCons (fVar 1) (fNil))) (fC (.int 2)))) [1])) (fNil)))))) (sSeq (sRet (fC (.bl false))) (sNil)) (sNil)) (sSeq (sRet (fCall oAll (fCons (fFrz (fLc (fSeq (fVar 0)) (gT [2, 3]) (gYes) (fAnd (fCall (ck 3 (c .f_is_from)) (fCons (fVar 2) (fCons (fC (.int 0)) (fCons (fC (.int 3)) (fNil))))) (fCall (ck 3 (c .f_is_from)) (fCons (fVar 3) (fCons (fC (.int 0)) (fCons (fBin oSub (fC k_SIZE) (fC (.int 1))) (fNil)))))) [2, 3])) (fNil)))) (sNil))
noncomputable def b_taken_back_1 (c : Fnm → Fn) : FS := sSeq (sSet 0 (fCall (ck 3 (c .f_with_value)) (fCons (fVar 0) (fCons (fVar 3) (fCons (fVar 4) (fNil)))))) (sNil)
noncomputable def m_taken_back (c : Fnm → Fn) : FS := sSeq (sIf (gOr (gNot (fT (fCall (ck 1 (c .f_is_store)) (fCons (fVar 0) (fNil))))) (gOr (gNot (fT (fCall (ck 1 (c .f_is_log)) (fCons (fVar 1) (fNil))))) (gNot (fT (fCall (ck 3 (c .f_is_from)) (fCons (fVar 2) (fCons (fC (.int 0)) (fCons (fCall oLen (fCons (fVar 1) (fNil))) (fNil))))))))) (sSeq (sStk) (sNil)) (sNil)) (sSeq (sFor (fSeq (fRev (fSl (fVar 1) (fPart (fBin oSub (fCall oLen (fCons (fVar 1) (fNil))) (fVar 2))) (fNo)))) (gT [3, 4]) (b_taken_back_1 c)) (sSeq (sRet (fVar 0)) (sNil)))
noncomputable def m_start (c : Fnm → Fn) : FS := sSeq (sRet (fTup (fCons (fC k_NEXT) (fCons (fTup (fCons (fTup (fCons (fC (.str "deeds")) (fCons (fVar 0) (fNil)))) (fNil))) (fCons (fVar 1) (fCons (fTup (fNil)) (fNil))))))) (sNil)
noncomputable def m_is_done (c : Fnm → Fn) : FS := sSeq (sRet (fAnd (fBin (oEq false) (fBin oIx (fVar 0) (fC (.int 0))) (fC k_NEXT)) (fBin (oEq false) (fCall oLen (fCons (fBin oIx (fVar 0) (fC (.int 1))) (fNil))) (fC (.int 0))))) (sNil)
noncomputable def m_takes_turn_frames (c : Fnm → Fn) : FS := sSeq (sRet (fAnd (fBin (oEq false) (fBin oIx (fVar 0) (fC (.int 0))) (fC k_NEXT)) (fAnd (fBin oGt (fCall oLen (fCons (fBin oIx (fVar 0) (fC (.int 1))) (fNil))) (fC (.int 0))) (fAnd (fBin (oEq true) (fSl (fBin oIx (fBin oIx (fBin oIx (fVar 0) (fC (.int 1))) (fC (.int 0))) (fC (.int 1))) (fNo) (fPart (fC (.int 1)))) (fTup (fNil))) (fBin (oEq false) (fBin oIx (fBin oIx (fBin oIx (fBin oIx (fBin oIx (fVar 0) (fC (.int 1))) (fC (.int 0))) (fC (.int 1))) (fC (.int 0))) (fC (.int 0))) (fC (.str "while"))))))) (sNil)
noncomputable def m_deed_state (c : Fnm → Fn) : FS := sSeq (sIf (fT (fBin (oEq false) (fCall oLen (fCons (fVar 0) (fNil))) (fC (.int 0)))) (sSeq (sRet (fTup (fCons (fC k_NEXT) (fCons (fVar 1) (fCons (fVar 2) (fCons (fVar 3) (fNil))))))) (sNil)) (sNil)) (sSeq (sSet 4 (fBin oIx (fVar 0) (fC (.int 0)))) (sSeq (sSet 5 (fBin oPlus (fTup (fCons (fTup (fCons (fC (.str "deeds")) (fCons (fSl (fVar 0) (fPart (fC (.int 1))) (fNo)) (fNil)))) (fNil))) (fVar 1))) (sSeq (sIf (fT (fBin (oEq false) (fBin oIx (fVar 4) (fC (.int 0))) (fC (.str "set")))) (sSeq (sRet (fTup (fCons (fTup (fCons (fC (.str "eval")) (fCons (fBin oIx (fVar 4) (fC (.int 2))) (fNil)))) (fCons (fBin oPlus (fTup (fCons (fTup (fCons (fC (.str "set")) (fCons (fBin oIx (fVar 4) (fC (.int 1))) (fNil)))) (fNil))) (fVar 5)) (fCons (fVar 2) (fCons (fVar 3) (fNil))))))) (sNil)) (sNil)) (sSeq (sIf (fT (fBin (oEq false) (fBin oIx (fVar 4) (fC (.int 0))) (fC (.str "tell")))) (sSeq (sRet (fTup (fCons (fTup (fCons (fC (.str "eval")) (fCons (fBin oIx (fVar 4) (fC (.int 1))) (fNil)))) (fCons (fBin oPlus (fTup (fCons (fTup (fCons (fC (.str "tell")) (fNil))) (fNil))) (fVar 5)) (fCons (fVar 2) (fCons (fVar 3) (fNil))))))) (sNil)) (sNil)) (sSeq (sRet (fTup (fCons (fTup (fCons (fC (.str "eval")) (fCons (fBin oIx (fVar 4) (fC (.int 1))) (fNil)))) (fCons (fBin oPlus (fTup (fCons (fVar 4) (fNil))) (fVar 5)) (fCons (fVar 2) (fCons (fVar 3) (fNil))))))) (sNil))))))
noncomputable def m_eval_state (c : Fnm → Fn) : FS := sSeq (sIf (fT (fBin (oEq false) (fBin oIx (fVar 0) (fC (.int 0))) (fC (.str "number")))) (sSeq (sRet (fTup (fCons (fTup (fCons (fC (.str "give")) (fCons (fBin oIx (fVar 0) (fC (.int 1))) (fNil)))) (fCons (fVar 1) (fCons (fVar 2) (fCons (fVar 3) (fNil))))))) (sNil)) (sNil)) (sSeq (sIf (fT (fBin (oEq false) (fBin oIx (fVar 0) (fC (.int 0))) (fC (.str "name")))) (sSeq (sRet (fTup (fCons (fTup (fCons (fC (.str "give")) (fCons (fBin oIx (fVar 2) (fBin oIx (fVar 0) (fC (.int 1)))) (fNil)))) (fCons (fVar 1) (fCons (fVar 2) (fCons (fVar 3) (fNil))))))) (sNil)) (sNil)) (sSeq (sIf (fT (fBin (oEq false) (fBin oIx (fVar 0) (fC (.int 0))) (fC (.str "not")))) (sSeq (sRet (fTup (fCons (fTup (fCons (fC (.str "eval")) (fCons (fBin oIx (fVar 0) (fC (.int 1))) (fNil)))) (fCons (fBin oPlus (fTup (fCons (fTup (fCons (fC (.str "not")) (fNil))) (fNil))) (fVar 1)) (fCons (fVar 2) (fCons (fVar 3) (fNil))))))) (sNil)) (sNil)) (sSeq (sRet (fTup (fCons (fTup (fCons (fC (.str "eval")) (fCons (fBin oIx (fVar 0) (fC (.int 1))) (fNil)))) (fCons (fBin oPlus (fTup (fCons (fTup (fCons (fC (.str "right")) (fCons (fBin oIx (fVar 0) (fC (.int 0))) (fCons (fBin oIx (fVar 0) (fC (.int 2))) (fNil))))) (fNil))) (fVar 1)) (fCons (fVar 2) (fCons (fVar 3) (fNil))))))) (sNil))))
noncomputable def m_give_state (c : Fnm → Fn) : FS := sSeq (sPar 4 5 (fCons (fBin oIx (fVar 1) (fC (.int 0))) (fCons (fSl (fVar 1) (fPart (fC (.int 1))) (fNo)) (fNil)))) (sSeq (sIf (fT (fBin (oEq false) (fBin oIx (fVar 4) (fC (.int 0))) (fC (.str "right")))) (sSeq (sRet (fTup (fCons (fTup (fCons (fC (.str "eval")) (fCons (fBin oIx (fVar 4) (fC (.int 2))) (fNil)))) (fCons (fBin oPlus (fTup (fCons (fTup (fCons (fC (.str "work")) (fCons (fBin oIx (fVar 4) (fC (.int 1))) (fCons (fVar 0) (fNil))))) (fNil))) (fVar 5)) (fCons (fVar 2) (fCons (fVar 3) (fNil))))))) (sNil)) (sNil)) (sSeq (sIf (fT (fBin (oEq false) (fBin oIx (fVar 4) (fC (.int 0))) (fC (.str "work")))) (sSeq (sRet (fTup (fCons (fTup (fCons (fC (.str "give")) (fCons (fCall (ck 3 (c .f_worked)) (fCons (fBin oIx (fVar 4) (fC (.int 1))) (fCons (fBin oIx (fVar 4) (fC (.int 2))) (fCons (fVar 0) (fNil))))) (fNil)))) (fCons (fVar 5) (fCons (fVar 2) (fCons (fVar 3) (fNil))))))) (sNil)) (sNil)) (sSeq (sIf (fT (fBin (oEq false) (fBin oIx (fVar 4) (fC (.int 0))) (fC (.str "not")))) (sSeq (sRet (fTup (fCons (fTup (fCons (fC (.str "give")) (fCons (fCall oInt1 (fCons (fBin (oEq false) (fVar 0) (fC (.int 0))) (fNil))) (fNil)))) (fCons (fVar 5) (fCons (fVar 2) (fCons (fVar 3) (fNil))))))) (sNil)) (sNil)) (sSeq (sIf (fT (fBin (oEq false) (fBin oIx (fVar 4) (fC (.int 0))) (fC (.str "set")))) (sSeq (sRet (fTup (fCons (fC k_NEXT) (fCons (fVar 5) (fCons (fCall (ck 3 (c .f_with_value)) (fCons (fVar 2) (fCons (fBin oIx (fVar 4) (fC (.int 1))) (fCons (fVar 0) (fNil))))) (fCons (fVar 3) (fNil))))))) (sNil)) (sNil)) (sSeq (sIf (fT (fBin (oEq false) (fBin oIx (fVar 4) (fC (.int 0))) (fC (.str "tell")))) (sSeq (sRet (fTup (fCons (fC k_NEXT) (fCons (fVar 5) (fCons (fVar 2) (fCons (fBin oPlus (fVar 3) (fTup (fCons (fVar 0) (fNil)))) (fNil))))))) (sNil)) (sNil)) (sSeq (sIf (fT (fBin (oEq false) (fBin oIx (fVar 4) (fC (.int 0))) (fC (.str "if")))) (sSeq (sRet (fTup (fCons (fC k_NEXT) (fCons (fBin oPlus (fTup (fCons (fTup (fCons (fC (.str "deeds")) (fCons (fIf (fT (fBin (oEq true) (fVar 0) (fC (.int 0)))) (fBin oIx (fVar 4) (fC (.int 2))) (fBin oIx (fVar 4) (fC (.int 3)))) (fNil)))) (fNil))) (fVar 5)) (fCons (fVar 2) (fCons (fVar 3) (fNil))))))) (sNil)) (sNil)) (sSeq (sSet 6 (fIf (fT (fBin (oEq true) (fVar 0) (fC (.int 0)))) (fTup (fCons (fTup (fCons (fC (.str "deeds")) (fCons (fBin oIx (fVar 4) (fC (.int 2))) (fNil)))) (fCons (fTup (fCons (fC (.str "deeds")) (fCons (fTup (fCons (fVar 4) (fNil))) (fNil)))) (fNil)))) (fTup (fNil)))) (sSeq (sRet (fTup (fCons (fC k_NEXT) (fCons (fBin oPlus (fVar 6) (fVar 5)) (fCons (fVar 2) (fCons (fVar 3) (fNil))))))) (sNil)))))))))
noncomputable def m_step_frames (c : Fnm → Fn) : FS := sSeq (sAsg (gT [1, 2, 3, 4]) (fVar 0)) (sSeq (sIf (fT (fCall (ck 1 (c .f_is_done)) (fCons (fVar 0) (fNil)))) (sSeq (sRet (fC .non)) (sNil)) (sNil)) (sSeq (sIf (fT (fBin (oEq false) (fVar 1) (fC k_NEXT))) (sSeq (sRet (fCall (ck 4 (c .f_deed_state)) (fCons (fBin oIx (fBin oIx (fVar 2) (fC (.int 0))) (fC (.int 1))) (fCons (fSl (fVar 2) (fPart (fC (.int 1))) (fNo)) (fCons (fVar 3) (fCons (fVar 4) (fNil))))))) (sNil)) (sNil)) (sSeq (sIf (fT (fBin (oEq false) (fBin oIx (fVar 1) (fC (.int 0))) (fC (.str "eval")))) (sSeq (sRet (fCall (ck 4 (c .f_eval_state)) (fCons (fBin oIx (fVar 1) (fC (.int 1))) (fCons (fVar 2) (fCons (fVar 3) (fCons (fVar 4) (fNil))))))) (sNil)) (sNil)) (sSeq (sRet (fCall (ck 4 (c .f_give_state)) (fCons (fBin oIx (fVar 1) (fC (.int 1))) (fCons (fVar 2) (fCons (fVar 3) (fCons (fVar 4) (fNil))))))) (sNil)))))
noncomputable def b_run_frames_1 (c : Fnm → Fn) : FS := sSeq (sIf (fT (fCall (ck 1 (c .f_takes_turn_frames)) (fCons (fVar 3) (fNil)))) (sSeq (sIf (fT (fBin (oEq false) (fVar 2) (fC (.int 0)))) (sSeq (sRet (fTup (fCons (fC (.str "going")) (fCons (fBin oIx (fVar 3) (fC (.int 3))) (fNil))))) (sNil)) (sNil)) (sSeq (sAug 2 oSub (fC (.int 1))) (sNil))) (sNil)) (sSeq (sSet 3 (fCall (ck 1 (c .f_step_frames)) (fCons (fVar 3) (fNil)))) (sNil))
noncomputable def m_run_frames (c : Fnm → Fn) : FS := sSeq (sSet 3 (fCall (ck 2 (c .f_start)) (fCons (fVar 0) (fCons (fVar 1) (fNil))))) (sSeq (sWhile (gNot (fT (fCall (ck 1 (c .f_is_done)) (fCons (fVar 3) (fNil))))) (b_run_frames_1 c)) (sSeq (sRet (fTup (fCons (fC (.str "end")) (fCons (fBin oIx (fVar 3) (fC (.int 2))) (fCons (fBin oIx (fVar 3) (fC (.int 3))) (fNil)))))) (sNil)))
noncomputable def m_ways (c : Fnm → Fn) : FS := sSeq (sRet (fFrz (fStrs ["frames", "steps", "trees"]))) (sNil)
noncomputable def m_run_way (c : Fnm → Fn) : FS := sSeq (sIf (fT (fInTab true tk_WAYS (fVar 0))) (sSeq (sStk) (sNil)) (sNil)) (sSeq (sRet (fTab 3 (tab_WAYS c) (fVar 0) (fCons (fVar 1) (fCons (fVar 2) (fCons (fVar 3) (fNil)))))) (sNil))
noncomputable def m__law_same (c : Fnm → Fn) : FS := sSeq (sIf (gOr (fT (fIsa "tuple" (fVar 1))) (fT (fIsa "list" (fVar 1)))) (sSeq (sIf (gOr (fT (fBin (oEq true) (fIsa "tuple" (fVar 1)) (fIsa "tuple" (fVar 0)))) (gOr (fT (fBin (oEq true) (fIsa "list" (fVar 1)) (fIsa "list" (fVar 0)))) (fT (fBin (oEq true) (fCall oLen (fCons (fVar 0) (fNil))) (fCall oLen (fCons (fVar 1) (fNil))))))) (sSeq (sRet (fC (.bl false))) (sNil)) (sNil)) (sSeq (sRet (fBin (oEq false) (fCall oLen (fCons (fFrz (fLc (fCall rng1 (fCons (fCall oLen (fCons (fVar 1) (fNil))) (fNil))) (gN 2) (gNot (fT (fCall (ck 2 (c .f_law_same)) (fCons (fBin oIx (fVar 0) (fVar 2)) (fCons (fBin oIx (fVar 1) (fVar 2)) (fNil)))))) (fVar 2) [2])) (fNil))) (fC (.int 0)))) (sNil))) (sNil)) (sSeq (sIf (fT (fIsN false (fVar 1))) (sSeq (sRet (fIsN false (fVar 0))) (sNil)) (sNil)) (sSeq (sIf (gOr (fT (fIsa "bool" (fVar 1))) (fT (fIsa "bool" (fVar 0)))) (sSeq (sRet (fAnd (fIsa "bool" (fVar 1)) (fAnd (fIsa "bool" (fVar 0)) (fBin (oEq false) (fVar 0) (fVar 1))))) (sNil)) (sNil)) (sSeq (sIf (fT (fIsa "int" (fVar 1))) (sSeq (sRet (fAnd (fIsa "int" (fVar 0)) (fBin (oEq false) (fVar 0) (fVar 1)))) (sNil)) (sNil)) (sSeq (sRet (fAnd (fIsa "str" (fVar 0)) (fAnd (fIsa "str" (fVar 1)) (fBin (oEq false) (fVar 0) (fVar 1))))) (sNil)))))
noncomputable def b__law_pool_1 (c : Fnm → Fn) : FS := sSeq (sSet 1 (fBin oMod (fCall oInt1 (fCons (fBin oPlus (fBin oMul (fVar 1) (fC (.int 31))) (fVar 2)) (fNil))) (fC (.int 1000003)))) (sNil)
noncomputable def m__law_pool (c : Fnm → Fn) : FS := sSeq (sSet 1 (fC (.int 7))) (sSeq (sFor (fSeq (fSl (fVar 0) (fNo) (fPart (fC (.int 63))))) (gN 2) (b__law_pool_1 c)) (sSeq (sRet (fNew (fLst (fCons (fFrz (fCall oList (fCons (fVar 0) (fNil)))) (fCons (fC (.int 0)) (fCons (fC (.int 0)) (fCons (fC (.int 0)) (fCons (fVar 1) (fNil))))))))) (sNil)))
noncomputable def b__law_spread_1 (c : Fnm → Fn) : FS := sSeq (sSet 1 (fBin oMod (fCall oInt1 (fCons (fBin oPlus (fBin oPlus (fBin oMul (fVar 1) (fC (.int 48271))) (fC (.int 12345))) (fVar 3)) (fNil))) (fC (.int 2147483647)))) (sSeq (sSet 2 (fBin oPlus (fBin oMul (fVar 2) (fC (.int 2147483647))) (fVar 1))) (sNil))
noncomputable def m__law_spread (c : Fnm → Fn) : FS := sSeq (sSet 1 (fBin oMod (fCall oInt1 (fCons (fVar 0) (fNil))) (fC (.int 2147483647)))) (sSeq (sSet 2 (fC (.int 1))) (sSeq (sFor (fCall rng1 (fCons (fC (.int 4)) (fNil))) (gN 3) (b__law_spread_1 c)) (sSeq (sRet (fVar 2)) (sNil))))
noncomputable def m__law_draw (c : Fnm → Fn) : FS := sSeq (sIf (gAnd (fT (fBin oLe (fBin oIx (fVar 0) (fC (.int 2))) (fC (.int 0)))) (fT (fBin oLt (fBin oIx (fVar 0) (fC (.int 1))) (fCall oLen (fCons (fBin oIx (fVar 0) (fC (.int 0))) (fNil)))))) (sSeq (sSet 2 (fBin oIx (fBin oIx (fVar 0) (fC (.int 0))) (fBin oIx (fVar 0) (fC (.int 1))))) (sSeq (sPut (fVar 0) (fC (.int 1)) (fBin oPlus (fBin oIx (fVar 0) (fC (.int 1))) (fC (.int 1)))) (sSeq (sPut (fVar 0) (fC (.int 2)) (fVar 2)) (sSeq (sIf (fT (fBin oLt (fVar 2) (fC (.int 1000000000000000000)))) (sSeq (sPut (fVar 0) (fC (.int 2)) (fCall (ck 1 (c .f_law_spread)) (fCons (fVar 2) (fNil)))) (sNil)) (sNil)) (sNil))))) (sNil)) (sSeq (sPut (fVar 0) (fC (.int 3)) (fBin oPlus (fBin oIx (fVar 0) (fC (.int 3))) (fC (.int 1)))) (sSeq (sIf (fT (fBin oLe (fBin oIx (fVar 0) (fC (.int 2))) (fC (.int 0)))) (sSeq (sSet 3 (fBin oMod (fCall oInt1 (fCons (fBin oPlus (fBin oPlus (fBin oMul (fBin oIx (fVar 0) (fC (.int 4))) (fC (.int 48271))) (fBin oMul (fBin oIx (fVar 0) (fC (.int 3))) (fC (.int 69621)))) (fC (.int 1))) (fNil))) (fC (.int 2147483647)))) (sSeq (sSet 3 (fBin oMod (fCall oInt1 (fCons (fBin oPlus (fBin oMul (fVar 3) (fC (.int 16807))) (fBin oIx (fVar 0) (fC (.int 3)))) (fNil))) (fC (.int 2147483629)))) (sSeq (sRet (fBin oMod (fBin oDiv (fVar 3) (fC (.int 5))) (fVar 1))) (sNil)))) (sNil)) (sSeq (sSet 4 (fBin oMod (fCall oInt1 (fCons (fBin oIx (fVar 0) (fC (.int 2))) (fNil))) (fVar 1))) (sSeq (sPut (fVar 0) (fC (.int 2)) (fBin oDiv (fBin oIx (fVar 0) (fC (.int 2))) (fVar 1))) (sSeq (sRet (fVar 4)) (sNil))))))
noncomputable def m__law_pick (c : Fnm → Fn) : FS := sSeq (sRet (fBin oIx (fVar 1) (fCall (ck 2 (c .f_law_draw)) (fCons (fVar 0) (fCons (fCall oLen (fCons (fVar 1) (fNil))) (fNil)))))) (sNil)
noncomputable def m__law_worked (c : Fnm → Fn) : FS := sSeq (sIf (fT (fBin (oEq false) (fVar 0) (fC (.str "plus")))) (sSeq (sRet (fBin oMod (fCall oInt1 (fCons (fBin oPlus (fVar 1) (fVar 2)) (fNil))) (fC (.int 1000)))) (sNil)) (sNil)) (sSeq (sIf (fT (fBin (oEq false) (fVar 0) (fC (.str "minus")))) (sSeq (sRet (fBin oMod (fCall oInt1 (fCons (fBin oSub (fVar 1) (fVar 2)) (fNil))) (fC (.int 1000)))) (sNil)) (sNil)) (sSeq (sIf (fT (fBin (oEq false) (fVar 0) (fC (.str "times")))) (sSeq (sRet (fBin oMod (fCall oInt1 (fCons (fBin oMul (fVar 1) (fVar 2)) (fNil))) (fC (.int 1000)))) (sNil)) (sNil)) (sSeq (sRet (fIf (fT (fBin (oEq false) (fVar 0) (fC (.str "less")))) (fCall oInt1 (fCons (fBin oLt (fVar 1) (fVar 2)) (fNil))) (fCall oInt1 (fCons (fBin (oEq false) (fVar 1) (fVar 2)) (fNil))))) (sNil))))
noncomputable def m__law_value (c : Fnm → Fn) : FS := sSeq (sIf (fT (fBin (oEq false) (fBin oIx (fVar 0) (fC (.int 0))) (fC (.str "number")))) (sSeq (sRet (fBin oIx (fVar 0) (fC (.int 1)))) (sNil)) (sNil)) (sSeq (sIf (fT (fBin (oEq false) (fBin oIx (fVar 0) (fC (.int 0))) (fC (.str "name")))) (sSeq (sRet (fBin oIx (fVar 1) (fBin oIx (fVar 0) (fC (.int 1))))) (sNil)) (sNil)) (sSeq (sIf (fT (fBin (oEq false) (fBin oIx (fVar 0) (fC (.int 0))) (fC (.str "not")))) (sSeq (sRet (fCall oInt1 (fCons (fBin (oEq false) (fCall (ck 2 (c .f_law_value)) (fCons (fBin oIx (fVar 0) (fC (.int 1))) (fCons (fVar 1) (fNil)))) (fC (.int 0))) (fNil)))) (sNil)) (sNil)) (sSeq (sRet (fCall (ck 3 (c .f_law_worked)) (fCons (fBin oIx (fVar 0) (fC (.int 0))) (fCons (fCall (ck 2 (c .f_law_value)) (fCons (fBin oIx (fVar 0) (fC (.int 1))) (fCons (fVar 1) (fNil)))) (fCons (fCall (ck 2 (c .f_law_value)) (fCons (fBin oIx (fVar 0) (fC (.int 2))) (fCons (fVar 1) (fNil)))) (fNil)))))) (sNil))))
noncomputable def m__law_expression (c : Fnm → Fn) : FS := sSeq (sIf (gOr (fT (fBin (oEq false) (fVar 1) (fC (.int 0)))) (fT (fBin (oEq false) (fCall (ck 2 (c .f_law_draw)) (fCons (fVar 0) (fCons (fC (.int 4)) (fNil)))) (fC (.int 0))))) (sSeq (sIf (fT (fBin oLt (fCall (ck 2 (c .f_law_draw)) (fCons (fVar 0) (fCons (fC (.int 5)) (fNil)))) (fC (.int 2)))) (sSeq (sRet (fTup (fCons (fC (.str "number")) (fCons (fBin oIx (fTup (fCons (fC (.int 0)) (fCons (fC (.int 1)) (fCons (fC (.int 2)) (fCons (fC (.int 3)) (fCons (fC (.int 5)) (fCons (fC (.int 9)) (fCons (fC (.int 998)) (fCons (fC (.int 999)) (fNil)))))))))) (fCall (ck 2 (c .f_law_draw)) (fCons (fVar 0) (fCons (fC (.int 8)) (fNil))))) (fNil))))) (sNil)) (sNil)) (sSeq (sRet (fTup (fCons (fC (.str "name")) (fCons (fCall (ck 2 (c .f_law_draw)) (fCons (fVar 0) (fCons (fC (.int 4)) (fNil)))) (fNil))))) (sNil))) (sNil)) (sSeq (sSet 2 (fCall (ck 2 (c .f_law_pick)) (fCons (fVar 0) (fCons (fFrz (fLst (fCons (fC (.str "plus")) (fCons (fC (.str "minus")) (fCons (fC (.str "times")) (fCons (fC (.str "less")) (fCons (fC (.str "same")) (fCons (fC (.str "not")) (fNil))))))))) (fNil))))) (sSeq (sIf (fT (fBin (oEq false) (fVar 2) (fC (.str "not")))) (sSeq (sRet (fTup (fCons (fC (.str "not")) (fCons (fCall (ck 2 (c .f_law_expression)) (fCons (fVar 0) (fCons (fBin oSub (fVar 1) (fC (.int 1))) (fNil)))) (fNil))))) (sNil)) (sNil)) (sSeq (sRet (fTup (fCons (fVar 2) (fCons (fCall (ck 2 (c .f_law_expression)) (fCons (fVar 0) (fCons (fBin oSub (fVar 1) (fC (.int 1))) (fNil)))) (fCons (fCall (ck 2 (c .f_law_expression)) (fCons (fVar 0) (fCons (fBin oSub (fVar 1) (fC (.int 1))) (fNil)))) (fNil)))))) (sNil))))
noncomputable def m__law_store (c : Fnm → Fn) : FS := sSeq (sRet (fCall oTuple (fCons (fFrz (fLc (fCall rng1 (fCons (fC (.int 4)) (fNil))) (gN 1) (gYes) (fBin oIx (fTup (fCons (fC (.int 0)) (fCons (fC (.int 0)) (fCons (fC (.int 1)) (fCons (fC (.int 2)) (fCons (fC (.int 5)) (fCons (fC (.int 998)) (fNil)))))))) (fCall (ck 2 (c .f_law_draw)) (fCons (fVar 0) (fCons (fC (.int 6)) (fNil))))) [1])) (fNil)))) (sNil)
noncomputable def m__law_block (c : Fnm → Fn) : FS := sSeq (sRet (fCall oTuple (fCons (fFrz (fLc (fCall rng1 (fCons (fCall (ck 2 (c .f_law_draw)) (fCons (fVar 0) (fCons (fC (.int 4)) (fNil)))) (fNil))) (gN 2) (gYes) (fCall (ck 2 (c .f_law_deed)) (fCons (fVar 0) (fCons (fVar 1) (fNil)))) [2])) (fNil)))) (sNil)
noncomputable def m__law_deed (c : Fnm → Fn) : FS := sSeq (sSet 2 (fCall (ck 2 (c .f_law_draw)) (fCons (fVar 0) (fCons (fC (.int 8)) (fNil))))) (sSeq (sIf (gOr (fT (fBin (oEq false) (fVar 1) (fC (.int 0)))) (fT (fBin oLt (fVar 2) (fC (.int 4))))) (sSeq (sIf (fT (fBin (oEq false) (fBin oMod (fVar 2) (fC (.int 4))) (fC (.int 3)))) (sSeq (sRet (fTup (fCons (fC (.str "tell")) (fCons (fCall (ck 2 (c .f_law_expression)) (fCons (fVar 0) (fCons (fC (.int 2)) (fNil)))) (fNil))))) (sNil)) (sNil)) (sSeq (sRet (fTup (fCons (fC (.str "set")) (fCons (fCall (ck 2 (c .f_law_draw)) (fCons (fVar 0) (fCons (fC (.int 4)) (fNil)))) (fCons (fCall (ck 2 (c .f_law_expression)) (fCons (fVar 0) (fCons (fC (.int 2)) (fNil)))) (fNil)))))) (sNil))) (sNil)) (sSeq (sIf (fT (fBin oLt (fVar 2) (fC (.int 6)))) (sSeq (sRet (fTup (fCons (fC (.str "if")) (fCons (fCall (ck 2 (c .f_law_expression)) (fCons (fVar 0) (fCons (fC (.int 2)) (fNil)))) (fCons (fCall (ck 2 (c .f_law_block)) (fCons (fVar 0) (fCons (fBin oSub (fVar 1) (fC (.int 1))) (fNil)))) (fCons (fCall (ck 2 (c .f_law_block)) (fCons (fVar 0) (fCons (fBin oSub (fVar 1) (fC (.int 1))) (fNil)))) (fNil))))))) (sNil)) (sNil)) (sSeq (sSet 3 (fCall (ck 2 (c .f_law_draw)) (fCons (fVar 0) (fCons (fC (.int 4)) (fNil))))) (sSeq (sIf (fT (fBin oLt (fCall (ck 2 (c .f_law_draw)) (fCons (fVar 0) (fCons (fC (.int 5)) (fNil)))) (fC (.int 3)))) (sSeq (sSet 4 (fTup (fCons (fC (.str "set")) (fCons (fVar 3) (fCons (fTup (fCons (fC (.str "plus")) (fCons (fTup (fCons (fC (.str "name")) (fCons (fVar 3) (fNil)))) (fCons (fTup (fCons (fC (.str "number")) (fCons (fBin oPlus (fC (.int 1)) (fCall (ck 2 (c .f_law_draw)) (fCons (fVar 0) (fCons (fC (.int 3)) (fNil))))) (fNil)))) (fNil))))) (fNil)))))) (sSeq (sRet (fTup (fCons (fC (.str "while")) (fCons (fTup (fCons (fC (.str "less")) (fCons (fTup (fCons (fC (.str "name")) (fCons (fVar 3) (fNil)))) (fCons (fTup (fCons (fC (.str "number")) (fCons (fCall (ck 2 (c .f_law_draw)) (fCons (fVar 0) (fCons (fC (.int 12)) (fNil)))) (fNil)))) (fNil))))) (fCons (fBin oPlus (fCall (ck 2 (c .f_law_block)) (fCons (fVar 0) (fCons (fBin oSub (fVar 1) (fC (.int 1))) (fNil)))) (fTup (fCons (fVar 4) (fNil)))) (fNil)))))) (sNil))) (sNil)) (sSeq (sRet (fTup (fCons (fC (.str "while")) (fCons (fCall (ck 2 (c .f_law_expression)) (fCons (fVar 0) (fCons (fC (.int 2)) (fNil)))) (fCons (fCall (ck 2 (c .f_law_block)) (fCons (fVar 0) (fCons (fBin oSub (fVar 1) (fC (.int 1))) (fNil)))) (fNil)))))) (sNil))))))
noncomputable def b__law_program_1 (c : Fnm → Fn) : FS := sSeq (sSet 1 (fIf (fT (fBin oLe (fCall (ck 1 (c .f_law_deeds_of)) (fCons (fBin oPlus (fVar 1) (fTup (fCons (fVar 2) (fNil)))) (fNil))) (fC (.int 24)))) (fBin oPlus (fVar 1) (fTup (fCons (fVar 2) (fNil)))) (fVar 1))) (sNil)
noncomputable def m__law_program (c : Fnm → Fn) : FS := sSeq (sSet 1 (fTup (fNil))) (sSeq (sFor (fSeq (fCall (ck 2 (c .f_law_block)) (fCons (fVar 0) (fCons (fC (.int 3)) (fNil))))) (gN 2) (b__law_program_1 c)) (sSeq (sRet (fIf (fT (fBin (oEq true) (fVar 1) (fTup (fNil)))) (fVar 1) (fTup (fCons (fTup (fCons (fC (.str "tell")) (fCons (fTup (fCons (fC (.str "name")) (fCons (fCall (ck 2 (c .f_law_draw)) (fCons (fVar 0) (fCons (fC (.int 4)) (fNil)))) (fNil)))) (fNil)))) (fNil))))) (sNil)))
noncomputable def b__law_do_1 (c : Fnm → Fn) : FS := sSeq (sIf (fT (fBin (oEq true) (fBin oDGet (fVar 1) (fC (.str "word"))) (fC (.str "end")))) (sSeq (sRet (fVar 1)) (sNil)) (sNil)) (sSeq (sSet 3 (fBin oDGet (fVar 1) (fC (.str "store")))) (sSeq (sIf (fT (fBin (oEq false) (fBin oIx (fVar 2) (fC (.int 0))) (fC (.str "set")))) (sSeq (sDPut (fVar 1) (fC (.str "store")) (fBin oPlus (fBin oPlus (fSl (fVar 3) (fNo) (fPart (fBin oIx (fVar 2) (fC (.int 1))))) (fTup (fCons (fCall (ck 2 (c .f_law_value)) (fCons (fBin oIx (fVar 2) (fC (.int 2))) (fCons (fVar 3) (fNil)))) (fNil)))) (fSl (fVar 3) (fPart (fBin oPlus (fBin oIx (fVar 2) (fC (.int 1))) (fC (.int 1)))) (fNo)))) (sNil)) (sSeq (sIf (fT (fBin (oEq false) (fBin oIx (fVar 2) (fC (.int 0))) (fC (.str "tell")))) (sSeq (sDPut (fVar 1) (fC (.str "told")) (fBin oPlus (fBin oDGet (fVar 1) (fC (.str "told"))) (fTup (fCons (fCall (ck 2 (c .f_law_value)) (fCons (fBin oIx (fVar 2) (fC (.int 1))) (fCons (fVar 3) (fNil)))) (fNil))))) (sNil)) (sSeq (sIf (fT (fBin (oEq false) (fBin oIx (fVar 2) (fC (.int 0))) (fC (.str "if")))) (sSeq (sDo (fCall (ck 2 (c .f_law_do)) (fCons (fIf (fT (fBin (oEq true) (fCall (ck 2 (c .f_law_value)) (fCons (fBin oIx (fVar 2) (fC (.int 1))) (fCons (fVar 3) (fNil)))) (fC (.int 0)))) (fBin oIx (fVar 2) (fC (.int 2))) (fBin oIx (fVar 2) (fC (.int 3)))) (fCons (fVar 1) (fNil))))) (sNil)) (sSeq (sDo (fCall (ck 2 (c .f_law_loop)) (fCons (fVar 2) (fCons (fVar 1) (fNil))))) (sNil))) (sNil))) (sNil))) (sNil)))
noncomputable def m__law_do (c : Fnm → Fn) : FS := sSeq (sFor (fSeq (fVar 0)) (gN 2) (b__law_do_1 c)) (sSeq (sRet (fVar 1)) (sNil))
noncomputable def b__law_loop_1 (c : Fnm → Fn) : FS := sSeq (sIf (fT (fBin (oEq false) (fBin oDGet (fVar 1) (fC (.str "turns"))) (fC (.int 0)))) (sSeq (sDPut (fVar 1) (fC (.str "word")) (fC (.str "going"))) (sSeq (sRet (fVar 1)) (sNil))) (sNil)) (sSeq (sDPut (fVar 1) (fC (.str "turns")) (fBin oSub (fBin oDGet (fVar 1) (fC (.str "turns"))) (fC (.int 1)))) (sSeq (sSet 2 (fBin (oEq true) (fCall (ck 2 (c .f_law_value)) (fCons (fBin oIx (fVar 0) (fC (.int 1))) (fCons (fBin oDGet (fVar 1) (fC (.str "store"))) (fNil)))) (fC (.int 0)))) (sSeq (sIf (fT (fVar 2)) (sSeq (sDo (fCall (ck 2 (c .f_law_do)) (fCons (fBin oIx (fVar 0) (fC (.int 2))) (fCons (fVar 1) (fNil))))) (sSeq (sSet 2 (fBin (oEq false) (fBin oDGet (fVar 1) (fC (.str "word"))) (fC (.str "end")))) (sNil))) (sNil)) (sNil))))
noncomputable def m__law_loop (c : Fnm → Fn) : FS := sSeq (sSet 2 (fC (.bl true))) (sSeq (sWhile (fT (fVar 2)) (b__law_loop_1 c)) (sSeq (sRet (fVar 1)) (sNil)))
noncomputable def m__law_run (c : Fnm → Fn) : FS := sSeq (sSet 3 (fDisp [.inr "word", .inr "store", .inr "told", .inr "turns"] (fCons (fC (.str "end")) (fCons (fVar 1) (fCons (fTup (fNil)) (fCons (fVar 2) (fNil))))))) (sSeq (sDo (fCall (ck 2 (c .f_law_do)) (fCons (fVar 0) (fCons (fVar 3) (fNil))))) (sSeq (sRet (fIf (fT (fBin (oEq false) (fBin oDGet (fVar 3) (fC (.str "word"))) (fC (.str "end")))) (fTup (fCons (fC (.str "end")) (fCons (fBin oDGet (fVar 3) (fC (.str "store"))) (fCons (fBin oDGet (fVar 3) (fC (.str "told"))) (fNil))))) (fTup (fCons (fC (.str "going")) (fCons (fBin oDGet (fVar 3) (fC (.str "told"))) (fNil)))))) (sNil)))
noncomputable def b__law_deeds_of_1 (c : Fnm → Fn) : FS := sSeq (sIf (fT (fBin (oIn false) (fBin oIx (fVar 2) (fC (.int 0))) (fTup (fCons (fC (.str "if")) (fCons (fC (.str "while")) (fNil)))))) (sSeq (sSet 1 (fBin oPlus (fVar 1) (fCall oSum (fCons (fFrz (fLc (fSeq (fSl (fVar 2) (fPart (fC (.int 2))) (fNo))) (gN 3) (gYes) (fCall (ck 1 (c .f_law_deeds_of)) (fCons (fVar 3) (fNil))) [3])) (fNil))))) (sNil)) (sNil)) (sNil)
noncomputable def m__law_deeds_of (c : Fnm → Fn) : FS := sSeq (sSet 1 (fCall oLen (fCons (fVar 0) (fNil)))) (sSeq (sFor (fSeq (fVar 0)) (gN 2) (b__law_deeds_of_1 c)) (sSeq (sRet (fVar 1)) (sNil)))
noncomputable def b_law_1 (c : Fnm → Fn) : FS := sSeq (sIf (gNot (fT (fCall (ck 2 (c .f_law_same)) (fCons (fCall (ck 4 (c .f_run_way)) (fCons (fVar 13) (fCons (fVar 8) (fCons (fVar 9) (fCons (fVar 11) (fNil)))))) (fCons (fVar 12) (fNil)))))) (sSeq (sRet (fC (.bl false))) (sNil)) (sNil)) (sNil)
noncomputable def m_law (c : Fnm → Fn) : FS := sSeq (sSet 1 (fCall (ck 1 (c .f_law_pool)) (fCons (fVar 0) (fNil)))) (sSeq (sPar3 2 3 4 (fCons (fCall (ck 1 (c .f_law_program)) (fCons (fVar 1) (fNil))) (fCons (fCall (ck 1 (c .f_law_store)) (fCons (fVar 1) (fNil))) (fCons (fCall (ck 2 (c .f_law_draw)) (fCons (fVar 1) (fCons (fC (.int 10)) (fNil)))) (fNil))))) (sSeq (sSet 5 (fCall (ck 3 (c .f_trace)) (fCons (fVar 2) (fCons (fVar 3) (fCons (fVar 4) (fNil)))))) (sSeq (sSet 6 (fCall (ck 3 (c .f_law_run)) (fCons (fVar 2) (fCons (fVar 3) (fCons (fVar 4) (fNil)))))) (sSeq (sIf (fT (fIsN true (fCall (ck 3 (c .f_fault_steps)) (fCons (fVar 2) (fCons (fVar 3) (fCons (fCall oTuple (fCons (fVar 5) (fNil))) (fNil))))))) (sSeq (sRet (fC (.bl false))) (sNil)) (sNil)) (sSeq (sSet 7 (fCall (ck 2 (c .f_law_draw)) (fCons (fVar 1) (fCons (fCall oLen (fCons (fVar 5) (fNil))) (fNil))))) (sSeq (sAsg (gT [8, 9, 10]) (fBin oIx (fVar 5) (fVar 7))) (sSeq (sSet 11 (fBin oSub (fVar 4) (fCall oLen (fCons (fFrz (fLc (fSeq (fSl (fVar 5) (fNo) (fPart (fVar 7)))) (gN 16) (fT (fCall (ck 1 (c .f_takes_turn_steps)) (fCons (fVar 16) (fNil)))) (fVar 16) [16])) (fNil))))) (sSeq (sSet 12 (fIf (fT (fBin (oEq false) (fBin oIx (fVar 6) (fC (.int 0))) (fC (.str "going")))) (fTup (fCons (fC (.str "going")) (fCons (fSl (fBin oIx (fVar 6) (fC (.int 1))) (fPart (fCall oLen (fCons (fVar 10) (fNil)))) (fNo)) (fNil)))) (fTup (fCons (fC (.str "end")) (fCons (fBin oIx (fVar 6) (fC (.int 1))) (fCons (fSl (fBin oIx (fVar 6) (fC (.int 2))) (fPart (fCall oLen (fCons (fVar 10) (fNil)))) (fNo)) (fNil))))))) (sSeq (sFor (fSeq (fCall (ck 0 (c .f_ways)) fNil)) (gN 13) (b_law_1 c)) (sSeq (sSet 14 (fFrz (fLc (fSeq (fCall (ck 3 (c .f_trace)) (fCons (fVar 8) (fCons (fVar 9) (fCons (fVar 11) (fNil)))))) (gT [21, 22, 23]) (gYes) (fTup (fCons (fVar 21) (fCons (fVar 22) (fCons (fBin oPlus (fVar 10) (fVar 23)) (fNil))))) [21, 22, 23]))) (sSeq (sIf (gNot (fT (fCall (ck 2 (c .f_law_same)) (fCons (fVar 14) (fCons (fSl (fVar 5) (fPart (fVar 7)) (fNo)) (fNil)))))) (sSeq (sRet (fC (.bl false))) (sNil)) (sNil)) (sSeq (sSet 15 (fCall (oMake "Debugger" 3 (c .f_Debugger___init__)) (fCons (fVar 2) (fCons (fVar 3) (fNil))))) (sSeq (sDo (fMeth "Debugger" "forth" 2 (c .f_Debugger_forth) (fVar 15) (fCons (fVar 7) (fNil)))) (sSeq (sIf (gNot (fT (fCall (ck 2 (c .f_law_same)) (fCons (fFrz (fLst (fCons (fMeth "Debugger" "state" 1 (c .f_Debugger_state) (fVar 15) fNil) (fCons (fMeth "Debugger" "turns" 1 (c .f_Debugger_turns) (fVar 15) fNil) (fCons (fCall (oLenO "Debugger" (c .f_Debugger___len__)) (fCons (fVar 15) (fNil))) (fNil)))))) (fCons (fFrz (fLst (fCons (fBin oIx (fVar 5) (fVar 7)) (fCons (fBin oSub (fVar 4) (fVar 11)) (fCons (fVar 7) (fNil)))))) (fNil)))))) (sSeq (sRet (fC (.bl false))) (sNil)) (sNil)) (sSeq (sAsg (gT [16, 17, 18]) (fCall (ck 3 (c .f_logged)) (fCons (fVar 2) (fCons (fVar 3) (fCons (fVar 4) (fNil)))))) (sSeq (sSet 19 (fCall oLen (fCons (fFrz (fLc (fSeq (fSl (fVar 5) (fNo) (fPart (fNeg (fC (.int 1)))))) (gN 21) (fT (fCall (ck 1 (c .f_takes_turn_steps)) (fCons (fVar 21) (fNil)))) (fVar 21) [21])) (fNil)))) (sSeq (sSet 20 (fCall oLen (fCons (fFrz (fLc (fSeq (fSl (fVar 5) (fNo) (fPart (fVar 7)))) (gN 21) (fT (fBin (oEq false) (fBin oIx (fBin oIx (fBin oIx (fVar 21) (fC (.int 0))) (fC (.int 0))) (fC (.int 0))) (fC (.str "set")))) (fVar 21) [21])) (fNil)))) (sSeq (sIf (gOr (gNot (fT (fCall (ck 2 (c .f_law_same)) (fCons (fFrz (fLst (fCons (fVar 16) (fCons (fVar 18) (fNil))))) (fCons (fFrz (fLst (fCons (fBin oIx (fVar 5) (fNeg (fC (.int 1)))) (fCons (fBin oSub (fVar 4) (fVar 19)) (fNil))))) (fNil)))))) (gAnd (fT (fIsN true (fCall (ck 1 (c .f_step_steps)) (fCons (fBin oIx (fVar 5) (fNeg (fC (.int 1)))) (fNil))))) (gNot (fT (fCall (ck 1 (c .f_takes_turn_steps)) (fCons (fBin oIx (fVar 5) (fNeg (fC (.int 1)))) (fNil))))))) (sSeq (sRet (fC (.bl false))) (sNil)) (sNil)) (sSeq (sRet (fCall (ck 2 (c .f_law_same)) (fCons (fFrz (fLst (fCons (fCall (ck 3 (c .f_taken_back)) (fCons (fBin oIx (fVar 16) (fC (.int 1))) (fCons (fVar 17) (fCons (fBin oSub (fCall oLen (fCons (fVar 17) (fNil))) (fVar 20)) (fNil))))) (fCons (fCall (ck 3 (c .f_taken_back)) (fCons (fBin oIx (fVar 16) (fC (.int 1))) (fCons (fVar 17) (fCons (fCall oLen (fCons (fVar 17) (fNil))) (fNil))))) (fNil))))) (fCons (fFrz (fLst (fCons (fVar 9) (fCons (fVar 3) (fNil))))) (fNil))))) (sNil))))))))))))))))))))
noncomputable def bodies (c : Fnm → Fn) : Fnm → Fn
  | .f_is_whole => fnM 1 1 true (m_is_whole c)
  | .f_is_from => fnM 3 3 true (m_is_from c)
  | .f_is_store => fnM 1 2 true (m_is_store c)
  | .f_is_tagged => fnM 3 3 true (m_is_tagged c)
  | .f_with_value => fnM 3 3 true (m_with_value c)
  | .f_has_shape => fnM 3 3 true (m_has_shape c)
  | .f_is_expression => fnM 1 1 true (m_is_expression c)
  | .f_worked => fnM 3 3 true (m_worked c)
  | .f_value_of => fnM 2 2 true (m_value_of c)
  | .f_is_deed => fnM 2 2 true (m_is_deed c)
  | .f_is_block => fnM 2 3 true (m_is_block c)
  | .f_fault_trees => fnM 1 1 true (m_fault_trees c)
  | .f_Run___init__ => fnM 3 3 true (m_Run___init__ c)
  | .f_Run_do_block => fnM 2 3 true (m_Run_do_block c)
  | .f_Run_do => fnM 2 2 true (m_Run_do c)
  | .f_run_trees => fnM 3 5 true (m_run_trees c)
  | .f_is_state => fnM 1 2 true (m_is_state c)
  | .f_is_told => fnM 1 1 true (m_is_told c)
  | .f_takes_turn_steps => fnM 1 1 true (m_takes_turn_steps c)
  | .f_step_steps => fnM 1 7 true (m_step_steps c)
  | .f_trace => fnM 3 5 true (m_trace c)
  | .f_run_steps => fnM 3 6 true (m_run_steps c)
  | .f_fault_steps => fnM 3 5 true (m_fault_steps c)
  | .f_Debugger___init__ => fnM 3 3 false (m_Debugger___init__ c)
  | .f_Debugger___len__ => fnM 1 1 true (m_Debugger___len__ c)
  | .f_Debugger_state => fnM 1 1 true (m_Debugger_state c)
  | .f_Debugger_turns => fnM 1 2 true (m_Debugger_turns c)
  | .f_Debugger_forth => fnM 2 5 true (m_Debugger_forth c)
  | .f_logged => fnM 3 6 true (m_logged c)
  | .f_is_log => fnM 1 4 true (m_is_log c)
  | .f_taken_back => fnM 3 5 true (m_taken_back c)
  | .f_start => fnM 2 2 true (m_start c)
  | .f_is_done => fnM 1 1 true (m_is_done c)
  | .f_takes_turn_frames => fnM 1 1 true (m_takes_turn_frames c)
  | .f_deed_state => fnM 4 6 true (m_deed_state c)
  | .f_eval_state => fnM 4 4 true (m_eval_state c)
  | .f_give_state => fnM 4 7 true (m_give_state c)
  | .f_step_frames => fnM 1 5 true (m_step_frames c)
  | .f_run_frames => fnM 3 4 true (m_run_frames c)
  | .f_ways => fnM 0 0 true (m_ways c)
  | .f_run_way => fnM 4 4 true (m_run_way c)
  | .f_law_same => fnM 2 3 true (m__law_same c)
  | .f_law_pool => fnM 1 3 false (m__law_pool c)
  | .f_law_spread => fnM 1 4 true (m__law_spread c)
  | .f_law_draw => fnM 2 5 true (m__law_draw c)
  | .f_law_pick => fnM 2 2 true (m__law_pick c)
  | .f_law_worked => fnM 3 3 true (m__law_worked c)
  | .f_law_value => fnM 2 2 true (m__law_value c)
  | .f_law_expression => fnM 2 3 true (m__law_expression c)
  | .f_law_store => fnM 1 2 true (m__law_store c)
  | .f_law_block => fnM 2 3 true (m__law_block c)
  | .f_law_deed => fnM 2 5 true (m__law_deed c)
  | .f_law_program => fnM 1 3 true (m__law_program c)
  | .f_law_do => fnM 2 4 true (m__law_do c)
  | .f_law_loop => fnM 2 3 true (m__law_loop c)
  | .f_law_run => fnM 3 4 true (m__law_run c)
  | .f_law_deeds_of => fnM 1 4 true (m__law_deeds_of c)
  | .f_law => fnM 1 24 true (m_law c)
noncomputable def prog : Nat → Fnm → Fn
  | 0, _ => fun _ _ => none
  | k + 1, f => bodies (prog k) f
def topS (i : Nat) : Stmt := PySem.Challenge.pw_everymeaning_k73_whole_states_gone_on_fr.main.body.getD i (.Pass ⟨0, 0, 0, 0⟩)
/-- what the walk needs of the top -/
structure Txt (G : Gx) (w : World) (mg : Str → Option Value) : Prop where
  z_all : mg "all" = none
  z_bool : mg "bool" = none
  z_int : mg "int" = none
  z_isinstance : mg "isinstance" = none
  z_len : mg "len" = none
  z_list : mg "list" = none
  z_range : mg "range" = none
  z_sorted : mg "sorted" = none
  z_str : mg "str" = none
  z_sum : mg "sum" = none
  z_tuple : mg "tuple" = none
  g_DEEPEST_expressions : ∃ t, mg "DEEPEST_expressions" = some (.int 60 t)
  g_DEEPEST_steps : ∃ t, mg "DEEPEST_steps" = some (.int 31 t)
  g_DEEPEST_trees : ∃ t, mg "DEEPEST_trees" = some (.int 30 t)
  g_FORM : ∃ a, mg "FORM" = some (.ref a) ∧ ∀ H, Rep G H k_FORM (.ref a)
  g_MOST_basics : ∃ t, mg "MOST_basics" = some (.int 100000 t)
  g_MOST_debugger : ∃ t, mg "MOST_debugger" = some (.int 100000 t)
  g_NAMES : ∃ t, mg "NAMES" = some (.int 4 t)
  g_NEXT : ∃ a, mg "NEXT" = some (.ref a) ∧ ∀ H, Rep G H k_NEXT (.ref a)
  g_PAIRS : ∃ a, mg "PAIRS" = some (.ref a) ∧ ∀ H, Rep G H k_PAIRS (.ref a)
  g_SIZE : ∃ t, mg "SIZE" = some (.int 1000 t)
  m_WAYS : ∃ d, mg "WAYS" = some (.ref d) ∧ (∃ des dn, KDict G.K w d des dn) ∧ (∀ z r, tk_WAYS.lookup z = some r → ∃ o, PySem.W.nsIn G.K d z = some o ∧ o.isSome = r) ∧ ∀ z n, tn_WAYS.lookup z = some n → ∃ f, KDct G.K w d z (.ref f) ∧ mg (nm n) = some (.ref f)
  l_WAYS : ∀ d, mg "WAYS" = some (.ref d) → He.dicW G.K d = some (He.keysIn w.params ["frames", "steps", "trees"])
  c_Debugger : Cls G.K (G.cA "Debugger")
  c_Run : Cls G.K (G.cA "Run")
  n_Debugger__states : NoAttr G.K (G.cA "Debugger") "_states"
  n_Run_store : NoAttr G.K (G.cA "Run") "store"
  n_Run_told : NoAttr G.K (G.cA "Run") "told"
  n_Run_turns : NoAttr G.K (G.cA "Run") "turns"
  mk_Debugger : L2.Mk G.K (G.cA "Debugger") (He.ma G.K (G.cA "Debugger") "__init__")
  gm_Debugger : mg "Debugger" = some (.ref (G.cA "Debugger"))
  mk_Run : L2.Mk G.K (G.cA "Run") (He.ma G.K (G.cA "Run") "__init__")
  gm_Run : mg "Run" = some (.ref (G.cA "Run"))
section
variable {G : Gx} {w : World} {mg : Str → Option Value} {X : Cx} {E : XK} {P : Program} {base : Heap} {k : Nat} {c : Fnm → Fn}
abbrev HasAll (P : Program) (w : World) (G : Gx) (mg : Str → Option Value) (base : Heap) (k : Nat) (c : Fnm → Fn) : Prop := ∀ f, HasAt P w G mg base (2 * k) (loc f) (ar f) (c f)
theorem Txt.c_DEEPEST_expressions (T : Txt G w mg) (hg : Gl X "DEEPEST_expressions") {p : Pos} (hm : X.mg = mg := by rfl) : QE X G E (.Name "DEEPEST_expressions" p) (fC k_DEEPEST_expressions) := by obtain ⟨t, h⟩ := T.g_DEEPEST_expressions; exact qe_glob (v := .int 60) (u := .int 60 t) hg (by rw [hm]; exact h) ⟨t, rfl⟩ fun _ => rfl
theorem Txt.c_DEEPEST_steps (T : Txt G w mg) (hg : Gl X "DEEPEST_steps") {p : Pos} (hm : X.mg = mg := by rfl) : QE X G E (.Name "DEEPEST_steps" p) (fC k_DEEPEST_steps) := by obtain ⟨t, h⟩ := T.g_DEEPEST_steps; exact qe_glob (v := .int 31) (u := .int 31 t) hg (by rw [hm]; exact h) ⟨t, rfl⟩ fun _ => rfl
theorem Txt.c_DEEPEST_trees (T : Txt G w mg) (hg : Gl X "DEEPEST_trees") {p : Pos} (hm : X.mg = mg := by rfl) : QE X G E (.Name "DEEPEST_trees" p) (fC k_DEEPEST_trees) := by obtain ⟨t, h⟩ := T.g_DEEPEST_trees; exact qe_glob (v := .int 30) (u := .int 30 t) hg (by rw [hm]; exact h) ⟨t, rfl⟩ fun _ => rfl
theorem Txt.c_FORM (T : Txt G w mg) (hg : Gl X "FORM") {p : Pos} (hm : X.mg = mg := by rfl) : QE X G E (.Name "FORM" p) (fC k_FORM) := by obtain ⟨a, h, r⟩ := T.g_FORM; exact qe_glob (v := .ref a) (u := .ref a) hg (by rw [hm]; exact h) rfl r
theorem Txt.c_MOST_basics (T : Txt G w mg) (hg : Gl X "MOST_basics") {p : Pos} (hm : X.mg = mg := by rfl) : QE X G E (.Name "MOST_basics" p) (fC k_MOST_basics) := by obtain ⟨t, h⟩ := T.g_MOST_basics; exact qe_glob (v := .int 100000) (u := .int 100000 t) hg (by rw [hm]; exact h) ⟨t, rfl⟩ fun _ => rfl
theorem Txt.c_MOST_debugger (T : Txt G w mg) (hg : Gl X "MOST_debugger") {p : Pos} (hm : X.mg = mg := by rfl) : QE X G E (.Name "MOST_debugger" p) (fC k_MOST_debugger) := by obtain ⟨t, h⟩ := T.g_MOST_debugger; exact qe_glob (v := .int 100000) (u := .int 100000 t) hg (by rw [hm]; exact h) ⟨t, rfl⟩ fun _ => rfl
theorem Txt.c_NAMES (T : Txt G w mg) (hg : Gl X "NAMES") {p : Pos} (hm : X.mg = mg := by rfl) : QE X G E (.Name "NAMES" p) (fC k_NAMES) := by obtain ⟨t, h⟩ := T.g_NAMES; exact qe_glob (v := .int 4) (u := .int 4 t) hg (by rw [hm]; exact h) ⟨t, rfl⟩ fun _ => rfl
theorem Txt.c_NEXT (T : Txt G w mg) (hg : Gl X "NEXT") {p : Pos} (hm : X.mg = mg := by rfl) : QE X G E (.Name "NEXT" p) (fC k_NEXT) := by obtain ⟨a, h, r⟩ := T.g_NEXT; exact qe_glob (v := .ref a) (u := .ref a) hg (by rw [hm]; exact h) rfl r
theorem Txt.c_PAIRS (T : Txt G w mg) (hg : Gl X "PAIRS") {p : Pos} (hm : X.mg = mg := by rfl) : QE X G E (.Name "PAIRS" p) (fC k_PAIRS) := by obtain ⟨a, h, r⟩ := T.g_PAIRS; exact qe_glob (v := .ref a) (u := .ref a) hg (by rw [hm]; exact h) rfl r
theorem Txt.c_SIZE (T : Txt G w mg) (hg : Gl X "SIZE") {p : Pos} (hm : X.mg = mg := by rfl) : QE X G E (.Name "SIZE" p) (fC k_SIZE) := by obtain ⟨t, h⟩ := T.g_SIZE; exact qe_glob (v := .int 1000) (u := .int 1000 t) hg (by rw [hm]; exact h) ⟨t, rfl⟩ fun _ => rfl
noncomputable def Txt.d_WAYS (T : Txt G w mg) : Addr := T.m_WAYS.choose
theorem Txt.v_WAYS (T : Txt G w mg) (hg : Gl X "WAYS") {p : Pos} (hm : X.mg = mg := by rfl) : PE X (.Name "WAYS" p) (tC (.ref T.d_WAYS)) := pe_glob hg (by rw [hm]; exact T.m_WAYS.choose_spec.1) rfl
theorem Txt.kd_WAYS (T : Txt G w mg) (hK : X.K = G.K := by rfl) (hw : X.w = w := by rfl) : ∃ des dn, KDict X.K X.w T.d_WAYS des dn := by rw [hK, hw]; exact T.m_WAYS.choose_spec.2.1
theorem Txt.in_WAYS (T : Txt G w mg) (hK : X.K = G.K := by rfl) : ∀ z r, tk_WAYS.lookup z = some r → ∃ o, PySem.W.nsIn X.K T.d_WAYS z = some o ∧ o.isSome = r := by rw [hK]; exact T.m_WAYS.choose_spec.2.2.1
theorem Txt.o_WAYS (T : Txt G w mg) (hK : X.K = G.K := by rfl) (hw : X.w = w := by rfl) : He.dicW X.K T.d_WAYS = some (He.keysIn X.w.params ["frames", "steps", "trees"]) := by rw [hK, hw]; exact T.l_WAYS _ T.m_WAYS.choose_spec.1
theorem st_WAYS : ∀ ys : List Str, ys.Perm (["frames", "steps", "trees"] : List Str) → PyProof.Rows.sortedS ys = true → ys = (["frames", "steps", "trees"] : List Str) := fun ys h1 h2 => sort_only (by decide) (by decide) h1 h2
theorem Txt.tab_WAYS (T : Txt G w mg) (hs : HasAll P w G mg base k c) : ∀ z F, (Y.tab_WAYS c).lookup z = some F → ∃ f fd ps, KDct G.K w T.d_WAYS z (.ref f) ∧ PySem.W.keepIn G.K (.ref f) = true ∧ Binds G.K fd ps [] ∧ FnOk P w G.K mg base (L2.CX P w) (2 * k) f fd ps (spF G 3 F) := fun z F h => by
  obtain ⟨n, h1, rfl⟩ := lookup_map h
  obtain ⟨f, h2, h3⟩ := T.m_WAYS.choose_spec.2.2.2 z n h1
  have hl : loc n = .inl (nm n) := tab_P (P := fun n => loc n = .inl (nm n)) (l := tn_WAYS) (by decide) h1
  have hsn := hs n
  rw [hl] at hsn
  obtain ⟨f', fd, ps, k1, k2, k3, k4⟩ := hsn
  rw [h3] at k1
  cases k1
  have ha : ar n = 3 := tab_ar (l := tn_WAYS) (by decide) h1
  rw [ha] at k4
  exact ⟨f, fd, ps, h2, k2, k3, k4⟩
end
abbrev s_is_whole : Stmt := topS 6
theorem sc_is_whole : FnScope ["value"] ["value"] (defScope s_is_whole) := ⟨rfl, rfl, rfl, by decide +kernel, rfl, by decide +kernel, by decide +kernel⟩
abbrev s_is_from : Stmt := topS 7
theorem sc_is_from : FnScope ["value", "low", "high"] ["value", "low", "high"] (defScope s_is_from) := ⟨rfl, rfl, rfl, by decide +kernel, rfl, by decide +kernel, by decide +kernel⟩
abbrev s_is_store : Stmt := topS 8
theorem sc_is_store : FnScope ["value", "item"] ["value"] (defScope s_is_store) := ⟨rfl, rfl, rfl, by decide +kernel, rfl, by decide +kernel, by decide +kernel⟩
abbrev s_is_tagged : Stmt := topS 9
theorem sc_is_tagged : FnScope ["value", "word", "size"] ["value", "word", "size"] (defScope s_is_tagged) := ⟨rfl, rfl, rfl, by decide +kernel, rfl, by decide +kernel, by decide +kernel⟩
abbrev s_with_value : Stmt := topS 10
theorem sc_with_value : FnScope ["store", "name", "value"] ["store", "name", "value"] (defScope s_with_value) := ⟨rfl, rfl, rfl, by decide +kernel, rfl, by decide +kernel, by decide +kernel⟩
abbrev s_has_shape : Stmt := topS 14
theorem sc_has_shape : FnScope ["value", "names", "deep"] ["value", "names", "deep"] (defScope s_has_shape) := ⟨rfl, rfl, rfl, by decide +kernel, rfl, by decide +kernel, by decide +kernel⟩
abbrev s_is_expression : Stmt := topS 15
theorem sc_is_expression : FnScope ["value"] ["value"] (defScope s_is_expression) := ⟨rfl, rfl, rfl, by decide +kernel, rfl, by decide +kernel, by decide +kernel⟩
abbrev s_worked : Stmt := topS 16
theorem sc_worked : FnScope ["word", "one", "two"] ["word", "one", "two"] (defScope s_worked) := ⟨rfl, rfl, rfl, by decide +kernel, rfl, by decide +kernel, by decide +kernel⟩
abbrev s_value_of : Stmt := topS 17
theorem sc_value_of : FnScope ["expression", "store"] ["expression", "store"] (defScope s_value_of) := ⟨rfl, rfl, rfl, by decide +kernel, rfl, by decide +kernel, by decide +kernel⟩
abbrev s_is_deed : Stmt := topS 20
theorem sc_is_deed : FnScope ["value", "deep"] ["value", "deep"] (defScope s_is_deed) := ⟨rfl, rfl, rfl, by decide +kernel, rfl, by decide +kernel, by decide +kernel⟩
abbrev s_is_block : Stmt := topS 21
theorem sc_is_block : FnScope ["value", "deep", "deed"] ["value", "deep"] (defScope s_is_block) := ⟨rfl, rfl, rfl, by decide +kernel, rfl, by decide +kernel, by decide +kernel⟩
abbrev s_fault_trees : Stmt := topS 22
theorem sc_fault_trees : FnScope ["value"] ["value"] (defScope s_fault_trees) := ⟨rfl, rfl, rfl, by decide +kernel, rfl, by decide +kernel, by decide +kernel⟩
abbrev s_Run___init__ : Stmt := (clsBody (topS 24)).getD 0 (.Pass ⟨0, 0, 0, 0⟩)
theorem sc_Run___init__ : FnScope ["self", "store", "turns"] ["self", "store", "turns"] (defScope s_Run___init__) := ⟨rfl, rfl, rfl, by decide +kernel, rfl, by decide +kernel, by decide +kernel⟩
abbrev s_Run_do_block : Stmt := (clsBody (topS 24)).getD 1 (.Pass ⟨0, 0, 0, 0⟩)
theorem sc_Run_do_block : FnScope ["self", "block", "deed"] ["self", "block"] (defScope s_Run_do_block) := ⟨rfl, rfl, rfl, by decide +kernel, rfl, by decide +kernel, by decide +kernel⟩
abbrev s_Run_do : Stmt := (clsBody (topS 24)).getD 2 (.Pass ⟨0, 0, 0, 0⟩)
theorem sc_Run_do : FnScope ["self", "deed"] ["self", "deed"] (defScope s_Run_do) := ⟨rfl, rfl, rfl, by decide +kernel, rfl, by decide +kernel, by decide +kernel⟩
abbrev s_run_trees : Stmt := topS 25
theorem sc_run_trees : FnScope ["value", "store", "turns", "here", "done"] ["value", "store", "turns"] (defScope s_run_trees) := ⟨rfl, rfl, rfl, by decide +kernel, rfl, by decide +kernel, by decide +kernel⟩
abbrev s_is_state : Stmt := topS 29
theorem sc_is_state : FnScope ["value", "item"] ["value"] (defScope s_is_state) := ⟨rfl, rfl, rfl, by decide +kernel, rfl, by decide +kernel, by decide +kernel⟩
abbrev s_is_told : Stmt := topS 30
theorem sc_is_told : FnScope ["value"] ["value"] (defScope s_is_told) := ⟨rfl, rfl, rfl, by decide +kernel, rfl, by decide +kernel, by decide +kernel⟩
abbrev s_takes_turn_steps : Stmt := topS 31
theorem sc_takes_turn_steps : FnScope ["state"] ["state"] (defScope s_takes_turn_steps) := ⟨rfl, rfl, rfl, by decide +kernel, rfl, by decide +kernel, by decide +kernel⟩
abbrev s_step_steps : Stmt := topS 33
theorem sc_step_steps : FnScope ["state", "block", "store", "told", "deed", "rest", "value"] ["state"] (defScope s_step_steps) := ⟨rfl, rfl, rfl, by decide +kernel, rfl, by decide +kernel, by decide +kernel⟩
abbrev s_trace : Stmt := topS 35
theorem sc_trace : FnScope ["program", "store", "turns", "found", "after"] ["program", "store", "turns"] (defScope s_trace) := ⟨rfl, rfl, rfl, by decide +kernel, rfl, by decide +kernel, by decide +kernel⟩
abbrev s_run_steps : Stmt := topS 36
theorem sc_run_steps : FnScope ["program", "store", "turns", "block", "last", "told"] ["program", "store", "turns"] (defScope s_run_steps) := ⟨rfl, rfl, rfl, by decide +kernel, rfl, by decide +kernel, by decide +kernel⟩
abbrev s_fault_steps : Stmt := topS 38
theorem sc_fault_steps : FnScope ["program", "store", "value", "k", "state"] ["program", "store", "value"] (defScope s_fault_steps) := ⟨rfl, rfl, rfl, by decide +kernel, rfl, by decide +kernel, by decide +kernel⟩
abbrev s_Debugger___init__ : Stmt := (clsBody (topS 45)).getD 0 (.Pass ⟨0, 0, 0, 0⟩)
theorem sc_Debugger___init__ : FnScope ["self", "program", "store"] ["self", "program", "store"] (defScope s_Debugger___init__) := ⟨rfl, rfl, rfl, by decide +kernel, rfl, by decide +kernel, by decide +kernel⟩
abbrev s_Debugger___len__ : Stmt := (clsBody (topS 45)).getD 1 (.Pass ⟨0, 0, 0, 0⟩)
theorem sc_Debugger___len__ : FnScope ["self"] ["self"] (defScope s_Debugger___len__) := ⟨rfl, rfl, rfl, by decide +kernel, rfl, by decide +kernel, by decide +kernel⟩
abbrev s_Debugger_state : Stmt := (clsBody (topS 45)).getD 2 (.Pass ⟨0, 0, 0, 0⟩)
theorem sc_Debugger_state : FnScope ["self"] ["self"] (defScope s_Debugger_state) := ⟨rfl, rfl, rfl, by decide +kernel, rfl, by decide +kernel, by decide +kernel⟩
abbrev s_Debugger_turns : Stmt := (clsBody (topS 45)).getD 7 (.Pass ⟨0, 0, 0, 0⟩)
theorem sc_Debugger_turns : FnScope ["self", "state"] ["self"] (defScope s_Debugger_turns) := ⟨rfl, rfl, rfl, by decide +kernel, rfl, by decide +kernel, by decide +kernel⟩
abbrev s_Debugger_forth : Stmt := (clsBody (topS 45)).getD 8 (.Pass ⟨0, 0, 0, 0⟩)
theorem sc_Debugger_forth : FnScope ["self", "many", "found", "state", "_"] ["self", "many"] (defScope s_Debugger_forth) := ⟨rfl, rfl, rfl, by decide +kernel, rfl, by decide +kernel, by decide +kernel⟩
abbrev s_logged : Stmt := topS 47
theorem sc_logged : FnScope ["program", "store", "turns", "state", "log", "deed"] ["program", "store", "turns"] (defScope s_logged) := ⟨rfl, rfl, rfl, by decide +kernel, rfl, by decide +kernel, by decide +kernel⟩
abbrev s_is_log : Stmt := topS 48
theorem sc_is_log : FnScope ["value", "part", "name", "old"] ["value"] (defScope s_is_log) := ⟨rfl, rfl, rfl, by decide +kernel, rfl, by decide +kernel, by decide +kernel⟩
abbrev s_taken_back : Stmt := topS 49
theorem sc_taken_back : FnScope ["store", "log", "many", "name", "old"] ["store", "log", "many"] (defScope s_taken_back) := ⟨rfl, rfl, rfl, by decide +kernel, rfl, by decide +kernel, by decide +kernel⟩
abbrev s_start : Stmt := topS 52
theorem sc_start : FnScope ["program", "store"] ["program", "store"] (defScope s_start) := ⟨rfl, rfl, rfl, by decide +kernel, rfl, by decide +kernel, by decide +kernel⟩
abbrev s_is_done : Stmt := topS 53
theorem sc_is_done : FnScope ["state"] ["state"] (defScope s_is_done) := ⟨rfl, rfl, rfl, by decide +kernel, rfl, by decide +kernel, by decide +kernel⟩
abbrev s_takes_turn_frames : Stmt := topS 54
theorem sc_takes_turn_frames : FnScope ["state"] ["state"] (defScope s_takes_turn_frames) := ⟨rfl, rfl, rfl, by decide +kernel, rfl, by decide +kernel, by decide +kernel⟩
abbrev s_deed_state : Stmt := topS 56
theorem sc_deed_state : FnScope ["block", "frames", "store", "told", "deed", "rest"] ["block", "frames", "store", "told"] (defScope s_deed_state) := ⟨rfl, rfl, rfl, by decide +kernel, rfl, by decide +kernel, by decide +kernel⟩
abbrev s_eval_state : Stmt := topS 57
theorem sc_eval_state : FnScope ["expression", "frames", "store", "told"] ["expression", "frames", "store", "told"] (defScope s_eval_state) := ⟨rfl, rfl, rfl, by decide +kernel, rfl, by decide +kernel, by decide +kernel⟩
abbrev s_give_state : Stmt := topS 58
theorem sc_give_state : FnScope ["value", "frames", "store", "told", "frame", "rest", "again"] ["value", "frames", "store", "told"] (defScope s_give_state) := ⟨rfl, rfl, rfl, by decide +kernel, rfl, by decide +kernel, by decide +kernel⟩
abbrev s_step_frames : Stmt := topS 59
theorem sc_step_frames : FnScope ["state", "now", "frames", "store", "told"] ["state"] (defScope s_step_frames) := ⟨rfl, rfl, rfl, by decide +kernel, rfl, by decide +kernel, by decide +kernel⟩
abbrev s_run_frames : Stmt := topS 61
theorem sc_run_frames : FnScope ["program", "store", "turns", "state"] ["program", "store", "turns"] (defScope s_run_frames) := ⟨rfl, rfl, rfl, by decide +kernel, rfl, by decide +kernel, by decide +kernel⟩
abbrev s_ways : Stmt := topS 65
theorem sc_ways : FnScope [] [] (defScope s_ways) := ⟨rfl, rfl, rfl, by decide +kernel, rfl, by decide +kernel, by decide +kernel⟩
abbrev s_run_way : Stmt := topS 66
theorem sc_run_way : FnScope ["way", "value", "store", "turns"] ["way", "value", "store", "turns"] (defScope s_run_way) := ⟨rfl, rfl, rfl, by decide +kernel, rfl, by decide +kernel, by decide +kernel⟩
abbrev s__law_same : Stmt := topS 68
theorem sc__law_same : FnScope ["actual", "due", "k"] ["actual", "due"] (defScope s__law_same) := ⟨rfl, rfl, rfl, by decide +kernel, rfl, by decide +kernel, by decide +kernel⟩
abbrev s__law_pool : Stmt := topS 69
theorem sc__law_pool : FnScope ["script", "salt", "cell"] ["script"] (defScope s__law_pool) := ⟨rfl, rfl, rfl, by decide +kernel, rfl, by decide +kernel, by decide +kernel⟩
abbrev s__law_spread : Stmt := topS 70
theorem sc__law_spread : FnScope ["cell", "mixed", "total", "k"] ["cell"] (defScope s__law_spread) := ⟨rfl, rfl, rfl, by decide +kernel, rfl, by decide +kernel, by decide +kernel⟩
abbrev s__law_draw : Stmt := topS 71
theorem sc__law_draw : FnScope ["pool", "many", "cell", "mixed", "value"] ["pool", "many"] (defScope s__law_draw) := ⟨rfl, rfl, rfl, by decide +kernel, rfl, by decide +kernel, by decide +kernel⟩
abbrev s__law_pick : Stmt := topS 72
theorem sc__law_pick : FnScope ["pool", "items"] ["pool", "items"] (defScope s__law_pick) := ⟨rfl, rfl, rfl, by decide +kernel, rfl, by decide +kernel, by decide +kernel⟩
abbrev s__law_worked : Stmt := topS 73
theorem sc__law_worked : FnScope ["word", "one", "two"] ["word", "one", "two"] (defScope s__law_worked) := ⟨rfl, rfl, rfl, by decide +kernel, rfl, by decide +kernel, by decide +kernel⟩
abbrev s__law_value : Stmt := topS 74
theorem sc__law_value : FnScope ["expression", "store"] ["expression", "store"] (defScope s__law_value) := ⟨rfl, rfl, rfl, by decide +kernel, rfl, by decide +kernel, by decide +kernel⟩
abbrev s__law_expression : Stmt := topS 75
theorem sc__law_expression : FnScope ["pool", "deep", "word"] ["pool", "deep"] (defScope s__law_expression) := ⟨rfl, rfl, rfl, by decide +kernel, rfl, by decide +kernel, by decide +kernel⟩
abbrev s__law_store : Stmt := topS 76
theorem sc__law_store : FnScope ["pool", "k"] ["pool"] (defScope s__law_store) := ⟨rfl, rfl, rfl, by decide +kernel, rfl, by decide +kernel, by decide +kernel⟩
abbrev s__law_block : Stmt := topS 77
theorem sc__law_block : FnScope ["pool", "deep", "k"] ["pool", "deep"] (defScope s__law_block) := ⟨rfl, rfl, rfl, by decide +kernel, rfl, by decide +kernel, by decide +kernel⟩
abbrev s__law_deed : Stmt := topS 78
theorem sc__law_deed : FnScope ["pool", "deep", "turn", "name", "more"] ["pool", "deep"] (defScope s__law_deed) := ⟨rfl, rfl, rfl, by decide +kernel, rfl, by decide +kernel, by decide +kernel⟩
abbrev s__law_program : Stmt := topS 79
theorem sc__law_program : FnScope ["pool", "found", "deed"] ["pool"] (defScope s__law_program) := ⟨rfl, rfl, rfl, by decide +kernel, rfl, by decide +kernel, by decide +kernel⟩
abbrev s__law_do : Stmt := topS 80
theorem sc__law_do : FnScope ["block", "state", "deed", "store"] ["block", "state"] (defScope s__law_do) := ⟨rfl, rfl, rfl, by decide +kernel, rfl, by decide +kernel, by decide +kernel⟩
abbrev s__law_loop : Stmt := topS 81
theorem sc__law_loop : FnScope ["deed", "state", "going"] ["deed", "state"] (defScope s__law_loop) := ⟨rfl, rfl, rfl, by decide +kernel, rfl, by decide +kernel, by decide +kernel⟩
abbrev s__law_run : Stmt := topS 82
theorem sc__law_run : FnScope ["block", "store", "turns", "state"] ["block", "store", "turns"] (defScope s__law_run) := ⟨rfl, rfl, rfl, by decide +kernel, rfl, by decide +kernel, by decide +kernel⟩
abbrev s__law_deeds_of : Stmt := topS 83
theorem sc__law_deeds_of : FnScope ["block", "found", "deed", "part"] ["block"] (defScope s__law_deeds_of) := ⟨rfl, rfl, rfl, by decide +kernel, rfl, by decide +kernel, by decide +kernel⟩
abbrev s_law : Stmt := topS 84
theorem sc_law : FnScope ["script", "pool", "program", "store", "turns", "states", "whole", "at", "block", "here", "told", "left", "due", "way", "rest", "debugger", "state", "log", "more", "taken", "sets", "one", "two", "three"] ["script"] (defScope s_law) := ⟨rfl, rfl, rfl, by decide +kernel, rfl, by decide +kernel, by decide +kernel⟩
end Y

set_option Elab.async false
set_option linter.all false
set_option maxRecDepth 100000
set_option maxHeartbeats 4000000
namespace Y
open PySem PySem.Spec L2
variable {G : Gx} {w : World} {mg : Str → Option Value} {P : Program} {base : Heap} {k : Nat} {c : Fnm → Fn}
theorem q_is_whole {f : Addr} {cdv : Value} {A : Around} {outer : List PySem.Env} {s : Shared} {H : Hp} {E : XK} (T : Txt G w mg) (hs : HasAll P w G mg base k c) (hr1 : Room (2 * k + 1) (A.deeper (PyProof.Rows.envOfC "is_whole" (defScope s_is_whole) s.heap.objs.size f cdv))) :
    QSs (cxOf (L2.CX P w) P w G.K mg base ["value"] "is_whole" (defScope s_is_whole) f cdv A outer s H E) G E (defBody s_is_whole) (m_is_whole c) := by
  have hr : Room (2 * k) (A.deeper (PyProof.Rows.envOfC "is_whole" (defScope s_is_whole) s.heap.objs.size f cdv)) := hr1.mono (Nat.le_succ _)
  have hx : Passes (L2.CX P w) (cxOf (L2.CX P w) P w G.K mg base ["value"] "is_whole" (defScope s_is_whole) f cdv A outer s H E) E := passes_call (takes_of rfl rfl rfl rfl) fun _ _ _ _ h => h
  have hu := hr.units
  have nd := (sc_is_whole).nd
  have hp : PassesOwn (model P w) (A.deeper (PyProof.Rows.envOfC "is_whole" (defScope s_is_whole) s.heap.objs.size f cdv)) (PyProof.Rows.envOfC "is_whole" (defScope s_is_whole) s.heap.objs.size f cdv) (cxOf (L2.CX P w) P w G.K mg base ["value"] "is_whole" (defScope s_is_whole) f cdv A outer s H E).xe := PassesOwn.leaving
  exact qss_cons (qs_ret (qe_and (qe_isa (by rfl) T.z_isinstance rfl (pe_bltn (by rfl) T.z_int PyProof.Rows.boot_int rfl) (qe_var (pv 0))) (qe_one (qe_not (qe_isa (by rfl) T.z_isinstance rfl (pe_bltn (by rfl) T.z_bool PyProof.Rows.boot_bool rfl) (qe_var (pv 0))))))) (qss_nil)
theorem q_is_from {f : Addr} {cdv : Value} {A : Around} {outer : List PySem.Env} {s : Shared} {H : Hp} {E : XK} (T : Txt G w mg) (hs : HasAll P w G mg base k c) (hr1 : Room (2 * k + 1) (A.deeper (PyProof.Rows.envOfC "is_from" (defScope s_is_from) s.heap.objs.size f cdv))) :
    QSs (cxOf (L2.CX P w) P w G.K mg base ["value", "low", "high"] "is_from" (defScope s_is_from) f cdv A outer s H E) G E (defBody s_is_from) (m_is_from c) := by
  have hr : Room (2 * k) (A.deeper (PyProof.Rows.envOfC "is_from" (defScope s_is_from) s.heap.objs.size f cdv)) := hr1.mono (Nat.le_succ _)
  have hx : Passes (L2.CX P w) (cxOf (L2.CX P w) P w G.K mg base ["value", "low", "high"] "is_from" (defScope s_is_from) f cdv A outer s H E) E := passes_call (takes_of rfl rfl rfl rfl) fun _ _ _ _ h => h
  have hu := hr.units
  have nd := (sc_is_from).nd
  have hp : PassesOwn (model P w) (A.deeper (PyProof.Rows.envOfC "is_from" (defScope s_is_from) s.heap.objs.size f cdv)) (PyProof.Rows.envOfC "is_from" (defScope s_is_from) s.heap.objs.size f cdv) (cxOf (L2.CX P w) P w G.K mg base ["value", "low", "high"] "is_from" (defScope s_is_from) f cdv A outer s H E).xe := PassesOwn.leaving
  exact qss_cons (qs_ret (qe_and (qe_call (hs .f_is_whole) rfl hr (by rfl) hx (qa_cons (qe_var (pv 0)) (qa_nil))) (qe_one (qe_chain q_le q_le (qe_var (pv 1)) (qe_var (pv 0)) (qe_var (pv 2)))))) (qss_nil)
theorem q_is_store {f : Addr} {cdv : Value} {A : Around} {outer : List PySem.Env} {s : Shared} {H : Hp} {E : XK} (T : Txt G w mg) (hs : HasAll P w G mg base k c) (hr1 : Room (2 * k + 1) (A.deeper (PyProof.Rows.envOfC "is_store" (defScope s_is_store) s.heap.objs.size f cdv))) :
    QSs (cxOf (L2.CX P w) P w G.K mg base ["value", "item"] "is_store" (defScope s_is_store) f cdv A outer s H E) G E (defBody s_is_store) (m_is_store c) := by
  have hr : Room (2 * k) (A.deeper (PyProof.Rows.envOfC "is_store" (defScope s_is_store) s.heap.objs.size f cdv)) := hr1.mono (Nat.le_succ _)
  have hx : Passes (L2.CX P w) (cxOf (L2.CX P w) P w G.K mg base ["value", "item"] "is_store" (defScope s_is_store) f cdv A outer s H E) E := passes_call (takes_of rfl rfl rfl rfl) fun _ _ _ _ h => h
  have hu := hr.units
  have nd := (sc_is_store).nd
  have hp : PassesOwn (model P w) (A.deeper (PyProof.Rows.envOfC "is_store" (defScope s_is_store) s.heap.objs.size f cdv)) (PyProof.Rows.envOfC "is_store" (defScope s_is_store) s.heap.objs.size f cdv) (cxOf (L2.CX P w) P w G.K mg base ["value", "item"] "is_store" (defScope s_is_store) f cdv A outer s H E).xe := PassesOwn.leaving
  exact qss_cons (qs_ret (qe_and (qe_isa (by rfl) T.z_isinstance rfl (pe_bltn (by rfl) T.z_tuple PyProof.Rows.boot_tuple rfl) (qe_var (pv 0))) (qe_and (qe_cmp (q_eq rfl hu) (qe_callB (q_len rfl) (by rfl) T.z_len PySem.boot_len (qa_cons (qe_var (pv 0)) (qa_nil))) (T.c_NAMES (by rfl)) (nomark _)) (qe_one (qe_callB (q_all rfl) (by rfl) T.z_all PyProof.Rows.boot_all (qa_cons (qe_frz (qf_lc (own := [("item", 1)]) (ts := [1]) rfl nd (qi_seq rfl (qe_var (pv 0))) (blkOk_by (N := ["value", "item"]) (sc := defScope s_is_store) (by decide +kernel)) (fun _ _ _ _ _ => qg_name (i := 1) nd rfl (by first | exact Or.inl rfl | exact Or.inr rfl)) (fun _ _ _ _ _ => qts_nil) (fun _ _ _ _ _ => qe_call (hs .f_is_from) rfl hr (by rfl) passL (qa_cons (qe_var (pv 1)) (qa_cons (qe_int) (qa_cons (qe_bin q_sub (T.c_SIZE (by rfl)) (qe_int)) (qa_nil))))) (by decide))) (qa_nil))))))) (qss_nil)
theorem q_is_tagged {f : Addr} {cdv : Value} {A : Around} {outer : List PySem.Env} {s : Shared} {H : Hp} {E : XK} (T : Txt G w mg) (hs : HasAll P w G mg base k c) (hr1 : Room (2 * k + 1) (A.deeper (PyProof.Rows.envOfC "is_tagged" (defScope s_is_tagged) s.heap.objs.size f cdv))) :
    QSs (cxOf (L2.CX P w) P w G.K mg base ["value", "word", "size"] "is_tagged" (defScope s_is_tagged) f cdv A outer s H E) G E (defBody s_is_tagged) (m_is_tagged c) := by
  have hr : Room (2 * k) (A.deeper (PyProof.Rows.envOfC "is_tagged" (defScope s_is_tagged) s.heap.objs.size f cdv)) := hr1.mono (Nat.le_succ _)
  have hx : Passes (L2.CX P w) (cxOf (L2.CX P w) P w G.K mg base ["value", "word", "size"] "is_tagged" (defScope s_is_tagged) f cdv A outer s H E) E := passes_call (takes_of rfl rfl rfl rfl) fun _ _ _ _ h => h
  have hu := hr.units
  have nd := (sc_is_tagged).nd
  have hp : PassesOwn (model P w) (A.deeper (PyProof.Rows.envOfC "is_tagged" (defScope s_is_tagged) s.heap.objs.size f cdv)) (PyProof.Rows.envOfC "is_tagged" (defScope s_is_tagged) s.heap.objs.size f cdv) (cxOf (L2.CX P w) P w G.K mg base ["value", "word", "size"] "is_tagged" (defScope s_is_tagged) f cdv A outer s H E).xe := PassesOwn.leaving
  exact qss_cons (qs_ret (qe_and (qe_isa (by rfl) T.z_isinstance rfl (pe_bltn (by rfl) T.z_tuple PyProof.Rows.boot_tuple rfl) (qe_var (pv 0))) (qe_and (qe_cmp (q_eq rfl hu) (qe_callB (q_len rfl) (by rfl) T.z_len PySem.boot_len (qa_cons (qe_var (pv 0)) (qa_nil))) (qe_var (pv 2)) (nomark _)) (qe_and (qe_isa (by rfl) T.z_isinstance rfl (pe_bltn (by rfl) T.z_str PyProof.Rows.boot_str rfl) (qe_ix rfl (qe_var (pv 0)) (qe_int))) (qe_one (qe_cmp (q_eq rfl hu) (qe_ix rfl (qe_var (pv 0)) (qe_int)) (qe_var (pv 1)) (nomark _))))))) (qss_nil)
theorem q_with_value {f : Addr} {cdv : Value} {A : Around} {outer : List PySem.Env} {s : Shared} {H : Hp} {E : XK} (T : Txt G w mg) (hs : HasAll P w G mg base k c) (hr1 : Room (2 * k + 1) (A.deeper (PyProof.Rows.envOfC "with_value" (defScope s_with_value) s.heap.objs.size f cdv))) :
    QSs (cxOf (L2.CX P w) P w G.K mg base ["store", "name", "value"] "with_value" (defScope s_with_value) f cdv A outer s H E) G E (defBody s_with_value) (m_with_value c) := by
  have hr : Room (2 * k) (A.deeper (PyProof.Rows.envOfC "with_value" (defScope s_with_value) s.heap.objs.size f cdv)) := hr1.mono (Nat.le_succ _)
  have hx : Passes (L2.CX P w) (cxOf (L2.CX P w) P w G.K mg base ["store", "name", "value"] "with_value" (defScope s_with_value) f cdv A outer s H E) E := passes_call (takes_of rfl rfl rfl rfl) fun _ _ _ _ h => h
  have hu := hr.units
  have nd := (sc_with_value).nd
  have hp : PassesOwn (model P w) (A.deeper (PyProof.Rows.envOfC "with_value" (defScope s_with_value) s.heap.objs.size f cdv)) (PyProof.Rows.envOfC "with_value" (defScope s_with_value) s.heap.objs.size f cdv) (cxOf (L2.CX P w) P w G.K mg base ["store", "name", "value"] "with_value" (defScope s_with_value) f cdv A outer s H E).xe := PassesOwn.leaving
  exact qss_cons (qs_ret (qe_bin (q_plus rfl) (qe_bin (q_plus rfl) (qe_sl rfl (qe_var (pv 0)) (qo_none) (qo_some (qe_var (pv 1)))) (qe_tup (qa_cons (qe_var (pv 2)) (qa_nil)))) (qe_sl rfl (qe_var (pv 0)) (qo_some (qe_bin (q_plus rfl) (qe_var (pv 1)) (qe_int))) (qo_none)))) (qss_nil)
theorem q_has_shape {f : Addr} {cdv : Value} {A : Around} {outer : List PySem.Env} {s : Shared} {H : Hp} {E : XK} (T : Txt G w mg) (hs : HasAll P w G mg base k c) (hr1 : Room (2 * k + 1) (A.deeper (PyProof.Rows.envOfC "has_shape" (defScope s_has_shape) s.heap.objs.size f cdv))) :
    QSs (cxOf (L2.CX P w) P w G.K mg base ["value", "names", "deep"] "has_shape" (defScope s_has_shape) f cdv A outer s H E) G E (defBody s_has_shape) (m_has_shape c) := by
  have hr : Room (2 * k) (A.deeper (PyProof.Rows.envOfC "has_shape" (defScope s_has_shape) s.heap.objs.size f cdv)) := hr1.mono (Nat.le_succ _)
  have hx : Passes (L2.CX P w) (cxOf (L2.CX P w) P w G.K mg base ["value", "names", "deep"] "has_shape" (defScope s_has_shape) f cdv A outer s H E) E := passes_call (takes_of rfl rfl rfl rfl) fun _ _ _ _ h => h
  have hu := hr.units
  have nd := (sc_has_shape).nd
  have hp : PassesOwn (model P w) (A.deeper (PyProof.Rows.envOfC "has_shape" (defScope s_has_shape) s.heap.objs.size f cdv)) (PyProof.Rows.envOfC "has_shape" (defScope s_has_shape) s.heap.objs.size f cdv) (cxOf (L2.CX P w) P w G.K mg base ["value", "names", "deep"] "has_shape" (defScope s_has_shape) f cdv A outer s H E).xe := PassesOwn.leaving
  exact qss_cons (qs_if (qt_w (qw_or (qt_not (qt_val (qe_isa (by rfl) T.z_isinstance rfl (pe_bltn (by rfl) T.z_tuple PyProof.Rows.boot_tuple rfl) (qe_var (pv 0))))) (qw_or (qt_cmp (q_eq rfl hu) (qe_callB (q_len rfl) (by rfl) T.z_len PySem.boot_len (qa_cons (qe_var (pv 0)) (qa_nil))) (qe_int) (nomark _)) (qw_or (qt_not (qt_val (qe_isa (by rfl) T.z_isinstance rfl (pe_bltn (by rfl) T.z_str PyProof.Rows.boot_str rfl) (qe_ix rfl (qe_var (pv 0)) (qe_int))))) (qw_or1 (qt_cmp (q_eq rfl hu) (qe_var (pv 2)) (qe_int) (nomark _))))))) (qss_cons (qs_ret (qe_bl)) (qss_nil)) (qss_nil)) (qss_cons (qs_if (qt_cmp (q_eq rfl hu) (qe_ix rfl (qe_var (pv 0)) (qe_int)) (qe_str) (nomark _)) (qss_cons (qs_ret (qe_and (qe_cmp (q_eq rfl hu) (qe_callB (q_len rfl) (by rfl) T.z_len PySem.boot_len (qa_cons (qe_var (pv 0)) (qa_nil))) (qe_int) (nomark _)) (qe_one (qe_call (hs .f_is_from) rfl hr (by rfl) hx (qa_cons (qe_ix rfl (qe_var (pv 0)) (qe_int)) (qa_cons (qe_int) (qa_cons (qe_bin q_sub (T.c_SIZE (by rfl)) (qe_int)) (qa_nil)))))))) (qss_nil)) (qss_nil)) (qss_cons (qs_if (qt_cmp (q_eq rfl hu) (qe_ix rfl (qe_var (pv 0)) (qe_int)) (qe_str) (nomark _)) (qss_cons (qs_ret (qe_and (qe_cmp (q_eq rfl hu) (qe_callB (q_len rfl) (by rfl) T.z_len PySem.boot_len (qa_cons (qe_var (pv 0)) (qa_nil))) (qe_int) (nomark _)) (qe_one (qe_call (hs .f_is_from) rfl hr (by rfl) hx (qa_cons (qe_ix rfl (qe_var (pv 0)) (qe_int)) (qa_cons (qe_int) (qa_cons (qe_bin q_sub (qe_var (pv 1)) (qe_int)) (qa_nil)))))))) (qss_nil)) (qss_nil)) (qss_cons (qs_if (qt_cmp (q_eq rfl hu) (qe_ix rfl (qe_var (pv 0)) (qe_int)) (qe_str) (nomark _)) (qss_cons (qs_ret (qe_and (qe_cmp (q_eq rfl hu) (qe_callB (q_len rfl) (by rfl) T.z_len PySem.boot_len (qa_cons (qe_var (pv 0)) (qa_nil))) (qe_int) (nomark _)) (qe_one (qe_call (hs .f_has_shape) rfl hr (by rfl) hx (qa_cons (qe_ix rfl (qe_var (pv 0)) (qe_int)) (qa_cons (qe_var (pv 1)) (qa_cons (qe_bin q_sub (qe_var (pv 2)) (qe_int)) (qa_nil)))))))) (qss_nil)) (qss_nil)) (qss_cons (qs_if (qt_w (qw_or (qt_cmp (q_notin rfl) (qe_ix rfl (qe_var (pv 0)) (qe_int)) (T.c_PAIRS (by rfl)) (by with_unfolding_all rfl)) (qw_or1 (qt_cmp (q_ne rfl hu) (qe_callB (q_len rfl) (by rfl) T.z_len PySem.boot_len (qa_cons (qe_var (pv 0)) (qa_nil))) (qe_int) (nomark _))))) (qss_cons (qs_ret (qe_bl)) (qss_nil)) (qss_nil)) (qss_cons (qs_ret (qe_and (qe_call (hs .f_has_shape) rfl hr (by rfl) hx (qa_cons (qe_ix rfl (qe_var (pv 0)) (qe_int)) (qa_cons (qe_var (pv 1)) (qa_cons (qe_bin q_sub (qe_var (pv 2)) (qe_int)) (qa_nil))))) (qe_one (qe_call (hs .f_has_shape) rfl hr (by rfl) hx (qa_cons (qe_ix rfl (qe_var (pv 0)) (qe_int)) (qa_cons (qe_var (pv 1)) (qa_cons (qe_bin q_sub (qe_var (pv 2)) (qe_int)) (qa_nil)))))))) (qss_nil))))))
theorem q_is_expression {f : Addr} {cdv : Value} {A : Around} {outer : List PySem.Env} {s : Shared} {H : Hp} {E : XK} (T : Txt G w mg) (hs : HasAll P w G mg base k c) (hr1 : Room (2 * k + 1) (A.deeper (PyProof.Rows.envOfC "is_expression" (defScope s_is_expression) s.heap.objs.size f cdv))) :
    QSs (cxOf (L2.CX P w) P w G.K mg base ["value"] "is_expression" (defScope s_is_expression) f cdv A outer s H E) G E (defBody s_is_expression) (m_is_expression c) := by
  have hr : Room (2 * k) (A.deeper (PyProof.Rows.envOfC "is_expression" (defScope s_is_expression) s.heap.objs.size f cdv)) := hr1.mono (Nat.le_succ _)
  have hx : Passes (L2.CX P w) (cxOf (L2.CX P w) P w G.K mg base ["value"] "is_expression" (defScope s_is_expression) f cdv A outer s H E) E := passes_call (takes_of rfl rfl rfl rfl) fun _ _ _ _ h => h
  have hu := hr.units
  have nd := (sc_is_expression).nd
  have hp : PassesOwn (model P w) (A.deeper (PyProof.Rows.envOfC "is_expression" (defScope s_is_expression) s.heap.objs.size f cdv)) (PyProof.Rows.envOfC "is_expression" (defScope s_is_expression) s.heap.objs.size f cdv) (cxOf (L2.CX P w) P w G.K mg base ["value"] "is_expression" (defScope s_is_expression) f cdv A outer s H E).xe := PassesOwn.leaving
  exact qss_cons (qs_ret (qe_call (hs .f_has_shape) rfl hr (by rfl) hx (qa_cons (qe_var (pv 0)) (qa_cons (T.c_NAMES (by rfl)) (qa_cons (T.c_DEEPEST_expressions (by rfl)) (qa_nil)))))) (qss_nil)
theorem q_worked {f : Addr} {cdv : Value} {A : Around} {outer : List PySem.Env} {s : Shared} {H : Hp} {E : XK} (T : Txt G w mg) (hs : HasAll P w G mg base k c) (hr1 : Room (2 * k + 1) (A.deeper (PyProof.Rows.envOfC "worked" (defScope s_worked) s.heap.objs.size f cdv))) :
    QSs (cxOf (L2.CX P w) P w G.K mg base ["word", "one", "two"] "worked" (defScope s_worked) f cdv A outer s H E) G E (defBody s_worked) (m_worked c) := by
  have hr : Room (2 * k) (A.deeper (PyProof.Rows.envOfC "worked" (defScope s_worked) s.heap.objs.size f cdv)) := hr1.mono (Nat.le_succ _)
  have hx : Passes (L2.CX P w) (cxOf (L2.CX P w) P w G.K mg base ["word", "one", "two"] "worked" (defScope s_worked) f cdv A outer s H E) E := passes_call (takes_of rfl rfl rfl rfl) fun _ _ _ _ h => h
  have hu := hr.units
  have nd := (sc_worked).nd
  have hp : PassesOwn (model P w) (A.deeper (PyProof.Rows.envOfC "worked" (defScope s_worked) s.heap.objs.size f cdv)) (PyProof.Rows.envOfC "worked" (defScope s_worked) s.heap.objs.size f cdv) (cxOf (L2.CX P w) P w G.K mg base ["word", "one", "two"] "worked" (defScope s_worked) f cdv A outer s H E).xe := PassesOwn.leaving
  exact qss_cons (qs_if (qt_cmp (q_eq rfl hu) (qe_var (pv 0)) (qe_str) (nomark _)) (qss_cons (qs_ret (qe_bin q_mod (qe_bin (q_plus rfl) (qe_var (pv 1)) (qe_var (pv 2))) (T.c_SIZE (by rfl)))) (qss_nil)) (qss_nil)) (qss_cons (qs_if (qt_cmp (q_eq rfl hu) (qe_var (pv 0)) (qe_str) (nomark _)) (qss_cons (qs_ret (qe_bin q_mod (qe_bin q_sub (qe_var (pv 1)) (qe_var (pv 2))) (T.c_SIZE (by rfl)))) (qss_nil)) (qss_nil)) (qss_cons (qs_if (qt_cmp (q_eq rfl hu) (qe_var (pv 0)) (qe_str) (nomark _)) (qss_cons (qs_ret (qe_bin q_mod (qe_bin q_mul (qe_var (pv 1)) (qe_var (pv 2))) (T.c_SIZE (by rfl)))) (qss_nil)) (qss_nil)) (qss_cons (qs_ret (qe_if (qt_cmp (q_eq rfl hu) (qe_var (pv 0)) (qe_str) (nomark _)) (qe_callTy (q_int) (by rfl) T.z_int PyProof.Rows.boot_int (qa_cons (qe_cmp q_lt (qe_var (pv 1)) (qe_var (pv 2)) (nomark _)) (qa_nil))) (qe_callTy (q_int) (by rfl) T.z_int PyProof.Rows.boot_int (qa_cons (qe_cmp (q_eq rfl hu) (qe_var (pv 1)) (qe_var (pv 2)) (nomark _)) (qa_nil))))) (qss_nil))))
theorem q_value_of {f : Addr} {cdv : Value} {A : Around} {outer : List PySem.Env} {s : Shared} {H : Hp} {E : XK} (T : Txt G w mg) (hs : HasAll P w G mg base k c) (hr1 : Room (2 * k + 1) (A.deeper (PyProof.Rows.envOfC "value_of" (defScope s_value_of) s.heap.objs.size f cdv))) :
    QSs (cxOf (L2.CX P w) P w G.K mg base ["expression", "store"] "value_of" (defScope s_value_of) f cdv A outer s H E) G E (defBody s_value_of) (m_value_of c) := by
  have hr : Room (2 * k) (A.deeper (PyProof.Rows.envOfC "value_of" (defScope s_value_of) s.heap.objs.size f cdv)) := hr1.mono (Nat.le_succ _)
  have hx : Passes (L2.CX P w) (cxOf (L2.CX P w) P w G.K mg base ["expression", "store"] "value_of" (defScope s_value_of) f cdv A outer s H E) E := passes_call (takes_of rfl rfl rfl rfl) fun _ _ _ _ h => h
  have hu := hr.units
  have nd := (sc_value_of).nd
  have hp : PassesOwn (model P w) (A.deeper (PyProof.Rows.envOfC "value_of" (defScope s_value_of) s.heap.objs.size f cdv)) (PyProof.Rows.envOfC "value_of" (defScope s_value_of) s.heap.objs.size f cdv) (cxOf (L2.CX P w) P w G.K mg base ["expression", "store"] "value_of" (defScope s_value_of) f cdv A outer s H E).xe := PassesOwn.leaving
  exact qss_cons (qs_if (qt_cmp (q_eq rfl hu) (qe_ix rfl (qe_var (pv 0)) (qe_int)) (qe_str) (nomark _)) (qss_cons (qs_ret (qe_ix rfl (qe_var (pv 0)) (qe_int))) (qss_nil)) (qss_nil)) (qss_cons (qs_if (qt_cmp (q_eq rfl hu) (qe_ix rfl (qe_var (pv 0)) (qe_int)) (qe_str) (nomark _)) (qss_cons (qs_ret (qe_ix rfl (qe_var (pv 1)) (qe_ix rfl (qe_var (pv 0)) (qe_int)))) (qss_nil)) (qss_nil)) (qss_cons (qs_if (qt_cmp (q_eq rfl hu) (qe_ix rfl (qe_var (pv 0)) (qe_int)) (qe_str) (nomark _)) (qss_cons (qs_ret (qe_callTy (q_int) (by rfl) T.z_int PyProof.Rows.boot_int (qa_cons (qe_cmp (q_eq rfl hu) (qe_call (hs .f_value_of) rfl hr (by rfl) hx (qa_cons (qe_ix rfl (qe_var (pv 0)) (qe_int)) (qa_cons (qe_var (pv 1)) (qa_nil)))) (qe_int) (nomark _)) (qa_nil)))) (qss_nil)) (qss_nil)) (qss_cons (qs_ret (qe_call (hs .f_worked) rfl hr (by rfl) hx (qa_cons (qe_ix rfl (qe_var (pv 0)) (qe_int)) (qa_cons (qe_call (hs .f_value_of) rfl hr (by rfl) hx (qa_cons (qe_ix rfl (qe_var (pv 0)) (qe_int)) (qa_cons (qe_var (pv 1)) (qa_nil)))) (qa_cons (qe_call (hs .f_value_of) rfl hr (by rfl) hx (qa_cons (qe_ix rfl (qe_var (pv 0)) (qe_int)) (qa_cons (qe_var (pv 1)) (qa_nil)))) (qa_nil)))))) (qss_nil))))
theorem q_is_deed {f : Addr} {cdv : Value} {A : Around} {outer : List PySem.Env} {s : Shared} {H : Hp} {E : XK} (T : Txt G w mg) (hs : HasAll P w G mg base k c) (hr1 : Room (2 * k + 1) (A.deeper (PyProof.Rows.envOfC "is_deed" (defScope s_is_deed) s.heap.objs.size f cdv))) :
    QSs (cxOf (L2.CX P w) P w G.K mg base ["value", "deep"] "is_deed" (defScope s_is_deed) f cdv A outer s H E) G E (defBody s_is_deed) (m_is_deed c) := by
  have hr : Room (2 * k) (A.deeper (PyProof.Rows.envOfC "is_deed" (defScope s_is_deed) s.heap.objs.size f cdv)) := hr1.mono (Nat.le_succ _)
  have hx : Passes (L2.CX P w) (cxOf (L2.CX P w) P w G.K mg base ["value", "deep"] "is_deed" (defScope s_is_deed) f cdv A outer s H E) E := passes_call (takes_of rfl rfl rfl rfl) fun _ _ _ _ h => h
  have hu := hr.units
  have nd := (sc_is_deed).nd
  have hp : PassesOwn (model P w) (A.deeper (PyProof.Rows.envOfC "is_deed" (defScope s_is_deed) s.heap.objs.size f cdv)) (PyProof.Rows.envOfC "is_deed" (defScope s_is_deed) s.heap.objs.size f cdv) (cxOf (L2.CX P w) P w G.K mg base ["value", "deep"] "is_deed" (defScope s_is_deed) f cdv A outer s H E).xe := PassesOwn.leaving
  exact qss_cons (qs_if (qt_val (qe_call (hs .f_is_tagged) rfl hr (by rfl) hx (qa_cons (qe_var (pv 0)) (qa_cons (qe_str) (qa_cons (qe_int) (qa_nil)))))) (qss_cons (qs_ret (qe_and (qe_call (hs .f_is_from) rfl hr (by rfl) hx (qa_cons (qe_ix rfl (qe_var (pv 0)) (qe_int)) (qa_cons (qe_int) (qa_cons (qe_bin q_sub (T.c_NAMES (by rfl)) (qe_int)) (qa_nil))))) (qe_one (qe_call (hs .f_is_expression) rfl hr (by rfl) hx (qa_cons (qe_ix rfl (qe_var (pv 0)) (qe_int)) (qa_nil)))))) (qss_nil)) (qss_nil)) (qss_cons (qs_if (qt_val (qe_call (hs .f_is_tagged) rfl hr (by rfl) hx (qa_cons (qe_var (pv 0)) (qa_cons (qe_str) (qa_cons (qe_int) (qa_nil)))))) (qss_cons (qs_ret (qe_call (hs .f_is_expression) rfl hr (by rfl) hx (qa_cons (qe_ix rfl (qe_var (pv 0)) (qe_int)) (qa_nil)))) (qss_nil)) (qss_nil)) (qss_cons (qs_if (qt_val (qe_call (hs .f_is_tagged) rfl hr (by rfl) hx (qa_cons (qe_var (pv 0)) (qa_cons (qe_str) (qa_cons (qe_int) (qa_nil)))))) (qss_cons (qs_ret (qe_and (qe_call (hs .f_is_expression) rfl hr (by rfl) hx (qa_cons (qe_ix rfl (qe_var (pv 0)) (qe_int)) (qa_nil))) (qe_and (qe_call (hs .f_is_block) rfl hr (by rfl) hx (qa_cons (qe_ix rfl (qe_var (pv 0)) (qe_int)) (qa_cons (qe_bin q_sub (qe_var (pv 1)) (qe_int)) (qa_nil)))) (qe_one (qe_call (hs .f_is_block) rfl hr (by rfl) hx (qa_cons (qe_ix rfl (qe_var (pv 0)) (qe_int)) (qa_cons (qe_bin q_sub (qe_var (pv 1)) (qe_int)) (qa_nil)))))))) (qss_nil)) (qss_nil)) (qss_cons (qs_ret (qe_and (qe_call (hs .f_is_tagged) rfl hr (by rfl) hx (qa_cons (qe_var (pv 0)) (qa_cons (qe_str) (qa_cons (qe_int) (qa_nil))))) (qe_and (qe_call (hs .f_is_expression) rfl hr (by rfl) hx (qa_cons (qe_ix rfl (qe_var (pv 0)) (qe_int)) (qa_nil))) (qe_one (qe_call (hs .f_is_block) rfl hr (by rfl) hx (qa_cons (qe_ix rfl (qe_var (pv 0)) (qe_int)) (qa_cons (qe_bin q_sub (qe_var (pv 1)) (qe_int)) (qa_nil)))))))) (qss_nil))))
theorem q_is_block {f : Addr} {cdv : Value} {A : Around} {outer : List PySem.Env} {s : Shared} {H : Hp} {E : XK} (T : Txt G w mg) (hs : HasAll P w G mg base k c) (hr1 : Room (2 * k + 1) (A.deeper (PyProof.Rows.envOfC "is_block" (defScope s_is_block) s.heap.objs.size f cdv))) :
    QSs (cxOf (L2.CX P w) P w G.K mg base ["value", "deep", "deed"] "is_block" (defScope s_is_block) f cdv A outer s H E) G E (defBody s_is_block) (m_is_block c) := by
  have hr : Room (2 * k) (A.deeper (PyProof.Rows.envOfC "is_block" (defScope s_is_block) s.heap.objs.size f cdv)) := hr1.mono (Nat.le_succ _)
  have hx : Passes (L2.CX P w) (cxOf (L2.CX P w) P w G.K mg base ["value", "deep", "deed"] "is_block" (defScope s_is_block) f cdv A outer s H E) E := passes_call (takes_of rfl rfl rfl rfl) fun _ _ _ _ h => h
  have hu := hr.units
  have nd := (sc_is_block).nd
  have hp : PassesOwn (model P w) (A.deeper (PyProof.Rows.envOfC "is_block" (defScope s_is_block) s.heap.objs.size f cdv)) (PyProof.Rows.envOfC "is_block" (defScope s_is_block) s.heap.objs.size f cdv) (cxOf (L2.CX P w) P w G.K mg base ["value", "deep", "deed"] "is_block" (defScope s_is_block) f cdv A outer s H E).xe := PassesOwn.leaving
  exact qss_cons (qs_if (qt_w (qw_or (qt_not (qt_val (qe_isa (by rfl) T.z_isinstance rfl (pe_bltn (by rfl) T.z_tuple PyProof.Rows.boot_tuple rfl) (qe_var (pv 0))))) (qw_or (qt_cmp q_gt (qe_callB (q_len rfl) (by rfl) T.z_len PySem.boot_len (qa_cons (qe_var (pv 0)) (qa_nil))) (T.c_MOST_basics (by rfl)) (nomark _)) (qw_or1 (qt_cmp q_lt (qe_var (pv 1)) (qe_int) (nomark _)))))) (qss_cons (qs_ret (qe_bl)) (qss_nil)) (qss_nil)) (qss_cons (qs_ret (qe_callB (q_all rfl) (by rfl) T.z_all PyProof.Rows.boot_all (qa_cons (qe_frz (qf_lc (own := [("deed", 2)]) (ts := [2]) rfl nd (qi_seq rfl (qe_var (pv 0))) (blkOk_by (N := ["value", "deep", "deed"]) (sc := defScope s_is_block) (by decide +kernel)) (fun _ _ _ _ _ => qg_name (i := 2) nd rfl (by first | exact Or.inl rfl | exact Or.inr rfl)) (fun _ _ _ _ _ => qts_nil) (fun _ _ _ _ _ => qe_call (hs .f_is_deed) rfl hr (by rfl) passL (qa_cons (qe_var (pv 2)) (qa_cons (qe_var (pv 1)) (qa_nil)))) (by decide))) (qa_nil)))) (qss_nil))
theorem q_fault_trees {f : Addr} {cdv : Value} {A : Around} {outer : List PySem.Env} {s : Shared} {H : Hp} {E : XK} (T : Txt G w mg) (hs : HasAll P w G mg base k c) (hr1 : Room (2 * k + 1) (A.deeper (PyProof.Rows.envOfC "fault" (defScope s_fault_trees) s.heap.objs.size f cdv))) :
    QSs (cxOf (L2.CX P w) P w G.K mg base ["value"] "fault" (defScope s_fault_trees) f cdv A outer s H E) G E (defBody s_fault_trees) (m_fault_trees c) := by
  have hr : Room (2 * k) (A.deeper (PyProof.Rows.envOfC "fault" (defScope s_fault_trees) s.heap.objs.size f cdv)) := hr1.mono (Nat.le_succ _)
  have hx : Passes (L2.CX P w) (cxOf (L2.CX P w) P w G.K mg base ["value"] "fault" (defScope s_fault_trees) f cdv A outer s H E) E := passes_call (takes_of rfl rfl rfl rfl) fun _ _ _ _ h => h
  have hu := hr.units
  have nd := (sc_fault_trees).nd
  have hp : PassesOwn (model P w) (A.deeper (PyProof.Rows.envOfC "fault" (defScope s_fault_trees) s.heap.objs.size f cdv)) (PyProof.Rows.envOfC "fault" (defScope s_fault_trees) s.heap.objs.size f cdv) (cxOf (L2.CX P w) P w G.K mg base ["value"] "fault" (defScope s_fault_trees) f cdv A outer s H E).xe := PassesOwn.leaving
  exact qss_cons (qs_ret (qe_if (qt_val (qe_call (hs .f_is_block) rfl hr (by rfl) hx (qa_cons (qe_var (pv 0)) (qa_cons (T.c_DEEPEST_trees (by rfl)) (qa_nil))))) (qe_non) (T.c_FORM (by rfl)))) (qss_nil)
theorem q_Run___init__ {f : Addr} {cdv : Value} {A : Around} {outer : List PySem.Env} {s : Shared} {H : Hp} {E : XK} (T : Txt G w mg) (hs : HasAll P w G mg base k c) (hr1 : Room (2 * k + 1) (A.deeper (PyProof.Rows.envOfC "Run.__init__" (defScope s_Run___init__) s.heap.objs.size f cdv))) :
    QSs (cxOf (L2.CX P w) P w G.K mg base ["self", "store", "turns"] "Run.__init__" (defScope s_Run___init__) f cdv A outer s H E) G E (defBody s_Run___init__) (m_Run___init__ c) := by
  have hr : Room (2 * k) (A.deeper (PyProof.Rows.envOfC "Run.__init__" (defScope s_Run___init__) s.heap.objs.size f cdv)) := hr1.mono (Nat.le_succ _)
  have hx : Passes (L2.CX P w) (cxOf (L2.CX P w) P w G.K mg base ["self", "store", "turns"] "Run.__init__" (defScope s_Run___init__) f cdv A outer s H E) E := passes_call (takes_of rfl rfl rfl rfl) fun _ _ _ _ h => h
  have hu := hr.units
  have nd := (sc_Run___init__).nd
  have hp : PassesOwn (model P w) (A.deeper (PyProof.Rows.envOfC "Run.__init__" (defScope s_Run___init__) s.heap.objs.size f cdv)) (PyProof.Rows.envOfC "Run.__init__" (defScope s_Run___init__) s.heap.objs.size f cdv) (cxOf (L2.CX P w) P w G.K mg base ["self", "store", "turns"] "Run.__init__" (defScope s_Run___init__) f cdv A outer s H E).xe := PassesOwn.leaving
  exact qss_cons (qs_fldPut rfl T.c_Run T.n_Run_store (qe_var (pv 0)) (qe_var (pv 1))) (qss_cons (qs_fldPut rfl T.c_Run T.n_Run_told (qe_var (pv 0)) (qe_tup (qa_nil))) (qss_cons (qs_fldPut rfl T.c_Run T.n_Run_turns (qe_var (pv 0)) (qe_var (pv 2))) (qss_nil)))
theorem q_Run_do_block {f : Addr} {cdv : Value} {A : Around} {outer : List PySem.Env} {s : Shared} {H : Hp} {E : XK} (T : Txt G w mg) (hs : HasAll P w G mg base k c) (hr1 : Room (2 * k + 1) (A.deeper (PyProof.Rows.envOfC "Run.do_block" (defScope s_Run_do_block) s.heap.objs.size f cdv))) :
    QSs (cxOf (L2.CX P w) P w G.K mg base ["self", "block", "deed"] "Run.do_block" (defScope s_Run_do_block) f cdv A outer s H E) G E (defBody s_Run_do_block) (m_Run_do_block c) := by
  have hr : Room (2 * k) (A.deeper (PyProof.Rows.envOfC "Run.do_block" (defScope s_Run_do_block) s.heap.objs.size f cdv)) := hr1.mono (Nat.le_succ _)
  have hx : Passes (L2.CX P w) (cxOf (L2.CX P w) P w G.K mg base ["self", "block", "deed"] "Run.do_block" (defScope s_Run_do_block) f cdv A outer s H E) E := passes_call (takes_of rfl rfl rfl rfl) fun _ _ _ _ h => h
  have hu := hr.units
  have nd := (sc_Run_do_block).nd
  have hp : PassesOwn (model P w) (A.deeper (PyProof.Rows.envOfC "Run.do_block" (defScope s_Run_do_block) s.heap.objs.size f cdv)) (PyProof.Rows.envOfC "Run.do_block" (defScope s_Run_do_block) s.heap.objs.size f cdv) (cxOf (L2.CX P w) P w G.K mg base ["self", "block", "deed"] "Run.do_block" (defScope s_Run_do_block) f cdv A outer s H E).xe := PassesOwn.leaving
  exact qss_cons (qs_for (ts := [2]) hp rfl (qi_seq rfl (qe_var (pv 1))) (qg_name (i := 2) nd rfl (by first | exact Or.inl rfl | exact Or.inr rfl)) (qss_cons (qs_if (qt_not (qt_val (qe_meth (hs .f_Run_do) rfl T.c_Run hr hx (qe_var (pv 0)) (qa_cons (qe_var (pv 2)) (qa_nil))))) (qss_cons (qs_ret (qe_bl)) (qss_nil)) (qss_nil)) (qss_nil))) (qss_cons (qs_ret (qe_bl)) (qss_nil))
theorem q_Run_do {f : Addr} {cdv : Value} {A : Around} {outer : List PySem.Env} {s : Shared} {H : Hp} {E : XK} (T : Txt G w mg) (hs : HasAll P w G mg base k c) (hr1 : Room (2 * k + 1) (A.deeper (PyProof.Rows.envOfC "Run.do" (defScope s_Run_do) s.heap.objs.size f cdv))) :
    QSs (cxOf (L2.CX P w) P w G.K mg base ["self", "deed"] "Run.do" (defScope s_Run_do) f cdv A outer s H E) G E (defBody s_Run_do) (m_Run_do c) := by
  have hr : Room (2 * k) (A.deeper (PyProof.Rows.envOfC "Run.do" (defScope s_Run_do) s.heap.objs.size f cdv)) := hr1.mono (Nat.le_succ _)
  have hx : Passes (L2.CX P w) (cxOf (L2.CX P w) P w G.K mg base ["self", "deed"] "Run.do" (defScope s_Run_do) f cdv A outer s H E) E := passes_call (takes_of rfl rfl rfl rfl) fun _ _ _ _ h => h
  have hu := hr.units
  have nd := (sc_Run_do).nd
  have hp : PassesOwn (model P w) (A.deeper (PyProof.Rows.envOfC "Run.do" (defScope s_Run_do) s.heap.objs.size f cdv)) (PyProof.Rows.envOfC "Run.do" (defScope s_Run_do) s.heap.objs.size f cdv) (cxOf (L2.CX P w) P w G.K mg base ["self", "deed"] "Run.do" (defScope s_Run_do) f cdv A outer s H E).xe := PassesOwn.leaving
  exact qss_cons (qs_if (qt_cmp (q_eq rfl hu) (qe_ix rfl (qe_var (pv 1)) (qe_int)) (qe_str) (nomark _)) (qss_cons (qs_fldPut rfl T.c_Run T.n_Run_store (qe_var (pv 0)) (qe_call (hs .f_with_value) rfl hr (by rfl) hx (qa_cons (qe_fld rfl T.c_Run T.n_Run_store (qe_var (pv 0))) (qa_cons (qe_ix rfl (qe_var (pv 1)) (qe_int)) (qa_cons (qe_call (hs .f_value_of) rfl hr (by rfl) hx (qa_cons (qe_ix rfl (qe_var (pv 1)) (qe_int)) (qa_cons (qe_fld rfl T.c_Run T.n_Run_store (qe_var (pv 0))) (qa_nil)))) (qa_nil)))))) (qss_cons (qs_ret (qe_bl)) (qss_nil))) (qss_nil)) (qss_cons (qs_if (qt_cmp (q_eq rfl hu) (qe_ix rfl (qe_var (pv 1)) (qe_int)) (qe_str) (nomark _)) (qss_cons (qs_fldAug rfl T.c_Run T.n_Run_told (qe_var (pv 0)) (qe_tup (qa_cons (qe_call (hs .f_value_of) rfl hr (by rfl) hx (qa_cons (qe_ix rfl (qe_var (pv 1)) (qe_int)) (qa_cons (qe_fld rfl T.c_Run T.n_Run_store (qe_var (pv 0))) (qa_nil)))) (qa_nil))) (q_iadd rfl)) (qss_cons (qs_ret (qe_bl)) (qss_nil))) (qss_nil)) (qss_cons (qs_if (qt_cmp (q_eq rfl hu) (qe_ix rfl (qe_var (pv 1)) (qe_int)) (qe_str) (nomark _)) (qss_cons (qs_ret (qe_meth (hs .f_Run_do_block) rfl T.c_Run hr hx (qe_var (pv 0)) (qa_cons (qe_if (qt_cmp (q_ne rfl hu) (qe_call (hs .f_value_of) rfl hr (by rfl) hx (qa_cons (qe_ix rfl (qe_var (pv 1)) (qe_int)) (qa_cons (qe_fld rfl T.c_Run T.n_Run_store (qe_var (pv 0))) (qa_nil)))) (qe_int) (nomark _)) (qe_ix rfl (qe_var (pv 1)) (qe_int)) (qe_ix rfl (qe_var (pv 1)) (qe_int))) (qa_nil)))) (qss_nil)) (qss_nil)) (qss_cons (qs_while hp (qt_cmp q_gt (qe_fld rfl T.c_Run T.n_Run_turns (qe_var (pv 0))) (qe_int) (nomark _)) (qss_cons (qs_fldAug rfl T.c_Run T.n_Run_turns (qe_var (pv 0)) (qe_int) q_isub) (qss_cons (qs_if (qt_cmp (q_eq rfl hu) (qe_call (hs .f_value_of) rfl hr (by rfl) hx (qa_cons (qe_ix rfl (qe_var (pv 1)) (qe_int)) (qa_cons (qe_fld rfl T.c_Run T.n_Run_store (qe_var (pv 0))) (qa_nil)))) (qe_int) (nomark _)) (qss_cons (qs_ret (qe_bl)) (qss_nil)) (qss_nil)) (qss_cons (qs_if (qt_not (qt_val (qe_meth (hs .f_Run_do_block) rfl T.c_Run hr hx (qe_var (pv 0)) (qa_cons (qe_ix rfl (qe_var (pv 1)) (qe_int)) (qa_nil))))) (qss_cons (qs_ret (qe_bl)) (qss_nil)) (qss_nil)) (qss_nil))))) (qss_cons (qs_ret (qe_bl)) (qss_nil)))))
theorem q_run_trees {f : Addr} {cdv : Value} {A : Around} {outer : List PySem.Env} {s : Shared} {H : Hp} {E : XK} (T : Txt G w mg) (hs : HasAll P w G mg base k c) (hr1 : Room (2 * k + 1) (A.deeper (PyProof.Rows.envOfC "run" (defScope s_run_trees) s.heap.objs.size f cdv))) :
    QSs (cxOf (L2.CX P w) P w G.K mg base ["value", "store", "turns", "here", "done"] "run" (defScope s_run_trees) f cdv A outer s H E) G E (defBody s_run_trees) (m_run_trees c) := by
  have hr : Room (2 * k) (A.deeper (PyProof.Rows.envOfC "run" (defScope s_run_trees) s.heap.objs.size f cdv)) := hr1.mono (Nat.le_succ _)
  have hx : Passes (L2.CX P w) (cxOf (L2.CX P w) P w G.K mg base ["value", "store", "turns", "here", "done"] "run" (defScope s_run_trees) f cdv A outer s H E) E := passes_call (takes_of rfl rfl rfl rfl) fun _ _ _ _ h => h
  have hu := hr.units
  have nd := (sc_run_trees).nd
  have hp : PassesOwn (model P w) (A.deeper (PyProof.Rows.envOfC "run" (defScope s_run_trees) s.heap.objs.size f cdv)) (PyProof.Rows.envOfC "run" (defScope s_run_trees) s.heap.objs.size f cdv) (cxOf (L2.CX P w) P w G.K mg base ["value", "store", "turns", "here", "done"] "run" (defScope s_run_trees) f cdv A outer s H E).xe := PassesOwn.leaving
  exact qss_cons (qs_set (i := 3) nd rfl (by first | exact Or.inl rfl | exact Or.inr rfl) (qe_make (hs .f_Run___init__) T.mk_Run (by rfl) T.gm_Run rfl hr1 hx (qa_cons (qe_var (pv 1)) (qa_cons (qe_var (pv 2)) (qa_nil))))) (qss_cons (qs_set (i := 4) nd rfl (by first | exact Or.inl rfl | exact Or.inr rfl) (qe_meth (hs .f_Run_do_block) rfl T.c_Run hr hx (qe_var (pv 3)) (qa_cons (qe_var (pv 0)) (qa_nil)))) (qss_cons (qs_ret (qe_if (qt_val (qe_var (pv 4))) (qe_tup (qa_cons (qe_str) (qa_cons (qe_fld rfl T.c_Run T.n_Run_store (qe_var (pv 3))) (qa_cons (qe_fld rfl T.c_Run T.n_Run_told (qe_var (pv 3))) (qa_nil))))) (qe_tup (qa_cons (qe_str) (qa_cons (qe_fld rfl T.c_Run T.n_Run_told (qe_var (pv 3))) (qa_nil)))))) (qss_nil)))
theorem q_is_state {f : Addr} {cdv : Value} {A : Around} {outer : List PySem.Env} {s : Shared} {H : Hp} {E : XK} (T : Txt G w mg) (hs : HasAll P w G mg base k c) (hr1 : Room (2 * k + 1) (A.deeper (PyProof.Rows.envOfC "is_state" (defScope s_is_state) s.heap.objs.size f cdv))) :
    QSs (cxOf (L2.CX P w) P w G.K mg base ["value", "item"] "is_state" (defScope s_is_state) f cdv A outer s H E) G E (defBody s_is_state) (m_is_state c) := by
  have hr : Room (2 * k) (A.deeper (PyProof.Rows.envOfC "is_state" (defScope s_is_state) s.heap.objs.size f cdv)) := hr1.mono (Nat.le_succ _)
  have hx : Passes (L2.CX P w) (cxOf (L2.CX P w) P w G.K mg base ["value", "item"] "is_state" (defScope s_is_state) f cdv A outer s H E) E := passes_call (takes_of rfl rfl rfl rfl) fun _ _ _ _ h => h
  have hu := hr.units
  have nd := (sc_is_state).nd
  have hp : PassesOwn (model P w) (A.deeper (PyProof.Rows.envOfC "is_state" (defScope s_is_state) s.heap.objs.size f cdv)) (PyProof.Rows.envOfC "is_state" (defScope s_is_state) s.heap.objs.size f cdv) (cxOf (L2.CX P w) P w G.K mg base ["value", "item"] "is_state" (defScope s_is_state) f cdv A outer s H E).xe := PassesOwn.leaving
  exact qss_cons (qs_if (qt_w (qw_or (qt_not (qt_val (qe_isa (by rfl) T.z_isinstance rfl (pe_bltn (by rfl) T.z_tuple PyProof.Rows.boot_tuple rfl) (qe_var (pv 0))))) (qw_or (qt_cmp (q_ne rfl hu) (qe_callB (q_len rfl) (by rfl) T.z_len PySem.boot_len (qa_cons (qe_var (pv 0)) (qa_nil))) (qe_int) (nomark _)) (qw_or (qt_not (qt_val (qe_call (hs .f_is_block) rfl hr (by rfl) hx (qa_cons (qe_ix rfl (qe_var (pv 0)) (qe_int)) (qa_cons (T.c_DEEPEST_steps (by rfl)) (qa_nil)))))) (qw_or1 (qt_not (qt_val (qe_call (hs .f_is_store) rfl hr (by rfl) hx (qa_cons (qe_ix rfl (qe_var (pv 0)) (qe_int)) (qa_nil)))))))))) (qss_cons (qs_ret (qe_bl)) (qss_nil)) (qss_nil)) (qss_cons (qs_ret (qe_and (qe_isa (by rfl) T.z_isinstance rfl (pe_bltn (by rfl) T.z_tuple PyProof.Rows.boot_tuple rfl) (qe_ix rfl (qe_var (pv 0)) (qe_int))) (qe_one (qe_callB (q_all rfl) (by rfl) T.z_all PyProof.Rows.boot_all (qa_cons (qe_frz (qf_lc (own := [("item", 1)]) (ts := [1]) rfl nd (qi_seq rfl (qe_ix rfl (qe_var (pv 0)) (qe_int))) (blkOk_by (N := ["value", "item"]) (sc := defScope s_is_state) (by decide +kernel)) (fun _ _ _ _ _ => qg_name (i := 1) nd rfl (by first | exact Or.inl rfl | exact Or.inr rfl)) (fun _ _ _ _ _ => qts_nil) (fun _ _ _ _ _ => qe_call (hs .f_is_told) rfl hr (by rfl) passL (qa_cons (qe_var (pv 1)) (qa_nil))) (by decide))) (qa_nil)))))) (qss_nil))
theorem q_is_told {f : Addr} {cdv : Value} {A : Around} {outer : List PySem.Env} {s : Shared} {H : Hp} {E : XK} (T : Txt G w mg) (hs : HasAll P w G mg base k c) (hr1 : Room (2 * k + 1) (A.deeper (PyProof.Rows.envOfC "is_told" (defScope s_is_told) s.heap.objs.size f cdv))) :
    QSs (cxOf (L2.CX P w) P w G.K mg base ["value"] "is_told" (defScope s_is_told) f cdv A outer s H E) G E (defBody s_is_told) (m_is_told c) := by
  have hr : Room (2 * k) (A.deeper (PyProof.Rows.envOfC "is_told" (defScope s_is_told) s.heap.objs.size f cdv)) := hr1.mono (Nat.le_succ _)
  have hx : Passes (L2.CX P w) (cxOf (L2.CX P w) P w G.K mg base ["value"] "is_told" (defScope s_is_told) f cdv A outer s H E) E := passes_call (takes_of rfl rfl rfl rfl) fun _ _ _ _ h => h
  have hu := hr.units
  have nd := (sc_is_told).nd
  have hp : PassesOwn (model P w) (A.deeper (PyProof.Rows.envOfC "is_told" (defScope s_is_told) s.heap.objs.size f cdv)) (PyProof.Rows.envOfC "is_told" (defScope s_is_told) s.heap.objs.size f cdv) (cxOf (L2.CX P w) P w G.K mg base ["value"] "is_told" (defScope s_is_told) f cdv A outer s H E).xe := PassesOwn.leaving
  exact qss_cons (qs_ret (qe_call (hs .f_is_store) rfl hr (by rfl) hx (qa_cons (qe_tup (qa_cons (qe_var (pv 0)) (qa_cons (qe_int) (qa_cons (qe_int) (qa_cons (qe_int) (qa_nil)))))) (qa_nil)))) (qss_nil)
theorem q_takes_turn_steps {f : Addr} {cdv : Value} {A : Around} {outer : List PySem.Env} {s : Shared} {H : Hp} {E : XK} (T : Txt G w mg) (hs : HasAll P w G mg base k c) (hr1 : Room (2 * k + 1) (A.deeper (PyProof.Rows.envOfC "takes_turn" (defScope s_takes_turn_steps) s.heap.objs.size f cdv))) :
    QSs (cxOf (L2.CX P w) P w G.K mg base ["state"] "takes_turn" (defScope s_takes_turn_steps) f cdv A outer s H E) G E (defBody s_takes_turn_steps) (m_takes_turn_steps c) := by
  have hr : Room (2 * k) (A.deeper (PyProof.Rows.envOfC "takes_turn" (defScope s_takes_turn_steps) s.heap.objs.size f cdv)) := hr1.mono (Nat.le_succ _)
  have hx : Passes (L2.CX P w) (cxOf (L2.CX P w) P w G.K mg base ["state"] "takes_turn" (defScope s_takes_turn_steps) f cdv A outer s H E) E := passes_call (takes_of rfl rfl rfl rfl) fun _ _ _ _ h => h
  have hu := hr.units
  have nd := (sc_takes_turn_steps).nd
  have hp : PassesOwn (model P w) (A.deeper (PyProof.Rows.envOfC "takes_turn" (defScope s_takes_turn_steps) s.heap.objs.size f cdv)) (PyProof.Rows.envOfC "takes_turn" (defScope s_takes_turn_steps) s.heap.objs.size f cdv) (cxOf (L2.CX P w) P w G.K mg base ["state"] "takes_turn" (defScope s_takes_turn_steps) f cdv A outer s H E).xe := PassesOwn.leaving
  exact qss_cons (qs_ret (qe_and (qe_cmp q_gt (qe_callB (q_len rfl) (by rfl) T.z_len PySem.boot_len (qa_cons (qe_ix rfl (qe_var (pv 0)) (qe_int)) (qa_nil))) (qe_int) (nomark _)) (qe_one (qe_cmp (q_eq rfl hu) (qe_ix rfl (qe_ix rfl (qe_ix rfl (qe_var (pv 0)) (qe_int)) (qe_int)) (qe_int)) (qe_str) (nomark _))))) (qss_nil)
theorem q_step_steps {f : Addr} {cdv : Value} {A : Around} {outer : List PySem.Env} {s : Shared} {H : Hp} {E : XK} (T : Txt G w mg) (hs : HasAll P w G mg base k c) (hr1 : Room (2 * k + 1) (A.deeper (PyProof.Rows.envOfC "step" (defScope s_step_steps) s.heap.objs.size f cdv))) :
    QSs (cxOf (L2.CX P w) P w G.K mg base ["state", "block", "store", "told", "deed", "rest", "value"] "step" (defScope s_step_steps) f cdv A outer s H E) G E (defBody s_step_steps) (m_step_steps c) := by
  have hr : Room (2 * k) (A.deeper (PyProof.Rows.envOfC "step" (defScope s_step_steps) s.heap.objs.size f cdv)) := hr1.mono (Nat.le_succ _)
  have hx : Passes (L2.CX P w) (cxOf (L2.CX P w) P w G.K mg base ["state", "block", "store", "told", "deed", "rest", "value"] "step" (defScope s_step_steps) f cdv A outer s H E) E := passes_call (takes_of rfl rfl rfl rfl) fun _ _ _ _ h => h
  have hu := hr.units
  have nd := (sc_step_steps).nd
  have hp : PassesOwn (model P w) (A.deeper (PyProof.Rows.envOfC "step" (defScope s_step_steps) s.heap.objs.size f cdv)) (PyProof.Rows.envOfC "step" (defScope s_step_steps) s.heap.objs.size f cdv) (cxOf (L2.CX P w) P w G.K mg base ["state", "block", "store", "told", "deed", "rest", "value"] "step" (defScope s_step_steps) f cdv A outer s H E).xe := PassesOwn.leaving
  exact qss_cons (qs_asg (ts := [1, 2, 3]) (qe_var (pv 0)) (qg_tup rfl rfl (qgs_cons (pg_name (i := 1) nd rfl (by first | exact Or.inl rfl | exact Or.inr rfl)) (qgs_cons (pg_name (i := 2) nd rfl (by first | exact Or.inl rfl | exact Or.inr rfl)) (qgs_cons (pg_name (i := 3) nd rfl (by first | exact Or.inl rfl | exact Or.inr rfl)) (qgs_nil)))))) (qss_cons (qs_if (qt_cmp (q_eq rfl hu) (qe_callB (q_len rfl) (by rfl) T.z_len PySem.boot_len (qa_cons (qe_var (pv 1)) (qa_nil))) (qe_int) (nomark _)) (qss_cons (qs_ret (qe_non)) (qss_nil)) (qss_nil)) (qss_cons (qs_par (i := 4) (j := 5) rfl nd rfl rfl (by decide) rfl rfl (qa_cons (qe_ix rfl (qe_var (pv 1)) (qe_int)) (qa_cons (qe_sl rfl (qe_var (pv 1)) (qo_some (qe_int)) (qo_none)) (qa_nil)))) (qss_cons (qs_if (qt_cmp (q_eq rfl hu) (qe_ix rfl (qe_var (pv 4)) (qe_int)) (qe_str) (nomark _)) (qss_cons (qs_ret (qe_tup (qa_cons (qe_var (pv 5)) (qa_cons (qe_call (hs .f_with_value) rfl hr (by rfl) hx (qa_cons (qe_var (pv 2)) (qa_cons (qe_ix rfl (qe_var (pv 4)) (qe_int)) (qa_cons (qe_call (hs .f_value_of) rfl hr (by rfl) hx (qa_cons (qe_ix rfl (qe_var (pv 4)) (qe_int)) (qa_cons (qe_var (pv 2)) (qa_nil)))) (qa_nil))))) (qa_cons (qe_var (pv 3)) (qa_nil)))))) (qss_nil)) (qss_nil)) (qss_cons (qs_set (i := 6) nd rfl (by first | exact Or.inl rfl | exact Or.inr rfl) (qe_call (hs .f_value_of) rfl hr (by rfl) hx (qa_cons (qe_ix rfl (qe_var (pv 4)) (qe_int)) (qa_cons (qe_var (pv 2)) (qa_nil))))) (qss_cons (qs_if (qt_cmp (q_eq rfl hu) (qe_ix rfl (qe_var (pv 4)) (qe_int)) (qe_str) (nomark _)) (qss_cons (qs_ret (qe_tup (qa_cons (qe_var (pv 5)) (qa_cons (qe_var (pv 2)) (qa_cons (qe_bin (q_plus rfl) (qe_var (pv 3)) (qe_tup (qa_cons (qe_var (pv 6)) (qa_nil)))) (qa_nil)))))) (qss_nil)) (qss_nil)) (qss_cons (qs_if (qt_cmp (q_eq rfl hu) (qe_ix rfl (qe_var (pv 4)) (qe_int)) (qe_str) (nomark _)) (qss_cons (qs_ret (qe_tup (qa_cons (qe_bin (q_plus rfl) (qe_if (qt_cmp (q_ne rfl hu) (qe_var (pv 6)) (qe_int) (nomark _)) (qe_ix rfl (qe_var (pv 4)) (qe_int)) (qe_ix rfl (qe_var (pv 4)) (qe_int))) (qe_var (pv 5))) (qa_cons (qe_var (pv 2)) (qa_cons (qe_var (pv 3)) (qa_nil)))))) (qss_nil)) (qss_nil)) (qss_cons (qs_ret (qe_tup (qa_cons (qe_if (qt_cmp (q_ne rfl hu) (qe_var (pv 6)) (qe_int) (nomark _)) (qe_bin (q_plus rfl) (qe_ix rfl (qe_var (pv 4)) (qe_int)) (qe_var (pv 1))) (qe_var (pv 5))) (qa_cons (qe_var (pv 2)) (qa_cons (qe_var (pv 3)) (qa_nil)))))) (qss_nil))))))))
theorem q_trace {f : Addr} {cdv : Value} {A : Around} {outer : List PySem.Env} {s : Shared} {H : Hp} {E : XK} (T : Txt G w mg) (hs : HasAll P w G mg base k c) (hr1 : Room (2 * k + 1) (A.deeper (PyProof.Rows.envOfC "trace" (defScope s_trace) s.heap.objs.size f cdv))) :
    QSs (cxOf (L2.CX P w) P w G.K mg base ["program", "store", "turns", "found", "after"] "trace" (defScope s_trace) f cdv A outer s H E) G E (defBody s_trace) (m_trace c) := by
  have hr : Room (2 * k) (A.deeper (PyProof.Rows.envOfC "trace" (defScope s_trace) s.heap.objs.size f cdv)) := hr1.mono (Nat.le_succ _)
  have hx : Passes (L2.CX P w) (cxOf (L2.CX P w) P w G.K mg base ["program", "store", "turns", "found", "after"] "trace" (defScope s_trace) f cdv A outer s H E) E := passes_call (takes_of rfl rfl rfl rfl) fun _ _ _ _ h => h
  have hu := hr.units
  have nd := (sc_trace).nd
  have hp : PassesOwn (model P w) (A.deeper (PyProof.Rows.envOfC "trace" (defScope s_trace) s.heap.objs.size f cdv)) (PyProof.Rows.envOfC "trace" (defScope s_trace) s.heap.objs.size f cdv) (cxOf (L2.CX P w) P w G.K mg base ["program", "store", "turns", "found", "after"] "trace" (defScope s_trace) f cdv A outer s H E).xe := PassesOwn.leaving
  exact qss_cons (qs_set (i := 3) nd rfl (by first | exact Or.inl rfl | exact Or.inr rfl) (qe_new (qf_lst (qa_cons (qe_tup (qa_cons (qe_var (pv 0)) (qa_cons (qe_var (pv 1)) (qa_cons (qe_tup (qa_nil)) (qa_nil))))) (qa_nil))))) (qss_cons (qs_while hp (qt_val (qe_bl)) (qss_cons (qs_if (qt_val (qe_call (hs .f_takes_turn_steps) rfl hr (by rfl) hx (qa_cons (qe_ix rfl (qe_var (pv 3)) (qe_neg (qe_int))) (qa_nil)))) (qss_cons (qs_if (qt_cmp (q_eq rfl hu) (qe_var (pv 2)) (qe_int) (nomark _)) (qss_cons (qs_ret (qe_un (qe_var (pv 3)))) (qss_nil)) (qss_nil)) (qss_cons (qs_aug (i := 2) nd rfl (by first | exact Or.inl rfl | exact Or.inr rfl) (qe_int) q_isub) (qss_nil))) (qss_nil)) (qss_cons (qs_set (i := 4) nd rfl (by first | exact Or.inl rfl | exact Or.inr rfl) (qe_call (hs .f_step_steps) rfl hr (by rfl) hx (qa_cons (qe_ix rfl (qe_var (pv 3)) (qe_neg (qe_int))) (qa_nil)))) (qss_cons (qs_if (qt_isN (qe_var (pv 4))) (qss_cons (qs_ret (qe_un (qe_var (pv 3)))) (qss_nil)) (qss_nil)) (qss_cons (qs_do (qe_app (qe_var (pv 3)) (qe_var (pv 4)))) (qss_nil)))))) (qss_nil))
theorem q_run_steps {f : Addr} {cdv : Value} {A : Around} {outer : List PySem.Env} {s : Shared} {H : Hp} {E : XK} (T : Txt G w mg) (hs : HasAll P w G mg base k c) (hr1 : Room (2 * k + 1) (A.deeper (PyProof.Rows.envOfC "run" (defScope s_run_steps) s.heap.objs.size f cdv))) :
    QSs (cxOf (L2.CX P w) P w G.K mg base ["program", "store", "turns", "block", "last", "told"] "run" (defScope s_run_steps) f cdv A outer s H E) G E (defBody s_run_steps) (m_run_steps c) := by
  have hr : Room (2 * k) (A.deeper (PyProof.Rows.envOfC "run" (defScope s_run_steps) s.heap.objs.size f cdv)) := hr1.mono (Nat.le_succ _)
  have hx : Passes (L2.CX P w) (cxOf (L2.CX P w) P w G.K mg base ["program", "store", "turns", "block", "last", "told"] "run" (defScope s_run_steps) f cdv A outer s H E) E := passes_call (takes_of rfl rfl rfl rfl) fun _ _ _ _ h => h
  have hu := hr.units
  have nd := (sc_run_steps).nd
  have hp : PassesOwn (model P w) (A.deeper (PyProof.Rows.envOfC "run" (defScope s_run_steps) s.heap.objs.size f cdv)) (PyProof.Rows.envOfC "run" (defScope s_run_steps) s.heap.objs.size f cdv) (cxOf (L2.CX P w) P w G.K mg base ["program", "store", "turns", "block", "last", "told"] "run" (defScope s_run_steps) f cdv A outer s H E).xe := PassesOwn.leaving
  exact qss_cons (qs_asg (ts := [3, 4, 5]) (qe_ix rfl (qe_call (hs .f_trace) rfl hr (by rfl) hx (qa_cons (qe_var (pv 0)) (qa_cons (qe_var (pv 1)) (qa_cons (qe_var (pv 2)) (qa_nil))))) (qe_neg (qe_int))) (qg_tup rfl rfl (qgs_cons (pg_name (i := 3) nd rfl (by first | exact Or.inl rfl | exact Or.inr rfl)) (qgs_cons (pg_name (i := 4) nd rfl (by first | exact Or.inl rfl | exact Or.inr rfl)) (qgs_cons (pg_name (i := 5) nd rfl (by first | exact Or.inl rfl | exact Or.inr rfl)) (qgs_nil)))))) (qss_cons (qs_ret (qe_if (qt_cmp (q_eq rfl hu) (qe_callB (q_len rfl) (by rfl) T.z_len PySem.boot_len (qa_cons (qe_var (pv 3)) (qa_nil))) (qe_int) (nomark _)) (qe_tup (qa_cons (qe_str) (qa_cons (qe_var (pv 4)) (qa_cons (qe_var (pv 5)) (qa_nil))))) (qe_tup (qa_cons (qe_str) (qa_cons (qe_var (pv 5)) (qa_nil)))))) (qss_nil))
theorem q_fault_steps {f : Addr} {cdv : Value} {A : Around} {outer : List PySem.Env} {s : Shared} {H : Hp} {E : XK} (T : Txt G w mg) (hs : HasAll P w G mg base k c) (hr1 : Room (2 * k + 1) (A.deeper (PyProof.Rows.envOfC "fault" (defScope s_fault_steps) s.heap.objs.size f cdv))) :
    QSs (cxOf (L2.CX P w) P w G.K mg base ["program", "store", "value", "k", "state"] "fault" (defScope s_fault_steps) f cdv A outer s H E) G E (defBody s_fault_steps) (m_fault_steps c) := by
  have hr : Room (2 * k) (A.deeper (PyProof.Rows.envOfC "fault" (defScope s_fault_steps) s.heap.objs.size f cdv)) := hr1.mono (Nat.le_succ _)
  have hx : Passes (L2.CX P w) (cxOf (L2.CX P w) P w G.K mg base ["program", "store", "value", "k", "state"] "fault" (defScope s_fault_steps) f cdv A outer s H E) E := passes_call (takes_of rfl rfl rfl rfl) fun _ _ _ _ h => h
  have hu := hr.units
  have nd := (sc_fault_steps).nd
  have hp : PassesOwn (model P w) (A.deeper (PyProof.Rows.envOfC "fault" (defScope s_fault_steps) s.heap.objs.size f cdv)) (PyProof.Rows.envOfC "fault" (defScope s_fault_steps) s.heap.objs.size f cdv) (cxOf (L2.CX P w) P w G.K mg base ["program", "store", "value", "k", "state"] "fault" (defScope s_fault_steps) f cdv A outer s H E).xe := PassesOwn.leaving
  exact qss_cons (qs_if (qt_w (qw_or (qt_not (qt_val (qe_isa (by rfl) T.z_isinstance rfl (pe_bltn (by rfl) T.z_tuple PyProof.Rows.boot_tuple rfl) (qe_var (pv 2))))) (qw_or (qt_cmp (q_eq rfl hu) (qe_callB (q_len rfl) (by rfl) T.z_len PySem.boot_len (qa_cons (qe_var (pv 2)) (qa_nil))) (qe_int) (nomark _)) (qw_or1 (qt_not (qt_val (qe_callB (q_all rfl) (by rfl) T.z_all PyProof.Rows.boot_all (qa_cons (qe_frz (qf_lc (own := [("state", 4)]) (ts := [4]) rfl nd (qi_seq rfl (qe_var (pv 2))) (blkOk_by (N := ["program", "store", "value", "k", "state"]) (sc := defScope s_fault_steps) (by decide +kernel)) (fun _ _ _ _ _ => qg_name (i := 4) nd rfl (by first | exact Or.inl rfl | exact Or.inr rfl)) (fun _ _ _ _ _ => qts_nil) (fun _ _ _ _ _ => qe_call (hs .f_is_state) rfl hr (by rfl) passL (qa_cons (qe_var (pv 4)) (qa_nil))) (by decide))) (qa_nil))))))))) (qss_cons (qs_ret (qe_tup (qa_cons (qe_str) (qa_cons (qe_int) (qa_nil))))) (qss_nil)) (qss_nil)) (qss_cons (qs_if (qt_cmp (q_ne rfl hu) (qe_ix rfl (qe_var (pv 2)) (qe_int)) (qe_tup (qa_cons (qe_var (pv 0)) (qa_cons (qe_var (pv 1)) (qa_cons (qe_tup (qa_nil)) (qa_nil))))) (nomark _)) (qss_cons (qs_ret (qe_tup (qa_cons (qe_str) (qa_cons (qe_int) (qa_nil))))) (qss_nil)) (qss_nil)) (qss_cons (qs_for (ts := [3]) hp rfl (qi_rng1 (by rfl) T.z_range (qa_cons (qe_bin q_sub (qe_callB (q_len rfl) (by rfl) T.z_len PySem.boot_len (qa_cons (qe_var (pv 2)) (qa_nil))) (qe_int)) (qa_nil))) (qg_name (i := 3) nd rfl (by first | exact Or.inl rfl | exact Or.inr rfl)) (qss_cons (qs_if (qt_cmp (q_ne rfl hu) (qe_call (hs .f_step_steps) rfl hr (by rfl) hx (qa_cons (qe_ix rfl (qe_var (pv 2)) (qe_var (pv 3))) (qa_nil))) (qe_ix rfl (qe_var (pv 2)) (qe_bin (q_plus rfl) (qe_var (pv 3)) (qe_int))) (nomark _)) (qss_cons (qs_ret (qe_tup (qa_cons (qe_str) (qa_cons (qe_bin (q_plus rfl) (qe_var (pv 3)) (qe_int)) (qa_nil))))) (qss_nil)) (qss_nil)) (qss_nil))) (qss_cons (qs_ret (qe_non)) (qss_nil))))
theorem q_Debugger___init__ {f : Addr} {cdv : Value} {A : Around} {outer : List PySem.Env} {s : Shared} {H : Hp} {E : XK} (T : Txt G w mg) (hs : HasAll P w G mg base k c) (hr1 : Room (2 * k + 1) (A.deeper (PyProof.Rows.envOfC "Debugger.__init__" (defScope s_Debugger___init__) s.heap.objs.size f cdv))) :
    QSs (cxOf (L2.CX P w) P w G.K mg base ["self", "program", "store"] "Debugger.__init__" (defScope s_Debugger___init__) f cdv A outer s H E) G E (defBody s_Debugger___init__) (m_Debugger___init__ c) := by
  have hr : Room (2 * k) (A.deeper (PyProof.Rows.envOfC "Debugger.__init__" (defScope s_Debugger___init__) s.heap.objs.size f cdv)) := hr1.mono (Nat.le_succ _)
  have hx : Passes (L2.CX P w) (cxOf (L2.CX P w) P w G.K mg base ["self", "program", "store"] "Debugger.__init__" (defScope s_Debugger___init__) f cdv A outer s H E) E := passes_call (takes_of rfl rfl rfl rfl) fun _ _ _ _ h => h
  have hu := hr.units
  have nd := (sc_Debugger___init__).nd
  have hp : PassesOwn (model P w) (A.deeper (PyProof.Rows.envOfC "Debugger.__init__" (defScope s_Debugger___init__) s.heap.objs.size f cdv)) (PyProof.Rows.envOfC "Debugger.__init__" (defScope s_Debugger___init__) s.heap.objs.size f cdv) (cxOf (L2.CX P w) P w G.K mg base ["self", "program", "store"] "Debugger.__init__" (defScope s_Debugger___init__) f cdv A outer s H E).xe := PassesOwn.leaving
  exact qss_cons (qs_if (qt_notN (qe_call (hs .f_fault_trees) rfl hr (by rfl) hx (qa_cons (qe_var (pv 1)) (qa_nil)))) (qss_cons (qs_stk) (qss_nil)) (qss_nil)) (qss_cons (qs_fldPut rfl T.c_Debugger T.n_Debugger__states (qe_var (pv 0)) (qe_new (qf_lst (qa_cons (qe_tup (qa_cons (qe_var (pv 1)) (qa_cons (qe_var (pv 2)) (qa_cons (qe_tup (qa_nil)) (qa_nil))))) (qa_nil))))) (qss_nil))
theorem q_Debugger___len__ {f : Addr} {cdv : Value} {A : Around} {outer : List PySem.Env} {s : Shared} {H : Hp} {E : XK} (T : Txt G w mg) (hs : HasAll P w G mg base k c) (hr1 : Room (2 * k + 1) (A.deeper (PyProof.Rows.envOfC "Debugger.__len__" (defScope s_Debugger___len__) s.heap.objs.size f cdv))) :
    QSs (cxOf (L2.CX P w) P w G.K mg base ["self"] "Debugger.__len__" (defScope s_Debugger___len__) f cdv A outer s H E) G E (defBody s_Debugger___len__) (m_Debugger___len__ c) := by
  have hr : Room (2 * k) (A.deeper (PyProof.Rows.envOfC "Debugger.__len__" (defScope s_Debugger___len__) s.heap.objs.size f cdv)) := hr1.mono (Nat.le_succ _)
  have hx : Passes (L2.CX P w) (cxOf (L2.CX P w) P w G.K mg base ["self"] "Debugger.__len__" (defScope s_Debugger___len__) f cdv A outer s H E) E := passes_call (takes_of rfl rfl rfl rfl) fun _ _ _ _ h => h
  have hu := hr.units
  have nd := (sc_Debugger___len__).nd
  have hp : PassesOwn (model P w) (A.deeper (PyProof.Rows.envOfC "Debugger.__len__" (defScope s_Debugger___len__) s.heap.objs.size f cdv)) (PyProof.Rows.envOfC "Debugger.__len__" (defScope s_Debugger___len__) s.heap.objs.size f cdv) (cxOf (L2.CX P w) P w G.K mg base ["self"] "Debugger.__len__" (defScope s_Debugger___len__) f cdv A outer s H E).xe := PassesOwn.leaving
  exact qss_cons (qs_ret (qe_callB (q_len rfl) (by rfl) T.z_len PySem.boot_len (qa_cons (qe_sl rfl (qe_fld rfl T.c_Debugger T.n_Debugger__states (qe_var (pv 0))) (qo_some (qe_int)) (qo_none)) (qa_nil)))) (qss_nil)
theorem q_Debugger_state {f : Addr} {cdv : Value} {A : Around} {outer : List PySem.Env} {s : Shared} {H : Hp} {E : XK} (T : Txt G w mg) (hs : HasAll P w G mg base k c) (hr1 : Room (2 * k + 1) (A.deeper (PyProof.Rows.envOfC "Debugger.state" (defScope s_Debugger_state) s.heap.objs.size f cdv))) :
    QSs (cxOf (L2.CX P w) P w G.K mg base ["self"] "Debugger.state" (defScope s_Debugger_state) f cdv A outer s H E) G E (defBody s_Debugger_state) (m_Debugger_state c) := by
  have hr : Room (2 * k) (A.deeper (PyProof.Rows.envOfC "Debugger.state" (defScope s_Debugger_state) s.heap.objs.size f cdv)) := hr1.mono (Nat.le_succ _)
  have hx : Passes (L2.CX P w) (cxOf (L2.CX P w) P w G.K mg base ["self"] "Debugger.state" (defScope s_Debugger_state) f cdv A outer s H E) E := passes_call (takes_of rfl rfl rfl rfl) fun _ _ _ _ h => h
  have hu := hr.units
  have nd := (sc_Debugger_state).nd
  have hp : PassesOwn (model P w) (A.deeper (PyProof.Rows.envOfC "Debugger.state" (defScope s_Debugger_state) s.heap.objs.size f cdv)) (PyProof.Rows.envOfC "Debugger.state" (defScope s_Debugger_state) s.heap.objs.size f cdv) (cxOf (L2.CX P w) P w G.K mg base ["self"] "Debugger.state" (defScope s_Debugger_state) f cdv A outer s H E).xe := PassesOwn.leaving
  exact qss_cons (qs_ret (qe_ix rfl (qe_fld rfl T.c_Debugger T.n_Debugger__states (qe_var (pv 0))) (qe_neg (qe_int)))) (qss_nil)
theorem q_Debugger_turns {f : Addr} {cdv : Value} {A : Around} {outer : List PySem.Env} {s : Shared} {H : Hp} {E : XK} (T : Txt G w mg) (hs : HasAll P w G mg base k c) (hr1 : Room (2 * k + 1) (A.deeper (PyProof.Rows.envOfC "Debugger.turns" (defScope s_Debugger_turns) s.heap.objs.size f cdv))) :
    QSs (cxOf (L2.CX P w) P w G.K mg base ["self", "state"] "Debugger.turns" (defScope s_Debugger_turns) f cdv A outer s H E) G E (defBody s_Debugger_turns) (m_Debugger_turns c) := by
  have hr : Room (2 * k) (A.deeper (PyProof.Rows.envOfC "Debugger.turns" (defScope s_Debugger_turns) s.heap.objs.size f cdv)) := hr1.mono (Nat.le_succ _)
  have hx : Passes (L2.CX P w) (cxOf (L2.CX P w) P w G.K mg base ["self", "state"] "Debugger.turns" (defScope s_Debugger_turns) f cdv A outer s H E) E := passes_call (takes_of rfl rfl rfl rfl) fun _ _ _ _ h => h
  have hu := hr.units
  have nd := (sc_Debugger_turns).nd
  have hp : PassesOwn (model P w) (A.deeper (PyProof.Rows.envOfC "Debugger.turns" (defScope s_Debugger_turns) s.heap.objs.size f cdv)) (PyProof.Rows.envOfC "Debugger.turns" (defScope s_Debugger_turns) s.heap.objs.size f cdv) (cxOf (L2.CX P w) P w G.K mg base ["self", "state"] "Debugger.turns" (defScope s_Debugger_turns) f cdv A outer s H E).xe := PassesOwn.leaving
  exact qss_cons (qs_ret (qe_callB (q_len rfl) (by rfl) T.z_len PySem.boot_len (qa_cons (qe_frz (qf_lc (own := [("state", 1)]) (ts := [1]) rfl nd (qi_seq rfl (qe_sl rfl (qe_fld rfl T.c_Debugger T.n_Debugger__states (qe_var (pv 0))) (qo_none) (qo_some (qe_neg (qe_int))))) (blkOk_by (N := ["self", "state"]) (sc := defScope s_Debugger_turns) (by decide +kernel)) (fun _ _ _ _ _ => qg_name (i := 1) nd rfl (by first | exact Or.inl rfl | exact Or.inr rfl)) (fun _ _ _ _ _ => qts_one (qt_val (qe_call (hs .f_takes_turn_steps) rfl hr (by rfl) passL (qa_cons (qe_var (pv 1)) (qa_nil))))) (fun _ _ _ _ _ => qe_var (pv 1)) (by decide))) (qa_nil)))) (qss_nil)
theorem q_Debugger_forth {f : Addr} {cdv : Value} {A : Around} {outer : List PySem.Env} {s : Shared} {H : Hp} {E : XK} (T : Txt G w mg) (hs : HasAll P w G mg base k c) (hr1 : Room (2 * k + 1) (A.deeper (PyProof.Rows.envOfC "Debugger.forth" (defScope s_Debugger_forth) s.heap.objs.size f cdv))) :
    QSs (cxOf (L2.CX P w) P w G.K mg base ["self", "many", "found", "state", "_"] "Debugger.forth" (defScope s_Debugger_forth) f cdv A outer s H E) G E (defBody s_Debugger_forth) (m_Debugger_forth c) := by
  have hr : Room (2 * k) (A.deeper (PyProof.Rows.envOfC "Debugger.forth" (defScope s_Debugger_forth) s.heap.objs.size f cdv)) := hr1.mono (Nat.le_succ _)
  have hx : Passes (L2.CX P w) (cxOf (L2.CX P w) P w G.K mg base ["self", "many", "found", "state", "_"] "Debugger.forth" (defScope s_Debugger_forth) f cdv A outer s H E) E := passes_call (takes_of rfl rfl rfl rfl) fun _ _ _ _ h => h
  have hu := hr.units
  have nd := (sc_Debugger_forth).nd
  have hp : PassesOwn (model P w) (A.deeper (PyProof.Rows.envOfC "Debugger.forth" (defScope s_Debugger_forth) s.heap.objs.size f cdv)) (PyProof.Rows.envOfC "Debugger.forth" (defScope s_Debugger_forth) s.heap.objs.size f cdv) (cxOf (L2.CX P w) P w G.K mg base ["self", "many", "found", "state", "_"] "Debugger.forth" (defScope s_Debugger_forth) f cdv A outer s H E).xe := PassesOwn.leaving
  exact qss_cons (qs_if (qt_not (qt_val (qe_call (hs .f_is_from) rfl hr (by rfl) hx (qa_cons (qe_var (pv 1)) (qa_cons (qe_int) (qa_cons (T.c_MOST_debugger (by rfl)) (qa_nil))))))) (qss_cons (qs_stk) (qss_nil)) (qss_nil)) (qss_cons (qs_set (i := 2) nd rfl (by first | exact Or.inl rfl | exact Or.inr rfl) (qe_new (qf_lst (qa_nil)))) (qss_cons (qs_set (i := 3) nd rfl (by first | exact Or.inl rfl | exact Or.inr rfl) (qe_ix rfl (qe_fld rfl T.c_Debugger T.n_Debugger__states (qe_var (pv 0))) (qe_neg (qe_int)))) (qss_cons (qs_for (ts := [4]) hp rfl (qi_rng1 (by rfl) T.z_range (qa_cons (qe_var (pv 1)) (qa_nil))) (qg_name (i := 4) nd rfl (by first | exact Or.inl rfl | exact Or.inr rfl)) (qss_cons (qs_set (i := 3) nd rfl (by first | exact Or.inl rfl | exact Or.inr rfl) (qe_call (hs .f_step_steps) rfl hr (by rfl) hx (qa_cons (qe_var (pv 3)) (qa_nil)))) (qss_cons (qs_if (qt_isN (qe_var (pv 3))) (qss_cons (qs_stk) (qss_nil)) (qss_nil)) (qss_cons (qs_do (qe_app (qe_var (pv 2)) (qe_var (pv 3)))) (qss_nil))))) (qss_cons (qs_do (qe_ext (qe_fld rfl T.c_Debugger T.n_Debugger__states (qe_var (pv 0))) (qe_var (pv 2)))) (qss_nil)))))
theorem q_logged {f : Addr} {cdv : Value} {A : Around} {outer : List PySem.Env} {s : Shared} {H : Hp} {E : XK} (T : Txt G w mg) (hs : HasAll P w G mg base k c) (hr1 : Room (2 * k + 1) (A.deeper (PyProof.Rows.envOfC "logged" (defScope s_logged) s.heap.objs.size f cdv))) :
    QSs (cxOf (L2.CX P w) P w G.K mg base ["program", "store", "turns", "state", "log", "deed"] "logged" (defScope s_logged) f cdv A outer s H E) G E (defBody s_logged) (m_logged c) := by
  have hr : Room (2 * k) (A.deeper (PyProof.Rows.envOfC "logged" (defScope s_logged) s.heap.objs.size f cdv)) := hr1.mono (Nat.le_succ _)
  have hx : Passes (L2.CX P w) (cxOf (L2.CX P w) P w G.K mg base ["program", "store", "turns", "state", "log", "deed"] "logged" (defScope s_logged) f cdv A outer s H E) E := passes_call (takes_of rfl rfl rfl rfl) fun _ _ _ _ h => h
  have hu := hr.units
  have nd := (sc_logged).nd
  have hp : PassesOwn (model P w) (A.deeper (PyProof.Rows.envOfC "logged" (defScope s_logged) s.heap.objs.size f cdv)) (PyProof.Rows.envOfC "logged" (defScope s_logged) s.heap.objs.size f cdv) (cxOf (L2.CX P w) P w G.K mg base ["program", "store", "turns", "state", "log", "deed"] "logged" (defScope s_logged) f cdv A outer s H E).xe := PassesOwn.leaving
  exact qss_cons (qs_set (i := 3) nd rfl (by first | exact Or.inl rfl | exact Or.inr rfl) (qe_tup (qa_cons (qe_var (pv 0)) (qa_cons (qe_var (pv 1)) (qa_cons (qe_tup (qa_nil)) (qa_nil)))))) (qss_cons (qs_set (i := 4) nd rfl (by first | exact Or.inl rfl | exact Or.inr rfl) (qe_tup (qa_nil))) (qss_cons (qs_while hp (qt_w (qw_and (qt_cmp q_gt (qe_callB (q_len rfl) (by rfl) T.z_len PySem.boot_len (qa_cons (qe_ix rfl (qe_var (pv 3)) (qe_int)) (qa_nil))) (qe_int) (nomark _)) (qw_and1 (qt_not (qt_w (qw_and (qt_val (qe_call (hs .f_takes_turn_steps) rfl hr (by rfl) hx (qa_cons (qe_var (pv 3)) (qa_nil)))) (qw_and1 (qt_cmp (q_eq rfl hu) (qe_var (pv 2)) (qe_int) (nomark _))))))))) (qss_cons (qs_aug (i := 2) nd rfl (by first | exact Or.inl rfl | exact Or.inr rfl) (qe_callTy (q_int) (by rfl) T.z_int PyProof.Rows.boot_int (qa_cons (qe_call (hs .f_takes_turn_steps) rfl hr (by rfl) hx (qa_cons (qe_var (pv 3)) (qa_nil))) (qa_nil))) q_isub) (qss_cons (qs_set (i := 5) nd rfl (by first | exact Or.inl rfl | exact Or.inr rfl) (qe_ix rfl (qe_ix rfl (qe_var (pv 3)) (qe_int)) (qe_int))) (qss_cons (qs_if (qt_cmp (q_eq rfl hu) (qe_ix rfl (qe_var (pv 5)) (qe_int)) (qe_str) (nomark _)) (qss_cons (qs_aug (i := 4) nd rfl (by first | exact Or.inl rfl | exact Or.inr rfl) (qe_tup (qa_cons (qe_tup (qa_cons (qe_ix rfl (qe_var (pv 5)) (qe_int)) (qa_cons (qe_ix rfl (qe_ix rfl (qe_var (pv 3)) (qe_int)) (qe_ix rfl (qe_var (pv 5)) (qe_int))) (qa_nil)))) (qa_nil))) (q_iadd rfl)) (qss_nil)) (qss_nil)) (qss_cons (qs_set (i := 3) nd rfl (by first | exact Or.inl rfl | exact Or.inr rfl) (qe_call (hs .f_step_steps) rfl hr (by rfl) hx (qa_cons (qe_var (pv 3)) (qa_nil)))) (qss_nil)))))) (qss_cons (qs_ret (qe_tup (qa_cons (qe_var (pv 3)) (qa_cons (qe_var (pv 4)) (qa_cons (qe_var (pv 2)) (qa_nil)))))) (qss_nil))))
theorem q_is_log {f : Addr} {cdv : Value} {A : Around} {outer : List PySem.Env} {s : Shared} {H : Hp} {E : XK} (T : Txt G w mg) (hs : HasAll P w G mg base k c) (hr1 : Room (2 * k + 1) (A.deeper (PyProof.Rows.envOfC "is_log" (defScope s_is_log) s.heap.objs.size f cdv))) :
    QSs (cxOf (L2.CX P w) P w G.K mg base ["value", "part", "name", "old"] "is_log" (defScope s_is_log) f cdv A outer s H E) G E (defBody s_is_log) (m_is_log c) := by
  have hr : Room (2 * k) (A.deeper (PyProof.Rows.envOfC "is_log" (defScope s_is_log) s.heap.objs.size f cdv)) := hr1.mono (Nat.le_succ _)
  have hx : Passes (L2.CX P w) (cxOf (L2.CX P w) P w G.K mg base ["value", "part", "name", "old"] "is_log" (defScope s_is_log) f cdv A outer s H E) E := passes_call (takes_of rfl rfl rfl rfl) fun _ _ _ _ h => h
  have hu := hr.units
  have nd := (sc_is_log).nd
  have hp : PassesOwn (model P w) (A.deeper (PyProof.Rows.envOfC "is_log" (defScope s_is_log) s.heap.objs.size f cdv)) (PyProof.Rows.envOfC "is_log" (defScope s_is_log) s.heap.objs.size f cdv) (cxOf (L2.CX P w) P w G.K mg base ["value", "part", "name", "old"] "is_log" (defScope s_is_log) f cdv A outer s H E).xe := PassesOwn.leaving
  exact qss_cons (qs_if (qt_w (qw_or (qt_not (qt_val (qe_isa (by rfl) T.z_isinstance rfl (pe_bltn (by rfl) T.z_tuple PyProof.Rows.boot_tuple rfl) (qe_var (pv 0))))) (qw_or1 (qt_not (qt_val (qe_callB (q_all rfl) (by rfl) T.z_all PyProof.Rows.boot_all (qa_cons (qe_frz (qf_lc (own := [("part", 1)]) (ts := [1]) rfl nd (qi_seq rfl (qe_var (pv 0))) (blkOk_by (N := ["value", "part", "name", "old"]) (sc := defScope s_is_log) (by decide +kernel)) (fun _ _ _ _ _ => qg_name (i := 1) nd rfl (by first | exact Or.inl rfl | exact Or.inr rfl)) (fun _ _ _ _ _ => qts_nil) (fun _ _ _ _ _ => qe_and (qe_isa (by rfl) T.z_isinstance rfl (pe_bltn (by rfl) T.z_tuple PyProof.Rows.boot_tuple rfl) (qe_var (pv 1))) (qe_one (qe_cmp (q_eq rfl hu) (qe_callB (q_len rfl) (by rfl) T.z_len PySem.boot_len (qa_cons (qe_var (pv 1)) (qa_nil))) (qe_int) (nomark _)))) (by decide))) (qa_nil)))))))) (qss_cons (qs_ret (qe_bl)) (qss_nil)) (qss_nil)) (qss_cons (qs_ret (qe_callB (q_all rfl) (by rfl) T.z_all PyProof.Rows.boot_all (qa_cons (qe_frz (qf_lc (own := [("name", 2), ("old", 3)]) (ts := [2, 3]) rfl nd (qi_seq rfl (qe_var (pv 0))) (blkOk_by (N := ["value", "part", "name", "old"]) (sc := defScope s_is_log) (by decide +kernel)) (fun _ _ _ _ _ => qg_tup rfl rfl (qgs_cons (pg_name (i := 2) nd rfl (by first | exact Or.inl rfl | exact Or.inr rfl)) (qgs_cons (pg_name (i := 3) nd rfl (by first | exact Or.inl rfl | exact Or.inr rfl)) (qgs_nil)))) (fun _ _ _ _ _ => qts_nil) (fun _ _ _ _ _ => qe_and (qe_call (hs .f_is_from) rfl hr (by rfl) passL (qa_cons (qe_var (pv 2)) (qa_cons (qe_int) (qa_cons (qe_int) (qa_nil))))) (qe_one (qe_call (hs .f_is_from) rfl hr (by rfl) passL (qa_cons (qe_var (pv 3)) (qa_cons (qe_int) (qa_cons (qe_bin q_sub (T.c_SIZE (by rfl)) (qe_int)) (qa_nil))))))) (by decide))) (qa_nil)))) (qss_nil))
theorem q_taken_back {f : Addr} {cdv : Value} {A : Around} {outer : List PySem.Env} {s : Shared} {H : Hp} {E : XK} (T : Txt G w mg) (hs : HasAll P w G mg base k c) (hr1 : Room (2 * k + 1) (A.deeper (PyProof.Rows.envOfC "taken_back" (defScope s_taken_back) s.heap.objs.size f cdv))) :
    QSs (cxOf (L2.CX P w) P w G.K mg base ["store", "log", "many", "name", "old"] "taken_back" (defScope s_taken_back) f cdv A outer s H E) G E (defBody s_taken_back) (m_taken_back c) := by
  have hr : Room (2 * k) (A.deeper (PyProof.Rows.envOfC "taken_back" (defScope s_taken_back) s.heap.objs.size f cdv)) := hr1.mono (Nat.le_succ _)
  have hx : Passes (L2.CX P w) (cxOf (L2.CX P w) P w G.K mg base ["store", "log", "many", "name", "old"] "taken_back" (defScope s_taken_back) f cdv A outer s H E) E := passes_call (takes_of rfl rfl rfl rfl) fun _ _ _ _ h => h
  have hu := hr.units
  have nd := (sc_taken_back).nd
  have hp : PassesOwn (model P w) (A.deeper (PyProof.Rows.envOfC "taken_back" (defScope s_taken_back) s.heap.objs.size f cdv)) (PyProof.Rows.envOfC "taken_back" (defScope s_taken_back) s.heap.objs.size f cdv) (cxOf (L2.CX P w) P w G.K mg base ["store", "log", "many", "name", "old"] "taken_back" (defScope s_taken_back) f cdv A outer s H E).xe := PassesOwn.leaving
  exact qss_cons (qs_if (qt_w (qw_or (qt_not (qt_val (qe_call (hs .f_is_store) rfl hr (by rfl) hx (qa_cons (qe_var (pv 0)) (qa_nil))))) (qw_or (qt_not (qt_val (qe_call (hs .f_is_log) rfl hr (by rfl) hx (qa_cons (qe_var (pv 1)) (qa_nil))))) (qw_or1 (qt_not (qt_val (qe_call (hs .f_is_from) rfl hr (by rfl) hx (qa_cons (qe_var (pv 2)) (qa_cons (qe_int) (qa_cons (qe_callB (q_len rfl) (by rfl) T.z_len PySem.boot_len (qa_cons (qe_var (pv 1)) (qa_nil))) (qa_nil))))))))))) (qss_cons (qs_stk) (qss_nil)) (qss_nil)) (qss_cons (qs_for (ts := [3, 4]) hp rfl (qi_seq rfl (qe_rev rfl (qe_sl rfl (qe_var (pv 1)) (qo_some (qe_bin q_sub (qe_callB (q_len rfl) (by rfl) T.z_len PySem.boot_len (qa_cons (qe_var (pv 1)) (qa_nil))) (qe_var (pv 2)))) (qo_none)))) (qg_tup rfl rfl (qgs_cons (pg_name (i := 3) nd rfl (by first | exact Or.inl rfl | exact Or.inr rfl)) (qgs_cons (pg_name (i := 4) nd rfl (by first | exact Or.inl rfl | exact Or.inr rfl)) (qgs_nil)))) (qss_cons (qs_set (i := 0) nd rfl (by first | exact Or.inl rfl | exact Or.inr rfl) (qe_call (hs .f_with_value) rfl hr (by rfl) hx (qa_cons (qe_var (pv 0)) (qa_cons (qe_var (pv 3)) (qa_cons (qe_var (pv 4)) (qa_nil)))))) (qss_nil))) (qss_cons (qs_ret (qe_var (pv 0))) (qss_nil)))
theorem q_start {f : Addr} {cdv : Value} {A : Around} {outer : List PySem.Env} {s : Shared} {H : Hp} {E : XK} (T : Txt G w mg) (hs : HasAll P w G mg base k c) (hr1 : Room (2 * k + 1) (A.deeper (PyProof.Rows.envOfC "start" (defScope s_start) s.heap.objs.size f cdv))) :
    QSs (cxOf (L2.CX P w) P w G.K mg base ["program", "store"] "start" (defScope s_start) f cdv A outer s H E) G E (defBody s_start) (m_start c) := by
  have hr : Room (2 * k) (A.deeper (PyProof.Rows.envOfC "start" (defScope s_start) s.heap.objs.size f cdv)) := hr1.mono (Nat.le_succ _)
  have hx : Passes (L2.CX P w) (cxOf (L2.CX P w) P w G.K mg base ["program", "store"] "start" (defScope s_start) f cdv A outer s H E) E := passes_call (takes_of rfl rfl rfl rfl) fun _ _ _ _ h => h
  have hu := hr.units
  have nd := (sc_start).nd
  have hp : PassesOwn (model P w) (A.deeper (PyProof.Rows.envOfC "start" (defScope s_start) s.heap.objs.size f cdv)) (PyProof.Rows.envOfC "start" (defScope s_start) s.heap.objs.size f cdv) (cxOf (L2.CX P w) P w G.K mg base ["program", "store"] "start" (defScope s_start) f cdv A outer s H E).xe := PassesOwn.leaving
  exact qss_cons (qs_ret (qe_tup (qa_cons (T.c_NEXT (by rfl)) (qa_cons (qe_tup (qa_cons (qe_tup (qa_cons (qe_str) (qa_cons (qe_var (pv 0)) (qa_nil)))) (qa_nil))) (qa_cons (qe_var (pv 1)) (qa_cons (qe_tup (qa_nil)) (qa_nil))))))) (qss_nil)
theorem q_is_done {f : Addr} {cdv : Value} {A : Around} {outer : List PySem.Env} {s : Shared} {H : Hp} {E : XK} (T : Txt G w mg) (hs : HasAll P w G mg base k c) (hr1 : Room (2 * k + 1) (A.deeper (PyProof.Rows.envOfC "is_done" (defScope s_is_done) s.heap.objs.size f cdv))) :
    QSs (cxOf (L2.CX P w) P w G.K mg base ["state"] "is_done" (defScope s_is_done) f cdv A outer s H E) G E (defBody s_is_done) (m_is_done c) := by
  have hr : Room (2 * k) (A.deeper (PyProof.Rows.envOfC "is_done" (defScope s_is_done) s.heap.objs.size f cdv)) := hr1.mono (Nat.le_succ _)
  have hx : Passes (L2.CX P w) (cxOf (L2.CX P w) P w G.K mg base ["state"] "is_done" (defScope s_is_done) f cdv A outer s H E) E := passes_call (takes_of rfl rfl rfl rfl) fun _ _ _ _ h => h
  have hu := hr.units
  have nd := (sc_is_done).nd
  have hp : PassesOwn (model P w) (A.deeper (PyProof.Rows.envOfC "is_done" (defScope s_is_done) s.heap.objs.size f cdv)) (PyProof.Rows.envOfC "is_done" (defScope s_is_done) s.heap.objs.size f cdv) (cxOf (L2.CX P w) P w G.K mg base ["state"] "is_done" (defScope s_is_done) f cdv A outer s H E).xe := PassesOwn.leaving
  exact qss_cons (qs_ret (qe_and (qe_cmp (q_eq rfl hu) (qe_ix rfl (qe_var (pv 0)) (qe_int)) (T.c_NEXT (by rfl)) (nomark _)) (qe_one (qe_cmp (q_eq rfl hu) (qe_callB (q_len rfl) (by rfl) T.z_len PySem.boot_len (qa_cons (qe_ix rfl (qe_var (pv 0)) (qe_int)) (qa_nil))) (qe_int) (nomark _))))) (qss_nil)
theorem q_takes_turn_frames {f : Addr} {cdv : Value} {A : Around} {outer : List PySem.Env} {s : Shared} {H : Hp} {E : XK} (T : Txt G w mg) (hs : HasAll P w G mg base k c) (hr1 : Room (2 * k + 1) (A.deeper (PyProof.Rows.envOfC "takes_turn" (defScope s_takes_turn_frames) s.heap.objs.size f cdv))) :
    QSs (cxOf (L2.CX P w) P w G.K mg base ["state"] "takes_turn" (defScope s_takes_turn_frames) f cdv A outer s H E) G E (defBody s_takes_turn_frames) (m_takes_turn_frames c) := by
  have hr : Room (2 * k) (A.deeper (PyProof.Rows.envOfC "takes_turn" (defScope s_takes_turn_frames) s.heap.objs.size f cdv)) := hr1.mono (Nat.le_succ _)
  have hx : Passes (L2.CX P w) (cxOf (L2.CX P w) P w G.K mg base ["state"] "takes_turn" (defScope s_takes_turn_frames) f cdv A outer s H E) E := passes_call (takes_of rfl rfl rfl rfl) fun _ _ _ _ h => h
  have hu := hr.units
  have nd := (sc_takes_turn_frames).nd
  have hp : PassesOwn (model P w) (A.deeper (PyProof.Rows.envOfC "takes_turn" (defScope s_takes_turn_frames) s.heap.objs.size f cdv)) (PyProof.Rows.envOfC "takes_turn" (defScope s_takes_turn_frames) s.heap.objs.size f cdv) (cxOf (L2.CX P w) P w G.K mg base ["state"] "takes_turn" (defScope s_takes_turn_frames) f cdv A outer s H E).xe := PassesOwn.leaving
  exact qss_cons (qs_ret (qe_and (qe_cmp (q_eq rfl hu) (qe_ix rfl (qe_var (pv 0)) (qe_int)) (T.c_NEXT (by rfl)) (nomark _)) (qe_and (qe_cmp q_gt (qe_callB (q_len rfl) (by rfl) T.z_len PySem.boot_len (qa_cons (qe_ix rfl (qe_var (pv 0)) (qe_int)) (qa_nil))) (qe_int) (nomark _)) (qe_and (qe_cmp (q_ne rfl hu) (qe_sl rfl (qe_ix rfl (qe_ix rfl (qe_ix rfl (qe_var (pv 0)) (qe_int)) (qe_int)) (qe_int)) (qo_none) (qo_some (qe_int))) (qe_tup (qa_nil)) (nomark _)) (qe_one (qe_cmp (q_eq rfl hu) (qe_ix rfl (qe_ix rfl (qe_ix rfl (qe_ix rfl (qe_ix rfl (qe_var (pv 0)) (qe_int)) (qe_int)) (qe_int)) (qe_int)) (qe_int)) (qe_str) (nomark _))))))) (qss_nil)
theorem q_deed_state {f : Addr} {cdv : Value} {A : Around} {outer : List PySem.Env} {s : Shared} {H : Hp} {E : XK} (T : Txt G w mg) (hs : HasAll P w G mg base k c) (hr1 : Room (2 * k + 1) (A.deeper (PyProof.Rows.envOfC "deed_state" (defScope s_deed_state) s.heap.objs.size f cdv))) :
    QSs (cxOf (L2.CX P w) P w G.K mg base ["block", "frames", "store", "told", "deed", "rest"] "deed_state" (defScope s_deed_state) f cdv A outer s H E) G E (defBody s_deed_state) (m_deed_state c) := by
  have hr : Room (2 * k) (A.deeper (PyProof.Rows.envOfC "deed_state" (defScope s_deed_state) s.heap.objs.size f cdv)) := hr1.mono (Nat.le_succ _)
  have hx : Passes (L2.CX P w) (cxOf (L2.CX P w) P w G.K mg base ["block", "frames", "store", "told", "deed", "rest"] "deed_state" (defScope s_deed_state) f cdv A outer s H E) E := passes_call (takes_of rfl rfl rfl rfl) fun _ _ _ _ h => h
  have hu := hr.units
  have nd := (sc_deed_state).nd
  have hp : PassesOwn (model P w) (A.deeper (PyProof.Rows.envOfC "deed_state" (defScope s_deed_state) s.heap.objs.size f cdv)) (PyProof.Rows.envOfC "deed_state" (defScope s_deed_state) s.heap.objs.size f cdv) (cxOf (L2.CX P w) P w G.K mg base ["block", "frames", "store", "told", "deed", "rest"] "deed_state" (defScope s_deed_state) f cdv A outer s H E).xe := PassesOwn.leaving
  exact qss_cons (qs_if (qt_cmp (q_eq rfl hu) (qe_callB (q_len rfl) (by rfl) T.z_len PySem.boot_len (qa_cons (qe_var (pv 0)) (qa_nil))) (qe_int) (nomark _)) (qss_cons (qs_ret (qe_tup (qa_cons (T.c_NEXT (by rfl)) (qa_cons (qe_var (pv 1)) (qa_cons (qe_var (pv 2)) (qa_cons (qe_var (pv 3)) (qa_nil))))))) (qss_nil)) (qss_nil)) (qss_cons (qs_set (i := 4) nd rfl (by first | exact Or.inl rfl | exact Or.inr rfl) (qe_ix rfl (qe_var (pv 0)) (qe_int))) (qss_cons (qs_set (i := 5) nd rfl (by first | exact Or.inl rfl | exact Or.inr rfl) (qe_bin (q_plus rfl) (qe_tup (qa_cons (qe_tup (qa_cons (qe_str) (qa_cons (qe_sl rfl (qe_var (pv 0)) (qo_some (qe_int)) (qo_none)) (qa_nil)))) (qa_nil))) (qe_var (pv 1)))) (qss_cons (qs_if (qt_cmp (q_eq rfl hu) (qe_ix rfl (qe_var (pv 4)) (qe_int)) (qe_str) (nomark _)) (qss_cons (qs_ret (qe_tup (qa_cons (qe_tup (qa_cons (qe_str) (qa_cons (qe_ix rfl (qe_var (pv 4)) (qe_int)) (qa_nil)))) (qa_cons (qe_bin (q_plus rfl) (qe_tup (qa_cons (qe_tup (qa_cons (qe_str) (qa_cons (qe_ix rfl (qe_var (pv 4)) (qe_int)) (qa_nil)))) (qa_nil))) (qe_var (pv 5))) (qa_cons (qe_var (pv 2)) (qa_cons (qe_var (pv 3)) (qa_nil))))))) (qss_nil)) (qss_nil)) (qss_cons (qs_if (qt_cmp (q_eq rfl hu) (qe_ix rfl (qe_var (pv 4)) (qe_int)) (qe_str) (nomark _)) (qss_cons (qs_ret (qe_tup (qa_cons (qe_tup (qa_cons (qe_str) (qa_cons (qe_ix rfl (qe_var (pv 4)) (qe_int)) (qa_nil)))) (qa_cons (qe_bin (q_plus rfl) (qe_tup (qa_cons (qe_tup (qa_cons (qe_str) (qa_nil))) (qa_nil))) (qe_var (pv 5))) (qa_cons (qe_var (pv 2)) (qa_cons (qe_var (pv 3)) (qa_nil))))))) (qss_nil)) (qss_nil)) (qss_cons (qs_ret (qe_tup (qa_cons (qe_tup (qa_cons (qe_str) (qa_cons (qe_ix rfl (qe_var (pv 4)) (qe_int)) (qa_nil)))) (qa_cons (qe_bin (q_plus rfl) (qe_tup (qa_cons (qe_var (pv 4)) (qa_nil))) (qe_var (pv 5))) (qa_cons (qe_var (pv 2)) (qa_cons (qe_var (pv 3)) (qa_nil))))))) (qss_nil))))))
theorem q_eval_state {f : Addr} {cdv : Value} {A : Around} {outer : List PySem.Env} {s : Shared} {H : Hp} {E : XK} (T : Txt G w mg) (hs : HasAll P w G mg base k c) (hr1 : Room (2 * k + 1) (A.deeper (PyProof.Rows.envOfC "eval_state" (defScope s_eval_state) s.heap.objs.size f cdv))) :
    QSs (cxOf (L2.CX P w) P w G.K mg base ["expression", "frames", "store", "told"] "eval_state" (defScope s_eval_state) f cdv A outer s H E) G E (defBody s_eval_state) (m_eval_state c) := by
  have hr : Room (2 * k) (A.deeper (PyProof.Rows.envOfC "eval_state" (defScope s_eval_state) s.heap.objs.size f cdv)) := hr1.mono (Nat.le_succ _)
  have hx : Passes (L2.CX P w) (cxOf (L2.CX P w) P w G.K mg base ["expression", "frames", "store", "told"] "eval_state" (defScope s_eval_state) f cdv A outer s H E) E := passes_call (takes_of rfl rfl rfl rfl) fun _ _ _ _ h => h
  have hu := hr.units
  have nd := (sc_eval_state).nd
  have hp : PassesOwn (model P w) (A.deeper (PyProof.Rows.envOfC "eval_state" (defScope s_eval_state) s.heap.objs.size f cdv)) (PyProof.Rows.envOfC "eval_state" (defScope s_eval_state) s.heap.objs.size f cdv) (cxOf (L2.CX P w) P w G.K mg base ["expression", "frames", "store", "told"] "eval_state" (defScope s_eval_state) f cdv A outer s H E).xe := PassesOwn.leaving
  exact qss_cons (qs_if (qt_cmp (q_eq rfl hu) (qe_ix rfl (qe_var (pv 0)) (qe_int)) (qe_str) (nomark _)) (qss_cons (qs_ret (qe_tup (qa_cons (qe_tup (qa_cons (qe_str) (qa_cons (qe_ix rfl (qe_var (pv 0)) (qe_int)) (qa_nil)))) (qa_cons (qe_var (pv 1)) (qa_cons (qe_var (pv 2)) (qa_cons (qe_var (pv 3)) (qa_nil))))))) (qss_nil)) (qss_nil)) (qss_cons (qs_if (qt_cmp (q_eq rfl hu) (qe_ix rfl (qe_var (pv 0)) (qe_int)) (qe_str) (nomark _)) (qss_cons (qs_ret (qe_tup (qa_cons (qe_tup (qa_cons (qe_str) (qa_cons (qe_ix rfl (qe_var (pv 2)) (qe_ix rfl (qe_var (pv 0)) (qe_int))) (qa_nil)))) (qa_cons (qe_var (pv 1)) (qa_cons (qe_var (pv 2)) (qa_cons (qe_var (pv 3)) (qa_nil))))))) (qss_nil)) (qss_nil)) (qss_cons (qs_if (qt_cmp (q_eq rfl hu) (qe_ix rfl (qe_var (pv 0)) (qe_int)) (qe_str) (nomark _)) (qss_cons (qs_ret (qe_tup (qa_cons (qe_tup (qa_cons (qe_str) (qa_cons (qe_ix rfl (qe_var (pv 0)) (qe_int)) (qa_nil)))) (qa_cons (qe_bin (q_plus rfl) (qe_tup (qa_cons (qe_tup (qa_cons (qe_str) (qa_nil))) (qa_nil))) (qe_var (pv 1))) (qa_cons (qe_var (pv 2)) (qa_cons (qe_var (pv 3)) (qa_nil))))))) (qss_nil)) (qss_nil)) (qss_cons (qs_ret (qe_tup (qa_cons (qe_tup (qa_cons (qe_str) (qa_cons (qe_ix rfl (qe_var (pv 0)) (qe_int)) (qa_nil)))) (qa_cons (qe_bin (q_plus rfl) (qe_tup (qa_cons (qe_tup (qa_cons (qe_str) (qa_cons (qe_ix rfl (qe_var (pv 0)) (qe_int)) (qa_cons (qe_ix rfl (qe_var (pv 0)) (qe_int)) (qa_nil))))) (qa_nil))) (qe_var (pv 1))) (qa_cons (qe_var (pv 2)) (qa_cons (qe_var (pv 3)) (qa_nil))))))) (qss_nil))))
theorem q_give_state {f : Addr} {cdv : Value} {A : Around} {outer : List PySem.Env} {s : Shared} {H : Hp} {E : XK} (T : Txt G w mg) (hs : HasAll P w G mg base k c) (hr1 : Room (2 * k + 1) (A.deeper (PyProof.Rows.envOfC "give_state" (defScope s_give_state) s.heap.objs.size f cdv))) :
    QSs (cxOf (L2.CX P w) P w G.K mg base ["value", "frames", "store", "told", "frame", "rest", "again"] "give_state" (defScope s_give_state) f cdv A outer s H E) G E (defBody s_give_state) (m_give_state c) := by
  have hr : Room (2 * k) (A.deeper (PyProof.Rows.envOfC "give_state" (defScope s_give_state) s.heap.objs.size f cdv)) := hr1.mono (Nat.le_succ _)
  have hx : Passes (L2.CX P w) (cxOf (L2.CX P w) P w G.K mg base ["value", "frames", "store", "told", "frame", "rest", "again"] "give_state" (defScope s_give_state) f cdv A outer s H E) E := passes_call (takes_of rfl rfl rfl rfl) fun _ _ _ _ h => h
  have hu := hr.units
  have nd := (sc_give_state).nd
  have hp : PassesOwn (model P w) (A.deeper (PyProof.Rows.envOfC "give_state" (defScope s_give_state) s.heap.objs.size f cdv)) (PyProof.Rows.envOfC "give_state" (defScope s_give_state) s.heap.objs.size f cdv) (cxOf (L2.CX P w) P w G.K mg base ["value", "frames", "store", "told", "frame", "rest", "again"] "give_state" (defScope s_give_state) f cdv A outer s H E).xe := PassesOwn.leaving
  exact qss_cons (qs_par (i := 4) (j := 5) rfl nd rfl rfl (by decide) rfl rfl (qa_cons (qe_ix rfl (qe_var (pv 1)) (qe_int)) (qa_cons (qe_sl rfl (qe_var (pv 1)) (qo_some (qe_int)) (qo_none)) (qa_nil)))) (qss_cons (qs_if (qt_cmp (q_eq rfl hu) (qe_ix rfl (qe_var (pv 4)) (qe_int)) (qe_str) (nomark _)) (qss_cons (qs_ret (qe_tup (qa_cons (qe_tup (qa_cons (qe_str) (qa_cons (qe_ix rfl (qe_var (pv 4)) (qe_int)) (qa_nil)))) (qa_cons (qe_bin (q_plus rfl) (qe_tup (qa_cons (qe_tup (qa_cons (qe_str) (qa_cons (qe_ix rfl (qe_var (pv 4)) (qe_int)) (qa_cons (qe_var (pv 0)) (qa_nil))))) (qa_nil))) (qe_var (pv 5))) (qa_cons (qe_var (pv 2)) (qa_cons (qe_var (pv 3)) (qa_nil))))))) (qss_nil)) (qss_nil)) (qss_cons (qs_if (qt_cmp (q_eq rfl hu) (qe_ix rfl (qe_var (pv 4)) (qe_int)) (qe_str) (nomark _)) (qss_cons (qs_ret (qe_tup (qa_cons (qe_tup (qa_cons (qe_str) (qa_cons (qe_call (hs .f_worked) rfl hr (by rfl) hx (qa_cons (qe_ix rfl (qe_var (pv 4)) (qe_int)) (qa_cons (qe_ix rfl (qe_var (pv 4)) (qe_int)) (qa_cons (qe_var (pv 0)) (qa_nil))))) (qa_nil)))) (qa_cons (qe_var (pv 5)) (qa_cons (qe_var (pv 2)) (qa_cons (qe_var (pv 3)) (qa_nil))))))) (qss_nil)) (qss_nil)) (qss_cons (qs_if (qt_cmp (q_eq rfl hu) (qe_ix rfl (qe_var (pv 4)) (qe_int)) (qe_str) (nomark _)) (qss_cons (qs_ret (qe_tup (qa_cons (qe_tup (qa_cons (qe_str) (qa_cons (qe_callTy (q_int) (by rfl) T.z_int PyProof.Rows.boot_int (qa_cons (qe_cmp (q_eq rfl hu) (qe_var (pv 0)) (qe_int) (nomark _)) (qa_nil))) (qa_nil)))) (qa_cons (qe_var (pv 5)) (qa_cons (qe_var (pv 2)) (qa_cons (qe_var (pv 3)) (qa_nil))))))) (qss_nil)) (qss_nil)) (qss_cons (qs_if (qt_cmp (q_eq rfl hu) (qe_ix rfl (qe_var (pv 4)) (qe_int)) (qe_str) (nomark _)) (qss_cons (qs_ret (qe_tup (qa_cons (T.c_NEXT (by rfl)) (qa_cons (qe_var (pv 5)) (qa_cons (qe_call (hs .f_with_value) rfl hr (by rfl) hx (qa_cons (qe_var (pv 2)) (qa_cons (qe_ix rfl (qe_var (pv 4)) (qe_int)) (qa_cons (qe_var (pv 0)) (qa_nil))))) (qa_cons (qe_var (pv 3)) (qa_nil))))))) (qss_nil)) (qss_nil)) (qss_cons (qs_if (qt_cmp (q_eq rfl hu) (qe_ix rfl (qe_var (pv 4)) (qe_int)) (qe_str) (nomark _)) (qss_cons (qs_ret (qe_tup (qa_cons (T.c_NEXT (by rfl)) (qa_cons (qe_var (pv 5)) (qa_cons (qe_var (pv 2)) (qa_cons (qe_bin (q_plus rfl) (qe_var (pv 3)) (qe_tup (qa_cons (qe_var (pv 0)) (qa_nil)))) (qa_nil))))))) (qss_nil)) (qss_nil)) (qss_cons (qs_if (qt_cmp (q_eq rfl hu) (qe_ix rfl (qe_var (pv 4)) (qe_int)) (qe_str) (nomark _)) (qss_cons (qs_ret (qe_tup (qa_cons (T.c_NEXT (by rfl)) (qa_cons (qe_bin (q_plus rfl) (qe_tup (qa_cons (qe_tup (qa_cons (qe_str) (qa_cons (qe_if (qt_cmp (q_ne rfl hu) (qe_var (pv 0)) (qe_int) (nomark _)) (qe_ix rfl (qe_var (pv 4)) (qe_int)) (qe_ix rfl (qe_var (pv 4)) (qe_int))) (qa_nil)))) (qa_nil))) (qe_var (pv 5))) (qa_cons (qe_var (pv 2)) (qa_cons (qe_var (pv 3)) (qa_nil))))))) (qss_nil)) (qss_nil)) (qss_cons (qs_set (i := 6) nd rfl (by first | exact Or.inl rfl | exact Or.inr rfl) (qe_if (qt_cmp (q_ne rfl hu) (qe_var (pv 0)) (qe_int) (nomark _)) (qe_tup (qa_cons (qe_tup (qa_cons (qe_str) (qa_cons (qe_ix rfl (qe_var (pv 4)) (qe_int)) (qa_nil)))) (qa_cons (qe_tup (qa_cons (qe_str) (qa_cons (qe_tup (qa_cons (qe_var (pv 4)) (qa_nil))) (qa_nil)))) (qa_nil)))) (qe_tup (qa_nil)))) (qss_cons (qs_ret (qe_tup (qa_cons (T.c_NEXT (by rfl)) (qa_cons (qe_bin (q_plus rfl) (qe_var (pv 6)) (qe_var (pv 5))) (qa_cons (qe_var (pv 2)) (qa_cons (qe_var (pv 3)) (qa_nil))))))) (qss_nil)))))))))
theorem q_step_frames {f : Addr} {cdv : Value} {A : Around} {outer : List PySem.Env} {s : Shared} {H : Hp} {E : XK} (T : Txt G w mg) (hs : HasAll P w G mg base k c) (hr1 : Room (2 * k + 1) (A.deeper (PyProof.Rows.envOfC "step" (defScope s_step_frames) s.heap.objs.size f cdv))) :
    QSs (cxOf (L2.CX P w) P w G.K mg base ["state", "now", "frames", "store", "told"] "step" (defScope s_step_frames) f cdv A outer s H E) G E (defBody s_step_frames) (m_step_frames c) := by
  have hr : Room (2 * k) (A.deeper (PyProof.Rows.envOfC "step" (defScope s_step_frames) s.heap.objs.size f cdv)) := hr1.mono (Nat.le_succ _)
  have hx : Passes (L2.CX P w) (cxOf (L2.CX P w) P w G.K mg base ["state", "now", "frames", "store", "told"] "step" (defScope s_step_frames) f cdv A outer s H E) E := passes_call (takes_of rfl rfl rfl rfl) fun _ _ _ _ h => h
  have hu := hr.units
  have nd := (sc_step_frames).nd
  have hp : PassesOwn (model P w) (A.deeper (PyProof.Rows.envOfC "step" (defScope s_step_frames) s.heap.objs.size f cdv)) (PyProof.Rows.envOfC "step" (defScope s_step_frames) s.heap.objs.size f cdv) (cxOf (L2.CX P w) P w G.K mg base ["state", "now", "frames", "store", "told"] "step" (defScope s_step_frames) f cdv A outer s H E).xe := PassesOwn.leaving
  exact qss_cons (qs_asg (ts := [1, 2, 3, 4]) (qe_var (pv 0)) (qg_tup rfl rfl (qgs_cons (pg_name (i := 1) nd rfl (by first | exact Or.inl rfl | exact Or.inr rfl)) (qgs_cons (pg_name (i := 2) nd rfl (by first | exact Or.inl rfl | exact Or.inr rfl)) (qgs_cons (pg_name (i := 3) nd rfl (by first | exact Or.inl rfl | exact Or.inr rfl)) (qgs_cons (pg_name (i := 4) nd rfl (by first | exact Or.inl rfl | exact Or.inr rfl)) (qgs_nil))))))) (qss_cons (qs_if (qt_val (qe_call (hs .f_is_done) rfl hr (by rfl) hx (qa_cons (qe_var (pv 0)) (qa_nil)))) (qss_cons (qs_ret (qe_non)) (qss_nil)) (qss_nil)) (qss_cons (qs_if (qt_cmp (q_eq rfl hu) (qe_var (pv 1)) (T.c_NEXT (by rfl)) (nomark _)) (qss_cons (qs_ret (qe_call (hs .f_deed_state) rfl hr (by rfl) hx (qa_cons (qe_ix rfl (qe_ix rfl (qe_var (pv 2)) (qe_int)) (qe_int)) (qa_cons (qe_sl rfl (qe_var (pv 2)) (qo_some (qe_int)) (qo_none)) (qa_cons (qe_var (pv 3)) (qa_cons (qe_var (pv 4)) (qa_nil))))))) (qss_nil)) (qss_nil)) (qss_cons (qs_if (qt_cmp (q_eq rfl hu) (qe_ix rfl (qe_var (pv 1)) (qe_int)) (qe_str) (nomark _)) (qss_cons (qs_ret (qe_call (hs .f_eval_state) rfl hr (by rfl) hx (qa_cons (qe_ix rfl (qe_var (pv 1)) (qe_int)) (qa_cons (qe_var (pv 2)) (qa_cons (qe_var (pv 3)) (qa_cons (qe_var (pv 4)) (qa_nil))))))) (qss_nil)) (qss_nil)) (qss_cons (qs_ret (qe_call (hs .f_give_state) rfl hr (by rfl) hx (qa_cons (qe_ix rfl (qe_var (pv 1)) (qe_int)) (qa_cons (qe_var (pv 2)) (qa_cons (qe_var (pv 3)) (qa_cons (qe_var (pv 4)) (qa_nil))))))) (qss_nil)))))
theorem q_run_frames {f : Addr} {cdv : Value} {A : Around} {outer : List PySem.Env} {s : Shared} {H : Hp} {E : XK} (T : Txt G w mg) (hs : HasAll P w G mg base k c) (hr1 : Room (2 * k + 1) (A.deeper (PyProof.Rows.envOfC "run" (defScope s_run_frames) s.heap.objs.size f cdv))) :
    QSs (cxOf (L2.CX P w) P w G.K mg base ["program", "store", "turns", "state"] "run" (defScope s_run_frames) f cdv A outer s H E) G E (defBody s_run_frames) (m_run_frames c) := by
  have hr : Room (2 * k) (A.deeper (PyProof.Rows.envOfC "run" (defScope s_run_frames) s.heap.objs.size f cdv)) := hr1.mono (Nat.le_succ _)
  have hx : Passes (L2.CX P w) (cxOf (L2.CX P w) P w G.K mg base ["program", "store", "turns", "state"] "run" (defScope s_run_frames) f cdv A outer s H E) E := passes_call (takes_of rfl rfl rfl rfl) fun _ _ _ _ h => h
  have hu := hr.units
  have nd := (sc_run_frames).nd
  have hp : PassesOwn (model P w) (A.deeper (PyProof.Rows.envOfC "run" (defScope s_run_frames) s.heap.objs.size f cdv)) (PyProof.Rows.envOfC "run" (defScope s_run_frames) s.heap.objs.size f cdv) (cxOf (L2.CX P w) P w G.K mg base ["program", "store", "turns", "state"] "run" (defScope s_run_frames) f cdv A outer s H E).xe := PassesOwn.leaving
  exact qss_cons (qs_set (i := 3) nd rfl (by first | exact Or.inl rfl | exact Or.inr rfl) (qe_call (hs .f_start) rfl hr (by rfl) hx (qa_cons (qe_var (pv 0)) (qa_cons (qe_var (pv 1)) (qa_nil))))) (qss_cons (qs_while hp (qt_not (qt_val (qe_call (hs .f_is_done) rfl hr (by rfl) hx (qa_cons (qe_var (pv 3)) (qa_nil))))) (qss_cons (qs_if (qt_val (qe_call (hs .f_takes_turn_frames) rfl hr (by rfl) hx (qa_cons (qe_var (pv 3)) (qa_nil)))) (qss_cons (qs_if (qt_cmp (q_eq rfl hu) (qe_var (pv 2)) (qe_int) (nomark _)) (qss_cons (qs_ret (qe_tup (qa_cons (qe_str) (qa_cons (qe_ix rfl (qe_var (pv 3)) (qe_int)) (qa_nil))))) (qss_nil)) (qss_nil)) (qss_cons (qs_aug (i := 2) nd rfl (by first | exact Or.inl rfl | exact Or.inr rfl) (qe_int) q_isub) (qss_nil))) (qss_nil)) (qss_cons (qs_set (i := 3) nd rfl (by first | exact Or.inl rfl | exact Or.inr rfl) (qe_call (hs .f_step_frames) rfl hr (by rfl) hx (qa_cons (qe_var (pv 3)) (qa_nil)))) (qss_nil)))) (qss_cons (qs_ret (qe_tup (qa_cons (qe_str) (qa_cons (qe_ix rfl (qe_var (pv 3)) (qe_int)) (qa_cons (qe_ix rfl (qe_var (pv 3)) (qe_int)) (qa_nil)))))) (qss_nil)))
theorem q_ways {f : Addr} {cdv : Value} {A : Around} {outer : List PySem.Env} {s : Shared} {H : Hp} {E : XK} (T : Txt G w mg) (hs : HasAll P w G mg base k c) (hr1 : Room (2 * k + 1) (A.deeper (PyProof.Rows.envOfC "ways" (defScope s_ways) s.heap.objs.size f cdv))) :
    QSs (cxOf (L2.CX P w) P w G.K mg base [] "ways" (defScope s_ways) f cdv A outer s H E) G E (defBody s_ways) (m_ways c) := by
  have hr : Room (2 * k) (A.deeper (PyProof.Rows.envOfC "ways" (defScope s_ways) s.heap.objs.size f cdv)) := hr1.mono (Nat.le_succ _)
  have hx : Passes (L2.CX P w) (cxOf (L2.CX P w) P w G.K mg base [] "ways" (defScope s_ways) f cdv A outer s H E) E := passes_call (takes_of rfl rfl rfl rfl) fun _ _ _ _ h => h
  have hu := hr.units
  have nd := (sc_ways).nd
  have hp : PassesOwn (model P w) (A.deeper (PyProof.Rows.envOfC "ways" (defScope s_ways) s.heap.objs.size f cdv)) (PyProof.Rows.envOfC "ways" (defScope s_ways) s.heap.objs.size f cdv) (cxOf (L2.CX P w) P w G.K mg base [] "ways" (defScope s_ways) f cdv A outer s H E).xe := PassesOwn.leaving
  exact qss_cons (qs_ret (qe_frz (qf_sortTab rfl (T.v_WAYS (by rfl)) T.o_WAYS (by decide) (by decide) st_WAYS (by rfl) T.z_list (by rfl) T.z_sorted))) (qss_nil)
theorem q_run_way {f : Addr} {cdv : Value} {A : Around} {outer : List PySem.Env} {s : Shared} {H : Hp} {E : XK} (T : Txt G w mg) (hs : HasAll P w G mg base k c) (hr1 : Room (2 * k + 1) (A.deeper (PyProof.Rows.envOfC "run_way" (defScope s_run_way) s.heap.objs.size f cdv))) :
    QSs (cxOf (L2.CX P w) P w G.K mg base ["way", "value", "store", "turns"] "run_way" (defScope s_run_way) f cdv A outer s H E) G E (defBody s_run_way) (m_run_way c) := by
  have hr : Room (2 * k) (A.deeper (PyProof.Rows.envOfC "run_way" (defScope s_run_way) s.heap.objs.size f cdv)) := hr1.mono (Nat.le_succ _)
  have hx : Passes (L2.CX P w) (cxOf (L2.CX P w) P w G.K mg base ["way", "value", "store", "turns"] "run_way" (defScope s_run_way) f cdv A outer s H E) E := passes_call (takes_of rfl rfl rfl rfl) fun _ _ _ _ h => h
  have hu := hr.units
  have nd := (sc_run_way).nd
  have hp : PassesOwn (model P w) (A.deeper (PyProof.Rows.envOfC "run_way" (defScope s_run_way) s.heap.objs.size f cdv)) (PyProof.Rows.envOfC "run_way" (defScope s_run_way) s.heap.objs.size f cdv) (cxOf (L2.CX P w) P w G.K mg base ["way", "value", "store", "turns"] "run_way" (defScope s_run_way) f cdv A outer s H E).xe := PassesOwn.leaving
  exact qss_cons (qs_if (qt_notinTab (T.v_WAYS (by rfl)) T.kd_WAYS T.in_WAYS (qe_var (pv 0))) (qss_cons (qs_stk) (qss_nil)) (qss_nil)) (qss_cons (qs_ret (qe_tab (T.v_WAYS (by rfl)) (T.tab_WAYS hs) hr hx (qe_var (pv 0)) (qa_cons (qe_var (pv 1)) (qa_cons (qe_var (pv 2)) (qa_cons (qe_var (pv 3)) (qa_nil)))))) (qss_nil))
theorem q__law_same {f : Addr} {cdv : Value} {A : Around} {outer : List PySem.Env} {s : Shared} {H : Hp} {E : XK} (T : Txt G w mg) (hs : HasAll P w G mg base k c) (hr1 : Room (2 * k + 1) (A.deeper (PyProof.Rows.envOfC "_law_same" (defScope s__law_same) s.heap.objs.size f cdv))) :
    QSs (cxOf (L2.CX P w) P w G.K mg base ["actual", "due", "k"] "_law_same" (defScope s__law_same) f cdv A outer s H E) G E (defBody s__law_same) (m__law_same c) := by
  have hr : Room (2 * k) (A.deeper (PyProof.Rows.envOfC "_law_same" (defScope s__law_same) s.heap.objs.size f cdv)) := hr1.mono (Nat.le_succ _)
  have hx : Passes (L2.CX P w) (cxOf (L2.CX P w) P w G.K mg base ["actual", "due", "k"] "_law_same" (defScope s__law_same) f cdv A outer s H E) E := passes_call (takes_of rfl rfl rfl rfl) fun _ _ _ _ h => h
  have hu := hr.units
  have nd := (sc__law_same).nd
  have hp : PassesOwn (model P w) (A.deeper (PyProof.Rows.envOfC "_law_same" (defScope s__law_same) s.heap.objs.size f cdv)) (PyProof.Rows.envOfC "_law_same" (defScope s__law_same) s.heap.objs.size f cdv) (cxOf (L2.CX P w) P w G.K mg base ["actual", "due", "k"] "_law_same" (defScope s__law_same) f cdv A outer s H E).xe := PassesOwn.leaving
  exact qss_cons (qs_if (qt_w (qw_or (qt_val (qe_isa (by rfl) T.z_isinstance rfl (pe_bltn (by rfl) T.z_tuple PyProof.Rows.boot_tuple rfl) (qe_var (pv 1)))) (qw_or1 (qt_val (qe_isa (by rfl) T.z_isinstance rfl (pe_bltn (by rfl) T.z_list PyProof.Rows.boot_list rfl) (qe_var (pv 1))))))) (qss_cons (qs_if (qt_w (qw_or (qt_cmp (q_ne rfl hu) (qe_isa (by rfl) T.z_isinstance rfl (pe_bltn (by rfl) T.z_tuple PyProof.Rows.boot_tuple rfl) (qe_var (pv 1))) (qe_isa (by rfl) T.z_isinstance rfl (pe_bltn (by rfl) T.z_tuple PyProof.Rows.boot_tuple rfl) (qe_var (pv 0))) (nomark _)) (qw_or (qt_cmp (q_ne rfl hu) (qe_isa (by rfl) T.z_isinstance rfl (pe_bltn (by rfl) T.z_list PyProof.Rows.boot_list rfl) (qe_var (pv 1))) (qe_isa (by rfl) T.z_isinstance rfl (pe_bltn (by rfl) T.z_list PyProof.Rows.boot_list rfl) (qe_var (pv 0))) (nomark _)) (qw_or1 (qt_cmp (q_ne rfl hu) (qe_callB (q_len rfl) (by rfl) T.z_len PySem.boot_len (qa_cons (qe_var (pv 0)) (qa_nil))) (qe_callB (q_len rfl) (by rfl) T.z_len PySem.boot_len (qa_cons (qe_var (pv 1)) (qa_nil))) (nomark _)))))) (qss_cons (qs_ret (qe_bl)) (qss_nil)) (qss_nil)) (qss_cons (qs_ret (qe_cmp (q_eq rfl hu) (qe_callB (q_len rfl) (by rfl) T.z_len PySem.boot_len (qa_cons (qe_frz (qf_lc (own := [("k", 2)]) (ts := [2]) rfl nd (qi_rng1 (by rfl) T.z_range (qa_cons (qe_callB (q_len rfl) (by rfl) T.z_len PySem.boot_len (qa_cons (qe_var (pv 1)) (qa_nil))) (qa_nil))) (blkOk_by (N := ["actual", "due", "k"]) (sc := defScope s__law_same) (by decide +kernel)) (fun _ _ _ _ _ => qg_name (i := 2) nd rfl (by first | exact Or.inl rfl | exact Or.inr rfl)) (fun _ _ _ _ _ => qts_one (qt_not (qt_val (qe_call (hs .f_law_same) rfl hr (by rfl) passL (qa_cons (qe_ix rfl (qe_var (pv 0)) (qe_var (pv 2))) (qa_cons (qe_ix rfl (qe_var (pv 1)) (qe_var (pv 2))) (qa_nil))))))) (fun _ _ _ _ _ => qe_var (pv 2)) (by decide))) (qa_nil))) (qe_int) (nomark _))) (qss_nil))) (qss_nil)) (qss_cons (qs_if (qt_isN (qe_var (pv 1))) (qss_cons (qs_ret (qe_isN (qe_var (pv 0)))) (qss_nil)) (qss_nil)) (qss_cons (qs_if (qt_w (qw_or (qt_val (qe_isa (by rfl) T.z_isinstance rfl (pe_bltn (by rfl) T.z_bool PyProof.Rows.boot_bool rfl) (qe_var (pv 1)))) (qw_or1 (qt_val (qe_isa (by rfl) T.z_isinstance rfl (pe_bltn (by rfl) T.z_bool PyProof.Rows.boot_bool rfl) (qe_var (pv 0))))))) (qss_cons (qs_ret (qe_and (qe_isa (by rfl) T.z_isinstance rfl (pe_bltn (by rfl) T.z_bool PyProof.Rows.boot_bool rfl) (qe_var (pv 1))) (qe_and (qe_isa (by rfl) T.z_isinstance rfl (pe_bltn (by rfl) T.z_bool PyProof.Rows.boot_bool rfl) (qe_var (pv 0))) (qe_one (qe_cmp (q_eq rfl hu) (qe_var (pv 0)) (qe_var (pv 1)) (nomark _)))))) (qss_nil)) (qss_nil)) (qss_cons (qs_if (qt_val (qe_isa (by rfl) T.z_isinstance rfl (pe_bltn (by rfl) T.z_int PyProof.Rows.boot_int rfl) (qe_var (pv 1)))) (qss_cons (qs_ret (qe_and (qe_isa (by rfl) T.z_isinstance rfl (pe_bltn (by rfl) T.z_int PyProof.Rows.boot_int rfl) (qe_var (pv 0))) (qe_one (qe_cmp (q_eq rfl hu) (qe_var (pv 0)) (qe_var (pv 1)) (nomark _))))) (qss_nil)) (qss_nil)) (qss_cons (qs_ret (qe_and (qe_isa (by rfl) T.z_isinstance rfl (pe_bltn (by rfl) T.z_str PyProof.Rows.boot_str rfl) (qe_var (pv 0))) (qe_and (qe_isa (by rfl) T.z_isinstance rfl (pe_bltn (by rfl) T.z_str PyProof.Rows.boot_str rfl) (qe_var (pv 1))) (qe_one (qe_cmp (q_eq rfl hu) (qe_var (pv 0)) (qe_var (pv 1)) (nomark _)))))) (qss_nil)))))
theorem q__law_pool {f : Addr} {cdv : Value} {A : Around} {outer : List PySem.Env} {s : Shared} {H : Hp} {E : XK} (T : Txt G w mg) (hs : HasAll P w G mg base k c) (hr1 : Room (2 * k + 1) (A.deeper (PyProof.Rows.envOfC "_law_pool" (defScope s__law_pool) s.heap.objs.size f cdv))) :
    QSs (cxOf (L2.CX P w) P w G.K mg base ["script", "salt", "cell"] "_law_pool" (defScope s__law_pool) f cdv A outer s H E) G E (defBody s__law_pool) (m__law_pool c) := by
  have hr : Room (2 * k) (A.deeper (PyProof.Rows.envOfC "_law_pool" (defScope s__law_pool) s.heap.objs.size f cdv)) := hr1.mono (Nat.le_succ _)
  have hx : Passes (L2.CX P w) (cxOf (L2.CX P w) P w G.K mg base ["script", "salt", "cell"] "_law_pool" (defScope s__law_pool) f cdv A outer s H E) E := passes_call (takes_of rfl rfl rfl rfl) fun _ _ _ _ h => h
  have hu := hr.units
  have nd := (sc__law_pool).nd
  have hp : PassesOwn (model P w) (A.deeper (PyProof.Rows.envOfC "_law_pool" (defScope s__law_pool) s.heap.objs.size f cdv)) (PyProof.Rows.envOfC "_law_pool" (defScope s__law_pool) s.heap.objs.size f cdv) (cxOf (L2.CX P w) P w G.K mg base ["script", "salt", "cell"] "_law_pool" (defScope s__law_pool) f cdv A outer s H E).xe := PassesOwn.leaving
  exact qss_cons (qs_set (i := 1) nd rfl (by first | exact Or.inl rfl | exact Or.inr rfl) (qe_int)) (qss_cons (qs_for (ts := [2]) hp rfl (qi_seq rfl (qe_sl rfl (qe_var (pv 0)) (qo_none) (qo_some (qe_int)))) (qg_name (i := 2) nd rfl (by first | exact Or.inl rfl | exact Or.inr rfl)) (qss_cons (qs_set (i := 1) nd rfl (by first | exact Or.inl rfl | exact Or.inr rfl) (qe_bin q_mod (qe_callTy (q_int) (by rfl) T.z_int PyProof.Rows.boot_int (qa_cons (qe_bin (q_plus rfl) (qe_bin q_mul (qe_var (pv 1)) (qe_int)) (qe_var (pv 2))) (qa_nil))) (qe_int))) (qss_nil))) (qss_cons (qs_ret (qe_new (qf_lst (qa_cons (qe_frz (qf_callTy (q_list rfl) (by rfl) T.z_list PyProof.Rows.boot_list (qa_cons (qe_var (pv 0)) (qa_nil)))) (qa_cons (qe_int) (qa_cons (qe_int) (qa_cons (qe_int) (qa_cons (qe_var (pv 1)) (qa_nil))))))))) (qss_nil)))
theorem q__law_spread {f : Addr} {cdv : Value} {A : Around} {outer : List PySem.Env} {s : Shared} {H : Hp} {E : XK} (T : Txt G w mg) (hs : HasAll P w G mg base k c) (hr1 : Room (2 * k + 1) (A.deeper (PyProof.Rows.envOfC "_law_spread" (defScope s__law_spread) s.heap.objs.size f cdv))) :
    QSs (cxOf (L2.CX P w) P w G.K mg base ["cell", "mixed", "total", "k"] "_law_spread" (defScope s__law_spread) f cdv A outer s H E) G E (defBody s__law_spread) (m__law_spread c) := by
  have hr : Room (2 * k) (A.deeper (PyProof.Rows.envOfC "_law_spread" (defScope s__law_spread) s.heap.objs.size f cdv)) := hr1.mono (Nat.le_succ _)
  have hx : Passes (L2.CX P w) (cxOf (L2.CX P w) P w G.K mg base ["cell", "mixed", "total", "k"] "_law_spread" (defScope s__law_spread) f cdv A outer s H E) E := passes_call (takes_of rfl rfl rfl rfl) fun _ _ _ _ h => h
  have hu := hr.units
  have nd := (sc__law_spread).nd
  have hp : PassesOwn (model P w) (A.deeper (PyProof.Rows.envOfC "_law_spread" (defScope s__law_spread) s.heap.objs.size f cdv)) (PyProof.Rows.envOfC "_law_spread" (defScope s__law_spread) s.heap.objs.size f cdv) (cxOf (L2.CX P w) P w G.K mg base ["cell", "mixed", "total", "k"] "_law_spread" (defScope s__law_spread) f cdv A outer s H E).xe := PassesOwn.leaving
  exact qss_cons (qs_set (i := 1) nd rfl (by first | exact Or.inl rfl | exact Or.inr rfl) (qe_bin q_mod (qe_callTy (q_int) (by rfl) T.z_int PyProof.Rows.boot_int (qa_cons (qe_var (pv 0)) (qa_nil))) (qe_int))) (qss_cons (qs_set (i := 2) nd rfl (by first | exact Or.inl rfl | exact Or.inr rfl) (qe_int)) (qss_cons (qs_for (ts := [3]) hp rfl (qi_rng1 (by rfl) T.z_range (qa_cons (qe_int) (qa_nil))) (qg_name (i := 3) nd rfl (by first | exact Or.inl rfl | exact Or.inr rfl)) (qss_cons (qs_set (i := 1) nd rfl (by first | exact Or.inl rfl | exact Or.inr rfl) (qe_bin q_mod (qe_callTy (q_int) (by rfl) T.z_int PyProof.Rows.boot_int (qa_cons (qe_bin (q_plus rfl) (qe_bin (q_plus rfl) (qe_bin q_mul (qe_var (pv 1)) (qe_int)) (qe_int)) (qe_var (pv 3))) (qa_nil))) (qe_int))) (qss_cons (qs_set (i := 2) nd rfl (by first | exact Or.inl rfl | exact Or.inr rfl) (qe_bin (q_plus rfl) (qe_bin q_mul (qe_var (pv 2)) (qe_int)) (qe_var (pv 1)))) (qss_nil)))) (qss_cons (qs_ret (qe_var (pv 2))) (qss_nil))))
theorem q__law_draw {f : Addr} {cdv : Value} {A : Around} {outer : List PySem.Env} {s : Shared} {H : Hp} {E : XK} (T : Txt G w mg) (hs : HasAll P w G mg base k c) (hr1 : Room (2 * k + 1) (A.deeper (PyProof.Rows.envOfC "_law_draw" (defScope s__law_draw) s.heap.objs.size f cdv))) :
    QSs (cxOf (L2.CX P w) P w G.K mg base ["pool", "many", "cell", "mixed", "value"] "_law_draw" (defScope s__law_draw) f cdv A outer s H E) G E (defBody s__law_draw) (m__law_draw c) := by
  have hr : Room (2 * k) (A.deeper (PyProof.Rows.envOfC "_law_draw" (defScope s__law_draw) s.heap.objs.size f cdv)) := hr1.mono (Nat.le_succ _)
  have hx : Passes (L2.CX P w) (cxOf (L2.CX P w) P w G.K mg base ["pool", "many", "cell", "mixed", "value"] "_law_draw" (defScope s__law_draw) f cdv A outer s H E) E := passes_call (takes_of rfl rfl rfl rfl) fun _ _ _ _ h => h
  have hu := hr.units
  have nd := (sc__law_draw).nd
  have hp : PassesOwn (model P w) (A.deeper (PyProof.Rows.envOfC "_law_draw" (defScope s__law_draw) s.heap.objs.size f cdv)) (PyProof.Rows.envOfC "_law_draw" (defScope s__law_draw) s.heap.objs.size f cdv) (cxOf (L2.CX P w) P w G.K mg base ["pool", "many", "cell", "mixed", "value"] "_law_draw" (defScope s__law_draw) f cdv A outer s H E).xe := PassesOwn.leaving
  exact qss_cons (qs_if (qt_w (qw_and (qt_cmp q_le (qe_ix rfl (qe_var (pv 0)) (qe_int)) (qe_int) (nomark _)) (qw_and1 (qt_cmp q_lt (qe_ix rfl (qe_var (pv 0)) (qe_int)) (qe_callB (q_len rfl) (by rfl) T.z_len PySem.boot_len (qa_cons (qe_ix rfl (qe_var (pv 0)) (qe_int)) (qa_nil))) (nomark _))))) (qss_cons (qs_set (i := 2) nd rfl (by first | exact Or.inl rfl | exact Or.inr rfl) (qe_ix rfl (qe_ix rfl (qe_var (pv 0)) (qe_int)) (qe_ix rfl (qe_var (pv 0)) (qe_int)))) (qss_cons (qs_put (qe_bin (q_plus rfl) (qe_ix rfl (qe_var (pv 0)) (qe_int)) (qe_int)) (qe_var (pv 0)) (qe_int)) (qss_cons (qs_put (qe_var (pv 2)) (qe_var (pv 0)) (qe_int)) (qss_cons (qs_if (qt_cmp q_lt (qe_var (pv 2)) (qe_int) (nomark _)) (qss_cons (qs_put (qe_call (hs .f_law_spread) rfl hr (by rfl) hx (qa_cons (qe_var (pv 2)) (qa_nil))) (qe_var (pv 0)) (qe_int)) (qss_nil)) (qss_nil)) (qss_nil))))) (qss_nil)) (qss_cons (qs_put (qe_bin (q_plus rfl) (qe_ix rfl (qe_var (pv 0)) (qe_int)) (qe_int)) (qe_var (pv 0)) (qe_int)) (qss_cons (qs_if (qt_cmp q_le (qe_ix rfl (qe_var (pv 0)) (qe_int)) (qe_int) (nomark _)) (qss_cons (qs_set (i := 3) nd rfl (by first | exact Or.inl rfl | exact Or.inr rfl) (qe_bin q_mod (qe_callTy (q_int) (by rfl) T.z_int PyProof.Rows.boot_int (qa_cons (qe_bin (q_plus rfl) (qe_bin (q_plus rfl) (qe_bin q_mul (qe_ix rfl (qe_var (pv 0)) (qe_int)) (qe_int)) (qe_bin q_mul (qe_ix rfl (qe_var (pv 0)) (qe_int)) (qe_int))) (qe_int)) (qa_nil))) (qe_int))) (qss_cons (qs_set (i := 3) nd rfl (by first | exact Or.inl rfl | exact Or.inr rfl) (qe_bin q_mod (qe_callTy (q_int) (by rfl) T.z_int PyProof.Rows.boot_int (qa_cons (qe_bin (q_plus rfl) (qe_bin q_mul (qe_var (pv 3)) (qe_int)) (qe_ix rfl (qe_var (pv 0)) (qe_int))) (qa_nil))) (qe_int))) (qss_cons (qs_ret (qe_bin q_mod (qe_bin q_div (qe_var (pv 3)) (qe_int)) (qe_var (pv 1)))) (qss_nil)))) (qss_nil)) (qss_cons (qs_set (i := 4) nd rfl (by first | exact Or.inl rfl | exact Or.inr rfl) (qe_bin q_mod (qe_callTy (q_int) (by rfl) T.z_int PyProof.Rows.boot_int (qa_cons (qe_ix rfl (qe_var (pv 0)) (qe_int)) (qa_nil))) (qe_var (pv 1)))) (qss_cons (qs_put (qe_bin q_div (qe_ix rfl (qe_var (pv 0)) (qe_int)) (qe_var (pv 1))) (qe_var (pv 0)) (qe_int)) (qss_cons (qs_ret (qe_var (pv 4))) (qss_nil))))))
theorem q__law_pick {f : Addr} {cdv : Value} {A : Around} {outer : List PySem.Env} {s : Shared} {H : Hp} {E : XK} (T : Txt G w mg) (hs : HasAll P w G mg base k c) (hr1 : Room (2 * k + 1) (A.deeper (PyProof.Rows.envOfC "_law_pick" (defScope s__law_pick) s.heap.objs.size f cdv))) :
    QSs (cxOf (L2.CX P w) P w G.K mg base ["pool", "items"] "_law_pick" (defScope s__law_pick) f cdv A outer s H E) G E (defBody s__law_pick) (m__law_pick c) := by
  have hr : Room (2 * k) (A.deeper (PyProof.Rows.envOfC "_law_pick" (defScope s__law_pick) s.heap.objs.size f cdv)) := hr1.mono (Nat.le_succ _)
  have hx : Passes (L2.CX P w) (cxOf (L2.CX P w) P w G.K mg base ["pool", "items"] "_law_pick" (defScope s__law_pick) f cdv A outer s H E) E := passes_call (takes_of rfl rfl rfl rfl) fun _ _ _ _ h => h
  have hu := hr.units
  have nd := (sc__law_pick).nd
  have hp : PassesOwn (model P w) (A.deeper (PyProof.Rows.envOfC "_law_pick" (defScope s__law_pick) s.heap.objs.size f cdv)) (PyProof.Rows.envOfC "_law_pick" (defScope s__law_pick) s.heap.objs.size f cdv) (cxOf (L2.CX P w) P w G.K mg base ["pool", "items"] "_law_pick" (defScope s__law_pick) f cdv A outer s H E).xe := PassesOwn.leaving
  exact qss_cons (qs_ret (qe_ix rfl (qe_var (pv 1)) (qe_call (hs .f_law_draw) rfl hr (by rfl) hx (qa_cons (qe_var (pv 0)) (qa_cons (qe_callB (q_len rfl) (by rfl) T.z_len PySem.boot_len (qa_cons (qe_var (pv 1)) (qa_nil))) (qa_nil)))))) (qss_nil)
theorem q__law_worked {f : Addr} {cdv : Value} {A : Around} {outer : List PySem.Env} {s : Shared} {H : Hp} {E : XK} (T : Txt G w mg) (hs : HasAll P w G mg base k c) (hr1 : Room (2 * k + 1) (A.deeper (PyProof.Rows.envOfC "_law_worked" (defScope s__law_worked) s.heap.objs.size f cdv))) :
    QSs (cxOf (L2.CX P w) P w G.K mg base ["word", "one", "two"] "_law_worked" (defScope s__law_worked) f cdv A outer s H E) G E (defBody s__law_worked) (m__law_worked c) := by
  have hr : Room (2 * k) (A.deeper (PyProof.Rows.envOfC "_law_worked" (defScope s__law_worked) s.heap.objs.size f cdv)) := hr1.mono (Nat.le_succ _)
  have hx : Passes (L2.CX P w) (cxOf (L2.CX P w) P w G.K mg base ["word", "one", "two"] "_law_worked" (defScope s__law_worked) f cdv A outer s H E) E := passes_call (takes_of rfl rfl rfl rfl) fun _ _ _ _ h => h
  have hu := hr.units
  have nd := (sc__law_worked).nd
  have hp : PassesOwn (model P w) (A.deeper (PyProof.Rows.envOfC "_law_worked" (defScope s__law_worked) s.heap.objs.size f cdv)) (PyProof.Rows.envOfC "_law_worked" (defScope s__law_worked) s.heap.objs.size f cdv) (cxOf (L2.CX P w) P w G.K mg base ["word", "one", "two"] "_law_worked" (defScope s__law_worked) f cdv A outer s H E).xe := PassesOwn.leaving
  exact qss_cons (qs_if (qt_cmp (q_eq rfl hu) (qe_var (pv 0)) (qe_str) (nomark _)) (qss_cons (qs_ret (qe_bin q_mod (qe_callTy (q_int) (by rfl) T.z_int PyProof.Rows.boot_int (qa_cons (qe_bin (q_plus rfl) (qe_var (pv 1)) (qe_var (pv 2))) (qa_nil))) (qe_int))) (qss_nil)) (qss_nil)) (qss_cons (qs_if (qt_cmp (q_eq rfl hu) (qe_var (pv 0)) (qe_str) (nomark _)) (qss_cons (qs_ret (qe_bin q_mod (qe_callTy (q_int) (by rfl) T.z_int PyProof.Rows.boot_int (qa_cons (qe_bin q_sub (qe_var (pv 1)) (qe_var (pv 2))) (qa_nil))) (qe_int))) (qss_nil)) (qss_nil)) (qss_cons (qs_if (qt_cmp (q_eq rfl hu) (qe_var (pv 0)) (qe_str) (nomark _)) (qss_cons (qs_ret (qe_bin q_mod (qe_callTy (q_int) (by rfl) T.z_int PyProof.Rows.boot_int (qa_cons (qe_bin q_mul (qe_var (pv 1)) (qe_var (pv 2))) (qa_nil))) (qe_int))) (qss_nil)) (qss_nil)) (qss_cons (qs_ret (qe_if (qt_cmp (q_eq rfl hu) (qe_var (pv 0)) (qe_str) (nomark _)) (qe_callTy (q_int) (by rfl) T.z_int PyProof.Rows.boot_int (qa_cons (qe_cmp q_lt (qe_var (pv 1)) (qe_var (pv 2)) (nomark _)) (qa_nil))) (qe_callTy (q_int) (by rfl) T.z_int PyProof.Rows.boot_int (qa_cons (qe_cmp (q_eq rfl hu) (qe_var (pv 1)) (qe_var (pv 2)) (nomark _)) (qa_nil))))) (qss_nil))))
theorem q__law_value {f : Addr} {cdv : Value} {A : Around} {outer : List PySem.Env} {s : Shared} {H : Hp} {E : XK} (T : Txt G w mg) (hs : HasAll P w G mg base k c) (hr1 : Room (2 * k + 1) (A.deeper (PyProof.Rows.envOfC "_law_value" (defScope s__law_value) s.heap.objs.size f cdv))) :
    QSs (cxOf (L2.CX P w) P w G.K mg base ["expression", "store"] "_law_value" (defScope s__law_value) f cdv A outer s H E) G E (defBody s__law_value) (m__law_value c) := by
  have hr : Room (2 * k) (A.deeper (PyProof.Rows.envOfC "_law_value" (defScope s__law_value) s.heap.objs.size f cdv)) := hr1.mono (Nat.le_succ _)
  have hx : Passes (L2.CX P w) (cxOf (L2.CX P w) P w G.K mg base ["expression", "store"] "_law_value" (defScope s__law_value) f cdv A outer s H E) E := passes_call (takes_of rfl rfl rfl rfl) fun _ _ _ _ h => h
  have hu := hr.units
  have nd := (sc__law_value).nd
  have hp : PassesOwn (model P w) (A.deeper (PyProof.Rows.envOfC "_law_value" (defScope s__law_value) s.heap.objs.size f cdv)) (PyProof.Rows.envOfC "_law_value" (defScope s__law_value) s.heap.objs.size f cdv) (cxOf (L2.CX P w) P w G.K mg base ["expression", "store"] "_law_value" (defScope s__law_value) f cdv A outer s H E).xe := PassesOwn.leaving
  exact qss_cons (qs_if (qt_cmp (q_eq rfl hu) (qe_ix rfl (qe_var (pv 0)) (qe_int)) (qe_str) (nomark _)) (qss_cons (qs_ret (qe_ix rfl (qe_var (pv 0)) (qe_int))) (qss_nil)) (qss_nil)) (qss_cons (qs_if (qt_cmp (q_eq rfl hu) (qe_ix rfl (qe_var (pv 0)) (qe_int)) (qe_str) (nomark _)) (qss_cons (qs_ret (qe_ix rfl (qe_var (pv 1)) (qe_ix rfl (qe_var (pv 0)) (qe_int)))) (qss_nil)) (qss_nil)) (qss_cons (qs_if (qt_cmp (q_eq rfl hu) (qe_ix rfl (qe_var (pv 0)) (qe_int)) (qe_str) (nomark _)) (qss_cons (qs_ret (qe_callTy (q_int) (by rfl) T.z_int PyProof.Rows.boot_int (qa_cons (qe_cmp (q_eq rfl hu) (qe_call (hs .f_law_value) rfl hr (by rfl) hx (qa_cons (qe_ix rfl (qe_var (pv 0)) (qe_int)) (qa_cons (qe_var (pv 1)) (qa_nil)))) (qe_int) (nomark _)) (qa_nil)))) (qss_nil)) (qss_nil)) (qss_cons (qs_ret (qe_call (hs .f_law_worked) rfl hr (by rfl) hx (qa_cons (qe_ix rfl (qe_var (pv 0)) (qe_int)) (qa_cons (qe_call (hs .f_law_value) rfl hr (by rfl) hx (qa_cons (qe_ix rfl (qe_var (pv 0)) (qe_int)) (qa_cons (qe_var (pv 1)) (qa_nil)))) (qa_cons (qe_call (hs .f_law_value) rfl hr (by rfl) hx (qa_cons (qe_ix rfl (qe_var (pv 0)) (qe_int)) (qa_cons (qe_var (pv 1)) (qa_nil)))) (qa_nil)))))) (qss_nil))))
theorem q__law_expression {f : Addr} {cdv : Value} {A : Around} {outer : List PySem.Env} {s : Shared} {H : Hp} {E : XK} (T : Txt G w mg) (hs : HasAll P w G mg base k c) (hr1 : Room (2 * k + 1) (A.deeper (PyProof.Rows.envOfC "_law_expression" (defScope s__law_expression) s.heap.objs.size f cdv))) :
    QSs (cxOf (L2.CX P w) P w G.K mg base ["pool", "deep", "word"] "_law_expression" (defScope s__law_expression) f cdv A outer s H E) G E (defBody s__law_expression) (m__law_expression c) := by
  have hr : Room (2 * k) (A.deeper (PyProof.Rows.envOfC "_law_expression" (defScope s__law_expression) s.heap.objs.size f cdv)) := hr1.mono (Nat.le_succ _)
  have hx : Passes (L2.CX P w) (cxOf (L2.CX P w) P w G.K mg base ["pool", "deep", "word"] "_law_expression" (defScope s__law_expression) f cdv A outer s H E) E := passes_call (takes_of rfl rfl rfl rfl) fun _ _ _ _ h => h
  have hu := hr.units
  have nd := (sc__law_expression).nd
  have hp : PassesOwn (model P w) (A.deeper (PyProof.Rows.envOfC "_law_expression" (defScope s__law_expression) s.heap.objs.size f cdv)) (PyProof.Rows.envOfC "_law_expression" (defScope s__law_expression) s.heap.objs.size f cdv) (cxOf (L2.CX P w) P w G.K mg base ["pool", "deep", "word"] "_law_expression" (defScope s__law_expression) f cdv A outer s H E).xe := PassesOwn.leaving
  exact qss_cons (qs_if (qt_w (qw_or (qt_cmp (q_eq rfl hu) (qe_var (pv 1)) (qe_int) (nomark _)) (qw_or1 (qt_cmp (q_eq rfl hu) (qe_call (hs .f_law_draw) rfl hr (by rfl) hx (qa_cons (qe_var (pv 0)) (qa_cons (qe_int) (qa_nil)))) (qe_int) (nomark _))))) (qss_cons (qs_if (qt_cmp q_lt (qe_call (hs .f_law_draw) rfl hr (by rfl) hx (qa_cons (qe_var (pv 0)) (qa_cons (qe_int) (qa_nil)))) (qe_int) (nomark _)) (qss_cons (qs_ret (qe_tup (qa_cons (qe_str) (qa_cons (qe_ix rfl (qe_tup (qa_cons (qe_int) (qa_cons (qe_int) (qa_cons (qe_int) (qa_cons (qe_int) (qa_cons (qe_int) (qa_cons (qe_int) (qa_cons (qe_int) (qa_cons (qe_int) (qa_nil)))))))))) (qe_call (hs .f_law_draw) rfl hr (by rfl) hx (qa_cons (qe_var (pv 0)) (qa_cons (qe_int) (qa_nil))))) (qa_nil))))) (qss_nil)) (qss_nil)) (qss_cons (qs_ret (qe_tup (qa_cons (qe_str) (qa_cons (qe_call (hs .f_law_draw) rfl hr (by rfl) hx (qa_cons (qe_var (pv 0)) (qa_cons (qe_int) (qa_nil)))) (qa_nil))))) (qss_nil))) (qss_nil)) (qss_cons (qs_set (i := 2) nd rfl (by first | exact Or.inl rfl | exact Or.inr rfl) (qe_call (hs .f_law_pick) rfl hr (by rfl) hx (qa_cons (qe_var (pv 0)) (qa_cons (qe_frz (qf_lst (qa_cons (qe_str) (qa_cons (qe_str) (qa_cons (qe_str) (qa_cons (qe_str) (qa_cons (qe_str) (qa_cons (qe_str) (qa_nil))))))))) (qa_nil))))) (qss_cons (qs_if (qt_cmp (q_eq rfl hu) (qe_var (pv 2)) (qe_str) (nomark _)) (qss_cons (qs_ret (qe_tup (qa_cons (qe_str) (qa_cons (qe_call (hs .f_law_expression) rfl hr (by rfl) hx (qa_cons (qe_var (pv 0)) (qa_cons (qe_bin q_sub (qe_var (pv 1)) (qe_int)) (qa_nil)))) (qa_nil))))) (qss_nil)) (qss_nil)) (qss_cons (qs_ret (qe_tup (qa_cons (qe_var (pv 2)) (qa_cons (qe_call (hs .f_law_expression) rfl hr (by rfl) hx (qa_cons (qe_var (pv 0)) (qa_cons (qe_bin q_sub (qe_var (pv 1)) (qe_int)) (qa_nil)))) (qa_cons (qe_call (hs .f_law_expression) rfl hr (by rfl) hx (qa_cons (qe_var (pv 0)) (qa_cons (qe_bin q_sub (qe_var (pv 1)) (qe_int)) (qa_nil)))) (qa_nil)))))) (qss_nil))))
theorem q__law_store {f : Addr} {cdv : Value} {A : Around} {outer : List PySem.Env} {s : Shared} {H : Hp} {E : XK} (T : Txt G w mg) (hs : HasAll P w G mg base k c) (hr1 : Room (2 * k + 1) (A.deeper (PyProof.Rows.envOfC "_law_store" (defScope s__law_store) s.heap.objs.size f cdv))) :
    QSs (cxOf (L2.CX P w) P w G.K mg base ["pool", "k"] "_law_store" (defScope s__law_store) f cdv A outer s H E) G E (defBody s__law_store) (m__law_store c) := by
  have hr : Room (2 * k) (A.deeper (PyProof.Rows.envOfC "_law_store" (defScope s__law_store) s.heap.objs.size f cdv)) := hr1.mono (Nat.le_succ _)
  have hx : Passes (L2.CX P w) (cxOf (L2.CX P w) P w G.K mg base ["pool", "k"] "_law_store" (defScope s__law_store) f cdv A outer s H E) E := passes_call (takes_of rfl rfl rfl rfl) fun _ _ _ _ h => h
  have hu := hr.units
  have nd := (sc__law_store).nd
  have hp : PassesOwn (model P w) (A.deeper (PyProof.Rows.envOfC "_law_store" (defScope s__law_store) s.heap.objs.size f cdv)) (PyProof.Rows.envOfC "_law_store" (defScope s__law_store) s.heap.objs.size f cdv) (cxOf (L2.CX P w) P w G.K mg base ["pool", "k"] "_law_store" (defScope s__law_store) f cdv A outer s H E).xe := PassesOwn.leaving
  exact qss_cons (qs_ret (qe_callTy (q_tuple rfl) (by rfl) T.z_tuple PyProof.Rows.boot_tuple (qa_cons (qe_frz (qf_lc (own := [("k", 1)]) (ts := [1]) rfl nd (qi_rng1 (by rfl) T.z_range (qa_cons (qe_int) (qa_nil))) (blkOk_by (N := ["pool", "k"]) (sc := defScope s__law_store) (by decide +kernel)) (fun _ _ _ _ _ => qg_name (i := 1) nd rfl (by first | exact Or.inl rfl | exact Or.inr rfl)) (fun _ _ _ _ _ => qts_nil) (fun _ _ _ _ _ => qe_ix rfl (qe_tup (qa_cons (qe_int) (qa_cons (qe_int) (qa_cons (qe_int) (qa_cons (qe_int) (qa_cons (qe_int) (qa_cons (qe_int) (qa_nil)))))))) (qe_call (hs .f_law_draw) rfl hr (by rfl) passL (qa_cons (qe_var (pv 0)) (qa_cons (qe_int) (qa_nil))))) (by decide))) (qa_nil)))) (qss_nil)
theorem q__law_block {f : Addr} {cdv : Value} {A : Around} {outer : List PySem.Env} {s : Shared} {H : Hp} {E : XK} (T : Txt G w mg) (hs : HasAll P w G mg base k c) (hr1 : Room (2 * k + 1) (A.deeper (PyProof.Rows.envOfC "_law_block" (defScope s__law_block) s.heap.objs.size f cdv))) :
    QSs (cxOf (L2.CX P w) P w G.K mg base ["pool", "deep", "k"] "_law_block" (defScope s__law_block) f cdv A outer s H E) G E (defBody s__law_block) (m__law_block c) := by
  have hr : Room (2 * k) (A.deeper (PyProof.Rows.envOfC "_law_block" (defScope s__law_block) s.heap.objs.size f cdv)) := hr1.mono (Nat.le_succ _)
  have hx : Passes (L2.CX P w) (cxOf (L2.CX P w) P w G.K mg base ["pool", "deep", "k"] "_law_block" (defScope s__law_block) f cdv A outer s H E) E := passes_call (takes_of rfl rfl rfl rfl) fun _ _ _ _ h => h
  have hu := hr.units
  have nd := (sc__law_block).nd
  have hp : PassesOwn (model P w) (A.deeper (PyProof.Rows.envOfC "_law_block" (defScope s__law_block) s.heap.objs.size f cdv)) (PyProof.Rows.envOfC "_law_block" (defScope s__law_block) s.heap.objs.size f cdv) (cxOf (L2.CX P w) P w G.K mg base ["pool", "deep", "k"] "_law_block" (defScope s__law_block) f cdv A outer s H E).xe := PassesOwn.leaving
  exact qss_cons (qs_ret (qe_callTy (q_tuple rfl) (by rfl) T.z_tuple PyProof.Rows.boot_tuple (qa_cons (qe_frz (qf_lc (own := [("k", 2)]) (ts := [2]) rfl nd (qi_rng1 (by rfl) T.z_range (qa_cons (qe_call (hs .f_law_draw) rfl hr (by rfl) hx (qa_cons (qe_var (pv 0)) (qa_cons (qe_int) (qa_nil)))) (qa_nil))) (blkOk_by (N := ["pool", "deep", "k"]) (sc := defScope s__law_block) (by decide +kernel)) (fun _ _ _ _ _ => qg_name (i := 2) nd rfl (by first | exact Or.inl rfl | exact Or.inr rfl)) (fun _ _ _ _ _ => qts_nil) (fun _ _ _ _ _ => qe_call (hs .f_law_deed) rfl hr (by rfl) passL (qa_cons (qe_var (pv 0)) (qa_cons (qe_var (pv 1)) (qa_nil)))) (by decide))) (qa_nil)))) (qss_nil)
theorem q__law_deed {f : Addr} {cdv : Value} {A : Around} {outer : List PySem.Env} {s : Shared} {H : Hp} {E : XK} (T : Txt G w mg) (hs : HasAll P w G mg base k c) (hr1 : Room (2 * k + 1) (A.deeper (PyProof.Rows.envOfC "_law_deed" (defScope s__law_deed) s.heap.objs.size f cdv))) :
    QSs (cxOf (L2.CX P w) P w G.K mg base ["pool", "deep", "turn", "name", "more"] "_law_deed" (defScope s__law_deed) f cdv A outer s H E) G E (defBody s__law_deed) (m__law_deed c) := by
  have hr : Room (2 * k) (A.deeper (PyProof.Rows.envOfC "_law_deed" (defScope s__law_deed) s.heap.objs.size f cdv)) := hr1.mono (Nat.le_succ _)
  have hx : Passes (L2.CX P w) (cxOf (L2.CX P w) P w G.K mg base ["pool", "deep", "turn", "name", "more"] "_law_deed" (defScope s__law_deed) f cdv A outer s H E) E := passes_call (takes_of rfl rfl rfl rfl) fun _ _ _ _ h => h
  have hu := hr.units
  have nd := (sc__law_deed).nd
  have hp : PassesOwn (model P w) (A.deeper (PyProof.Rows.envOfC "_law_deed" (defScope s__law_deed) s.heap.objs.size f cdv)) (PyProof.Rows.envOfC "_law_deed" (defScope s__law_deed) s.heap.objs.size f cdv) (cxOf (L2.CX P w) P w G.K mg base ["pool", "deep", "turn", "name", "more"] "_law_deed" (defScope s__law_deed) f cdv A outer s H E).xe := PassesOwn.leaving
  exact qss_cons (qs_set (i := 2) nd rfl (by first | exact Or.inl rfl | exact Or.inr rfl) (qe_call (hs .f_law_draw) rfl hr (by rfl) hx (qa_cons (qe_var (pv 0)) (qa_cons (qe_int) (qa_nil))))) (qss_cons (qs_if (qt_w (qw_or (qt_cmp (q_eq rfl hu) (qe_var (pv 1)) (qe_int) (nomark _)) (qw_or1 (qt_cmp q_lt (qe_var (pv 2)) (qe_int) (nomark _))))) (qss_cons (qs_if (qt_cmp (q_eq rfl hu) (qe_bin q_mod (qe_var (pv 2)) (qe_int)) (qe_int) (nomark _)) (qss_cons (qs_ret (qe_tup (qa_cons (qe_str) (qa_cons (qe_call (hs .f_law_expression) rfl hr (by rfl) hx (qa_cons (qe_var (pv 0)) (qa_cons (qe_int) (qa_nil)))) (qa_nil))))) (qss_nil)) (qss_nil)) (qss_cons (qs_ret (qe_tup (qa_cons (qe_str) (qa_cons (qe_call (hs .f_law_draw) rfl hr (by rfl) hx (qa_cons (qe_var (pv 0)) (qa_cons (qe_int) (qa_nil)))) (qa_cons (qe_call (hs .f_law_expression) rfl hr (by rfl) hx (qa_cons (qe_var (pv 0)) (qa_cons (qe_int) (qa_nil)))) (qa_nil)))))) (qss_nil))) (qss_nil)) (qss_cons (qs_if (qt_cmp q_lt (qe_var (pv 2)) (qe_int) (nomark _)) (qss_cons (qs_ret (qe_tup (qa_cons (qe_str) (qa_cons (qe_call (hs .f_law_expression) rfl hr (by rfl) hx (qa_cons (qe_var (pv 0)) (qa_cons (qe_int) (qa_nil)))) (qa_cons (qe_call (hs .f_law_block) rfl hr (by rfl) hx (qa_cons (qe_var (pv 0)) (qa_cons (qe_bin q_sub (qe_var (pv 1)) (qe_int)) (qa_nil)))) (qa_cons (qe_call (hs .f_law_block) rfl hr (by rfl) hx (qa_cons (qe_var (pv 0)) (qa_cons (qe_bin q_sub (qe_var (pv 1)) (qe_int)) (qa_nil)))) (qa_nil))))))) (qss_nil)) (qss_nil)) (qss_cons (qs_set (i := 3) nd rfl (by first | exact Or.inl rfl | exact Or.inr rfl) (qe_call (hs .f_law_draw) rfl hr (by rfl) hx (qa_cons (qe_var (pv 0)) (qa_cons (qe_int) (qa_nil))))) (qss_cons (qs_if (qt_cmp q_lt (qe_call (hs .f_law_draw) rfl hr (by rfl) hx (qa_cons (qe_var (pv 0)) (qa_cons (qe_int) (qa_nil)))) (qe_int) (nomark _)) (qss_cons (qs_set (i := 4) nd rfl (by first | exact Or.inl rfl | exact Or.inr rfl) (qe_tup (qa_cons (qe_str) (qa_cons (qe_var (pv 3)) (qa_cons (qe_tup (qa_cons (qe_str) (qa_cons (qe_tup (qa_cons (qe_str) (qa_cons (qe_var (pv 3)) (qa_nil)))) (qa_cons (qe_tup (qa_cons (qe_str) (qa_cons (qe_bin (q_plus rfl) (qe_int) (qe_call (hs .f_law_draw) rfl hr (by rfl) hx (qa_cons (qe_var (pv 0)) (qa_cons (qe_int) (qa_nil))))) (qa_nil)))) (qa_nil))))) (qa_nil)))))) (qss_cons (qs_ret (qe_tup (qa_cons (qe_str) (qa_cons (qe_tup (qa_cons (qe_str) (qa_cons (qe_tup (qa_cons (qe_str) (qa_cons (qe_var (pv 3)) (qa_nil)))) (qa_cons (qe_tup (qa_cons (qe_str) (qa_cons (qe_call (hs .f_law_draw) rfl hr (by rfl) hx (qa_cons (qe_var (pv 0)) (qa_cons (qe_int) (qa_nil)))) (qa_nil)))) (qa_nil))))) (qa_cons (qe_bin (q_plus rfl) (qe_call (hs .f_law_block) rfl hr (by rfl) hx (qa_cons (qe_var (pv 0)) (qa_cons (qe_bin q_sub (qe_var (pv 1)) (qe_int)) (qa_nil)))) (qe_tup (qa_cons (qe_var (pv 4)) (qa_nil)))) (qa_nil)))))) (qss_nil))) (qss_nil)) (qss_cons (qs_ret (qe_tup (qa_cons (qe_str) (qa_cons (qe_call (hs .f_law_expression) rfl hr (by rfl) hx (qa_cons (qe_var (pv 0)) (qa_cons (qe_int) (qa_nil)))) (qa_cons (qe_call (hs .f_law_block) rfl hr (by rfl) hx (qa_cons (qe_var (pv 0)) (qa_cons (qe_bin q_sub (qe_var (pv 1)) (qe_int)) (qa_nil)))) (qa_nil)))))) (qss_nil))))))
theorem q__law_program {f : Addr} {cdv : Value} {A : Around} {outer : List PySem.Env} {s : Shared} {H : Hp} {E : XK} (T : Txt G w mg) (hs : HasAll P w G mg base k c) (hr1 : Room (2 * k + 1) (A.deeper (PyProof.Rows.envOfC "_law_program" (defScope s__law_program) s.heap.objs.size f cdv))) :
    QSs (cxOf (L2.CX P w) P w G.K mg base ["pool", "found", "deed"] "_law_program" (defScope s__law_program) f cdv A outer s H E) G E (defBody s__law_program) (m__law_program c) := by
  have hr : Room (2 * k) (A.deeper (PyProof.Rows.envOfC "_law_program" (defScope s__law_program) s.heap.objs.size f cdv)) := hr1.mono (Nat.le_succ _)
  have hx : Passes (L2.CX P w) (cxOf (L2.CX P w) P w G.K mg base ["pool", "found", "deed"] "_law_program" (defScope s__law_program) f cdv A outer s H E) E := passes_call (takes_of rfl rfl rfl rfl) fun _ _ _ _ h => h
  have hu := hr.units
  have nd := (sc__law_program).nd
  have hp : PassesOwn (model P w) (A.deeper (PyProof.Rows.envOfC "_law_program" (defScope s__law_program) s.heap.objs.size f cdv)) (PyProof.Rows.envOfC "_law_program" (defScope s__law_program) s.heap.objs.size f cdv) (cxOf (L2.CX P w) P w G.K mg base ["pool", "found", "deed"] "_law_program" (defScope s__law_program) f cdv A outer s H E).xe := PassesOwn.leaving
  exact qss_cons (qs_set (i := 1) nd rfl (by first | exact Or.inl rfl | exact Or.inr rfl) (qe_tup (qa_nil))) (qss_cons (qs_for (ts := [2]) hp rfl (qi_seq rfl (qe_call (hs .f_law_block) rfl hr (by rfl) hx (qa_cons (qe_var (pv 0)) (qa_cons (qe_int) (qa_nil))))) (qg_name (i := 2) nd rfl (by first | exact Or.inl rfl | exact Or.inr rfl)) (qss_cons (qs_set (i := 1) nd rfl (by first | exact Or.inl rfl | exact Or.inr rfl) (qe_if (qt_cmp q_le (qe_call (hs .f_law_deeds_of) rfl hr (by rfl) hx (qa_cons (qe_bin (q_plus rfl) (qe_var (pv 1)) (qe_tup (qa_cons (qe_var (pv 2)) (qa_nil)))) (qa_nil))) (qe_int) (nomark _)) (qe_bin (q_plus rfl) (qe_var (pv 1)) (qe_tup (qa_cons (qe_var (pv 2)) (qa_nil)))) (qe_var (pv 1)))) (qss_nil))) (qss_cons (qs_ret (qe_if (qt_cmp (q_ne rfl hu) (qe_var (pv 1)) (qe_tup (qa_nil)) (nomark _)) (qe_var (pv 1)) (qe_tup (qa_cons (qe_tup (qa_cons (qe_str) (qa_cons (qe_tup (qa_cons (qe_str) (qa_cons (qe_call (hs .f_law_draw) rfl hr (by rfl) hx (qa_cons (qe_var (pv 0)) (qa_cons (qe_int) (qa_nil)))) (qa_nil)))) (qa_nil)))) (qa_nil))))) (qss_nil)))
theorem q__law_do {f : Addr} {cdv : Value} {A : Around} {outer : List PySem.Env} {s : Shared} {H : Hp} {E : XK} (T : Txt G w mg) (hs : HasAll P w G mg base k c) (hr1 : Room (2 * k + 1) (A.deeper (PyProof.Rows.envOfC "_law_do" (defScope s__law_do) s.heap.objs.size f cdv))) :
    QSs (cxOf (L2.CX P w) P w G.K mg base ["block", "state", "deed", "store"] "_law_do" (defScope s__law_do) f cdv A outer s H E) G E (defBody s__law_do) (m__law_do c) := by
  have hr : Room (2 * k) (A.deeper (PyProof.Rows.envOfC "_law_do" (defScope s__law_do) s.heap.objs.size f cdv)) := hr1.mono (Nat.le_succ _)
  have hx : Passes (L2.CX P w) (cxOf (L2.CX P w) P w G.K mg base ["block", "state", "deed", "store"] "_law_do" (defScope s__law_do) f cdv A outer s H E) E := passes_call (takes_of rfl rfl rfl rfl) fun _ _ _ _ h => h
  have hu := hr.units
  have nd := (sc__law_do).nd
  have hp : PassesOwn (model P w) (A.deeper (PyProof.Rows.envOfC "_law_do" (defScope s__law_do) s.heap.objs.size f cdv)) (PyProof.Rows.envOfC "_law_do" (defScope s__law_do) s.heap.objs.size f cdv) (cxOf (L2.CX P w) P w G.K mg base ["block", "state", "deed", "store"] "_law_do" (defScope s__law_do) f cdv A outer s H E).xe := PassesOwn.leaving
  exact qss_cons (qs_for (ts := [2]) hp rfl (qi_seq rfl (qe_var (pv 0))) (qg_name (i := 2) nd rfl (by first | exact Or.inl rfl | exact Or.inr rfl)) (qss_cons (qs_if (qt_cmp (q_ne rfl hu) (qe_dget hu (qe_var (pv 1)) (qe_str)) (qe_str) (nomark _)) (qss_cons (qs_ret (qe_var (pv 1))) (qss_nil)) (qss_nil)) (qss_cons (qs_set (i := 3) nd rfl (by first | exact Or.inl rfl | exact Or.inr rfl) (qe_dget hu (qe_var (pv 1)) (qe_str))) (qss_cons (qs_if (qt_cmp (q_eq rfl hu) (qe_ix rfl (qe_var (pv 2)) (qe_int)) (qe_str) (nomark _)) (qss_cons (qs_dput hu (qe_var (pv 1)) (qe_str) (qe_bin (q_plus rfl) (qe_bin (q_plus rfl) (qe_sl rfl (qe_var (pv 3)) (qo_none) (qo_some (qe_ix rfl (qe_var (pv 2)) (qe_int)))) (qe_tup (qa_cons (qe_call (hs .f_law_value) rfl hr (by rfl) hx (qa_cons (qe_ix rfl (qe_var (pv 2)) (qe_int)) (qa_cons (qe_var (pv 3)) (qa_nil)))) (qa_nil)))) (qe_sl rfl (qe_var (pv 3)) (qo_some (qe_bin (q_plus rfl) (qe_ix rfl (qe_var (pv 2)) (qe_int)) (qe_int))) (qo_none)))) (qss_nil)) (qss_cons (qs_if (qt_cmp (q_eq rfl hu) (qe_ix rfl (qe_var (pv 2)) (qe_int)) (qe_str) (nomark _)) (qss_cons (qs_dput hu (qe_var (pv 1)) (qe_str) (qe_bin (q_plus rfl) (qe_dget hu (qe_var (pv 1)) (qe_str)) (qe_tup (qa_cons (qe_call (hs .f_law_value) rfl hr (by rfl) hx (qa_cons (qe_ix rfl (qe_var (pv 2)) (qe_int)) (qa_cons (qe_var (pv 3)) (qa_nil)))) (qa_nil))))) (qss_nil)) (qss_cons (qs_if (qt_cmp (q_eq rfl hu) (qe_ix rfl (qe_var (pv 2)) (qe_int)) (qe_str) (nomark _)) (qss_cons (qs_do (qe_call (hs .f_law_do) rfl hr (by rfl) hx (qa_cons (qe_if (qt_cmp (q_ne rfl hu) (qe_call (hs .f_law_value) rfl hr (by rfl) hx (qa_cons (qe_ix rfl (qe_var (pv 2)) (qe_int)) (qa_cons (qe_var (pv 3)) (qa_nil)))) (qe_int) (nomark _)) (qe_ix rfl (qe_var (pv 2)) (qe_int)) (qe_ix rfl (qe_var (pv 2)) (qe_int))) (qa_cons (qe_var (pv 1)) (qa_nil))))) (qss_nil)) (qss_cons (qs_do (qe_call (hs .f_law_loop) rfl hr (by rfl) hx (qa_cons (qe_var (pv 2)) (qa_cons (qe_var (pv 1)) (qa_nil))))) (qss_nil))) (qss_nil))) (qss_nil))) (qss_nil))))) (qss_cons (qs_ret (qe_var (pv 1))) (qss_nil))
theorem q__law_loop {f : Addr} {cdv : Value} {A : Around} {outer : List PySem.Env} {s : Shared} {H : Hp} {E : XK} (T : Txt G w mg) (hs : HasAll P w G mg base k c) (hr1 : Room (2 * k + 1) (A.deeper (PyProof.Rows.envOfC "_law_loop" (defScope s__law_loop) s.heap.objs.size f cdv))) :
    QSs (cxOf (L2.CX P w) P w G.K mg base ["deed", "state", "going"] "_law_loop" (defScope s__law_loop) f cdv A outer s H E) G E (defBody s__law_loop) (m__law_loop c) := by
  have hr : Room (2 * k) (A.deeper (PyProof.Rows.envOfC "_law_loop" (defScope s__law_loop) s.heap.objs.size f cdv)) := hr1.mono (Nat.le_succ _)
  have hx : Passes (L2.CX P w) (cxOf (L2.CX P w) P w G.K mg base ["deed", "state", "going"] "_law_loop" (defScope s__law_loop) f cdv A outer s H E) E := passes_call (takes_of rfl rfl rfl rfl) fun _ _ _ _ h => h
  have hu := hr.units
  have nd := (sc__law_loop).nd
  have hp : PassesOwn (model P w) (A.deeper (PyProof.Rows.envOfC "_law_loop" (defScope s__law_loop) s.heap.objs.size f cdv)) (PyProof.Rows.envOfC "_law_loop" (defScope s__law_loop) s.heap.objs.size f cdv) (cxOf (L2.CX P w) P w G.K mg base ["deed", "state", "going"] "_law_loop" (defScope s__law_loop) f cdv A outer s H E).xe := PassesOwn.leaving
  exact qss_cons (qs_set (i := 2) nd rfl (by first | exact Or.inl rfl | exact Or.inr rfl) (qe_bl)) (qss_cons (qs_while hp (qt_val (qe_var (pv 2))) (qss_cons (qs_if (qt_cmp (q_eq rfl hu) (qe_dget hu (qe_var (pv 1)) (qe_str)) (qe_int) (nomark _)) (qss_cons (qs_dput hu (qe_var (pv 1)) (qe_str) (qe_str)) (qss_cons (qs_ret (qe_var (pv 1))) (qss_nil))) (qss_nil)) (qss_cons (qs_dput hu (qe_var (pv 1)) (qe_str) (qe_bin q_sub (qe_dget hu (qe_var (pv 1)) (qe_str)) (qe_int))) (qss_cons (qs_set (i := 2) nd rfl (by first | exact Or.inl rfl | exact Or.inr rfl) (qe_cmp (q_ne rfl hu) (qe_call (hs .f_law_value) rfl hr (by rfl) hx (qa_cons (qe_ix rfl (qe_var (pv 0)) (qe_int)) (qa_cons (qe_dget hu (qe_var (pv 1)) (qe_str)) (qa_nil)))) (qe_int) (nomark _))) (qss_cons (qs_if (qt_val (qe_var (pv 2))) (qss_cons (qs_do (qe_call (hs .f_law_do) rfl hr (by rfl) hx (qa_cons (qe_ix rfl (qe_var (pv 0)) (qe_int)) (qa_cons (qe_var (pv 1)) (qa_nil))))) (qss_cons (qs_set (i := 2) nd rfl (by first | exact Or.inl rfl | exact Or.inr rfl) (qe_cmp (q_eq rfl hu) (qe_dget hu (qe_var (pv 1)) (qe_str)) (qe_str) (nomark _))) (qss_nil))) (qss_nil)) (qss_nil)))))) (qss_cons (qs_ret (qe_var (pv 1))) (qss_nil)))
theorem q__law_run {f : Addr} {cdv : Value} {A : Around} {outer : List PySem.Env} {s : Shared} {H : Hp} {E : XK} (T : Txt G w mg) (hs : HasAll P w G mg base k c) (hr1 : Room (2 * k + 1) (A.deeper (PyProof.Rows.envOfC "_law_run" (defScope s__law_run) s.heap.objs.size f cdv))) :
    QSs (cxOf (L2.CX P w) P w G.K mg base ["block", "store", "turns", "state"] "_law_run" (defScope s__law_run) f cdv A outer s H E) G E (defBody s__law_run) (m__law_run c) := by
  have hr : Room (2 * k) (A.deeper (PyProof.Rows.envOfC "_law_run" (defScope s__law_run) s.heap.objs.size f cdv)) := hr1.mono (Nat.le_succ _)
  have hx : Passes (L2.CX P w) (cxOf (L2.CX P w) P w G.K mg base ["block", "store", "turns", "state"] "_law_run" (defScope s__law_run) f cdv A outer s H E) E := passes_call (takes_of rfl rfl rfl rfl) fun _ _ _ _ h => h
  have hu := hr.units
  have nd := (sc__law_run).nd
  have hp : PassesOwn (model P w) (A.deeper (PyProof.Rows.envOfC "_law_run" (defScope s__law_run) s.heap.objs.size f cdv)) (PyProof.Rows.envOfC "_law_run" (defScope s__law_run) s.heap.objs.size f cdv) (cxOf (L2.CX P w) P w G.K mg base ["block", "store", "turns", "state"] "_law_run" (defScope s__law_run) f cdv A outer s H E).xe := PassesOwn.leaving
  exact qss_cons (qs_set (i := 3) nd rfl (by first | exact Or.inl rfl | exact Or.inr rfl) (qe_disp (ks := [.inr "word", .inr "store", .inr "told", .inr "turns"]) (qd_cons pe_str (qe_str) (qd_cons pe_str (qe_var (pv 1)) (qd_cons pe_str (qe_tup (qa_nil)) (qd_cons pe_str (qe_var (pv 2)) (qd_nil))))))) (qss_cons (qs_do (qe_call (hs .f_law_do) rfl hr (by rfl) hx (qa_cons (qe_var (pv 0)) (qa_cons (qe_var (pv 3)) (qa_nil))))) (qss_cons (qs_ret (qe_if (qt_cmp (q_eq rfl hu) (qe_dget hu (qe_var (pv 3)) (qe_str)) (qe_str) (nomark _)) (qe_tup (qa_cons (qe_str) (qa_cons (qe_dget hu (qe_var (pv 3)) (qe_str)) (qa_cons (qe_dget hu (qe_var (pv 3)) (qe_str)) (qa_nil))))) (qe_tup (qa_cons (qe_str) (qa_cons (qe_dget hu (qe_var (pv 3)) (qe_str)) (qa_nil)))))) (qss_nil)))
theorem q__law_deeds_of {f : Addr} {cdv : Value} {A : Around} {outer : List PySem.Env} {s : Shared} {H : Hp} {E : XK} (T : Txt G w mg) (hs : HasAll P w G mg base k c) (hr1 : Room (2 * k + 1) (A.deeper (PyProof.Rows.envOfC "_law_deeds_of" (defScope s__law_deeds_of) s.heap.objs.size f cdv))) :
    QSs (cxOf (L2.CX P w) P w G.K mg base ["block", "found", "deed", "part"] "_law_deeds_of" (defScope s__law_deeds_of) f cdv A outer s H E) G E (defBody s__law_deeds_of) (m__law_deeds_of c) := by
  have hr : Room (2 * k) (A.deeper (PyProof.Rows.envOfC "_law_deeds_of" (defScope s__law_deeds_of) s.heap.objs.size f cdv)) := hr1.mono (Nat.le_succ _)
  have hx : Passes (L2.CX P w) (cxOf (L2.CX P w) P w G.K mg base ["block", "found", "deed", "part"] "_law_deeds_of" (defScope s__law_deeds_of) f cdv A outer s H E) E := passes_call (takes_of rfl rfl rfl rfl) fun _ _ _ _ h => h
  have hu := hr.units
  have nd := (sc__law_deeds_of).nd
  have hp : PassesOwn (model P w) (A.deeper (PyProof.Rows.envOfC "_law_deeds_of" (defScope s__law_deeds_of) s.heap.objs.size f cdv)) (PyProof.Rows.envOfC "_law_deeds_of" (defScope s__law_deeds_of) s.heap.objs.size f cdv) (cxOf (L2.CX P w) P w G.K mg base ["block", "found", "deed", "part"] "_law_deeds_of" (defScope s__law_deeds_of) f cdv A outer s H E).xe := PassesOwn.leaving
  exact qss_cons (qs_set (i := 1) nd rfl (by first | exact Or.inl rfl | exact Or.inr rfl) (qe_callB (q_len rfl) (by rfl) T.z_len PySem.boot_len (qa_cons (qe_var (pv 0)) (qa_nil)))) (qss_cons (qs_for (ts := [2]) hp rfl (qi_seq rfl (qe_var (pv 0))) (qg_name (i := 2) nd rfl (by first | exact Or.inl rfl | exact Or.inr rfl)) (qss_cons (qs_if (qt_cmp (q_in rfl) (qe_ix rfl (qe_var (pv 2)) (qe_int)) (qe_tup (qa_cons (qe_str) (qa_cons (qe_str) (qa_nil)))) (by with_unfolding_all rfl)) (qss_cons (qs_set (i := 1) nd rfl (by first | exact Or.inl rfl | exact Or.inr rfl) (qe_bin (q_plus rfl) (qe_var (pv 1)) (qe_callB (q_sum rfl) (by rfl) T.z_sum PyProof.Rows.boot_sum (qa_cons (qe_frz (qf_lc (own := [("part", 3)]) (ts := [3]) rfl nd (qi_seq rfl (qe_sl rfl (qe_var (pv 2)) (qo_some (qe_int)) (qo_none))) (blkOk_by (N := ["block", "found", "deed", "part"]) (sc := defScope s__law_deeds_of) (by decide +kernel)) (fun _ _ _ _ _ => qg_name (i := 3) nd rfl (by first | exact Or.inl rfl | exact Or.inr rfl)) (fun _ _ _ _ _ => qts_nil) (fun _ _ _ _ _ => qe_call (hs .f_law_deeds_of) rfl hr (by rfl) passL (qa_cons (qe_var (pv 3)) (qa_nil))) (by decide))) (qa_nil))))) (qss_nil)) (qss_nil)) (qss_nil))) (qss_cons (qs_ret (qe_var (pv 1))) (qss_nil)))
theorem q_law {f : Addr} {cdv : Value} {A : Around} {outer : List PySem.Env} {s : Shared} {H : Hp} {E : XK} (T : Txt G w mg) (hs : HasAll P w G mg base k c) (hr1 : Room (2 * k + 1) (A.deeper (PyProof.Rows.envOfC "law" (defScope s_law) s.heap.objs.size f cdv))) :
    QSs (cxOf (L2.CX P w) P w G.K mg base ["script", "pool", "program", "store", "turns", "states", "whole", "at", "block", "here", "told", "left", "due", "way", "rest", "debugger", "state", "log", "more", "taken", "sets", "one", "two", "three"] "law" (defScope s_law) f cdv A outer s H E) G E (defBody s_law) (m_law c) := by
  have hr : Room (2 * k) (A.deeper (PyProof.Rows.envOfC "law" (defScope s_law) s.heap.objs.size f cdv)) := hr1.mono (Nat.le_succ _)
  have hx : Passes (L2.CX P w) (cxOf (L2.CX P w) P w G.K mg base ["script", "pool", "program", "store", "turns", "states", "whole", "at", "block", "here", "told", "left", "due", "way", "rest", "debugger", "state", "log", "more", "taken", "sets", "one", "two", "three"] "law" (defScope s_law) f cdv A outer s H E) E := passes_call (takes_of rfl rfl rfl rfl) fun _ _ _ _ h => h
  have hu := hr.units
  have nd := (sc_law).nd
  have hp : PassesOwn (model P w) (A.deeper (PyProof.Rows.envOfC "law" (defScope s_law) s.heap.objs.size f cdv)) (PyProof.Rows.envOfC "law" (defScope s_law) s.heap.objs.size f cdv) (cxOf (L2.CX P w) P w G.K mg base ["script", "pool", "program", "store", "turns", "states", "whole", "at", "block", "here", "told", "left", "due", "way", "rest", "debugger", "state", "log", "more", "taken", "sets", "one", "two", "three"] "law" (defScope s_law) f cdv A outer s H E).xe := PassesOwn.leaving
  exact qss_cons (qs_set (i := 1) nd rfl (by first | exact Or.inl rfl | exact Or.inr rfl) (qe_call (hs .f_law_pool) rfl hr (by rfl) hx (qa_cons (qe_var (pv 0)) (qa_nil)))) (qss_cons (qs_par3 (i := 2) (j := 3) (l := 4) rfl nd rfl rfl rfl (by decide) (by decide) (by decide) rfl rfl rfl (qa_cons (qe_call (hs .f_law_program) rfl hr (by rfl) hx (qa_cons (qe_var (pv 1)) (qa_nil))) (qa_cons (qe_call (hs .f_law_store) rfl hr (by rfl) hx (qa_cons (qe_var (pv 1)) (qa_nil))) (qa_cons (qe_call (hs .f_law_draw) rfl hr (by rfl) hx (qa_cons (qe_var (pv 1)) (qa_cons (qe_int) (qa_nil)))) (qa_nil)))) rfl) (qss_cons (qs_set (i := 5) nd rfl (by first | exact Or.inl rfl | exact Or.inr rfl) (qe_call (hs .f_trace) rfl hr (by rfl) hx (qa_cons (qe_var (pv 2)) (qa_cons (qe_var (pv 3)) (qa_cons (qe_var (pv 4)) (qa_nil)))))) (qss_cons (qs_set (i := 6) nd rfl (by first | exact Or.inl rfl | exact Or.inr rfl) (qe_call (hs .f_law_run) rfl hr (by rfl) hx (qa_cons (qe_var (pv 2)) (qa_cons (qe_var (pv 3)) (qa_cons (qe_var (pv 4)) (qa_nil)))))) (qss_cons (qs_if (qt_notN (qe_call (hs .f_fault_steps) rfl hr (by rfl) hx (qa_cons (qe_var (pv 2)) (qa_cons (qe_var (pv 3)) (qa_cons (qe_callTy (q_tuple rfl) (by rfl) T.z_tuple PyProof.Rows.boot_tuple (qa_cons (qe_var (pv 5)) (qa_nil))) (qa_nil)))))) (qss_cons (qs_ret (qe_bl)) (qss_nil)) (qss_nil)) (qss_cons (qs_set (i := 7) nd rfl (by first | exact Or.inl rfl | exact Or.inr rfl) (qe_call (hs .f_law_draw) rfl hr (by rfl) hx (qa_cons (qe_var (pv 1)) (qa_cons (qe_callB (q_len rfl) (by rfl) T.z_len PySem.boot_len (qa_cons (qe_var (pv 5)) (qa_nil))) (qa_nil))))) (qss_cons (qs_asg (ts := [8, 9, 10]) (qe_ix rfl (qe_var (pv 5)) (qe_var (pv 7))) (qg_tup rfl rfl (qgs_cons (pg_name (i := 8) nd rfl (by first | exact Or.inl rfl | exact Or.inr rfl)) (qgs_cons (pg_name (i := 9) nd rfl (by first | exact Or.inl rfl | exact Or.inr rfl)) (qgs_cons (pg_name (i := 10) nd rfl (by first | exact Or.inl rfl | exact Or.inr rfl)) (qgs_nil)))))) (qss_cons (qs_set (i := 11) nd rfl (by first | exact Or.inl rfl | exact Or.inr rfl) (qe_bin q_sub (qe_var (pv 4)) (qe_callB (q_len rfl) (by rfl) T.z_len PySem.boot_len (qa_cons (qe_frz (qf_lc (own := [("state", 16)]) (ts := [16]) rfl nd (qi_seq rfl (qe_sl rfl (qe_var (pv 5)) (qo_none) (qo_some (qe_var (pv 7))))) (blkOk_by (N := ["script", "pool", "program", "store", "turns", "states", "whole", "at", "block", "here", "told", "left", "due", "way", "rest", "debugger", "state", "log", "more", "taken", "sets", "one", "two", "three"]) (sc := defScope s_law) (by decide +kernel)) (fun _ _ _ _ _ => qg_name (i := 16) nd rfl (by first | exact Or.inl rfl | exact Or.inr rfl)) (fun _ _ _ _ _ => qts_one (qt_val (qe_call (hs .f_takes_turn_steps) rfl hr (by rfl) passL (qa_cons (qe_var (pv 16)) (qa_nil))))) (fun _ _ _ _ _ => qe_var (pv 16)) (by decide))) (qa_nil))))) (qss_cons (qs_set (i := 12) nd rfl (by first | exact Or.inl rfl | exact Or.inr rfl) (qe_if (qt_cmp (q_eq rfl hu) (qe_ix rfl (qe_var (pv 6)) (qe_int)) (qe_str) (nomark _)) (qe_tup (qa_cons (qe_str) (qa_cons (qe_sl rfl (qe_ix rfl (qe_var (pv 6)) (qe_int)) (qo_some (qe_callB (q_len rfl) (by rfl) T.z_len PySem.boot_len (qa_cons (qe_var (pv 10)) (qa_nil)))) (qo_none)) (qa_nil)))) (qe_tup (qa_cons (qe_str) (qa_cons (qe_ix rfl (qe_var (pv 6)) (qe_int)) (qa_cons (qe_sl rfl (qe_ix rfl (qe_var (pv 6)) (qe_int)) (qo_some (qe_callB (q_len rfl) (by rfl) T.z_len PySem.boot_len (qa_cons (qe_var (pv 10)) (qa_nil)))) (qo_none)) (qa_nil))))))) (qss_cons (qs_for (ts := [13]) hp rfl (qi_seq rfl (qe_call0 (hs .f_ways) rfl hr (by rfl) hx)) (qg_name (i := 13) nd rfl (by first | exact Or.inl rfl | exact Or.inr rfl)) (qss_cons (qs_if (qt_not (qt_val (qe_call (hs .f_law_same) rfl hr (by rfl) hx (qa_cons (qe_call (hs .f_run_way) rfl hr (by rfl) hx (qa_cons (qe_var (pv 13)) (qa_cons (qe_var (pv 8)) (qa_cons (qe_var (pv 9)) (qa_cons (qe_var (pv 11)) (qa_nil)))))) (qa_cons (qe_var (pv 12)) (qa_nil)))))) (qss_cons (qs_ret (qe_bl)) (qss_nil)) (qss_nil)) (qss_nil))) (qss_cons (qs_setLc (i := 14) (own := [("one", 21), ("two", 22), ("three", 23)]) (ts := [21, 22, 23]) frz_conv rfl nd rfl rfl (sw_true rfl rfl rfl (by decide +kernel)) (qi_seq rfl (qe_call (hs .f_trace) rfl hr (by rfl) hx (qa_cons (qe_var (pv 8)) (qa_cons (qe_var (pv 9)) (qa_cons (qe_var (pv 11)) (qa_nil)))))) (blkOk_by (N := ["script", "pool", "program", "store", "turns", "states", "whole", "at", "block", "here", "told", "left", "due", "way", "rest", "debugger", "state", "log", "more", "taken", "sets", "one", "two", "three"]) (sc := defScope s_law) (by decide +kernel)) (fun _ _ _ _ _ => qg_tup rfl rfl (qgs_cons (pg_name (i := 21) nd rfl (by first | exact Or.inl rfl | exact Or.inr rfl)) (qgs_cons (pg_name (i := 22) nd rfl (by first | exact Or.inl rfl | exact Or.inr rfl)) (qgs_cons (pg_name (i := 23) nd rfl (by first | exact Or.inl rfl | exact Or.inr rfl)) (qgs_nil))))) (fun _ _ _ _ _ => qts_nil) (fun _ _ _ _ _ => qe_tup (qa_cons (qe_var (pv 21)) (qa_cons (qe_var (pv 22)) (qa_cons (qe_bin (q_plus rfl) (qe_var (pv 10)) (qe_var (pv 23))) (qa_nil))))) (by decide)) (qss_cons (qs_if (qt_not (qt_val (qe_call (hs .f_law_same) rfl hr (by rfl) hx (qa_cons (qe_var (pv 14)) (qa_cons (qe_sl rfl (qe_var (pv 5)) (qo_some (qe_var (pv 7))) (qo_none)) (qa_nil)))))) (qss_cons (qs_ret (qe_bl)) (qss_nil)) (qss_nil)) (qss_cons (qs_set (i := 15) nd rfl (by first | exact Or.inl rfl | exact Or.inr rfl) (qe_make (hs .f_Debugger___init__) T.mk_Debugger (by rfl) T.gm_Debugger rfl hr1 hx (qa_cons (qe_var (pv 2)) (qa_cons (qe_var (pv 3)) (qa_nil))))) (qss_cons (qs_do (qe_meth (hs .f_Debugger_forth) rfl T.c_Debugger hr hx (qe_var (pv 15)) (qa_cons (qe_var (pv 7)) (qa_nil)))) (qss_cons (qs_if (qt_not (qt_val (qe_call (hs .f_law_same) rfl hr (by rfl) hx (qa_cons (qe_frz (qf_lst (qa_cons (qe_meth0 (hs .f_Debugger_state) rfl T.c_Debugger hr hx (qe_var (pv 15))) (qa_cons (qe_meth0 (hs .f_Debugger_turns) rfl T.c_Debugger hr hx (qe_var (pv 15))) (qa_cons (qe_lenO (hs .f_Debugger___len__) rfl hr1 hx (by rfl) T.z_len (qe_var (pv 15))) (qa_nil)))))) (qa_cons (qe_frz (qf_lst (qa_cons (qe_ix rfl (qe_var (pv 5)) (qe_var (pv 7))) (qa_cons (qe_bin q_sub (qe_var (pv 4)) (qe_var (pv 11))) (qa_cons (qe_var (pv 7)) (qa_nil)))))) (qa_nil)))))) (qss_cons (qs_ret (qe_bl)) (qss_nil)) (qss_nil)) (qss_cons (qs_asg (ts := [16, 17, 18]) (qe_call (hs .f_logged) rfl hr (by rfl) hx (qa_cons (qe_var (pv 2)) (qa_cons (qe_var (pv 3)) (qa_cons (qe_var (pv 4)) (qa_nil))))) (qg_tup rfl rfl (qgs_cons (pg_name (i := 16) nd rfl (by first | exact Or.inl rfl | exact Or.inr rfl)) (qgs_cons (pg_name (i := 17) nd rfl (by first | exact Or.inl rfl | exact Or.inr rfl)) (qgs_cons (pg_name (i := 18) nd rfl (by first | exact Or.inl rfl | exact Or.inr rfl)) (qgs_nil)))))) (qss_cons (qs_set (i := 19) nd rfl (by first | exact Or.inl rfl | exact Or.inr rfl) (qe_callB (q_len rfl) (by rfl) T.z_len PySem.boot_len (qa_cons (qe_frz (qf_lc (own := [("one", 21)]) (ts := [21]) rfl nd (qi_seq rfl (qe_sl rfl (qe_var (pv 5)) (qo_none) (qo_some (qe_neg (qe_int))))) (blkOk_by (N := ["script", "pool", "program", "store", "turns", "states", "whole", "at", "block", "here", "told", "left", "due", "way", "rest", "debugger", "state", "log", "more", "taken", "sets", "one", "two", "three"]) (sc := defScope s_law) (by decide +kernel)) (fun _ _ _ _ _ => qg_name (i := 21) nd rfl (by first | exact Or.inl rfl | exact Or.inr rfl)) (fun _ _ _ _ _ => qts_one (qt_val (qe_call (hs .f_takes_turn_steps) rfl hr (by rfl) passL (qa_cons (qe_var (pv 21)) (qa_nil))))) (fun _ _ _ _ _ => qe_var (pv 21)) (by decide))) (qa_nil)))) (qss_cons (qs_set (i := 20) nd rfl (by first | exact Or.inl rfl | exact Or.inr rfl) (qe_callB (q_len rfl) (by rfl) T.z_len PySem.boot_len (qa_cons (qe_frz (qf_lc (own := [("one", 21)]) (ts := [21]) rfl nd (qi_seq rfl (qe_sl rfl (qe_var (pv 5)) (qo_none) (qo_some (qe_var (pv 7))))) (blkOk_by (N := ["script", "pool", "program", "store", "turns", "states", "whole", "at", "block", "here", "told", "left", "due", "way", "rest", "debugger", "state", "log", "more", "taken", "sets", "one", "two", "three"]) (sc := defScope s_law) (by decide +kernel)) (fun _ _ _ _ _ => qg_name (i := 21) nd rfl (by first | exact Or.inl rfl | exact Or.inr rfl)) (fun _ _ _ _ _ => qts_one (qt_cmp (q_eq rfl hu) (qe_ix rfl (qe_ix rfl (qe_ix rfl (qe_var (pv 21)) (qe_int)) (qe_int)) (qe_int)) (qe_str) (nomark _))) (fun _ _ _ _ _ => qe_var (pv 21)) (by decide))) (qa_nil)))) (qss_cons (qs_if (qt_w (qw_or (qt_not (qt_val (qe_call (hs .f_law_same) rfl hr (by rfl) hx (qa_cons (qe_frz (qf_lst (qa_cons (qe_var (pv 16)) (qa_cons (qe_var (pv 18)) (qa_nil))))) (qa_cons (qe_frz (qf_lst (qa_cons (qe_ix rfl (qe_var (pv 5)) (qe_neg (qe_int))) (qa_cons (qe_bin q_sub (qe_var (pv 4)) (qe_var (pv 19))) (qa_nil))))) (qa_nil)))))) (qw_or1 (qt_w (qw_and (qt_notN (qe_call (hs .f_step_steps) rfl hr (by rfl) hx (qa_cons (qe_ix rfl (qe_var (pv 5)) (qe_neg (qe_int))) (qa_nil)))) (qw_and1 (qt_not (qt_val (qe_call (hs .f_takes_turn_steps) rfl hr (by rfl) hx (qa_cons (qe_ix rfl (qe_var (pv 5)) (qe_neg (qe_int))) (qa_nil))))))))))) (qss_cons (qs_ret (qe_bl)) (qss_nil)) (qss_nil)) (qss_cons (qs_ret (qe_call (hs .f_law_same) rfl hr (by rfl) hx (qa_cons (qe_frz (qf_lst (qa_cons (qe_call (hs .f_taken_back) rfl hr (by rfl) hx (qa_cons (qe_ix rfl (qe_var (pv 16)) (qe_int)) (qa_cons (qe_var (pv 17)) (qa_cons (qe_bin q_sub (qe_callB (q_len rfl) (by rfl) T.z_len PySem.boot_len (qa_cons (qe_var (pv 17)) (qa_nil))) (qe_var (pv 20))) (qa_nil))))) (qa_cons (qe_call (hs .f_taken_back) rfl hr (by rfl) hx (qa_cons (qe_ix rfl (qe_var (pv 16)) (qe_int)) (qa_cons (qe_var (pv 17)) (qa_cons (qe_callB (q_len rfl) (by rfl) T.z_len PySem.boot_len (qa_cons (qe_var (pv 17)) (qa_nil))) (qa_nil))))) (qa_nil))))) (qa_cons (qe_frz (qf_lst (qa_cons (qe_var (pv 9)) (qa_cons (qe_var (pv 3)) (qa_nil))))) (qa_nil))))) (qss_nil))))))))))))))))))))
end Y

set_option Elab.async false
set_option linter.all false
set_option maxRecDepth 100000
set_option maxHeartbeats 4000000
namespace Y
open PySem PySem.Spec L2
def hnames0 : List PySem.Str := ["_wall", "FORM", "SIZE", "NAMES", "MOST_basics", "is_whole", "is_from", "is_store", "is_tagged", "with_value", "DEEPEST_expressions", "PAIRS", "has_shape", "is_expression", "worked", "value_of", "DEEPEST_trees", "is_deed", "is_block", "fault", "fault_trees", "Run", "run", "run_trees", "DEEPEST_steps", "is_state", "is_told", "takes_turn", "takes_turn_steps", "step"]
def hnames1 : List PySem.Str := ["step_steps", "trace", "run_steps", "fault_steps", "MeaningError", "NotAllowed", "MOST_debugger", "Debugger", "logged", "is_log", "taken_back", "NEXT", "start", "is_done", "takes_turn_frames", "deed_state", "eval_state", "give_state", "step_frames", "run_frames", "WAYS", "ways", "run_way", "_law_same", "_law_pool", "_law_spread", "_law_draw", "_law_pick", "_law_worked", "_law_value"]
def hnames2 : List PySem.Str := ["_law_expression", "_law_store", "_law_block", "_law_deed", "_law_program", "_law_do", "_law_loop", "_law_run", "_law_deeds_of"]
def hnames : List PySem.Str := hnames0 ++ hnames1 ++ hnames2
abbrev lawIx : Nat := 84
abbrev HR : PySem.W.OpenRow := PySem.W.OpenLaw.row PySem.Challenge.rw_everymeaning_k73_whole_states_gone_on_fr
abbrev HQ : Program := PySem.W.view HR.prog [lawIx]
abbrev dd : Fnm → He.DefD
  | .f_is_whole => ⟨("is_whole", none), "is_whole", "is_whole", defArgs s_is_whole, defBody s_is_whole, defScope s_is_whole, [], []⟩
  | .f_is_from => ⟨("is_from", none), "is_from", "is_from", defArgs s_is_from, defBody s_is_from, defScope s_is_from, [], []⟩
  | .f_is_store => ⟨("is_store", none), "is_store", "is_store", defArgs s_is_store, defBody s_is_store, defScope s_is_store, [], []⟩
  | .f_is_tagged => ⟨("is_tagged", none), "is_tagged", "is_tagged", defArgs s_is_tagged, defBody s_is_tagged, defScope s_is_tagged, [], []⟩
  | .f_with_value => ⟨("with_value", none), "with_value", "with_value", defArgs s_with_value, defBody s_with_value, defScope s_with_value, [], []⟩
  | .f_has_shape => ⟨("has_shape", none), "has_shape", "has_shape", defArgs s_has_shape, defBody s_has_shape, defScope s_has_shape, [], []⟩
  | .f_is_expression => ⟨("is_expression", none), "is_expression", "is_expression", defArgs s_is_expression, defBody s_is_expression, defScope s_is_expression, [], []⟩
  | .f_worked => ⟨("worked", none), "worked", "worked", defArgs s_worked, defBody s_worked, defScope s_worked, [], []⟩
  | .f_value_of => ⟨("value_of", none), "value_of", "value_of", defArgs s_value_of, defBody s_value_of, defScope s_value_of, [], []⟩
  | .f_is_deed => ⟨("is_deed", none), "is_deed", "is_deed", defArgs s_is_deed, defBody s_is_deed, defScope s_is_deed, [], []⟩
  | .f_is_block => ⟨("is_block", none), "is_block", "is_block", defArgs s_is_block, defBody s_is_block, defScope s_is_block, [], []⟩
  | .f_fault_trees => ⟨("fault_trees", none), "fault", "fault", defArgs s_fault_trees, defBody s_fault_trees, defScope s_fault_trees, [], []⟩
  | .f_Run___init__ => ⟨("Run", some "__init__"), "__init__", "Run.__init__", defArgs s_Run___init__, defBody s_Run___init__, defScope s_Run___init__, [], []⟩
  | .f_Run_do_block => ⟨("Run", some "do_block"), "do_block", "Run.do_block", defArgs s_Run_do_block, defBody s_Run_do_block, defScope s_Run_do_block, [], []⟩
  | .f_Run_do => ⟨("Run", some "do"), "do", "Run.do", defArgs s_Run_do, defBody s_Run_do, defScope s_Run_do, [], []⟩
  | .f_run_trees => ⟨("run_trees", none), "run", "run", defArgs s_run_trees, defBody s_run_trees, defScope s_run_trees, [], []⟩
  | .f_is_state => ⟨("is_state", none), "is_state", "is_state", defArgs s_is_state, defBody s_is_state, defScope s_is_state, [], []⟩
  | .f_is_told => ⟨("is_told", none), "is_told", "is_told", defArgs s_is_told, defBody s_is_told, defScope s_is_told, [], []⟩
  | .f_takes_turn_steps => ⟨("takes_turn_steps", none), "takes_turn", "takes_turn", defArgs s_takes_turn_steps, defBody s_takes_turn_steps, defScope s_takes_turn_steps, [], []⟩
  | .f_step_steps => ⟨("step_steps", none), "step", "step", defArgs s_step_steps, defBody s_step_steps, defScope s_step_steps, [], []⟩
  | .f_trace => ⟨("trace", none), "trace", "trace", defArgs s_trace, defBody s_trace, defScope s_trace, [], []⟩
  | .f_run_steps => ⟨("run_steps", none), "run", "run", defArgs s_run_steps, defBody s_run_steps, defScope s_run_steps, [], []⟩
  | .f_fault_steps => ⟨("fault_steps", none), "fault", "fault", defArgs s_fault_steps, defBody s_fault_steps, defScope s_fault_steps, [], []⟩
  | .f_Debugger___init__ => ⟨("Debugger", some "__init__"), "__init__", "Debugger.__init__", defArgs s_Debugger___init__, defBody s_Debugger___init__, defScope s_Debugger___init__, [], []⟩
  | .f_Debugger___len__ => ⟨("Debugger", some "__len__"), "__len__", "Debugger.__len__", defArgs s_Debugger___len__, defBody s_Debugger___len__, defScope s_Debugger___len__, [], []⟩
  | .f_Debugger_state => ⟨("Debugger", some "state"), "state", "Debugger.state", defArgs s_Debugger_state, defBody s_Debugger_state, defScope s_Debugger_state, [], []⟩
  | .f_Debugger_turns => ⟨("Debugger", some "turns"), "turns", "Debugger.turns", defArgs s_Debugger_turns, defBody s_Debugger_turns, defScope s_Debugger_turns, [], []⟩
  | .f_Debugger_forth => ⟨("Debugger", some "forth"), "forth", "Debugger.forth", defArgs s_Debugger_forth, defBody s_Debugger_forth, defScope s_Debugger_forth, [.int 1], []⟩
  | .f_logged => ⟨("logged", none), "logged", "logged", defArgs s_logged, defBody s_logged, defScope s_logged, [], []⟩
  | .f_is_log => ⟨("is_log", none), "is_log", "is_log", defArgs s_is_log, defBody s_is_log, defScope s_is_log, [], []⟩
  | .f_taken_back => ⟨("taken_back", none), "taken_back", "taken_back", defArgs s_taken_back, defBody s_taken_back, defScope s_taken_back, [], []⟩
  | .f_start => ⟨("start", none), "start", "start", defArgs s_start, defBody s_start, defScope s_start, [], []⟩
  | .f_is_done => ⟨("is_done", none), "is_done", "is_done", defArgs s_is_done, defBody s_is_done, defScope s_is_done, [], []⟩
  | .f_takes_turn_frames => ⟨("takes_turn_frames", none), "takes_turn", "takes_turn", defArgs s_takes_turn_frames, defBody s_takes_turn_frames, defScope s_takes_turn_frames, [], []⟩
  | .f_deed_state => ⟨("deed_state", none), "deed_state", "deed_state", defArgs s_deed_state, defBody s_deed_state, defScope s_deed_state, [], []⟩
  | .f_eval_state => ⟨("eval_state", none), "eval_state", "eval_state", defArgs s_eval_state, defBody s_eval_state, defScope s_eval_state, [], []⟩
  | .f_give_state => ⟨("give_state", none), "give_state", "give_state", defArgs s_give_state, defBody s_give_state, defScope s_give_state, [], []⟩
  | .f_step_frames => ⟨("step_frames", none), "step", "step", defArgs s_step_frames, defBody s_step_frames, defScope s_step_frames, [], []⟩
  | .f_run_frames => ⟨("run_frames", none), "run", "run", defArgs s_run_frames, defBody s_run_frames, defScope s_run_frames, [], []⟩
  | .f_ways => ⟨("ways", none), "ways", "ways", defArgs s_ways, defBody s_ways, defScope s_ways, [], []⟩
  | .f_run_way => ⟨("run_way", none), "run_way", "run_way", defArgs s_run_way, defBody s_run_way, defScope s_run_way, [], []⟩
  | .f_law_same => ⟨("_law_same", none), "_law_same", "_law_same", defArgs s__law_same, defBody s__law_same, defScope s__law_same, [], []⟩
  | .f_law_pool => ⟨("_law_pool", none), "_law_pool", "_law_pool", defArgs s__law_pool, defBody s__law_pool, defScope s__law_pool, [], []⟩
  | .f_law_spread => ⟨("_law_spread", none), "_law_spread", "_law_spread", defArgs s__law_spread, defBody s__law_spread, defScope s__law_spread, [], []⟩
  | .f_law_draw => ⟨("_law_draw", none), "_law_draw", "_law_draw", defArgs s__law_draw, defBody s__law_draw, defScope s__law_draw, [], []⟩
  | .f_law_pick => ⟨("_law_pick", none), "_law_pick", "_law_pick", defArgs s__law_pick, defBody s__law_pick, defScope s__law_pick, [], []⟩
  | .f_law_worked => ⟨("_law_worked", none), "_law_worked", "_law_worked", defArgs s__law_worked, defBody s__law_worked, defScope s__law_worked, [], []⟩
  | .f_law_value => ⟨("_law_value", none), "_law_value", "_law_value", defArgs s__law_value, defBody s__law_value, defScope s__law_value, [], []⟩
  | .f_law_expression => ⟨("_law_expression", none), "_law_expression", "_law_expression", defArgs s__law_expression, defBody s__law_expression, defScope s__law_expression, [], []⟩
  | .f_law_store => ⟨("_law_store", none), "_law_store", "_law_store", defArgs s__law_store, defBody s__law_store, defScope s__law_store, [], []⟩
  | .f_law_block => ⟨("_law_block", none), "_law_block", "_law_block", defArgs s__law_block, defBody s__law_block, defScope s__law_block, [], []⟩
  | .f_law_deed => ⟨("_law_deed", none), "_law_deed", "_law_deed", defArgs s__law_deed, defBody s__law_deed, defScope s__law_deed, [], []⟩
  | .f_law_program => ⟨("_law_program", none), "_law_program", "_law_program", defArgs s__law_program, defBody s__law_program, defScope s__law_program, [], []⟩
  | .f_law_do => ⟨("_law_do", none), "_law_do", "_law_do", defArgs s__law_do, defBody s__law_do, defScope s__law_do, [], []⟩
  | .f_law_loop => ⟨("_law_loop", none), "_law_loop", "_law_loop", defArgs s__law_loop, defBody s__law_loop, defScope s__law_loop, [], []⟩
  | .f_law_run => ⟨("_law_run", none), "_law_run", "_law_run", defArgs s__law_run, defBody s__law_run, defScope s__law_run, [], []⟩
  | .f_law_deeds_of => ⟨("_law_deeds_of", none), "_law_deeds_of", "_law_deeds_of", defArgs s__law_deeds_of, defBody s__law_deeds_of, defScope s__law_deeds_of, [], []⟩
  | .f_law => ⟨("law", none), "law", "law", defArgs s_law, defBody s_law, defScope s_law, [], []⟩
abbrev hfn : List He.DefD := [dd .f_is_whole, dd .f_is_from, dd .f_is_store, dd .f_is_tagged, dd .f_with_value, dd .f_has_shape, dd .f_is_expression, dd .f_worked, dd .f_value_of, dd .f_is_deed, dd .f_is_block, dd .f_fault_trees, dd .f_Run___init__, dd .f_Run_do_block, dd .f_Run_do, dd .f_run_trees, dd .f_is_state, dd .f_is_told, dd .f_takes_turn_steps, dd .f_step_steps, dd .f_trace, dd .f_run_steps, dd .f_fault_steps, dd .f_Debugger___init__, dd .f_Debugger___len__, dd .f_Debugger_state, dd .f_Debugger_turns, dd .f_Debugger_forth, dd .f_logged, dd .f_is_log, dd .f_taken_back, dd .f_start, dd .f_is_done, dd .f_takes_turn_frames, dd .f_deed_state, dd .f_eval_state, dd .f_give_state, dd .f_step_frames, dd .f_run_frames, dd .f_ways, dd .f_run_way, dd .f_law_same, dd .f_law_pool, dd .f_law_spread, dd .f_law_draw, dd .f_law_pick, dd .f_law_worked, dd .f_law_value, dd .f_law_expression, dd .f_law_store, dd .f_law_block, dd .f_law_deed, dd .f_law_program, dd .f_law_do, dd .f_law_loop, dd .f_law_run, dd .f_law_deeds_of, dd .f_law]
abbrev hv_WAYS : List (Str × He.Dv) := [("frames", .glo "run_frames"), ("steps", .glo "run_steps"), ("trees", .glo "run_trees")]
abbrev hfa0 : List He.Fa := [.glo "is_whole", .glo "is_from", .glo "is_store", .glo "is_tagged", .glo "with_value", .glo "has_shape", .glo "is_expression", .glo "worked", .glo "value_of", .glo "is_deed", .glo "is_block", .glo "fault_trees", .meth "Run" "__init__", .meth "Run" "do_block", .meth "Run" "do", .glo "run_trees", .glo "is_state", .glo "is_told", .glo "takes_turn_steps", .glo "step_steps", .glo "trace", .glo "run_steps", .glo "fault_steps", .meth "Debugger" "__init__", .meth "Debugger" "__len__", .meth "Debugger" "state", .meth "Debugger" "turns", .meth "Debugger" "forth", .glo "logged", .glo "is_log"]
abbrev hfa1 : List He.Fa := [.glo "taken_back", .glo "start", .glo "is_done", .glo "takes_turn_frames", .glo "deed_state", .glo "eval_state", .glo "give_state", .glo "step_frames", .glo "run_frames", .glo "ways", .glo "run_way", .glo "_law_same", .glo "_law_pool", .glo "_law_spread", .glo "_law_draw", .glo "_law_pick", .glo "_law_worked", .glo "_law_value", .glo "_law_expression", .glo "_law_store", .glo "_law_block", .glo "_law_deed", .glo "_law_program", .glo "_law_do", .glo "_law_loop", .glo "_law_run", .glo "_law_deeds_of", .glo "law", .cls "Debugger", .cls "Run"]
abbrev hfa2 : List He.Fa := [.noat "Debugger" "_states", .noat "Run" "store", .noat "Run" "told", .noat "Run" "turns", .mkr "Debugger", .glo "Debugger", .mkr "Run", .glo "Run", .free "all", .free "bool", .free "int", .free "isinstance", .free "len", .free "list", .free "range", .free "sorted", .free "str", .free "sum", .free "tuple", .int "DEEPEST_expressions" 60, .int "DEEPEST_steps" 31, .int "DEEPEST_trees" 30, .glo "FORM", .int "MOST_basics" 100000, .int "MOST_debugger" 100000, .int "NAMES" 4, .glo "NEXT", .glo "PAIRS", .int "SIZE" 1000, .glo "WAYS"]
abbrev hfa : List He.Fa := hfa0 ++ hfa1 ++ hfa2
abbrev hts : List He.Tab := [(fun K => He.ga K "WAYS", ["frames", "steps", "trees"])]
abbrev hex : PySem.W.Frag → Bool := fun K => He.tupB K "FORM" [.str "form", .int 0] && (He.tupB K "NEXT" [.str "next"] && (He.tupB K "PAIRS" [.str "plus", .str "minus", .str "times", .str "less", .str "same"] && (He.valsB K (He.ga K "WAYS") hv_WAYS && (true))))
abbrev hk : PySem.W.Hook := He.hookX 4 hfa hfn hts [] hex
def hob (s : PySem.W.SharedT) : He.AlX := He.obsX 4 hfa hfn hts [] hex (HandSHeadRun.getT s)
theorem hob_eq (s : PySem.W.SharedT) : hob s = hk.obs s.abs := He.obsX_eq (HandSHeadRun.getT_eq s)
theorem hrun (w : World) : HandSHeadRun.RunEq HR HQ hk hob 8000 hnames w := by
  refine PySem.W.byRow2 "special-get-raises" (P := fun w => HandSHeadRun.RunEq HR HQ hk hob 8000 hnames w) ?_ ?_ w
  · intro w os
    kernel_rfl
  · intro w os
    kernel_rfl
end Y

set_option Elab.async false
set_option linter.all false
set_option maxRecDepth 100000
set_option maxHeartbeats 4000000
namespace Y
open PySem PySem.Spec L2
variable {P : Program} {w : World} {G : Gx} {mg : Str → Option Value} {base : Heap}
abbrev FnAt (G : Gx) (mg : Str → Option Value) (f : Fnm) : Prop := ∃ ad fd, LocAt G mg (loc f) ad ∧ FunD G.K (dd f).name (dd f).qual (dd f).params (dd f).body (dd f).scope ((dd f).dvs G.K) [] ad fd
theorem has_is_whole (T : Txt G w mg) (F : FnAt G mg .f_is_whole) : HasAt P w G mg base (2 * 0) (loc .f_is_whole) (ar .f_is_whole) (prog 0 .f_is_whole) ∧ ∀ k, HasAll P w G mg base k (prog k) → HasAt P w G mg base (2 * (k + 1)) (loc .f_is_whole) (ar .f_is_whole) (prog (k + 1) .f_is_whole) := by
  obtain ⟨ad, fd, hm, F⟩ := F
  have hb : Binds G.K fd ["value"] [] := F.bindsN fun _ _ _ _ _ _ us hl => match us, hl with | [_], _ => rfl
  exact ⟨hasAt_of F.kp hb hm (fn_0 rfl), fun k ih => hasAt_of F.kp hb hm (fn_ok (k := 2 * k + 1) (fun_of F) sc_is_whole rfl rfl fun cdv A outer s H E hr => q_is_whole T ih hr)⟩
theorem has_is_from (T : Txt G w mg) (F : FnAt G mg .f_is_from) : HasAt P w G mg base (2 * 0) (loc .f_is_from) (ar .f_is_from) (prog 0 .f_is_from) ∧ ∀ k, HasAll P w G mg base k (prog k) → HasAt P w G mg base (2 * (k + 1)) (loc .f_is_from) (ar .f_is_from) (prog (k + 1) .f_is_from) := by
  obtain ⟨ad, fd, hm, F⟩ := F
  have hb : Binds G.K fd ["value", "low", "high"] [] := F.bindsN fun _ _ _ _ _ _ us hl => match us, hl with | [_, _, _], _ => rfl
  exact ⟨hasAt_of F.kp hb hm (fn_0 rfl), fun k ih => hasAt_of F.kp hb hm (fn_ok (k := 2 * k + 1) (fun_of F) sc_is_from rfl rfl fun cdv A outer s H E hr => q_is_from T ih hr)⟩
theorem has_is_store (T : Txt G w mg) (F : FnAt G mg .f_is_store) : HasAt P w G mg base (2 * 0) (loc .f_is_store) (ar .f_is_store) (prog 0 .f_is_store) ∧ ∀ k, HasAll P w G mg base k (prog k) → HasAt P w G mg base (2 * (k + 1)) (loc .f_is_store) (ar .f_is_store) (prog (k + 1) .f_is_store) := by
  obtain ⟨ad, fd, hm, F⟩ := F
  have hb : Binds G.K fd ["value"] [] := F.bindsN fun _ _ _ _ _ _ us hl => match us, hl with | [_], _ => rfl
  exact ⟨hasAt_of F.kp hb hm (fn_0 rfl), fun k ih => hasAt_of F.kp hb hm (fn_ok (k := 2 * k + 1) (fun_of F) sc_is_store rfl rfl fun cdv A outer s H E hr => q_is_store T ih hr)⟩
theorem has_is_tagged (T : Txt G w mg) (F : FnAt G mg .f_is_tagged) : HasAt P w G mg base (2 * 0) (loc .f_is_tagged) (ar .f_is_tagged) (prog 0 .f_is_tagged) ∧ ∀ k, HasAll P w G mg base k (prog k) → HasAt P w G mg base (2 * (k + 1)) (loc .f_is_tagged) (ar .f_is_tagged) (prog (k + 1) .f_is_tagged) := by
  obtain ⟨ad, fd, hm, F⟩ := F
  have hb : Binds G.K fd ["value", "word", "size"] [] := F.bindsN fun _ _ _ _ _ _ us hl => match us, hl with | [_, _, _], _ => rfl
  exact ⟨hasAt_of F.kp hb hm (fn_0 rfl), fun k ih => hasAt_of F.kp hb hm (fn_ok (k := 2 * k + 1) (fun_of F) sc_is_tagged rfl rfl fun cdv A outer s H E hr => q_is_tagged T ih hr)⟩
theorem has_with_value (T : Txt G w mg) (F : FnAt G mg .f_with_value) : HasAt P w G mg base (2 * 0) (loc .f_with_value) (ar .f_with_value) (prog 0 .f_with_value) ∧ ∀ k, HasAll P w G mg base k (prog k) → HasAt P w G mg base (2 * (k + 1)) (loc .f_with_value) (ar .f_with_value) (prog (k + 1) .f_with_value) := by
  obtain ⟨ad, fd, hm, F⟩ := F
  have hb : Binds G.K fd ["store", "name", "value"] [] := F.bindsN fun _ _ _ _ _ _ us hl => match us, hl with | [_, _, _], _ => rfl
  exact ⟨hasAt_of F.kp hb hm (fn_0 rfl), fun k ih => hasAt_of F.kp hb hm (fn_ok (k := 2 * k + 1) (fun_of F) sc_with_value rfl rfl fun cdv A outer s H E hr => q_with_value T ih hr)⟩
theorem has_has_shape (T : Txt G w mg) (F : FnAt G mg .f_has_shape) : HasAt P w G mg base (2 * 0) (loc .f_has_shape) (ar .f_has_shape) (prog 0 .f_has_shape) ∧ ∀ k, HasAll P w G mg base k (prog k) → HasAt P w G mg base (2 * (k + 1)) (loc .f_has_shape) (ar .f_has_shape) (prog (k + 1) .f_has_shape) := by
  obtain ⟨ad, fd, hm, F⟩ := F
  have hb : Binds G.K fd ["value", "names", "deep"] [] := F.bindsN fun _ _ _ _ _ _ us hl => match us, hl with | [_, _, _], _ => rfl
  exact ⟨hasAt_of F.kp hb hm (fn_0 rfl), fun k ih => hasAt_of F.kp hb hm (fn_ok (k := 2 * k + 1) (fun_of F) sc_has_shape rfl rfl fun cdv A outer s H E hr => q_has_shape T ih hr)⟩
theorem has_is_expression (T : Txt G w mg) (F : FnAt G mg .f_is_expression) : HasAt P w G mg base (2 * 0) (loc .f_is_expression) (ar .f_is_expression) (prog 0 .f_is_expression) ∧ ∀ k, HasAll P w G mg base k (prog k) → HasAt P w G mg base (2 * (k + 1)) (loc .f_is_expression) (ar .f_is_expression) (prog (k + 1) .f_is_expression) := by
  obtain ⟨ad, fd, hm, F⟩ := F
  have hb : Binds G.K fd ["value"] [] := F.bindsN fun _ _ _ _ _ _ us hl => match us, hl with | [_], _ => rfl
  exact ⟨hasAt_of F.kp hb hm (fn_0 rfl), fun k ih => hasAt_of F.kp hb hm (fn_ok (k := 2 * k + 1) (fun_of F) sc_is_expression rfl rfl fun cdv A outer s H E hr => q_is_expression T ih hr)⟩
theorem has_worked (T : Txt G w mg) (F : FnAt G mg .f_worked) : HasAt P w G mg base (2 * 0) (loc .f_worked) (ar .f_worked) (prog 0 .f_worked) ∧ ∀ k, HasAll P w G mg base k (prog k) → HasAt P w G mg base (2 * (k + 1)) (loc .f_worked) (ar .f_worked) (prog (k + 1) .f_worked) := by
  obtain ⟨ad, fd, hm, F⟩ := F
  have hb : Binds G.K fd ["word", "one", "two"] [] := F.bindsN fun _ _ _ _ _ _ us hl => match us, hl with | [_, _, _], _ => rfl
  exact ⟨hasAt_of F.kp hb hm (fn_0 rfl), fun k ih => hasAt_of F.kp hb hm (fn_ok (k := 2 * k + 1) (fun_of F) sc_worked rfl rfl fun cdv A outer s H E hr => q_worked T ih hr)⟩
theorem has_value_of (T : Txt G w mg) (F : FnAt G mg .f_value_of) : HasAt P w G mg base (2 * 0) (loc .f_value_of) (ar .f_value_of) (prog 0 .f_value_of) ∧ ∀ k, HasAll P w G mg base k (prog k) → HasAt P w G mg base (2 * (k + 1)) (loc .f_value_of) (ar .f_value_of) (prog (k + 1) .f_value_of) := by
  obtain ⟨ad, fd, hm, F⟩ := F
  have hb : Binds G.K fd ["expression", "store"] [] := F.bindsN fun _ _ _ _ _ _ us hl => match us, hl with | [_, _], _ => rfl
  exact ⟨hasAt_of F.kp hb hm (fn_0 rfl), fun k ih => hasAt_of F.kp hb hm (fn_ok (k := 2 * k + 1) (fun_of F) sc_value_of rfl rfl fun cdv A outer s H E hr => q_value_of T ih hr)⟩
theorem has_is_deed (T : Txt G w mg) (F : FnAt G mg .f_is_deed) : HasAt P w G mg base (2 * 0) (loc .f_is_deed) (ar .f_is_deed) (prog 0 .f_is_deed) ∧ ∀ k, HasAll P w G mg base k (prog k) → HasAt P w G mg base (2 * (k + 1)) (loc .f_is_deed) (ar .f_is_deed) (prog (k + 1) .f_is_deed) := by
  obtain ⟨ad, fd, hm, F⟩ := F
  have hb : Binds G.K fd ["value", "deep"] [] := F.bindsN fun _ _ _ _ _ _ us hl => match us, hl with | [_, _], _ => rfl
  exact ⟨hasAt_of F.kp hb hm (fn_0 rfl), fun k ih => hasAt_of F.kp hb hm (fn_ok (k := 2 * k + 1) (fun_of F) sc_is_deed rfl rfl fun cdv A outer s H E hr => q_is_deed T ih hr)⟩
theorem has_is_block (T : Txt G w mg) (F : FnAt G mg .f_is_block) : HasAt P w G mg base (2 * 0) (loc .f_is_block) (ar .f_is_block) (prog 0 .f_is_block) ∧ ∀ k, HasAll P w G mg base k (prog k) → HasAt P w G mg base (2 * (k + 1)) (loc .f_is_block) (ar .f_is_block) (prog (k + 1) .f_is_block) := by
  obtain ⟨ad, fd, hm, F⟩ := F
  have hb : Binds G.K fd ["value", "deep"] [] := F.bindsN fun _ _ _ _ _ _ us hl => match us, hl with | [_, _], _ => rfl
  exact ⟨hasAt_of F.kp hb hm (fn_0 rfl), fun k ih => hasAt_of F.kp hb hm (fn_ok (k := 2 * k + 1) (fun_of F) sc_is_block rfl rfl fun cdv A outer s H E hr => q_is_block T ih hr)⟩
theorem has_fault_trees (T : Txt G w mg) (F : FnAt G mg .f_fault_trees) : HasAt P w G mg base (2 * 0) (loc .f_fault_trees) (ar .f_fault_trees) (prog 0 .f_fault_trees) ∧ ∀ k, HasAll P w G mg base k (prog k) → HasAt P w G mg base (2 * (k + 1)) (loc .f_fault_trees) (ar .f_fault_trees) (prog (k + 1) .f_fault_trees) := by
  obtain ⟨ad, fd, hm, F⟩ := F
  have hb : Binds G.K fd ["value"] [] := F.bindsN fun _ _ _ _ _ _ us hl => match us, hl with | [_], _ => rfl
  exact ⟨hasAt_of F.kp hb hm (fn_0 rfl), fun k ih => hasAt_of F.kp hb hm (fn_ok (k := 2 * k + 1) (fun_of F) sc_fault_trees rfl rfl fun cdv A outer s H E hr => q_fault_trees T ih hr)⟩
theorem has_Run___init__ (T : Txt G w mg) (F : FnAt G mg .f_Run___init__) : HasAt P w G mg base (2 * 0) (loc .f_Run___init__) (ar .f_Run___init__) (prog 0 .f_Run___init__) ∧ ∀ k, HasAll P w G mg base k (prog k) → HasAt P w G mg base (2 * (k + 1)) (loc .f_Run___init__) (ar .f_Run___init__) (prog (k + 1) .f_Run___init__) := by
  obtain ⟨ad, fd, hm, F⟩ := F
  have hb : Binds G.K fd ["self", "store", "turns"] [] := F.bindsN fun _ _ _ _ _ _ us hl => match us, hl with | [_, _, _], _ => rfl
  exact ⟨hasAt_of F.kp hb hm (fn_0 rfl), fun k ih => hasAt_of F.kp hb hm (fn_ok (k := 2 * k + 1) (fun_of F) sc_Run___init__ rfl rfl fun cdv A outer s H E hr => q_Run___init__ T ih hr)⟩
theorem has_Run_do_block (T : Txt G w mg) (F : FnAt G mg .f_Run_do_block) : HasAt P w G mg base (2 * 0) (loc .f_Run_do_block) (ar .f_Run_do_block) (prog 0 .f_Run_do_block) ∧ ∀ k, HasAll P w G mg base k (prog k) → HasAt P w G mg base (2 * (k + 1)) (loc .f_Run_do_block) (ar .f_Run_do_block) (prog (k + 1) .f_Run_do_block) := by
  obtain ⟨ad, fd, hm, F⟩ := F
  have hb : Binds G.K fd ["self", "block"] [] := F.bindsN fun _ _ _ _ _ _ us hl => match us, hl with | [_, _], _ => rfl
  exact ⟨hasAt_of F.kp hb hm (fn_0 rfl), fun k ih => hasAt_of F.kp hb hm (fn_ok (k := 2 * k + 1) (fun_of F) sc_Run_do_block rfl rfl fun cdv A outer s H E hr => q_Run_do_block T ih hr)⟩
theorem has_Run_do (T : Txt G w mg) (F : FnAt G mg .f_Run_do) : HasAt P w G mg base (2 * 0) (loc .f_Run_do) (ar .f_Run_do) (prog 0 .f_Run_do) ∧ ∀ k, HasAll P w G mg base k (prog k) → HasAt P w G mg base (2 * (k + 1)) (loc .f_Run_do) (ar .f_Run_do) (prog (k + 1) .f_Run_do) := by
  obtain ⟨ad, fd, hm, F⟩ := F
  have hb : Binds G.K fd ["self", "deed"] [] := F.bindsN fun _ _ _ _ _ _ us hl => match us, hl with | [_, _], _ => rfl
  exact ⟨hasAt_of F.kp hb hm (fn_0 rfl), fun k ih => hasAt_of F.kp hb hm (fn_ok (k := 2 * k + 1) (fun_of F) sc_Run_do rfl rfl fun cdv A outer s H E hr => q_Run_do T ih hr)⟩
theorem has_run_trees (T : Txt G w mg) (F : FnAt G mg .f_run_trees) : HasAt P w G mg base (2 * 0) (loc .f_run_trees) (ar .f_run_trees) (prog 0 .f_run_trees) ∧ ∀ k, HasAll P w G mg base k (prog k) → HasAt P w G mg base (2 * (k + 1)) (loc .f_run_trees) (ar .f_run_trees) (prog (k + 1) .f_run_trees) := by
  obtain ⟨ad, fd, hm, F⟩ := F
  have hb : Binds G.K fd ["value", "store", "turns"] [] := F.bindsN fun _ _ _ _ _ _ us hl => match us, hl with | [_, _, _], _ => rfl
  exact ⟨hasAt_of F.kp hb hm (fn_0 rfl), fun k ih => hasAt_of F.kp hb hm (fn_ok (k := 2 * k + 1) (fun_of F) sc_run_trees rfl rfl fun cdv A outer s H E hr => q_run_trees T ih hr)⟩
theorem has_is_state (T : Txt G w mg) (F : FnAt G mg .f_is_state) : HasAt P w G mg base (2 * 0) (loc .f_is_state) (ar .f_is_state) (prog 0 .f_is_state) ∧ ∀ k, HasAll P w G mg base k (prog k) → HasAt P w G mg base (2 * (k + 1)) (loc .f_is_state) (ar .f_is_state) (prog (k + 1) .f_is_state) := by
  obtain ⟨ad, fd, hm, F⟩ := F
  have hb : Binds G.K fd ["value"] [] := F.bindsN fun _ _ _ _ _ _ us hl => match us, hl with | [_], _ => rfl
  exact ⟨hasAt_of F.kp hb hm (fn_0 rfl), fun k ih => hasAt_of F.kp hb hm (fn_ok (k := 2 * k + 1) (fun_of F) sc_is_state rfl rfl fun cdv A outer s H E hr => q_is_state T ih hr)⟩
theorem has_is_told (T : Txt G w mg) (F : FnAt G mg .f_is_told) : HasAt P w G mg base (2 * 0) (loc .f_is_told) (ar .f_is_told) (prog 0 .f_is_told) ∧ ∀ k, HasAll P w G mg base k (prog k) → HasAt P w G mg base (2 * (k + 1)) (loc .f_is_told) (ar .f_is_told) (prog (k + 1) .f_is_told) := by
  obtain ⟨ad, fd, hm, F⟩ := F
  have hb : Binds G.K fd ["value"] [] := F.bindsN fun _ _ _ _ _ _ us hl => match us, hl with | [_], _ => rfl
  exact ⟨hasAt_of F.kp hb hm (fn_0 rfl), fun k ih => hasAt_of F.kp hb hm (fn_ok (k := 2 * k + 1) (fun_of F) sc_is_told rfl rfl fun cdv A outer s H E hr => q_is_told T ih hr)⟩
theorem has_takes_turn_steps (T : Txt G w mg) (F : FnAt G mg .f_takes_turn_steps) : HasAt P w G mg base (2 * 0) (loc .f_takes_turn_steps) (ar .f_takes_turn_steps) (prog 0 .f_takes_turn_steps) ∧ ∀ k, HasAll P w G mg base k (prog k) → HasAt P w G mg base (2 * (k + 1)) (loc .f_takes_turn_steps) (ar .f_takes_turn_steps) (prog (k + 1) .f_takes_turn_steps) := by
  obtain ⟨ad, fd, hm, F⟩ := F
  have hb : Binds G.K fd ["state"] [] := F.bindsN fun _ _ _ _ _ _ us hl => match us, hl with | [_], _ => rfl
  exact ⟨hasAt_of F.kp hb hm (fn_0 rfl), fun k ih => hasAt_of F.kp hb hm (fn_ok (k := 2 * k + 1) (fun_of F) sc_takes_turn_steps rfl rfl fun cdv A outer s H E hr => q_takes_turn_steps T ih hr)⟩
theorem has_step_steps (T : Txt G w mg) (F : FnAt G mg .f_step_steps) : HasAt P w G mg base (2 * 0) (loc .f_step_steps) (ar .f_step_steps) (prog 0 .f_step_steps) ∧ ∀ k, HasAll P w G mg base k (prog k) → HasAt P w G mg base (2 * (k + 1)) (loc .f_step_steps) (ar .f_step_steps) (prog (k + 1) .f_step_steps) := by
  obtain ⟨ad, fd, hm, F⟩ := F
  have hb : Binds G.K fd ["state"] [] := F.bindsN fun _ _ _ _ _ _ us hl => match us, hl with | [_], _ => rfl
  exact ⟨hasAt_of F.kp hb hm (fn_0 rfl), fun k ih => hasAt_of F.kp hb hm (fn_ok (k := 2 * k + 1) (fun_of F) sc_step_steps rfl rfl fun cdv A outer s H E hr => q_step_steps T ih hr)⟩
theorem has_trace (T : Txt G w mg) (F : FnAt G mg .f_trace) : HasAt P w G mg base (2 * 0) (loc .f_trace) (ar .f_trace) (prog 0 .f_trace) ∧ ∀ k, HasAll P w G mg base k (prog k) → HasAt P w G mg base (2 * (k + 1)) (loc .f_trace) (ar .f_trace) (prog (k + 1) .f_trace) := by
  obtain ⟨ad, fd, hm, F⟩ := F
  have hb : Binds G.K fd ["program", "store", "turns"] [] := F.bindsN fun _ _ _ _ _ _ us hl => match us, hl with | [_, _, _], _ => rfl
  exact ⟨hasAt_of F.kp hb hm (fn_0 rfl), fun k ih => hasAt_of F.kp hb hm (fn_ok (k := 2 * k + 1) (fun_of F) sc_trace rfl rfl fun cdv A outer s H E hr => q_trace T ih hr)⟩
theorem has_run_steps (T : Txt G w mg) (F : FnAt G mg .f_run_steps) : HasAt P w G mg base (2 * 0) (loc .f_run_steps) (ar .f_run_steps) (prog 0 .f_run_steps) ∧ ∀ k, HasAll P w G mg base k (prog k) → HasAt P w G mg base (2 * (k + 1)) (loc .f_run_steps) (ar .f_run_steps) (prog (k + 1) .f_run_steps) := by
  obtain ⟨ad, fd, hm, F⟩ := F
  have hb : Binds G.K fd ["program", "store", "turns"] [] := F.bindsN fun _ _ _ _ _ _ us hl => match us, hl with | [_, _, _], _ => rfl
  exact ⟨hasAt_of F.kp hb hm (fn_0 rfl), fun k ih => hasAt_of F.kp hb hm (fn_ok (k := 2 * k + 1) (fun_of F) sc_run_steps rfl rfl fun cdv A outer s H E hr => q_run_steps T ih hr)⟩
theorem has_fault_steps (T : Txt G w mg) (F : FnAt G mg .f_fault_steps) : HasAt P w G mg base (2 * 0) (loc .f_fault_steps) (ar .f_fault_steps) (prog 0 .f_fault_steps) ∧ ∀ k, HasAll P w G mg base k (prog k) → HasAt P w G mg base (2 * (k + 1)) (loc .f_fault_steps) (ar .f_fault_steps) (prog (k + 1) .f_fault_steps) := by
  obtain ⟨ad, fd, hm, F⟩ := F
  have hb : Binds G.K fd ["program", "store", "value"] [] := F.bindsN fun _ _ _ _ _ _ us hl => match us, hl with | [_, _, _], _ => rfl
  exact ⟨hasAt_of F.kp hb hm (fn_0 rfl), fun k ih => hasAt_of F.kp hb hm (fn_ok (k := 2 * k + 1) (fun_of F) sc_fault_steps rfl rfl fun cdv A outer s H E hr => q_fault_steps T ih hr)⟩
theorem has_Debugger___init__ (T : Txt G w mg) (F : FnAt G mg .f_Debugger___init__) : HasAt P w G mg base (2 * 0) (loc .f_Debugger___init__) (ar .f_Debugger___init__) (prog 0 .f_Debugger___init__) ∧ ∀ k, HasAll P w G mg base k (prog k) → HasAt P w G mg base (2 * (k + 1)) (loc .f_Debugger___init__) (ar .f_Debugger___init__) (prog (k + 1) .f_Debugger___init__) := by
  obtain ⟨ad, fd, hm, F⟩ := F
  have hb : Binds G.K fd ["self", "program", "store"] [] := F.bindsN fun _ _ _ _ _ _ us hl => match us, hl with | [_, _, _], _ => rfl
  exact ⟨hasAt_of F.kp hb hm (fn_0 rfl), fun k ih => hasAt_of F.kp hb hm (fn_ok (k := 2 * k + 1) (fun_of F) sc_Debugger___init__ rfl rfl fun cdv A outer s H E hr => q_Debugger___init__ T ih hr)⟩
theorem has_Debugger___len__ (T : Txt G w mg) (F : FnAt G mg .f_Debugger___len__) : HasAt P w G mg base (2 * 0) (loc .f_Debugger___len__) (ar .f_Debugger___len__) (prog 0 .f_Debugger___len__) ∧ ∀ k, HasAll P w G mg base k (prog k) → HasAt P w G mg base (2 * (k + 1)) (loc .f_Debugger___len__) (ar .f_Debugger___len__) (prog (k + 1) .f_Debugger___len__) := by
  obtain ⟨ad, fd, hm, F⟩ := F
  have hb : Binds G.K fd ["self"] [] := F.bindsN fun _ _ _ _ _ _ us hl => match us, hl with | [_], _ => rfl
  exact ⟨hasAt_of F.kp hb hm (fn_0 rfl), fun k ih => hasAt_of F.kp hb hm (fn_ok (k := 2 * k + 1) (fun_of F) sc_Debugger___len__ rfl rfl fun cdv A outer s H E hr => q_Debugger___len__ T ih hr)⟩
theorem has_Debugger_state (T : Txt G w mg) (F : FnAt G mg .f_Debugger_state) : HasAt P w G mg base (2 * 0) (loc .f_Debugger_state) (ar .f_Debugger_state) (prog 0 .f_Debugger_state) ∧ ∀ k, HasAll P w G mg base k (prog k) → HasAt P w G mg base (2 * (k + 1)) (loc .f_Debugger_state) (ar .f_Debugger_state) (prog (k + 1) .f_Debugger_state) := by
  obtain ⟨ad, fd, hm, F⟩ := F
  have hb : Binds G.K fd ["self"] [] := F.bindsN fun _ _ _ _ _ _ us hl => match us, hl with | [_], _ => rfl
  exact ⟨hasAt_of F.kp hb hm (fn_0 rfl), fun k ih => hasAt_of F.kp hb hm (fn_ok (k := 2 * k + 1) (fun_of F) sc_Debugger_state rfl rfl fun cdv A outer s H E hr => q_Debugger_state T ih hr)⟩
theorem has_Debugger_turns (T : Txt G w mg) (F : FnAt G mg .f_Debugger_turns) : HasAt P w G mg base (2 * 0) (loc .f_Debugger_turns) (ar .f_Debugger_turns) (prog 0 .f_Debugger_turns) ∧ ∀ k, HasAll P w G mg base k (prog k) → HasAt P w G mg base (2 * (k + 1)) (loc .f_Debugger_turns) (ar .f_Debugger_turns) (prog (k + 1) .f_Debugger_turns) := by
  obtain ⟨ad, fd, hm, F⟩ := F
  have hb : Binds G.K fd ["self"] [] := F.bindsN fun _ _ _ _ _ _ us hl => match us, hl with | [_], _ => rfl
  exact ⟨hasAt_of F.kp hb hm (fn_0 rfl), fun k ih => hasAt_of F.kp hb hm (fn_ok (k := 2 * k + 1) (fun_of F) sc_Debugger_turns rfl rfl fun cdv A outer s H E hr => q_Debugger_turns T ih hr)⟩
theorem has_Debugger_forth (T : Txt G w mg) (F : FnAt G mg .f_Debugger_forth) : HasAt P w G mg base (2 * 0) (loc .f_Debugger_forth) (ar .f_Debugger_forth) (prog 0 .f_Debugger_forth) ∧ ∀ k, HasAll P w G mg base k (prog k) → HasAt P w G mg base (2 * (k + 1)) (loc .f_Debugger_forth) (ar .f_Debugger_forth) (prog (k + 1) .f_Debugger_forth) := by
  obtain ⟨ad, fd, hm, F⟩ := F
  have hb : Binds G.K fd ["self", "many"] [] := binds_dfl (F.binds1 (ps := ["self", "many"]) 2 1 (by simp [He.DefD.dvs]) rfl fun T kV doc pm an cdv ct us its hl hi => match us, hl, its, hi with | [_, _], _, [_], _ => ⟨_, rfl, rfl⟩)
  exact ⟨hasAt_of F.kp hb hm (fn_0 rfl), fun k ih => hasAt_of F.kp hb hm (fn_okD (k := 2 * k + 1) F sc_Debugger_forth rfl rfl fun cdv A outer s H E hr => q_Debugger_forth T ih hr)⟩
theorem has_logged (T : Txt G w mg) (F : FnAt G mg .f_logged) : HasAt P w G mg base (2 * 0) (loc .f_logged) (ar .f_logged) (prog 0 .f_logged) ∧ ∀ k, HasAll P w G mg base k (prog k) → HasAt P w G mg base (2 * (k + 1)) (loc .f_logged) (ar .f_logged) (prog (k + 1) .f_logged) := by
  obtain ⟨ad, fd, hm, F⟩ := F
  have hb : Binds G.K fd ["program", "store", "turns"] [] := F.bindsN fun _ _ _ _ _ _ us hl => match us, hl with | [_, _, _], _ => rfl
  exact ⟨hasAt_of F.kp hb hm (fn_0 rfl), fun k ih => hasAt_of F.kp hb hm (fn_ok (k := 2 * k + 1) (fun_of F) sc_logged rfl rfl fun cdv A outer s H E hr => q_logged T ih hr)⟩
theorem has_is_log (T : Txt G w mg) (F : FnAt G mg .f_is_log) : HasAt P w G mg base (2 * 0) (loc .f_is_log) (ar .f_is_log) (prog 0 .f_is_log) ∧ ∀ k, HasAll P w G mg base k (prog k) → HasAt P w G mg base (2 * (k + 1)) (loc .f_is_log) (ar .f_is_log) (prog (k + 1) .f_is_log) := by
  obtain ⟨ad, fd, hm, F⟩ := F
  have hb : Binds G.K fd ["value"] [] := F.bindsN fun _ _ _ _ _ _ us hl => match us, hl with | [_], _ => rfl
  exact ⟨hasAt_of F.kp hb hm (fn_0 rfl), fun k ih => hasAt_of F.kp hb hm (fn_ok (k := 2 * k + 1) (fun_of F) sc_is_log rfl rfl fun cdv A outer s H E hr => q_is_log T ih hr)⟩
theorem has_taken_back (T : Txt G w mg) (F : FnAt G mg .f_taken_back) : HasAt P w G mg base (2 * 0) (loc .f_taken_back) (ar .f_taken_back) (prog 0 .f_taken_back) ∧ ∀ k, HasAll P w G mg base k (prog k) → HasAt P w G mg base (2 * (k + 1)) (loc .f_taken_back) (ar .f_taken_back) (prog (k + 1) .f_taken_back) := by
  obtain ⟨ad, fd, hm, F⟩ := F
  have hb : Binds G.K fd ["store", "log", "many"] [] := F.bindsN fun _ _ _ _ _ _ us hl => match us, hl with | [_, _, _], _ => rfl
  exact ⟨hasAt_of F.kp hb hm (fn_0 rfl), fun k ih => hasAt_of F.kp hb hm (fn_ok (k := 2 * k + 1) (fun_of F) sc_taken_back rfl rfl fun cdv A outer s H E hr => q_taken_back T ih hr)⟩
theorem has_start (T : Txt G w mg) (F : FnAt G mg .f_start) : HasAt P w G mg base (2 * 0) (loc .f_start) (ar .f_start) (prog 0 .f_start) ∧ ∀ k, HasAll P w G mg base k (prog k) → HasAt P w G mg base (2 * (k + 1)) (loc .f_start) (ar .f_start) (prog (k + 1) .f_start) := by
  obtain ⟨ad, fd, hm, F⟩ := F
  have hb : Binds G.K fd ["program", "store"] [] := F.bindsN fun _ _ _ _ _ _ us hl => match us, hl with | [_, _], _ => rfl
  exact ⟨hasAt_of F.kp hb hm (fn_0 rfl), fun k ih => hasAt_of F.kp hb hm (fn_ok (k := 2 * k + 1) (fun_of F) sc_start rfl rfl fun cdv A outer s H E hr => q_start T ih hr)⟩
theorem has_is_done (T : Txt G w mg) (F : FnAt G mg .f_is_done) : HasAt P w G mg base (2 * 0) (loc .f_is_done) (ar .f_is_done) (prog 0 .f_is_done) ∧ ∀ k, HasAll P w G mg base k (prog k) → HasAt P w G mg base (2 * (k + 1)) (loc .f_is_done) (ar .f_is_done) (prog (k + 1) .f_is_done) := by
  obtain ⟨ad, fd, hm, F⟩ := F
  have hb : Binds G.K fd ["state"] [] := F.bindsN fun _ _ _ _ _ _ us hl => match us, hl with | [_], _ => rfl
  exact ⟨hasAt_of F.kp hb hm (fn_0 rfl), fun k ih => hasAt_of F.kp hb hm (fn_ok (k := 2 * k + 1) (fun_of F) sc_is_done rfl rfl fun cdv A outer s H E hr => q_is_done T ih hr)⟩
theorem has_takes_turn_frames (T : Txt G w mg) (F : FnAt G mg .f_takes_turn_frames) : HasAt P w G mg base (2 * 0) (loc .f_takes_turn_frames) (ar .f_takes_turn_frames) (prog 0 .f_takes_turn_frames) ∧ ∀ k, HasAll P w G mg base k (prog k) → HasAt P w G mg base (2 * (k + 1)) (loc .f_takes_turn_frames) (ar .f_takes_turn_frames) (prog (k + 1) .f_takes_turn_frames) := by
  obtain ⟨ad, fd, hm, F⟩ := F
  have hb : Binds G.K fd ["state"] [] := F.bindsN fun _ _ _ _ _ _ us hl => match us, hl with | [_], _ => rfl
  exact ⟨hasAt_of F.kp hb hm (fn_0 rfl), fun k ih => hasAt_of F.kp hb hm (fn_ok (k := 2 * k + 1) (fun_of F) sc_takes_turn_frames rfl rfl fun cdv A outer s H E hr => q_takes_turn_frames T ih hr)⟩
theorem has_deed_state (T : Txt G w mg) (F : FnAt G mg .f_deed_state) : HasAt P w G mg base (2 * 0) (loc .f_deed_state) (ar .f_deed_state) (prog 0 .f_deed_state) ∧ ∀ k, HasAll P w G mg base k (prog k) → HasAt P w G mg base (2 * (k + 1)) (loc .f_deed_state) (ar .f_deed_state) (prog (k + 1) .f_deed_state) := by
  obtain ⟨ad, fd, hm, F⟩ := F
  have hb : Binds G.K fd ["block", "frames", "store", "told"] [] := F.bindsN fun _ _ _ _ _ _ us hl => match us, hl with | [_, _, _, _], _ => rfl
  exact ⟨hasAt_of F.kp hb hm (fn_0 rfl), fun k ih => hasAt_of F.kp hb hm (fn_ok (k := 2 * k + 1) (fun_of F) sc_deed_state rfl rfl fun cdv A outer s H E hr => q_deed_state T ih hr)⟩
theorem has_eval_state (T : Txt G w mg) (F : FnAt G mg .f_eval_state) : HasAt P w G mg base (2 * 0) (loc .f_eval_state) (ar .f_eval_state) (prog 0 .f_eval_state) ∧ ∀ k, HasAll P w G mg base k (prog k) → HasAt P w G mg base (2 * (k + 1)) (loc .f_eval_state) (ar .f_eval_state) (prog (k + 1) .f_eval_state) := by
  obtain ⟨ad, fd, hm, F⟩ := F
  have hb : Binds G.K fd ["expression", "frames", "store", "told"] [] := F.bindsN fun _ _ _ _ _ _ us hl => match us, hl with | [_, _, _, _], _ => rfl
  exact ⟨hasAt_of F.kp hb hm (fn_0 rfl), fun k ih => hasAt_of F.kp hb hm (fn_ok (k := 2 * k + 1) (fun_of F) sc_eval_state rfl rfl fun cdv A outer s H E hr => q_eval_state T ih hr)⟩
theorem has_give_state (T : Txt G w mg) (F : FnAt G mg .f_give_state) : HasAt P w G mg base (2 * 0) (loc .f_give_state) (ar .f_give_state) (prog 0 .f_give_state) ∧ ∀ k, HasAll P w G mg base k (prog k) → HasAt P w G mg base (2 * (k + 1)) (loc .f_give_state) (ar .f_give_state) (prog (k + 1) .f_give_state) := by
  obtain ⟨ad, fd, hm, F⟩ := F
  have hb : Binds G.K fd ["value", "frames", "store", "told"] [] := F.bindsN fun _ _ _ _ _ _ us hl => match us, hl with | [_, _, _, _], _ => rfl
  exact ⟨hasAt_of F.kp hb hm (fn_0 rfl), fun k ih => hasAt_of F.kp hb hm (fn_ok (k := 2 * k + 1) (fun_of F) sc_give_state rfl rfl fun cdv A outer s H E hr => q_give_state T ih hr)⟩
theorem has_step_frames (T : Txt G w mg) (F : FnAt G mg .f_step_frames) : HasAt P w G mg base (2 * 0) (loc .f_step_frames) (ar .f_step_frames) (prog 0 .f_step_frames) ∧ ∀ k, HasAll P w G mg base k (prog k) → HasAt P w G mg base (2 * (k + 1)) (loc .f_step_frames) (ar .f_step_frames) (prog (k + 1) .f_step_frames) := by
  obtain ⟨ad, fd, hm, F⟩ := F
  have hb : Binds G.K fd ["state"] [] := F.bindsN fun _ _ _ _ _ _ us hl => match us, hl with | [_], _ => rfl
  exact ⟨hasAt_of F.kp hb hm (fn_0 rfl), fun k ih => hasAt_of F.kp hb hm (fn_ok (k := 2 * k + 1) (fun_of F) sc_step_frames rfl rfl fun cdv A outer s H E hr => q_step_frames T ih hr)⟩
theorem has_run_frames (T : Txt G w mg) (F : FnAt G mg .f_run_frames) : HasAt P w G mg base (2 * 0) (loc .f_run_frames) (ar .f_run_frames) (prog 0 .f_run_frames) ∧ ∀ k, HasAll P w G mg base k (prog k) → HasAt P w G mg base (2 * (k + 1)) (loc .f_run_frames) (ar .f_run_frames) (prog (k + 1) .f_run_frames) := by
  obtain ⟨ad, fd, hm, F⟩ := F
  have hb : Binds G.K fd ["program", "store", "turns"] [] := F.bindsN fun _ _ _ _ _ _ us hl => match us, hl with | [_, _, _], _ => rfl
  exact ⟨hasAt_of F.kp hb hm (fn_0 rfl), fun k ih => hasAt_of F.kp hb hm (fn_ok (k := 2 * k + 1) (fun_of F) sc_run_frames rfl rfl fun cdv A outer s H E hr => q_run_frames T ih hr)⟩
theorem has_ways (T : Txt G w mg) (F : FnAt G mg .f_ways) : HasAt P w G mg base (2 * 0) (loc .f_ways) (ar .f_ways) (prog 0 .f_ways) ∧ ∀ k, HasAll P w G mg base k (prog k) → HasAt P w G mg base (2 * (k + 1)) (loc .f_ways) (ar .f_ways) (prog (k + 1) .f_ways) := by
  obtain ⟨ad, fd, hm, F⟩ := F
  have hb : Binds G.K fd [] [] := F.bindsN fun _ _ _ _ _ _ us hl => match us, hl with | [], _ => rfl
  exact ⟨hasAt_of F.kp hb hm (fn_0 rfl), fun k ih => hasAt_of F.kp hb hm (fn_ok (k := 2 * k + 1) (fun_of F) sc_ways rfl rfl fun cdv A outer s H E hr => q_ways T ih hr)⟩
theorem has_run_way (T : Txt G w mg) (F : FnAt G mg .f_run_way) : HasAt P w G mg base (2 * 0) (loc .f_run_way) (ar .f_run_way) (prog 0 .f_run_way) ∧ ∀ k, HasAll P w G mg base k (prog k) → HasAt P w G mg base (2 * (k + 1)) (loc .f_run_way) (ar .f_run_way) (prog (k + 1) .f_run_way) := by
  obtain ⟨ad, fd, hm, F⟩ := F
  have hb : Binds G.K fd ["way", "value", "store", "turns"] [] := F.bindsN fun _ _ _ _ _ _ us hl => match us, hl with | [_, _, _, _], _ => rfl
  exact ⟨hasAt_of F.kp hb hm (fn_0 rfl), fun k ih => hasAt_of F.kp hb hm (fn_ok (k := 2 * k + 1) (fun_of F) sc_run_way rfl rfl fun cdv A outer s H E hr => q_run_way T ih hr)⟩
theorem has__law_same (T : Txt G w mg) (F : FnAt G mg .f_law_same) : HasAt P w G mg base (2 * 0) (loc .f_law_same) (ar .f_law_same) (prog 0 .f_law_same) ∧ ∀ k, HasAll P w G mg base k (prog k) → HasAt P w G mg base (2 * (k + 1)) (loc .f_law_same) (ar .f_law_same) (prog (k + 1) .f_law_same) := by
  obtain ⟨ad, fd, hm, F⟩ := F
  have hb : Binds G.K fd ["actual", "due"] [] := F.bindsN fun _ _ _ _ _ _ us hl => match us, hl with | [_, _], _ => rfl
  exact ⟨hasAt_of F.kp hb hm (fn_0 rfl), fun k ih => hasAt_of F.kp hb hm (fn_ok (k := 2 * k + 1) (fun_of F) sc__law_same rfl rfl fun cdv A outer s H E hr => q__law_same T ih hr)⟩
theorem has__law_pool (T : Txt G w mg) (F : FnAt G mg .f_law_pool) : HasAt P w G mg base (2 * 0) (loc .f_law_pool) (ar .f_law_pool) (prog 0 .f_law_pool) ∧ ∀ k, HasAll P w G mg base k (prog k) → HasAt P w G mg base (2 * (k + 1)) (loc .f_law_pool) (ar .f_law_pool) (prog (k + 1) .f_law_pool) := by
  obtain ⟨ad, fd, hm, F⟩ := F
  have hb : Binds G.K fd ["script"] [] := F.bindsN fun _ _ _ _ _ _ us hl => match us, hl with | [_], _ => rfl
  exact ⟨hasAt_of F.kp hb hm (fn_0 rfl), fun k ih => hasAt_of F.kp hb hm (fn_ok (k := 2 * k + 1) (fun_of F) sc__law_pool rfl rfl fun cdv A outer s H E hr => q__law_pool T ih hr)⟩
theorem has__law_spread (T : Txt G w mg) (F : FnAt G mg .f_law_spread) : HasAt P w G mg base (2 * 0) (loc .f_law_spread) (ar .f_law_spread) (prog 0 .f_law_spread) ∧ ∀ k, HasAll P w G mg base k (prog k) → HasAt P w G mg base (2 * (k + 1)) (loc .f_law_spread) (ar .f_law_spread) (prog (k + 1) .f_law_spread) := by
  obtain ⟨ad, fd, hm, F⟩ := F
  have hb : Binds G.K fd ["cell"] [] := F.bindsN fun _ _ _ _ _ _ us hl => match us, hl with | [_], _ => rfl
  exact ⟨hasAt_of F.kp hb hm (fn_0 rfl), fun k ih => hasAt_of F.kp hb hm (fn_ok (k := 2 * k + 1) (fun_of F) sc__law_spread rfl rfl fun cdv A outer s H E hr => q__law_spread T ih hr)⟩
theorem has__law_draw (T : Txt G w mg) (F : FnAt G mg .f_law_draw) : HasAt P w G mg base (2 * 0) (loc .f_law_draw) (ar .f_law_draw) (prog 0 .f_law_draw) ∧ ∀ k, HasAll P w G mg base k (prog k) → HasAt P w G mg base (2 * (k + 1)) (loc .f_law_draw) (ar .f_law_draw) (prog (k + 1) .f_law_draw) := by
  obtain ⟨ad, fd, hm, F⟩ := F
  have hb : Binds G.K fd ["pool", "many"] [] := F.bindsN fun _ _ _ _ _ _ us hl => match us, hl with | [_, _], _ => rfl
  exact ⟨hasAt_of F.kp hb hm (fn_0 rfl), fun k ih => hasAt_of F.kp hb hm (fn_ok (k := 2 * k + 1) (fun_of F) sc__law_draw rfl rfl fun cdv A outer s H E hr => q__law_draw T ih hr)⟩
theorem has__law_pick (T : Txt G w mg) (F : FnAt G mg .f_law_pick) : HasAt P w G mg base (2 * 0) (loc .f_law_pick) (ar .f_law_pick) (prog 0 .f_law_pick) ∧ ∀ k, HasAll P w G mg base k (prog k) → HasAt P w G mg base (2 * (k + 1)) (loc .f_law_pick) (ar .f_law_pick) (prog (k + 1) .f_law_pick) := by
  obtain ⟨ad, fd, hm, F⟩ := F
  have hb : Binds G.K fd ["pool", "items"] [] := F.bindsN fun _ _ _ _ _ _ us hl => match us, hl with | [_, _], _ => rfl
  exact ⟨hasAt_of F.kp hb hm (fn_0 rfl), fun k ih => hasAt_of F.kp hb hm (fn_ok (k := 2 * k + 1) (fun_of F) sc__law_pick rfl rfl fun cdv A outer s H E hr => q__law_pick T ih hr)⟩
theorem has__law_worked (T : Txt G w mg) (F : FnAt G mg .f_law_worked) : HasAt P w G mg base (2 * 0) (loc .f_law_worked) (ar .f_law_worked) (prog 0 .f_law_worked) ∧ ∀ k, HasAll P w G mg base k (prog k) → HasAt P w G mg base (2 * (k + 1)) (loc .f_law_worked) (ar .f_law_worked) (prog (k + 1) .f_law_worked) := by
  obtain ⟨ad, fd, hm, F⟩ := F
  have hb : Binds G.K fd ["word", "one", "two"] [] := F.bindsN fun _ _ _ _ _ _ us hl => match us, hl with | [_, _, _], _ => rfl
  exact ⟨hasAt_of F.kp hb hm (fn_0 rfl), fun k ih => hasAt_of F.kp hb hm (fn_ok (k := 2 * k + 1) (fun_of F) sc__law_worked rfl rfl fun cdv A outer s H E hr => q__law_worked T ih hr)⟩
theorem has__law_value (T : Txt G w mg) (F : FnAt G mg .f_law_value) : HasAt P w G mg base (2 * 0) (loc .f_law_value) (ar .f_law_value) (prog 0 .f_law_value) ∧ ∀ k, HasAll P w G mg base k (prog k) → HasAt P w G mg base (2 * (k + 1)) (loc .f_law_value) (ar .f_law_value) (prog (k + 1) .f_law_value) := by
  obtain ⟨ad, fd, hm, F⟩ := F
  have hb : Binds G.K fd ["expression", "store"] [] := F.bindsN fun _ _ _ _ _ _ us hl => match us, hl with | [_, _], _ => rfl
  exact ⟨hasAt_of F.kp hb hm (fn_0 rfl), fun k ih => hasAt_of F.kp hb hm (fn_ok (k := 2 * k + 1) (fun_of F) sc__law_value rfl rfl fun cdv A outer s H E hr => q__law_value T ih hr)⟩
theorem has__law_expression (T : Txt G w mg) (F : FnAt G mg .f_law_expression) : HasAt P w G mg base (2 * 0) (loc .f_law_expression) (ar .f_law_expression) (prog 0 .f_law_expression) ∧ ∀ k, HasAll P w G mg base k (prog k) → HasAt P w G mg base (2 * (k + 1)) (loc .f_law_expression) (ar .f_law_expression) (prog (k + 1) .f_law_expression) := by
  obtain ⟨ad, fd, hm, F⟩ := F
  have hb : Binds G.K fd ["pool", "deep"] [] := F.bindsN fun _ _ _ _ _ _ us hl => match us, hl with | [_, _], _ => rfl
  exact ⟨hasAt_of F.kp hb hm (fn_0 rfl), fun k ih => hasAt_of F.kp hb hm (fn_ok (k := 2 * k + 1) (fun_of F) sc__law_expression rfl rfl fun cdv A outer s H E hr => q__law_expression T ih hr)⟩
theorem has__law_store (T : Txt G w mg) (F : FnAt G mg .f_law_store) : HasAt P w G mg base (2 * 0) (loc .f_law_store) (ar .f_law_store) (prog 0 .f_law_store) ∧ ∀ k, HasAll P w G mg base k (prog k) → HasAt P w G mg base (2 * (k + 1)) (loc .f_law_store) (ar .f_law_store) (prog (k + 1) .f_law_store) := by
  obtain ⟨ad, fd, hm, F⟩ := F
  have hb : Binds G.K fd ["pool"] [] := F.bindsN fun _ _ _ _ _ _ us hl => match us, hl with | [_], _ => rfl
  exact ⟨hasAt_of F.kp hb hm (fn_0 rfl), fun k ih => hasAt_of F.kp hb hm (fn_ok (k := 2 * k + 1) (fun_of F) sc__law_store rfl rfl fun cdv A outer s H E hr => q__law_store T ih hr)⟩
theorem has__law_block (T : Txt G w mg) (F : FnAt G mg .f_law_block) : HasAt P w G mg base (2 * 0) (loc .f_law_block) (ar .f_law_block) (prog 0 .f_law_block) ∧ ∀ k, HasAll P w G mg base k (prog k) → HasAt P w G mg base (2 * (k + 1)) (loc .f_law_block) (ar .f_law_block) (prog (k + 1) .f_law_block) := by
  obtain ⟨ad, fd, hm, F⟩ := F
  have hb : Binds G.K fd ["pool", "deep"] [] := F.bindsN fun _ _ _ _ _ _ us hl => match us, hl with | [_, _], _ => rfl
  exact ⟨hasAt_of F.kp hb hm (fn_0 rfl), fun k ih => hasAt_of F.kp hb hm (fn_ok (k := 2 * k + 1) (fun_of F) sc__law_block rfl rfl fun cdv A outer s H E hr => q__law_block T ih hr)⟩
theorem has__law_deed (T : Txt G w mg) (F : FnAt G mg .f_law_deed) : HasAt P w G mg base (2 * 0) (loc .f_law_deed) (ar .f_law_deed) (prog 0 .f_law_deed) ∧ ∀ k, HasAll P w G mg base k (prog k) → HasAt P w G mg base (2 * (k + 1)) (loc .f_law_deed) (ar .f_law_deed) (prog (k + 1) .f_law_deed) := by
  obtain ⟨ad, fd, hm, F⟩ := F
  have hb : Binds G.K fd ["pool", "deep"] [] := F.bindsN fun _ _ _ _ _ _ us hl => match us, hl with | [_, _], _ => rfl
  exact ⟨hasAt_of F.kp hb hm (fn_0 rfl), fun k ih => hasAt_of F.kp hb hm (fn_ok (k := 2 * k + 1) (fun_of F) sc__law_deed rfl rfl fun cdv A outer s H E hr => q__law_deed T ih hr)⟩
theorem has__law_program (T : Txt G w mg) (F : FnAt G mg .f_law_program) : HasAt P w G mg base (2 * 0) (loc .f_law_program) (ar .f_law_program) (prog 0 .f_law_program) ∧ ∀ k, HasAll P w G mg base k (prog k) → HasAt P w G mg base (2 * (k + 1)) (loc .f_law_program) (ar .f_law_program) (prog (k + 1) .f_law_program) := by
  obtain ⟨ad, fd, hm, F⟩ := F
  have hb : Binds G.K fd ["pool"] [] := F.bindsN fun _ _ _ _ _ _ us hl => match us, hl with | [_], _ => rfl
  exact ⟨hasAt_of F.kp hb hm (fn_0 rfl), fun k ih => hasAt_of F.kp hb hm (fn_ok (k := 2 * k + 1) (fun_of F) sc__law_program rfl rfl fun cdv A outer s H E hr => q__law_program T ih hr)⟩
theorem has__law_do (T : Txt G w mg) (F : FnAt G mg .f_law_do) : HasAt P w G mg base (2 * 0) (loc .f_law_do) (ar .f_law_do) (prog 0 .f_law_do) ∧ ∀ k, HasAll P w G mg base k (prog k) → HasAt P w G mg base (2 * (k + 1)) (loc .f_law_do) (ar .f_law_do) (prog (k + 1) .f_law_do) := by
  obtain ⟨ad, fd, hm, F⟩ := F
  have hb : Binds G.K fd ["block", "state"] [] := F.bindsN fun _ _ _ _ _ _ us hl => match us, hl with | [_, _], _ => rfl
  exact ⟨hasAt_of F.kp hb hm (fn_0 rfl), fun k ih => hasAt_of F.kp hb hm (fn_ok (k := 2 * k + 1) (fun_of F) sc__law_do rfl rfl fun cdv A outer s H E hr => q__law_do T ih hr)⟩
theorem has__law_loop (T : Txt G w mg) (F : FnAt G mg .f_law_loop) : HasAt P w G mg base (2 * 0) (loc .f_law_loop) (ar .f_law_loop) (prog 0 .f_law_loop) ∧ ∀ k, HasAll P w G mg base k (prog k) → HasAt P w G mg base (2 * (k + 1)) (loc .f_law_loop) (ar .f_law_loop) (prog (k + 1) .f_law_loop) := by
  obtain ⟨ad, fd, hm, F⟩ := F
  have hb : Binds G.K fd ["deed", "state"] [] := F.bindsN fun _ _ _ _ _ _ us hl => match us, hl with | [_, _], _ => rfl
  exact ⟨hasAt_of F.kp hb hm (fn_0 rfl), fun k ih => hasAt_of F.kp hb hm (fn_ok (k := 2 * k + 1) (fun_of F) sc__law_loop rfl rfl fun cdv A outer s H E hr => q__law_loop T ih hr)⟩
theorem has__law_run (T : Txt G w mg) (F : FnAt G mg .f_law_run) : HasAt P w G mg base (2 * 0) (loc .f_law_run) (ar .f_law_run) (prog 0 .f_law_run) ∧ ∀ k, HasAll P w G mg base k (prog k) → HasAt P w G mg base (2 * (k + 1)) (loc .f_law_run) (ar .f_law_run) (prog (k + 1) .f_law_run) := by
  obtain ⟨ad, fd, hm, F⟩ := F
  have hb : Binds G.K fd ["block", "store", "turns"] [] := F.bindsN fun _ _ _ _ _ _ us hl => match us, hl with | [_, _, _], _ => rfl
  exact ⟨hasAt_of F.kp hb hm (fn_0 rfl), fun k ih => hasAt_of F.kp hb hm (fn_ok (k := 2 * k + 1) (fun_of F) sc__law_run rfl rfl fun cdv A outer s H E hr => q__law_run T ih hr)⟩
theorem has__law_deeds_of (T : Txt G w mg) (F : FnAt G mg .f_law_deeds_of) : HasAt P w G mg base (2 * 0) (loc .f_law_deeds_of) (ar .f_law_deeds_of) (prog 0 .f_law_deeds_of) ∧ ∀ k, HasAll P w G mg base k (prog k) → HasAt P w G mg base (2 * (k + 1)) (loc .f_law_deeds_of) (ar .f_law_deeds_of) (prog (k + 1) .f_law_deeds_of) := by
  obtain ⟨ad, fd, hm, F⟩ := F
  have hb : Binds G.K fd ["block"] [] := F.bindsN fun _ _ _ _ _ _ us hl => match us, hl with | [_], _ => rfl
  exact ⟨hasAt_of F.kp hb hm (fn_0 rfl), fun k ih => hasAt_of F.kp hb hm (fn_ok (k := 2 * k + 1) (fun_of F) sc__law_deeds_of rfl rfl fun cdv A outer s H E hr => q__law_deeds_of T ih hr)⟩
theorem has_law (T : Txt G w mg) (F : FnAt G mg .f_law) : HasAt P w G mg base (2 * 0) (loc .f_law) (ar .f_law) (prog 0 .f_law) ∧ ∀ k, HasAll P w G mg base k (prog k) → HasAt P w G mg base (2 * (k + 1)) (loc .f_law) (ar .f_law) (prog (k + 1) .f_law) := by
  obtain ⟨ad, fd, hm, F⟩ := F
  have hb : Binds G.K fd ["script"] [] := F.bindsN fun _ _ _ _ _ _ us hl => match us, hl with | [_], _ => rfl
  exact ⟨hasAt_of F.kp hb hm (fn_0 rfl), fun k ih => hasAt_of F.kp hb hm (fn_ok (k := 2 * k + 1) (fun_of F) sc_law rfl rfl fun cdv A outer s H E hr => q_law T ih hr)⟩
theorem all_has (T : Txt G w mg) (F : ∀ f, FnAt G mg f) : ∀ k, HasAll P w G mg base k (prog k)
  | 0 => fun f => match f with
    | .f_is_whole => (has_is_whole T (F _)).1
    | .f_is_from => (has_is_from T (F _)).1
    | .f_is_store => (has_is_store T (F _)).1
    | .f_is_tagged => (has_is_tagged T (F _)).1
    | .f_with_value => (has_with_value T (F _)).1
    | .f_has_shape => (has_has_shape T (F _)).1
    | .f_is_expression => (has_is_expression T (F _)).1
    | .f_worked => (has_worked T (F _)).1
    | .f_value_of => (has_value_of T (F _)).1
    | .f_is_deed => (has_is_deed T (F _)).1
    | .f_is_block => (has_is_block T (F _)).1
    | .f_fault_trees => (has_fault_trees T (F _)).1
    | .f_Run___init__ => (has_Run___init__ T (F _)).1
    | .f_Run_do_block => (has_Run_do_block T (F _)).1
    | .f_Run_do => (has_Run_do T (F _)).1
    | .f_run_trees => (has_run_trees T (F _)).1
    | .f_is_state => (has_is_state T (F _)).1
    | .f_is_told => (has_is_told T (F _)).1
    | .f_takes_turn_steps => (has_takes_turn_steps T (F _)).1
    | .f_step_steps => (has_step_steps T (F _)).1
    | .f_trace => (has_trace T (F _)).1
    | .f_run_steps => (has_run_steps T (F _)).1
    | .f_fault_steps => (has_fault_steps T (F _)).1
    | .f_Debugger___init__ => (has_Debugger___init__ T (F _)).1
    | .f_Debugger___len__ => (has_Debugger___len__ T (F _)).1
    | .f_Debugger_state => (has_Debugger_state T (F _)).1
    | .f_Debugger_turns => (has_Debugger_turns T (F _)).1
    | .f_Debugger_forth => (has_Debugger_forth T (F _)).1
    | .f_logged => (has_logged T (F _)).1
    | .f_is_log => (has_is_log T (F _)).1
    | .f_taken_back => (has_taken_back T (F _)).1
    | .f_start => (has_start T (F _)).1
    | .f_is_done => (has_is_done T (F _)).1
    | .f_takes_turn_frames => (has_takes_turn_frames T (F _)).1
    | .f_deed_state => (has_deed_state T (F _)).1
    | .f_eval_state => (has_eval_state T (F _)).1
    | .f_give_state => (has_give_state T (F _)).1
    | .f_step_frames => (has_step_frames T (F _)).1
    | .f_run_frames => (has_run_frames T (F _)).1
    | .f_ways => (has_ways T (F _)).1
    | .f_run_way => (has_run_way T (F _)).1
    | .f_law_same => (has__law_same T (F _)).1
    | .f_law_pool => (has__law_pool T (F _)).1
    | .f_law_spread => (has__law_spread T (F _)).1
    | .f_law_draw => (has__law_draw T (F _)).1
    | .f_law_pick => (has__law_pick T (F _)).1
    | .f_law_worked => (has__law_worked T (F _)).1
    | .f_law_value => (has__law_value T (F _)).1
    | .f_law_expression => (has__law_expression T (F _)).1
    | .f_law_store => (has__law_store T (F _)).1
    | .f_law_block => (has__law_block T (F _)).1
    | .f_law_deed => (has__law_deed T (F _)).1
    | .f_law_program => (has__law_program T (F _)).1
    | .f_law_do => (has__law_do T (F _)).1
    | .f_law_loop => (has__law_loop T (F _)).1
    | .f_law_run => (has__law_run T (F _)).1
    | .f_law_deeds_of => (has__law_deeds_of T (F _)).1
    | .f_law => (has_law T (F _)).1
  | k + 1 => fun f => match f with
    | .f_is_whole => (has_is_whole T (F _)).2 k (all_has T F k)
    | .f_is_from => (has_is_from T (F _)).2 k (all_has T F k)
    | .f_is_store => (has_is_store T (F _)).2 k (all_has T F k)
    | .f_is_tagged => (has_is_tagged T (F _)).2 k (all_has T F k)
    | .f_with_value => (has_with_value T (F _)).2 k (all_has T F k)
    | .f_has_shape => (has_has_shape T (F _)).2 k (all_has T F k)
    | .f_is_expression => (has_is_expression T (F _)).2 k (all_has T F k)
    | .f_worked => (has_worked T (F _)).2 k (all_has T F k)
    | .f_value_of => (has_value_of T (F _)).2 k (all_has T F k)
    | .f_is_deed => (has_is_deed T (F _)).2 k (all_has T F k)
    | .f_is_block => (has_is_block T (F _)).2 k (all_has T F k)
    | .f_fault_trees => (has_fault_trees T (F _)).2 k (all_has T F k)
    | .f_Run___init__ => (has_Run___init__ T (F _)).2 k (all_has T F k)
    | .f_Run_do_block => (has_Run_do_block T (F _)).2 k (all_has T F k)
    | .f_Run_do => (has_Run_do T (F _)).2 k (all_has T F k)
    | .f_run_trees => (has_run_trees T (F _)).2 k (all_has T F k)
    | .f_is_state => (has_is_state T (F _)).2 k (all_has T F k)
    | .f_is_told => (has_is_told T (F _)).2 k (all_has T F k)
    | .f_takes_turn_steps => (has_takes_turn_steps T (F _)).2 k (all_has T F k)
    | .f_step_steps => (has_step_steps T (F _)).2 k (all_has T F k)
    | .f_trace => (has_trace T (F _)).2 k (all_has T F k)
    | .f_run_steps => (has_run_steps T (F _)).2 k (all_has T F k)
    | .f_fault_steps => (has_fault_steps T (F _)).2 k (all_has T F k)
    | .f_Debugger___init__ => (has_Debugger___init__ T (F _)).2 k (all_has T F k)
    | .f_Debugger___len__ => (has_Debugger___len__ T (F _)).2 k (all_has T F k)
    | .f_Debugger_state => (has_Debugger_state T (F _)).2 k (all_has T F k)
    | .f_Debugger_turns => (has_Debugger_turns T (F _)).2 k (all_has T F k)
    | .f_Debugger_forth => (has_Debugger_forth T (F _)).2 k (all_has T F k)
    | .f_logged => (has_logged T (F _)).2 k (all_has T F k)
    | .f_is_log => (has_is_log T (F _)).2 k (all_has T F k)
    | .f_taken_back => (has_taken_back T (F _)).2 k (all_has T F k)
    | .f_start => (has_start T (F _)).2 k (all_has T F k)
    | .f_is_done => (has_is_done T (F _)).2 k (all_has T F k)
    | .f_takes_turn_frames => (has_takes_turn_frames T (F _)).2 k (all_has T F k)
    | .f_deed_state => (has_deed_state T (F _)).2 k (all_has T F k)
    | .f_eval_state => (has_eval_state T (F _)).2 k (all_has T F k)
    | .f_give_state => (has_give_state T (F _)).2 k (all_has T F k)
    | .f_step_frames => (has_step_frames T (F _)).2 k (all_has T F k)
    | .f_run_frames => (has_run_frames T (F _)).2 k (all_has T F k)
    | .f_ways => (has_ways T (F _)).2 k (all_has T F k)
    | .f_run_way => (has_run_way T (F _)).2 k (all_has T F k)
    | .f_law_same => (has__law_same T (F _)).2 k (all_has T F k)
    | .f_law_pool => (has__law_pool T (F _)).2 k (all_has T F k)
    | .f_law_spread => (has__law_spread T (F _)).2 k (all_has T F k)
    | .f_law_draw => (has__law_draw T (F _)).2 k (all_has T F k)
    | .f_law_pick => (has__law_pick T (F _)).2 k (all_has T F k)
    | .f_law_worked => (has__law_worked T (F _)).2 k (all_has T F k)
    | .f_law_value => (has__law_value T (F _)).2 k (all_has T F k)
    | .f_law_expression => (has__law_expression T (F _)).2 k (all_has T F k)
    | .f_law_store => (has__law_store T (F _)).2 k (all_has T F k)
    | .f_law_block => (has__law_block T (F _)).2 k (all_has T F k)
    | .f_law_deed => (has__law_deed T (F _)).2 k (all_has T F k)
    | .f_law_program => (has__law_program T (F _)).2 k (all_has T F k)
    | .f_law_do => (has__law_do T (F _)).2 k (all_has T F k)
    | .f_law_loop => (has__law_loop T (F _)).2 k (all_has T F k)
    | .f_law_run => (has__law_run T (F _)).2 k (all_has T F k)
    | .f_law_deeds_of => (has__law_deeds_of T (F _)).2 k (all_has T F k)
    | .f_law => (has_law T (F _)).2 k (all_has T F k)
abbrev gxOf (K : PySem.W.Frag) : Gx := ⟨K, fun _ _ => False, fun x => He.ga K x⟩
section
variable {K : PySem.W.Frag} {h : Heap}
theorem fnAt_of (KX : K.In h) (hns : h.Ns mainGlobals mg) (c : He.SaysX hfa hfn hts [] hex w h K) (f : Fnm) : FnAt (gxOf K) mg f := by
  cases f with
  | f_is_whole => obtain ⟨fd, F⟩ := c.t.d.def_ 0 (d := dd .f_is_whole) rfl; exact ⟨_, fd, He.glo_ok KX hns (c.t.d.fact 0 (f := .glo "is_whole") rfl), F⟩
  | f_is_from => obtain ⟨fd, F⟩ := c.t.d.def_ 1 (d := dd .f_is_from) rfl; exact ⟨_, fd, He.glo_ok KX hns (c.t.d.fact 1 (f := .glo "is_from") rfl), F⟩
  | f_is_store => obtain ⟨fd, F⟩ := c.t.d.def_ 2 (d := dd .f_is_store) rfl; exact ⟨_, fd, He.glo_ok KX hns (c.t.d.fact 2 (f := .glo "is_store") rfl), F⟩
  | f_is_tagged => obtain ⟨fd, F⟩ := c.t.d.def_ 3 (d := dd .f_is_tagged) rfl; exact ⟨_, fd, He.glo_ok KX hns (c.t.d.fact 3 (f := .glo "is_tagged") rfl), F⟩
  | f_with_value => obtain ⟨fd, F⟩ := c.t.d.def_ 4 (d := dd .f_with_value) rfl; exact ⟨_, fd, He.glo_ok KX hns (c.t.d.fact 4 (f := .glo "with_value") rfl), F⟩
  | f_has_shape => obtain ⟨fd, F⟩ := c.t.d.def_ 5 (d := dd .f_has_shape) rfl; exact ⟨_, fd, He.glo_ok KX hns (c.t.d.fact 5 (f := .glo "has_shape") rfl), F⟩
  | f_is_expression => obtain ⟨fd, F⟩ := c.t.d.def_ 6 (d := dd .f_is_expression) rfl; exact ⟨_, fd, He.glo_ok KX hns (c.t.d.fact 6 (f := .glo "is_expression") rfl), F⟩
  | f_worked => obtain ⟨fd, F⟩ := c.t.d.def_ 7 (d := dd .f_worked) rfl; exact ⟨_, fd, He.glo_ok KX hns (c.t.d.fact 7 (f := .glo "worked") rfl), F⟩
  | f_value_of => obtain ⟨fd, F⟩ := c.t.d.def_ 8 (d := dd .f_value_of) rfl; exact ⟨_, fd, He.glo_ok KX hns (c.t.d.fact 8 (f := .glo "value_of") rfl), F⟩
  | f_is_deed => obtain ⟨fd, F⟩ := c.t.d.def_ 9 (d := dd .f_is_deed) rfl; exact ⟨_, fd, He.glo_ok KX hns (c.t.d.fact 9 (f := .glo "is_deed") rfl), F⟩
  | f_is_block => obtain ⟨fd, F⟩ := c.t.d.def_ 10 (d := dd .f_is_block) rfl; exact ⟨_, fd, He.glo_ok KX hns (c.t.d.fact 10 (f := .glo "is_block") rfl), F⟩
  | f_fault_trees => obtain ⟨fd, F⟩ := c.t.d.def_ 11 (d := dd .f_fault_trees) rfl; exact ⟨_, fd, He.glo_ok KX hns (c.t.d.fact 11 (f := .glo "fault_trees") rfl), F⟩
  | f_Run___init__ => obtain ⟨fd, F⟩ := c.t.d.def_ 12 (d := dd .f_Run___init__) rfl; exact ⟨_, fd, He.meth_ok (c.t.d.fact 12 (f := .meth "Run" "__init__") rfl), F⟩
  | f_Run_do_block => obtain ⟨fd, F⟩ := c.t.d.def_ 13 (d := dd .f_Run_do_block) rfl; exact ⟨_, fd, He.meth_ok (c.t.d.fact 13 (f := .meth "Run" "do_block") rfl), F⟩
  | f_Run_do => obtain ⟨fd, F⟩ := c.t.d.def_ 14 (d := dd .f_Run_do) rfl; exact ⟨_, fd, He.meth_ok (c.t.d.fact 14 (f := .meth "Run" "do") rfl), F⟩
  | f_run_trees => obtain ⟨fd, F⟩ := c.t.d.def_ 15 (d := dd .f_run_trees) rfl; exact ⟨_, fd, He.glo_ok KX hns (c.t.d.fact 15 (f := .glo "run_trees") rfl), F⟩
  | f_is_state => obtain ⟨fd, F⟩ := c.t.d.def_ 16 (d := dd .f_is_state) rfl; exact ⟨_, fd, He.glo_ok KX hns (c.t.d.fact 16 (f := .glo "is_state") rfl), F⟩
  | f_is_told => obtain ⟨fd, F⟩ := c.t.d.def_ 17 (d := dd .f_is_told) rfl; exact ⟨_, fd, He.glo_ok KX hns (c.t.d.fact 17 (f := .glo "is_told") rfl), F⟩
  | f_takes_turn_steps => obtain ⟨fd, F⟩ := c.t.d.def_ 18 (d := dd .f_takes_turn_steps) rfl; exact ⟨_, fd, He.glo_ok KX hns (c.t.d.fact 18 (f := .glo "takes_turn_steps") rfl), F⟩
  | f_step_steps => obtain ⟨fd, F⟩ := c.t.d.def_ 19 (d := dd .f_step_steps) rfl; exact ⟨_, fd, He.glo_ok KX hns (c.t.d.fact 19 (f := .glo "step_steps") rfl), F⟩
  | f_trace => obtain ⟨fd, F⟩ := c.t.d.def_ 20 (d := dd .f_trace) rfl; exact ⟨_, fd, He.glo_ok KX hns (c.t.d.fact 20 (f := .glo "trace") rfl), F⟩
  | f_run_steps => obtain ⟨fd, F⟩ := c.t.d.def_ 21 (d := dd .f_run_steps) rfl; exact ⟨_, fd, He.glo_ok KX hns (c.t.d.fact 21 (f := .glo "run_steps") rfl), F⟩
  | f_fault_steps => obtain ⟨fd, F⟩ := c.t.d.def_ 22 (d := dd .f_fault_steps) rfl; exact ⟨_, fd, He.glo_ok KX hns (c.t.d.fact 22 (f := .glo "fault_steps") rfl), F⟩
  | f_Debugger___init__ => obtain ⟨fd, F⟩ := c.t.d.def_ 23 (d := dd .f_Debugger___init__) rfl; exact ⟨_, fd, He.meth_ok (c.t.d.fact 23 (f := .meth "Debugger" "__init__") rfl), F⟩
  | f_Debugger___len__ => obtain ⟨fd, F⟩ := c.t.d.def_ 24 (d := dd .f_Debugger___len__) rfl; exact ⟨_, fd, He.meth_ok (c.t.d.fact 24 (f := .meth "Debugger" "__len__") rfl), F⟩
  | f_Debugger_state => obtain ⟨fd, F⟩ := c.t.d.def_ 25 (d := dd .f_Debugger_state) rfl; exact ⟨_, fd, He.meth_ok (c.t.d.fact 25 (f := .meth "Debugger" "state") rfl), F⟩
  | f_Debugger_turns => obtain ⟨fd, F⟩ := c.t.d.def_ 26 (d := dd .f_Debugger_turns) rfl; exact ⟨_, fd, He.meth_ok (c.t.d.fact 26 (f := .meth "Debugger" "turns") rfl), F⟩
  | f_Debugger_forth => obtain ⟨fd, F⟩ := c.t.d.def_ 27 (d := dd .f_Debugger_forth) rfl; exact ⟨_, fd, He.meth_ok (c.t.d.fact 27 (f := .meth "Debugger" "forth") rfl), F⟩
  | f_logged => obtain ⟨fd, F⟩ := c.t.d.def_ 28 (d := dd .f_logged) rfl; exact ⟨_, fd, He.glo_ok KX hns (c.t.d.fact 28 (f := .glo "logged") rfl), F⟩
  | f_is_log => obtain ⟨fd, F⟩ := c.t.d.def_ 29 (d := dd .f_is_log) rfl; exact ⟨_, fd, He.glo_ok KX hns (c.t.d.fact 29 (f := .glo "is_log") rfl), F⟩
  | f_taken_back => obtain ⟨fd, F⟩ := c.t.d.def_ 30 (d := dd .f_taken_back) rfl; exact ⟨_, fd, He.glo_ok KX hns (c.t.d.fact 30 (f := .glo "taken_back") rfl), F⟩
  | f_start => obtain ⟨fd, F⟩ := c.t.d.def_ 31 (d := dd .f_start) rfl; exact ⟨_, fd, He.glo_ok KX hns (c.t.d.fact 31 (f := .glo "start") rfl), F⟩
  | f_is_done => obtain ⟨fd, F⟩ := c.t.d.def_ 32 (d := dd .f_is_done) rfl; exact ⟨_, fd, He.glo_ok KX hns (c.t.d.fact 32 (f := .glo "is_done") rfl), F⟩
  | f_takes_turn_frames => obtain ⟨fd, F⟩ := c.t.d.def_ 33 (d := dd .f_takes_turn_frames) rfl; exact ⟨_, fd, He.glo_ok KX hns (c.t.d.fact 33 (f := .glo "takes_turn_frames") rfl), F⟩
  | f_deed_state => obtain ⟨fd, F⟩ := c.t.d.def_ 34 (d := dd .f_deed_state) rfl; exact ⟨_, fd, He.glo_ok KX hns (c.t.d.fact 34 (f := .glo "deed_state") rfl), F⟩
  | f_eval_state => obtain ⟨fd, F⟩ := c.t.d.def_ 35 (d := dd .f_eval_state) rfl; exact ⟨_, fd, He.glo_ok KX hns (c.t.d.fact 35 (f := .glo "eval_state") rfl), F⟩
  | f_give_state => obtain ⟨fd, F⟩ := c.t.d.def_ 36 (d := dd .f_give_state) rfl; exact ⟨_, fd, He.glo_ok KX hns (c.t.d.fact 36 (f := .glo "give_state") rfl), F⟩
  | f_step_frames => obtain ⟨fd, F⟩ := c.t.d.def_ 37 (d := dd .f_step_frames) rfl; exact ⟨_, fd, He.glo_ok KX hns (c.t.d.fact 37 (f := .glo "step_frames") rfl), F⟩
  | f_run_frames => obtain ⟨fd, F⟩ := c.t.d.def_ 38 (d := dd .f_run_frames) rfl; exact ⟨_, fd, He.glo_ok KX hns (c.t.d.fact 38 (f := .glo "run_frames") rfl), F⟩
  | f_ways => obtain ⟨fd, F⟩ := c.t.d.def_ 39 (d := dd .f_ways) rfl; exact ⟨_, fd, He.glo_ok KX hns (c.t.d.fact 39 (f := .glo "ways") rfl), F⟩
  | f_run_way => obtain ⟨fd, F⟩ := c.t.d.def_ 40 (d := dd .f_run_way) rfl; exact ⟨_, fd, He.glo_ok KX hns (c.t.d.fact 40 (f := .glo "run_way") rfl), F⟩
  | f_law_same => obtain ⟨fd, F⟩ := c.t.d.def_ 41 (d := dd .f_law_same) rfl; exact ⟨_, fd, He.glo_ok KX hns (c.t.d.fact 41 (f := .glo "_law_same") rfl), F⟩
  | f_law_pool => obtain ⟨fd, F⟩ := c.t.d.def_ 42 (d := dd .f_law_pool) rfl; exact ⟨_, fd, He.glo_ok KX hns (c.t.d.fact 42 (f := .glo "_law_pool") rfl), F⟩
  | f_law_spread => obtain ⟨fd, F⟩ := c.t.d.def_ 43 (d := dd .f_law_spread) rfl; exact ⟨_, fd, He.glo_ok KX hns (c.t.d.fact 43 (f := .glo "_law_spread") rfl), F⟩
  | f_law_draw => obtain ⟨fd, F⟩ := c.t.d.def_ 44 (d := dd .f_law_draw) rfl; exact ⟨_, fd, He.glo_ok KX hns (c.t.d.fact 44 (f := .glo "_law_draw") rfl), F⟩
  | f_law_pick => obtain ⟨fd, F⟩ := c.t.d.def_ 45 (d := dd .f_law_pick) rfl; exact ⟨_, fd, He.glo_ok KX hns (c.t.d.fact 45 (f := .glo "_law_pick") rfl), F⟩
  | f_law_worked => obtain ⟨fd, F⟩ := c.t.d.def_ 46 (d := dd .f_law_worked) rfl; exact ⟨_, fd, He.glo_ok KX hns (c.t.d.fact 46 (f := .glo "_law_worked") rfl), F⟩
  | f_law_value => obtain ⟨fd, F⟩ := c.t.d.def_ 47 (d := dd .f_law_value) rfl; exact ⟨_, fd, He.glo_ok KX hns (c.t.d.fact 47 (f := .glo "_law_value") rfl), F⟩
  | f_law_expression => obtain ⟨fd, F⟩ := c.t.d.def_ 48 (d := dd .f_law_expression) rfl; exact ⟨_, fd, He.glo_ok KX hns (c.t.d.fact 48 (f := .glo "_law_expression") rfl), F⟩
  | f_law_store => obtain ⟨fd, F⟩ := c.t.d.def_ 49 (d := dd .f_law_store) rfl; exact ⟨_, fd, He.glo_ok KX hns (c.t.d.fact 49 (f := .glo "_law_store") rfl), F⟩
  | f_law_block => obtain ⟨fd, F⟩ := c.t.d.def_ 50 (d := dd .f_law_block) rfl; exact ⟨_, fd, He.glo_ok KX hns (c.t.d.fact 50 (f := .glo "_law_block") rfl), F⟩
  | f_law_deed => obtain ⟨fd, F⟩ := c.t.d.def_ 51 (d := dd .f_law_deed) rfl; exact ⟨_, fd, He.glo_ok KX hns (c.t.d.fact 51 (f := .glo "_law_deed") rfl), F⟩
  | f_law_program => obtain ⟨fd, F⟩ := c.t.d.def_ 52 (d := dd .f_law_program) rfl; exact ⟨_, fd, He.glo_ok KX hns (c.t.d.fact 52 (f := .glo "_law_program") rfl), F⟩
  | f_law_do => obtain ⟨fd, F⟩ := c.t.d.def_ 53 (d := dd .f_law_do) rfl; exact ⟨_, fd, He.glo_ok KX hns (c.t.d.fact 53 (f := .glo "_law_do") rfl), F⟩
  | f_law_loop => obtain ⟨fd, F⟩ := c.t.d.def_ 54 (d := dd .f_law_loop) rfl; exact ⟨_, fd, He.glo_ok KX hns (c.t.d.fact 54 (f := .glo "_law_loop") rfl), F⟩
  | f_law_run => obtain ⟨fd, F⟩ := c.t.d.def_ 55 (d := dd .f_law_run) rfl; exact ⟨_, fd, He.glo_ok KX hns (c.t.d.fact 55 (f := .glo "_law_run") rfl), F⟩
  | f_law_deeds_of => obtain ⟨fd, F⟩ := c.t.d.def_ 56 (d := dd .f_law_deeds_of) rfl; exact ⟨_, fd, He.glo_ok KX hns (c.t.d.fact 56 (f := .glo "_law_deeds_of") rfl), F⟩
  | f_law => obtain ⟨fd, F⟩ := c.t.d.def_ 57 (d := dd .f_law) rfl; exact ⟨_, fd, He.glo_ok KX hns (c.t.d.fact 57 (f := .glo "law") rfl), F⟩
theorem glo_nm (KX : K.In h) (hns : h.Ns mainGlobals mg) (c : He.SaysX hfa hfn hts [] hex w h K) (f : Fnm) (hl : loc f = .inl (nm f)) : mg (nm f) = some (.ref (He.ga K (nm f))) := by
  cases f with
  | f_is_whole => exact He.glo_ok KX hns (c.t.d.fact 0 (f := .glo "is_whole") rfl)
  | f_is_from => exact He.glo_ok KX hns (c.t.d.fact 1 (f := .glo "is_from") rfl)
  | f_is_store => exact He.glo_ok KX hns (c.t.d.fact 2 (f := .glo "is_store") rfl)
  | f_is_tagged => exact He.glo_ok KX hns (c.t.d.fact 3 (f := .glo "is_tagged") rfl)
  | f_with_value => exact He.glo_ok KX hns (c.t.d.fact 4 (f := .glo "with_value") rfl)
  | f_has_shape => exact He.glo_ok KX hns (c.t.d.fact 5 (f := .glo "has_shape") rfl)
  | f_is_expression => exact He.glo_ok KX hns (c.t.d.fact 6 (f := .glo "is_expression") rfl)
  | f_worked => exact He.glo_ok KX hns (c.t.d.fact 7 (f := .glo "worked") rfl)
  | f_value_of => exact He.glo_ok KX hns (c.t.d.fact 8 (f := .glo "value_of") rfl)
  | f_is_deed => exact He.glo_ok KX hns (c.t.d.fact 9 (f := .glo "is_deed") rfl)
  | f_is_block => exact He.glo_ok KX hns (c.t.d.fact 10 (f := .glo "is_block") rfl)
  | f_fault_trees => exact He.glo_ok KX hns (c.t.d.fact 11 (f := .glo "fault_trees") rfl)
  | f_Run___init__ => cases hl
  | f_Run_do_block => cases hl
  | f_Run_do => cases hl
  | f_run_trees => exact He.glo_ok KX hns (c.t.d.fact 15 (f := .glo "run_trees") rfl)
  | f_is_state => exact He.glo_ok KX hns (c.t.d.fact 16 (f := .glo "is_state") rfl)
  | f_is_told => exact He.glo_ok KX hns (c.t.d.fact 17 (f := .glo "is_told") rfl)
  | f_takes_turn_steps => exact He.glo_ok KX hns (c.t.d.fact 18 (f := .glo "takes_turn_steps") rfl)
  | f_step_steps => exact He.glo_ok KX hns (c.t.d.fact 19 (f := .glo "step_steps") rfl)
  | f_trace => exact He.glo_ok KX hns (c.t.d.fact 20 (f := .glo "trace") rfl)
  | f_run_steps => exact He.glo_ok KX hns (c.t.d.fact 21 (f := .glo "run_steps") rfl)
  | f_fault_steps => exact He.glo_ok KX hns (c.t.d.fact 22 (f := .glo "fault_steps") rfl)
  | f_Debugger___init__ => cases hl
  | f_Debugger___len__ => cases hl
  | f_Debugger_state => cases hl
  | f_Debugger_turns => cases hl
  | f_Debugger_forth => cases hl
  | f_logged => exact He.glo_ok KX hns (c.t.d.fact 28 (f := .glo "logged") rfl)
  | f_is_log => exact He.glo_ok KX hns (c.t.d.fact 29 (f := .glo "is_log") rfl)
  | f_taken_back => exact He.glo_ok KX hns (c.t.d.fact 30 (f := .glo "taken_back") rfl)
  | f_start => exact He.glo_ok KX hns (c.t.d.fact 31 (f := .glo "start") rfl)
  | f_is_done => exact He.glo_ok KX hns (c.t.d.fact 32 (f := .glo "is_done") rfl)
  | f_takes_turn_frames => exact He.glo_ok KX hns (c.t.d.fact 33 (f := .glo "takes_turn_frames") rfl)
  | f_deed_state => exact He.glo_ok KX hns (c.t.d.fact 34 (f := .glo "deed_state") rfl)
  | f_eval_state => exact He.glo_ok KX hns (c.t.d.fact 35 (f := .glo "eval_state") rfl)
  | f_give_state => exact He.glo_ok KX hns (c.t.d.fact 36 (f := .glo "give_state") rfl)
  | f_step_frames => exact He.glo_ok KX hns (c.t.d.fact 37 (f := .glo "step_frames") rfl)
  | f_run_frames => exact He.glo_ok KX hns (c.t.d.fact 38 (f := .glo "run_frames") rfl)
  | f_ways => exact He.glo_ok KX hns (c.t.d.fact 39 (f := .glo "ways") rfl)
  | f_run_way => exact He.glo_ok KX hns (c.t.d.fact 40 (f := .glo "run_way") rfl)
  | f_law_same => exact He.glo_ok KX hns (c.t.d.fact 41 (f := .glo "_law_same") rfl)
  | f_law_pool => exact He.glo_ok KX hns (c.t.d.fact 42 (f := .glo "_law_pool") rfl)
  | f_law_spread => exact He.glo_ok KX hns (c.t.d.fact 43 (f := .glo "_law_spread") rfl)
  | f_law_draw => exact He.glo_ok KX hns (c.t.d.fact 44 (f := .glo "_law_draw") rfl)
  | f_law_pick => exact He.glo_ok KX hns (c.t.d.fact 45 (f := .glo "_law_pick") rfl)
  | f_law_worked => exact He.glo_ok KX hns (c.t.d.fact 46 (f := .glo "_law_worked") rfl)
  | f_law_value => exact He.glo_ok KX hns (c.t.d.fact 47 (f := .glo "_law_value") rfl)
  | f_law_expression => exact He.glo_ok KX hns (c.t.d.fact 48 (f := .glo "_law_expression") rfl)
  | f_law_store => exact He.glo_ok KX hns (c.t.d.fact 49 (f := .glo "_law_store") rfl)
  | f_law_block => exact He.glo_ok KX hns (c.t.d.fact 50 (f := .glo "_law_block") rfl)
  | f_law_deed => exact He.glo_ok KX hns (c.t.d.fact 51 (f := .glo "_law_deed") rfl)
  | f_law_program => exact He.glo_ok KX hns (c.t.d.fact 52 (f := .glo "_law_program") rfl)
  | f_law_do => exact He.glo_ok KX hns (c.t.d.fact 53 (f := .glo "_law_do") rfl)
  | f_law_loop => exact He.glo_ok KX hns (c.t.d.fact 54 (f := .glo "_law_loop") rfl)
  | f_law_run => exact He.glo_ok KX hns (c.t.d.fact 55 (f := .glo "_law_run") rfl)
  | f_law_deeds_of => exact He.glo_ok KX hns (c.t.d.fact 56 (f := .glo "_law_deeds_of") rfl)
  | f_law => exact He.glo_ok KX hns (c.t.d.fact 57 (f := .glo "law") rfl)
theorem txt_of (KX : K.In h) (hns : h.Ns mainGlobals mg) (c : He.SaysX hfa hfn hts [] hex w h K) : Txt (gxOf K) w mg := by
  have m := c.more
  obtain ⟨x0, m⟩ := He.ba m
  obtain ⟨x1, m⟩ := He.ba m
  obtain ⟨x2, m⟩ := He.ba m
  obtain ⟨x3, m⟩ := He.ba m
  constructor
  · exact He.free_ok KX hns (c.t.d.fact 68 (f := .free "all") rfl)
  · exact He.free_ok KX hns (c.t.d.fact 69 (f := .free "bool") rfl)
  · exact He.free_ok KX hns (c.t.d.fact 70 (f := .free "int") rfl)
  · exact He.free_ok KX hns (c.t.d.fact 71 (f := .free "isinstance") rfl)
  · exact He.free_ok KX hns (c.t.d.fact 72 (f := .free "len") rfl)
  · exact He.free_ok KX hns (c.t.d.fact 73 (f := .free "list") rfl)
  · exact He.free_ok KX hns (c.t.d.fact 74 (f := .free "range") rfl)
  · exact He.free_ok KX hns (c.t.d.fact 75 (f := .free "sorted") rfl)
  · exact He.free_ok KX hns (c.t.d.fact 76 (f := .free "str") rfl)
  · exact He.free_ok KX hns (c.t.d.fact 77 (f := .free "sum") rfl)
  · exact He.free_ok KX hns (c.t.d.fact 78 (f := .free "tuple") rfl)
  · exact He.int_ok KX hns (c.t.d.fact 79 (f := .int "DEEPEST_expressions" 60) rfl)
  · exact He.int_ok KX hns (c.t.d.fact 80 (f := .int "DEEPEST_steps" 31) rfl)
  · exact He.int_ok KX hns (c.t.d.fact 81 (f := .int "DEEPEST_trees" 30) rfl)
  · exact ⟨_, He.glo_ok KX hns (c.t.d.fact 82 (f := .glo "FORM") rfl), fun H => ⟨_, _, rfl, He.tupB_ok x0 H, by repeat (first | exact rfl | refine ⟨_, _, rfl, rfl, ?_⟩)⟩⟩
  · exact He.int_ok KX hns (c.t.d.fact 83 (f := .int "MOST_basics" 100000) rfl)
  · exact He.int_ok KX hns (c.t.d.fact 84 (f := .int "MOST_debugger" 100000) rfl)
  · exact He.int_ok KX hns (c.t.d.fact 85 (f := .int "NAMES" 4) rfl)
  · exact ⟨_, He.glo_ok KX hns (c.t.d.fact 86 (f := .glo "NEXT") rfl), fun H => ⟨_, _, rfl, He.tupB_ok x1 H, by repeat (first | exact rfl | refine ⟨_, _, rfl, rfl, ?_⟩)⟩⟩
  · exact ⟨_, He.glo_ok KX hns (c.t.d.fact 87 (f := .glo "PAIRS") rfl), fun H => ⟨_, _, rfl, He.tupB_ok x2 H, by repeat (first | exact rfl | refine ⟨_, _, rfl, rfl, ?_⟩)⟩⟩
  · exact He.int_ok KX hns (c.t.d.fact 88 (f := .int "SIZE" 1000) rfl)
  · refine ⟨_, He.glo_ok KX hns (c.t.d.fact 89 (f := .glo "WAYS") rfl), c.t.tab 0 rfl, fun z r hz => ?_, fun z n hz => ?_⟩
    · obtain ⟨q, hq, rfl, e⟩ := tk_mem (vs := hv_WAYS) rfl hz
      obtain ⟨u, hu, _⟩ := He.valsB_ok x3 hq
      exact ⟨_, hu, e.symm⟩
    · obtain ⟨q, hq, rfl, e⟩ := tn_mem (nm := nm) (vs := hv_WAYS) (by decide) hz
      obtain ⟨es, dn, KD⟩ := c.t.tab 0 rfl
      obtain ⟨u, hu, ru⟩ := He.valsB_ok x3 hq
      refine ⟨He.ga K (nm n), ⟨es, dn, u, KD.at_, KD.lit, hu, by rw [e] at ru; exact ru⟩, glo_nm KX hns c n (tab_P (P := fun n => loc n = .inl (nm n)) (l := tn_WAYS) (by decide) hz)⟩
  · intro d hd; cases (He.glo_ok KX hns (c.t.d.fact 89 (f := .glo "WAYS") rfl)).symm.trans hd; exact tab_dicW c.t 0 rfl
  · exact He.cls_ok (c.t.d.fact 58 (f := .cls "Debugger") rfl)
  · exact He.cls_ok (c.t.d.fact 59 (f := .cls "Run") rfl)
  · exact He.noat_ok (c.t.d.fact 60 (f := .noat "Debugger" "_states") rfl)
  · exact He.noat_ok (c.t.d.fact 61 (f := .noat "Run" "store") rfl)
  · exact He.noat_ok (c.t.d.fact 62 (f := .noat "Run" "told") rfl)
  · exact He.noat_ok (c.t.d.fact 63 (f := .noat "Run" "turns") rfl)
  · exact He.mkr_ok (c.t.d.fact 64 (f := .mkr "Debugger") rfl)
  · exact He.glo_ok KX hns (c.t.d.fact 65 (f := .glo "Debugger") rfl)
  · exact He.mkr_ok (c.t.d.fact 66 (f := .mkr "Run") rfl)
  · exact He.glo_ok KX hns (c.t.d.fact 67 (f := .glo "Run") rfl)
end
/-- what the mirror must answer -/
abbrev LawOk (n k : Nat) : Prop := ∀ ns : List Int, ns.length ≤ n → ∃ S, prog (k + 1) .f_law [.d (.ro ns)] [] = some (.ok (.d (.bl true)), S)
theorem holds_of {n : Nat} (hn : (PySem.Challenge.rw_everymeaning_k73_whole_states_gone_on_fr).most = some n) (hn2 : n ≤ sizeLine) (hlaw : LawOk n 114) : (PySem.Challenge.rw_everymeaning_k73_whole_states_gone_on_fr).Holds := by
  w_on; o_law
  refine HandSHeadRun.head_any (r := HR) (q := HQ) (H := hk) (ob := hob) (M := 8000) (loose := hnames) (d := HandSHeadRun.topDef HR.prog lawIx) (kwd := []) hob_eq
    (by kernel_rfl) (fun s => by kernel_rfl) hrun (by kernel_rfl) (by kernel_rfl) (by kernel_rfl) (by rfl) (by first | assumption | decide +kernel) (by decide +kernel) ⟨rfl, rfl, rfl, rfl, rfl, by decide +kernel⟩ ?hw ?hc
  case hw => w_witness2
  case hc =>
    refine walk_ofW (l := PySem.Challenge.rw_everymeaning_k73_whole_states_gone_on_fr) (n := n) (k := 230) (x := "script") hn hn2 (by kernel_rfl) ⟨rfl, by decide, by decide⟩ ?F
    intro w mg fa h Y G hmg0
    obtain ⟨K, KX, c⟩ := Y
    have hmg : mg ("law" : PySem.Str) = some (.ref fa) := by
      have e : (HandSHeadRun.topDef HR.prog lawIx).name = ("law" : PySem.Str) := by kernel_rfl
      rw [← e]
      exact hmg0
    obtain ⟨ad, fd, hm, F⟩ := fnAt_of KX G c .f_law
    have e := hm.symm.trans hmg
    cases e
    have b := FunD.bindsA (ps := ["script"]) F fun _ _ _ _ _ _ us hl => match us, hl with | [_], _ => rfl
    refine ⟨K, fd, spF (gxOf K) 1 (prog 115 .f_law), KX, fun s v => b s [v] rfl, fun H a ns hl _ hS => law_sp hlaw H a ns hl hS, fun base _ _ => ?_⟩
    exact fn_ok (k := 2 * 114 + 1) (fun_of F) sc_law rfl rfl fun cdv A outer s H E hr => q_law (txt_of KX G c) (all_has (txt_of KX G c) (fnAt_of KX G c) 114) hr
end Y

set_option Elab.async false
set_option linter.all false
set_option maxRecDepth 100000
set_option maxHeartbeats 4000000
namespace Y
open PySem PySem.Spec L2
/-! ### running the small interpreter: equations -/
@[simp] theorem bnd_def {α β : Type} (x : M α) (g : α → M β) (S : Store) : bnd x g S = match x S with
  | none => none
  | some (.exc e, S') => some (.exc e, S')
  | some (.ok a, S') => g a S' := rfl
@[simp] theorem ret_def {α : Type} (a : α) (S : Store) : ret a S = some (.ok a, S) := rfl
@[simp] theorem lift_some {α : Type} (a : α) (S : Store) : lift (some a) S = some (.ok a, S) := rfl
@[simp] theorem fVar_def (i : Nat) (env : Env) (S : Store) : fVar i env S = lift ((env[i]?).join) S := rfl
@[simp] theorem fC_def (x : D) (env : Env) (S : Store) : fC x env S = some (.ok (.d x), S) := rfl
@[simp] theorem fBin_def {α : Type} (op : Val → Val → M α) (fa fb : FE) (env : Env) (S : Store) : fBin op fa fb env S = bnd (fa env) (fun x => bnd (fb env) fun y => op x y) S := rfl
@[simp] theorem fT_def (f : FE) (env : Env) (S : Store) : fT f env S = bnd (f env) asB S := rfl
@[simp] theorem asB_def (b : Bool) (S : Store) : asB (.d (.bl b)) S = some (.ok b, S) := rfl
@[simp] theorem fCons_def (fa : FE) (fs : FA) (env : Env) (S : Store) : fCons fa fs env S = bnd (fa env) (fun x => bnd (fs env) fun xs => ret (x :: xs)) S := rfl
@[simp] theorem fNil_def (env : Env) (S : Store) : fNil env S = some (.ok [], S) := rfl
@[simp] theorem fTup_def (fs : FA) (env : Env) (S : Store) : fTup fs env S = bnd (fs env) mkTup S := rfl
@[simp] theorem fLst_def (fs : FA) (env : Env) (S : Store) : fLst fs env S = bnd (fs env) okL S := rfl
@[simp] theorem fFrz_def (fs : FA) (env : Env) (S : Store) : fFrz fs env S = bnd (fs env) frz S := rfl
@[simp] theorem fNew_def (fs : FA) (env : Env) (S : Store) : fNew fs env S = bnd (fs env) new S := rfl
@[simp] theorem new_def (xs : List Val) (S : Store) : new xs S = some (.ok (.r S.length), S ++ [.lst xs]) := rfl
@[simp] theorem fCall_def {α : Type} (op : List Val → M α) (fs : FA) (env : Env) (S : Store) : fCall op fs env S = bnd (fs env) op S := rfl
@[simp] theorem fSeq_def (f : FE) (env : Env) (S : Store) : fSeq f env S = bnd (f env) (fun x => lift (fzV x)) S := rfl
@[simp] theorem fUn_def (f : FE) (env : Env) (S : Store) : fUn f env S = bnd (f env) unN S := rfl
@[simp] theorem fIf_def {α : Type} (gc : FB) (fa fb : Env → M α) (env : Env) (S : Store) : fIf gc fa fb env S = bnd (gc env) (fun k => if k = true then fa env else fb env) S := rfl
@[simp] theorem gAnd_def (ga gb : FB) (env : Env) (S : Store) : gAnd ga gb env S = bnd (ga env) (fun k => if k = true then gb env else ret false) S := rfl
@[simp] theorem gOr_def (ga gb : FB) (env : Env) (S : Store) : gOr ga gb env S = bnd (ga env) (fun k => if k = true then ret true else gb env) S := rfl
@[simp] theorem gNot_def (ga : FB) (env : Env) (S : Store) : gNot ga env S = bnd (ga env) (fun k => ret (!k)) S := rfl
@[simp] theorem gYes_def (env : Env) (S : Store) : gYes env S = some (.ok true, S) := rfl
@[simp] theorem fSl_def (fa : FE) (lo hi : FO) (env : Env) (S : Store) : fSl fa lo hi env S = bnd (fa env) (fun x => bnd (lo env) fun l => bnd (hi env) fun h => oSl x l h) S := rfl
@[simp] theorem fNo_def (env : Env) (S : Store) : fNo env S = some (.ok none, S) := rfl
@[simp] theorem fPart_def (f : FE) (env : Env) (S : Store) : fPart f env S = bnd (f env) (fun x => lift ((asI x).map some)) S := rfl
@[simp] theorem fNeg_def (f : FE) (env : Env) (S : Store) : fNeg f env S = bnd (f env) (fun x => lift ((asI x).map fun i => .d (.int (-i)))) S := rfl
@[simp] theorem asI_int (i : Int) : asI (.d (.int i)) = some i := rfl
@[simp] theorem ite_app {α β : Type} {c : Prop} [Decidable c] (f g : α → β) (x : α) : (if c then f else g) x = if c then f x else g x := by split <;> rfl
@[simp] theorem bS_ok {α : Type} (a : α) (S : Store) (env : Env) (k : α → Store → SO) : bS (some (.ok a, S)) env k = k a S := rfl
@[simp] theorem sSeq_def (g1 g2 : FS) (env : Env) (S : Store) : sSeq g1 g2 env S = match g1 env S with
  | some (.nx, env', S') => g2 env' S'
  | o => o := rfl
@[simp] theorem sNil_def (env : Env) (S : Store) : sNil env S = some (.nx, env, S) := rfl
@[simp] theorem sRet_def (f : FE) (env : Env) (S : Store) : sRet f env S = bS (f env S) env fun x S' => some (.rt x, env, S') := rfl
@[simp] theorem sDo_def (f : FE) (env : Env) (S : Store) : sDo f env S = bS (f env S) env fun _ S' => some (.nx, env, S') := rfl
@[simp] theorem sIf_def (gc : FB) (g1 g2 : FS) (env : Env) (S : Store) : sIf gc g1 g2 env S = bS (gc env S) env fun k S' => if k = true then g1 env S' else g2 env S' := rfl
@[simp] theorem sSet_def (i : Nat) (f : FE) (env : Env) (S : Store) : sSet i f env S = bS (f env S) env fun x S' => some (.nx, env.set i (some x), S') := rfl
@[simp] theorem sFor_def (fi : FA) (gt : Val → Env → Option Env) (body : FS) (env : Env) (S : Store) : sFor fi gt body env S = bS (fi env S) env fun xs S' => forL gt body xs env S' := rfl
@[simp] theorem sPar_def (i j : Nat) (fs : FA) (env : Env) (S : Store) : sPar i j fs env S = bS (fs env S) env fun xs S' => match xs with
  | [x, y] => some (.nx, (env.set i (some x)).set j (some y), S')
  | _ => none := rfl
@[simp] theorem oIx_tup (ds : List D) (i : Int) (S : Store) : oIx (.d (.tup ds)) (.d (.int i)) S = (atI (ds.map Val.d) i).map fun x => (.ok x, S) := rfl
@[simp] theorem oIx_lst (ds : List D) (i : Int) (S : Store) : oIx (.d (.lst ds)) (.d (.int i)) S = (atI (ds.map Val.d) i).map fun x => (.ok x, S) := rfl
theorem atI_nat {α : Type} (xs : List α) (n : Nat) : atI xs (n : Int) = xs[n]? := by
  unfold atI ixN
  rw [if_pos (by omega)]
  by_cases h : n < xs.length
  · rw [if_pos (by omega)]; rfl
  · rw [if_neg (by omega), List.getElem?_eq_none (by omega)]; rfl
@[simp] theorem atI_0 {α : Type} (xs : List α) : atI xs 0 = xs[0]? := atI_nat xs 0
@[simp] theorem atI_1 {α : Type} (xs : List α) : atI xs 1 = xs[1]? := atI_nat xs 1
@[simp] theorem atI_2 {α : Type} (xs : List α) : atI xs 2 = xs[2]? := atI_nat xs 2
@[simp] theorem atI_3 {α : Type} (xs : List α) : atI xs 3 = xs[3]? := atI_nat xs 3
@[simp] theorem atI_4 {α : Type} (xs : List α) : atI xs 4 = xs[4]? := atI_nat xs 4
@[simp] theorem atI_last {α : Type} (xs : List α) : atI xs (-1) = xs.getLast? := by
  unfold atI ixN
  rw [if_neg (by decide)]
  cases xs with
  | nil => rfl
  | cons x r =>
    have e : ((-1 : Int) + ((x :: r).length : Nat)).toNat = (x :: r).length - 1 := by simp only [List.length_cons]; omega
    rw [if_pos (by simp only [List.length_cons]; omega), List.getLast?_eq_getElem?, e]
    rfl
@[simp] theorem oIn_tup (neg : Bool) (z : Str) (ds : List D) (S : Store) : oIn neg (.d (.str z)) (.d (.tup ds)) S = match flats (ds.map Val.d) with
  | some ts => some (.ok (.d (.bl (if neg then !inV (.str z) ts else inV (.str z) ts))), S)
  | none => none := by
  unfold oIn
  show (match some (V.str z), (some (ds.map Val.d)).bind flats with | some t, some ts => _ | _, _ => none) = _
  rw [Option.bind_some]
  cases flats (ds.map Val.d) <;> rfl
@[simp] theorem flats_nil : flats [] = some [] := rfl
@[simp] theorem flats_str (z : Str) (r : List Val) : flats (.d (.str z) :: r) = (flats r).map (V.str z :: ·) := by
  show (match some (V.str z), flats r with | some a, some b => some (a :: b) | _, _ => none) = _
  cases flats r <;> rfl
theorem shaped_str {a : Str} (h : PyData.strOk a = true) : SeqAt.shaped (.str a) = true := by
  unfold SeqAt.shaped
  simp [PyData.canLay0, PyData.depth, h]
theorem eqD_str (a b : Str) (h : PyData.strOk a = true) (h2 : PyData.strOk b = true) : eqD (.str a) (.str b) = some (decide (a = b)) := by
  unfold eqD
  simp only [D.toP]
  rw [if_pos (by rw [shaped_str h, shaped_str h2]; rfl)]
  unfold PyData.eqv
  first | rfl | simp [beq_eq_decide]
theorem eqD_int (a b : Int) : eqD (.int a) (.int b) = some (decide (a = b)) := by
  unfold eqD
  simp only [D.toP]
  rw [if_pos (by rfl)]
  unfold PyData.eqv
  first | rfl | simp [beq_eq_decide]
theorem oEq_of (neg : Bool) {a b : D} {k : Bool} (h : eqD a b = some k) (S : Store) : oEq neg (.d a) (.d b) S = some (.ok (.d (.bl (k != neg))), S) := by
  unfold oEq
  show lift ((eqD a b).map _) S = _
  rw [h]; rfl
@[simp] theorem oEq_str (neg : Bool) (a b : Str) (S : Store) (h : PyData.strOk a = true) (h2 : PyData.strOk b = true) : oEq neg (.d (.str a)) (.d (.str b)) S = some (.ok (.d (.bl (decide (a = b) != neg))), S) := oEq_of neg (eqD_str a b h h2) S
@[simp] theorem oEq_int (neg : Bool) (a b : Int) (S : Store) : oEq neg (.d (.int a)) (.d (.int b)) S = some (.ok (.d (.bl (decide (a = b) != neg))), S) := oEq_of neg (eqD_int a b) S
@[simp] theorem oAdd_int (a b : Int) (S : Store) : oPlus (.d (.int a)) (.d (.int b)) S = some (.ok (.d (.int (a + b))), S) := rfl
@[simp] theorem oLt_def (a b : Int) (S : Store) : oLt (.d (.int a)) (.d (.int b)) S = some (.ok (.d (.bl (decide (a < b)))), S) := rfl
@[simp] theorem oLe_def (a b : Int) (S : Store) : oLe (.d (.int a)) (.d (.int b)) S = some (.ok (.d (.bl (decide (a ≤ b)))), S) := rfl
@[simp] theorem oGt_def (a b : Int) (S : Store) : oGt (.d (.int a)) (.d (.int b)) S = some (.ok (.d (.bl (decide (b < a)))), S) := rfl
@[simp] theorem oGe_def (a b : Int) (S : Store) : oGe (.d (.int a)) (.d (.int b)) S = some (.ok (.d (.bl (decide (b ≤ a)))), S) := rfl
theorem oPlus_tup (a b : List D) (S : Store) (h : a.length + b.length ≤ sizeLine) : oPlus (.d (.tup a)) (.d (.tup b)) S = some (.ok (.d (.tup (a ++ b))), S) := by
  show (if a.length + b.length ≤ sizeLine then ret (Val.d (.tup (a ++ b))) else stk) S = _
  rw [if_pos h]; rfl
theorem datas_mapD (ds : List D) : datas (ds.map Val.d) = some ds := by
  induction ds with
  | nil => rfl
  | cons x r ih => show (datas (r.map Val.d)).map (x :: ·) = _; rw [ih]; rfl
theorem frz_map (ds : List D) (S : Store) : frz (ds.map Val.d) S = some (.ok (.d (.lst ds)), S) := by
  unfold Y.frz
  rw [datas_mapD]; rfl
theorem lstV_lst (ds : List D) (S : Store) : lstV (.d (.lst ds)) S = some (ds.map Val.d) := rfl
theorem okL_ok (xs : List Val) (S : Store) (h : xs.length ≤ sizeLine) : okL xs S = some (.ok xs, S) := by
  unfold okL; rw [if_pos h]; rfl
theorem oPlus_lst (a b : List D) (S : Store) (h : a.length + b.length ≤ sizeLine) : oPlus (.d (.lst a)) (.d (.lst b)) S = some (.ok (.d (.lst (a ++ b))), S) := by
  show bnd (oCat (.d (.lst a)) (.d (.lst b))) frz S = _
  have : oCat (.d (.lst a)) (.d (.lst b)) S = some (.ok ((a ++ b).map Val.d), S) := by
    show okL (a.map Val.d ++ b.map Val.d) S = _
    rw [← List.map_append, okL_ok _ _ (by simpa using h)]
  rw [bnd_def, this]
  exact frz_map _ S
theorem mkTup_map (ds : List D) (S : Store) (h : ds.length ≤ sizeLine) : mkTup (ds.map Val.d) S = some (.ok (.d (.tup ds)), S) := by
  unfold mkTup
  rw [if_pos (by simpa using h), datas_mapD]; rfl
@[simp] theorem mkTup_1 (a : D) (S : Store) : mkTup [.d a] S = some (.ok (.d (.tup [a])), S) := mkTup_map [a] S (by show 1 ≤ sizeLine; decide)
@[simp] theorem mkTup_2 (a b : D) (S : Store) : mkTup [.d a, .d b] S = some (.ok (.d (.tup [a, b])), S) := mkTup_map [a, b] S (by show 2 ≤ sizeLine; decide)
@[simp] theorem mkTup_3 (a b c : D) (S : Store) : mkTup [.d a, .d b, .d c] S = some (.ok (.d (.tup [a, b, c])), S) := mkTup_map [a, b, c] S (by show 3 ≤ sizeLine; decide)
@[simp] theorem mkTup_4 (a b c d : D) (S : Store) : mkTup [.d a, .d b, .d c, .d d] S = some (.ok (.d (.tup [a, b, c, d])), S) := mkTup_map [a, b, c, d] S (by show 4 ≤ sizeLine; decide)
@[simp] theorem mkTup_5 (a b c d e : D) (S : Store) : mkTup [.d a, .d b, .d c, .d d, .d e] S = some (.ok (.d (.tup [a, b, c, d, e])), S) := mkTup_map [a, b, c, d, e] S (by show 5 ≤ sizeLine; decide)
@[simp] theorem mkTup_0 (S : Store) : mkTup [] S = some (.ok (.d (.tup [])), S) := mkTup_map [] S (by show 0 ≤ sizeLine; decide)
@[simp] theorem oLen_tup (ds : List D) (S : Store) : oLen [.d (.tup ds)] S = some (.ok (.d (.int ds.length)), S) := by
  show some (Ex.ok (Val.d (.int ((ds.map Val.d).length : Nat))), S) = _
  rw [List.length_map]
@[simp] theorem oLen_lst (ds : List D) (S : Store) : oLen [.d (.lst ds)] S = some (.ok (.d (.int ds.length)), S) := by
  show some (Ex.ok (Val.d (.int ((ds.map Val.d).length : Nat))), S) = _
  rw [List.length_map]
theorem mapM_asI2 (ns : List Int) : ((ns.map D.int).map Val.d).mapM asI = some ns := by
  induction ns with
  | nil => rfl
  | cons n r ih => rw [List.map_cons, List.map_cons, List.mapM_cons, ih]; rfl
theorem intsL_ints (ns : List Int) (S : Store) : intsL (.d (.lst (ns.map .int))) S = some ns := mapM_asI2 ns
theorem c1_ok {α β : Type} {g : Val → Store → Option α} {k : α → M β} {x : Val} {S : Store} {a : α} (h : g x S = some a) : c1 g k [x] S = k a S := by
  unfold c1
  show (match g x S with | some a => k a S | none => none) = _
  rw [h]
@[simp] theorem oSum_ints (ns : List Int) (S : Store) : oSum [.d (.lst (ns.map .int))] S = some (.ok (.d (.int ns.sum)), S) := c1_ok (intsL_ints ns S)
theorem oMax_ints (n : Int) (ns : List Int) (S : Store) : oMx maxI [.d (.lst (.int n :: ns.map .int))] S = some (.ok (.d (.int (maxI (n :: ns)))), S) := by
  show (match intsL (.d (.lst ((n :: ns).map .int))) S with | some (n :: ns) => some (Ex.ok (Val.d (.int (maxI (n :: ns)))), S) | _ => none) = _
  rw [intsL_ints]
@[simp] theorem oMax_2 (i j : Int) (S : Store) : oMx maxI [.d (.int i), .d (.int j)] S = some (.ok (.d (.int (max i j))), S) := rfl
@[simp] theorem oTuple_lst (ds : List D) (S : Store) : oTuple [.d (.lst ds)] S = some (.ok (.d (.tup ds)), S) := c1_ok (a := ds) (datas_mapD ds)
@[simp] theorem oSl_tup (ds : List D) (lo hi : Option Int) (S : Store) : oSl (.d (.tup ds)) lo hi S = some (.ok (.d (.tup (cutL ds lo hi))), S) := rfl
@[simp] theorem fzV_tup (ds : List D) : fzV (.d (.tup ds)) = some (ds.map Val.d) := rfl
@[simp] theorem fzV_lst (ds : List D) : fzV (.d (.lst ds)) = some (ds.map Val.d) := rfl
@[simp] theorem oInt1_int (i : Int) (S : Store) : oInt1 [.d (.int i)] S = some (.ok (.d (.int i)), S) := rfl
@[simp] theorem cutL_from1 {α : Type} (x : α) (r : List α) : cutL (x :: r) (some 1) none = r := by
  unfold cutL HT.sIx
  simp
@[simp] theorem cutL_from2 {α : Type} (x y : α) (r : List α) : cutL (x :: y :: r) (some 2) none = r := by
  unfold cutL HT.sIx
  simp
@[simp] theorem cutL_toLast {α : Type} (r : List α) : cutL r none (some (-1)) = r.dropLast := by
  unfold cutL HT.sIx
  simp [List.dropLast_eq_take]
  congr 1
  omega
/-! a def -/
theorem cutOk_app (S T : Store) : cutOk S (S ++ T) := ⟨by simp, fun i o h e => .inl (by rw [List.getElem?_append_left h] at e; exact e)⟩
theorem fnM_app {n N : Nat} {body : FS} {args : List Val} {S T : Store} {env : Env} {v : D} (hn : args.length = n) (h : body (envOf N args) S = some (.rt (.d v), env, S ++ T)) : fnM n N true body args S = some (.ok (.d v), S) := by
  unfold fnM
  rw [if_pos hn, h]
  show cutF true S (.ok (.d v)) (S ++ T) = _
  unfold cutF
  rw [if_pos rfl, if_pos ⟨cutOk_app S T, fun r e => by cases e; rfl⟩, List.take_left']
  rfl
theorem fnM_same {n N : Nat} {body : FS} {args : List Val} {S : Store} {env : Env} {v : D} (hn : args.length = n) (h : body (envOf N args) S = some (.rt (.d v), env, S)) : fnM n N true body args S = some (.ok (.d v), S) :=
  fnM_app (T := []) hn (by rw [List.append_nil]; exact h)
theorem fnM_none {n N : Nat} {body : FS} {args : List Val} {S : Store} {env : Env} (hn : args.length = n) (h : body (envOf N args) S = some (.nx, env, S)) : fnM n N true body args S = some (.ok (.d .non), S) := by
  unfold fnM
  rw [if_pos hn, h]
  show cutF true S (.ok (.d .non)) S = _
  unfold cutF
  rw [if_pos rfl, if_pos ⟨by simpa using cutOk_app S [], fun r e => by cases e; rfl⟩, List.take_length]
theorem ck_ok {n : Nat} {F : Fn} {args : List Val} (h : args.length = n) : ck n F args = F args := by
  funext S; unfold ck; rw [if_pos h]
/-! comprehensions -/
theorem noX_ok {α : Type} {m : M α} {S S' : Store} {a : α} (h : m S = some (.ok a, S')) : noX m S = some (.ok a, S') := by unfold noX; rw [h]
theorem lcL_pure {α : Type} {gt : Val → Env → Option Env} {gc : FB} {f : FE} {env0 : Env} (g h : α → Val) (p : α → Bool) (S : Store) : ∀ (xs : List α) (acc : List Val), acc.length + xs.length ≤ sizeLine →
    (∀ x ∈ xs, ∃ env1, gt (g x) env0 = some env1 ∧ gc env1 S = some (.ok (p x), S) ∧ (p x = true → f env1 S = some (.ok (h x), S))) →
    lcL gt gc f env0 (xs.map g) acc S = some (.ok (acc ++ (xs.filter p).map h), S)
  | [], acc, _, _ => by show some (Ex.ok acc, S) = _; simp
  | x :: xs, acc, hl, H => by
    obtain ⟨env1, h1, h2, h3⟩ := H x List.mem_cons_self
    rw [List.length_cons] at hl
    show (match gt (g x) env0 with | none => none | some env1 => _) = _
    rw [h1]
    dsimp only
    rw [bnd_def, h2]
    dsimp only
    cases e : p x with
    | true =>
      rw [if_pos rfl, bnd_def, h3 e]
      dsimp only
      rw [if_pos (by omega), lcL_pure g h p S xs (acc ++ [h x]) (by rw [List.length_append, List.length_singleton]; omega) fun y hy => H y (List.mem_cons_of_mem _ hy), List.filter_cons_of_pos e]
      simp
    | false =>
      rw [if_neg (by decide), lcL_pure g h p S xs acc (by omega) fun y hy => H y (List.mem_cons_of_mem _ hy), List.filter_cons_of_neg (by rw [e]; decide)]
/-- the same of data -/
theorem fLc_pure {α : Type} {fi : FA} {gt : Val → Env → Option Env} {gc : FB} {f : FE} {vs : List Nat} {env : Env} {S : Store} (g h : α → D) (p : α → Bool) (xs : List α) (hi : fi env S = some (.ok ((xs.map g).map Val.d), S)) (hl : xs.length ≤ sizeLine)
    (H : ∀ x ∈ xs, ∃ env1, gt (.d (g x)) (wipeE env vs) = some env1 ∧ gc env1 S = some (.ok (p x), S) ∧ (p x = true → f env1 S = some (.ok (.d (h x)), S))) :
    fLc fi gt gc f vs env S = some (.ok (((xs.filter p).map h).map Val.d), S) := by
  show bnd (fi env) _ S = _
  rw [bnd_def, hi]
  dsimp only
  refine noX_ok ?_
  rw [List.map_map, lcL_pure (Val.d ∘ g) (Val.d ∘ h) p S xs [] (by simpa using hl) H]
  simp
/-- no test -/
theorem fLc_all {α : Type} {fi : FA} {gt : Val → Env → Option Env} {f : FE} {vs : List Nat} {env : Env} {S : Store} (g h : α → D) (xs : List α) (hi : fi env S = some (.ok ((xs.map g).map Val.d), S)) (hl : xs.length ≤ sizeLine)
    (H : ∀ x ∈ xs, ∃ env1, gt (.d (g x)) (wipeE env vs) = some env1 ∧ f env1 S = some (.ok (.d (h x)), S)) :
    fLc fi gt gYes f vs env S = some (.ok ((xs.map h).map Val.d), S) := by
  have := fLc_pure (gt := gt) (gc := gYes) (f := f) (vs := vs) g h (fun _ => true) xs hi hl fun x hx => by
    obtain ⟨env1, h1, h2⟩ := H x hx
    exact ⟨env1, h1, rfl, fun _ => h2⟩
  rw [List.filter_eq_self.mpr fun _ _ => rfl] at this
  exact this
theorem sl {n : Nat} (h : n ≤ 16000000) : n ≤ sizeLine := Nat.le_trans h (by decide)
theorem sl' {n : Nat} (h : n < 16000000) : n < sizeLine := Nat.lt_of_lt_of_le h (by decide)
@[simp] theorem frz_0 (S : Store) : frz [] S = some (.ok (.d (.lst [])), S) := rfl
@[simp] theorem frz_1 (a : D) (S : Store) : frz [.d a] S = some (.ok (.d (.lst [a])), S) := rfl
@[simp] theorem frz_2 (a b : D) (S : Store) : frz [.d a, .d b] S = some (.ok (.d (.lst [a, b])), S) := rfl
@[simp] theorem frz_3 (a b c : D) (S : Store) : frz [.d a, .d b, .d c] S = some (.ok (.d (.lst [a, b, c])), S) := rfl
@[simp] theorem oSum_0 (S : Store) : oSum [.d (.lst [])] S = some (.ok (.d (.int 0)), S) := oSum_ints [] S
@[simp] theorem oSum_1 (a : Int) (S : Store) : oSum [.d (.lst [.int a])] S = some (.ok (.d (.int a)), S) := by
  have := oSum_ints [a] S
  simpa using this
@[simp] theorem oSum_2 (a b : Int) (S : Store) : oSum [.d (.lst [.int a, .int b])] S = some (.ok (.d (.int (a + b))), S) := by
  have := oSum_ints [a, b] S
  simpa using this
@[simp] theorem ck_def (n : Nat) (F : Fn) (args : List Val) (S : Store) : ck n F args S = if args.length = n then F args S else none := rfl
@[simp] theorem wipe_nil (env : Env) : wipeE env [] = env := rfl
@[simp] theorem wipe_cons (env : Env) (v : Nat) (vs : List Nat) : wipeE env (v :: vs) = (wipeE env vs).set v none := rfl
@[simp] theorem gN_def (i : Nat) (x : Val) (env : Env) : gN i x env = some (env.set i (some x)) := rfl
@[simp] theorem okL_0 (S : Store) : okL [] S = some (.ok [], S) := rfl
@[simp] theorem okL_1 (a : Val) (S : Store) : okL [a] S = some (.ok [a], S) := okL_ok _ S (sl (by simp))
@[simp] theorem okL_2 (a b : Val) (S : Store) : okL [a, b] S = some (.ok [a, b], S) := okL_ok _ S (sl (by simp))
@[simp] theorem okL_3 (a b c : Val) (S : Store) : okL [a, b, c] S = some (.ok [a, b, c], S) := okL_ok _ S (sl (by simp))
@[simp] theorem okL_5 (a b c d e : Val) (S : Store) : okL [a, b, c, d, e] S = some (.ok [a, b, c, d, e], S) := okL_ok _ S (sl (by simp))
theorem lc2L_pure {α β : Type} {gt : Val → Env → Option Env} {gc : FB} {fi1 : FA} {gt1 : Val → Env → Option Env} {gc1 : FB} {f : FE} {vs1 : List Nat} {env0 : Env} (g : α → Val) (ys : α → List β) (g1 : β → Val) (p1 : α → β → Bool) (h : α → β → Val) (S : Store) : ∀ (xs : List α) (acc : List Val),
    acc.length + (xs.flatMap ys).length ≤ sizeLine →
    (∀ x ∈ xs, ∃ env1, gt (g x) env0 = some env1 ∧ gc env1 S = some (.ok true, S) ∧ fi1 env1 S = some (.ok ((ys x).map g1), S) ∧
      ∀ y ∈ ys x, ∃ env2, gt1 (g1 y) (wipeE env1 vs1) = some env2 ∧ gc1 env2 S = some (.ok (p1 x y), S) ∧ (p1 x y = true → f env2 S = some (.ok (h x y), S))) →
    lc2L gt gc fi1 gt1 gc1 f vs1 env0 (xs.map g) acc S = some (.ok (acc ++ xs.flatMap fun x => ((ys x).filter (p1 x)).map (h x)), S)
  | [], acc, _, _ => by show some (Ex.ok acc, S) = _; simp
  | x :: xs, acc, hl, H => by
    obtain ⟨env1, h1, h2, h3, h4⟩ := H x List.mem_cons_self
    rw [List.flatMap_cons, List.length_append] at hl
    show (match gt (g x) env0 with | none => none | some env1 => _) = _
    rw [h1]
    dsimp only
    rw [bnd_def, h2]
    dsimp only
    rw [if_pos rfl, bnd_def, h3]
    dsimp only
    rw [bnd_def, lcL_pure g1 (h x) (p1 x) S (ys x) acc (by omega) h4]
    dsimp only
    have hf := List.length_filter_le (p1 x) (ys x)
    rw [lc2L_pure g ys g1 p1 h S xs _ (by rw [List.length_append, List.length_map]; omega) fun y hy => H y (List.mem_cons_of_mem _ hy)]
    simp
theorem fLc2_pure {α β : Type} {fi : FA} {gt : Val → Env → Option Env} {gc : FB} {fi1 : FA} {gt1 : Val → Env → Option Env} {gc1 : FB} {f : FE} {vs vs1 : List Nat} {env : Env} {S : Store} (g : α → D) (ys : α → List β) (g1 : β → D) (p1 : α → β → Bool) (h : α → β → D) (xs : List α)
    (hi : fi env S = some (.ok ((xs.map g).map Val.d), S)) (hl : (xs.flatMap ys).length ≤ sizeLine)
    (H : ∀ x ∈ xs, ∃ env1, gt (.d (g x)) (wipeE env vs) = some env1 ∧ gc env1 S = some (.ok true, S) ∧ fi1 env1 S = some (.ok (((ys x).map g1).map Val.d), S) ∧
      ∀ y ∈ ys x, ∃ env2, gt1 (.d (g1 y)) (wipeE env1 vs1) = some env2 ∧ gc1 env2 S = some (.ok (p1 x y), S) ∧ (p1 x y = true → f env2 S = some (.ok (.d (h x y)), S))) :
    fLc2 fi gt gc fi1 gt1 gc1 f vs vs1 env S = some (.ok ((xs.flatMap fun x => ((ys x).filter (p1 x)).map (h x)).map Val.d), S) := by
  show bnd (fi env) _ S = _
  rw [bnd_def, hi]
  dsimp only
  refine noX_ok ?_
  rw [List.map_map, lc2L_pure (Val.d ∘ g) ys (Val.d ∘ g1) p1 (fun x y => Val.d (h x y)) S xs [] (by simpa using hl) (by simpa using H)]
  simp [List.map_flatMap, Function.comp_def]
/-! isinstance, sorted, equality of lists -/
@[simp] theorem fIsa_def (T : String) (fa : FE) (env : Env) (S : Store) : fIsa T fa env S = bnd (fa env) (fun x S => match (tyD x S).bind fun t => isaT t T with
  | some k => some (.ok (.d (.bl k)), S)
  | none => none) S := rfl
@[simp] theorem ty_tup (ds : List D) (S : Store) : tyD (.d (.tup ds)) S = some "tuple" := rfl
@[simp] theorem ty_lst (ds : List D) (S : Store) : tyD (.d (.lst ds)) S = some "list" := rfl
@[simp] theorem ty_int (i : Int) (S : Store) : tyD (.d (.int i)) S = some "int" := rfl
@[simp] theorem isa_tt : isaT "tuple" "tuple" = some true := by decide
@[simp] theorem isa_tl : isaT "tuple" "list" = some false := by decide
@[simp] theorem isa_lt : isaT "list" "tuple" = some false := by decide
@[simp] theorem isa_ll : isaT "list" "list" = some true := by decide
@[simp] theorem isa_it : isaT "int" "tuple" = some false := by decide
@[simp] theorem isa_il : isaT "int" "list" = some false := by decide
@[simp] theorem isa_ib : isaT "int" "bool" = some false := by decide
@[simp] theorem isa_ii : isaT "int" "int" = some true := by decide
@[simp] theorem oSorted_0 (S : Store) : oSorted [.d (.lst [])] S = some (.ok [], S) := rfl
@[simp] theorem oSorted_1 (a : Int) (S : Store) : oSorted [.d (.lst [.int a])] S = some (.ok [.d (.int a)], S) := rfl
@[simp] theorem oSorted_2 (a b : Int) (S : Store) : oSorted [.d (.lst [.int a, .int b])] S = some (.ok (if a ≤ b then [.d (.int a), .d (.int b)] else [.d (.int b), .d (.int a)]), S) := by
  show some (Ex.ok (intsV (if a ≤ b then [a, b] else [b, a])), S) = _
  split <;> rfl
@[simp] theorem eq_l0 (neg : Bool) (S : Store) : oEq neg (.d (.lst [])) (.d (.lst [])) S = some (.ok (.d (.bl (true != neg))), S) := oEq_of neg (by decide) S
@[simp] theorem eq_l1 (neg : Bool) (a : Int) (S : Store) : oEq neg (.d (.lst [.int a])) (.d (.lst [])) S = some (.ok (.d (.bl (false != neg))), S) := oEq_of neg rfl S
@[simp] theorem eq_l2 (neg : Bool) (a b : Int) (S : Store) : oEq neg (.d (.lst [.int a, .int b])) (.d (.lst [])) S = some (.ok (.d (.bl (false != neg))), S) := oEq_of neg rfl S
@[simp] theorem sk_number : PyData.strOk ("number" : Str) = true := by decide +kernel
@[simp] theorem sk_name : PyData.strOk ("name" : Str) = true := by decide +kernel
@[simp] theorem sk_not : PyData.strOk ("not" : Str) = true := by decide +kernel
@[simp] theorem sk_plus : PyData.strOk ("plus" : Str) = true := by decide +kernel
@[simp] theorem sk_minus : PyData.strOk ("minus" : Str) = true := by decide +kernel
@[simp] theorem sk_times : PyData.strOk ("times" : Str) = true := by decide +kernel
@[simp] theorem sk_less : PyData.strOk ("less" : Str) = true := by decide +kernel
@[simp] theorem sk_same : PyData.strOk ("same" : Str) = true := by decide +kernel
@[simp] theorem sk_set : PyData.strOk ("set" : Str) = true := by decide +kernel
@[simp] theorem sk_tell : PyData.strOk ("tell" : Str) = true := by decide +kernel
@[simp] theorem sk_if : PyData.strOk ("if" : Str) = true := by decide +kernel
@[simp] theorem sk_while : PyData.strOk ("while" : Str) = true := by decide +kernel
@[simp] theorem sk_unless : PyData.strOk ("unless" : Str) = true := by decide +kernel
@[simp] theorem sk_jump : PyData.strOk ("jump" : Str) = true := by decide +kernel
@[simp] theorem sk_turn : PyData.strOk ("turn" : Str) = true := by decide +kernel
@[simp] theorem sk_put : PyData.strOk ("put" : Str) = true := by decide +kernel
@[simp] theorem sk_load : PyData.strOk ("load" : Str) = true := by decide +kernel
@[simp] theorem sk_store : PyData.strOk ("store" : Str) = true := by decide +kernel
@[simp] theorem sk_push : PyData.strOk ("push" : Str) = true := by decide +kernel
theorem fLc2_all {α β : Type} {fi : FA} {gt : Val → Env → Option Env} {fi1 : FA} {gt1 : Val → Env → Option Env} {f : FE} {vs vs1 : List Nat} {env : Env} {S : Store} (g : α → D) (ys : α → List β) (h : β → D) (xs : List α)
    (hi : fi env S = some (.ok ((xs.map g).map Val.d), S)) (hl : (xs.flatMap ys).length ≤ sizeLine)
    (H : ∀ x ∈ xs, ∃ env1, gt (.d (g x)) (wipeE env vs) = some env1 ∧ fi1 env1 S = some (.ok (((ys x).map h).map Val.d), S) ∧
      ∀ y ∈ ys x, ∃ env2, gt1 (.d (h y)) (wipeE env1 vs1) = some env2 ∧ f env2 S = some (.ok (.d (h y)), S)) :
    fLc2 fi gt gYes fi1 gt1 gYes f vs vs1 env S = some (.ok (((xs.flatMap ys).map h).map Val.d), S) := by
  have := fLc2_pure (gc := gYes) (gc1 := gYes) (gt := gt) (fi1 := fi1) (gt1 := gt1) (f := f) (vs := vs) (vs1 := vs1) g ys h (fun _ _ => true) (fun _ y => h y) xs hi hl fun x hx => by
    obtain ⟨env1, h1, h2, h3⟩ := H x hx
    exact ⟨env1, h1, rfl, h2, fun y hy => by
      obtain ⟨env2, h4, h5⟩ := h3 y hy
      exact ⟨env2, h4, rfl, fun _ => h5⟩⟩
  rw [this]
  have e : ∀ x : α, ((ys x).filter fun _ => true).map (fun y => h y) = (ys x).map h := fun x => by rw [List.filter_eq_self.mpr fun _ _ => rfl]
  simp only [e, List.map_flatMap]
end Y

set_option Elab.async false
set_option linter.all false
set_option maxRecDepth 100000
set_option maxHeartbeats 4000000
namespace Y
open PySem PySem.Spec L2
inductive W where
  | plus | minus | times | less | same
def W.s : W → Str
  | .plus => "plus" | .minus => "minus" | .times => "times" | .less => "less" | .same => "same"
inductive Ec where
  | num (i : Int) | nam (i : Int) | un (a : Ec) | bin (w : W) (a b : Ec)
def Ec.enc : Ec → D
  | .num i => .tup [.str "number", .int i]
  | .nam i => .tup [.str "name", .int i]
  | .un a => .tup [.str "not", a.enc]
  | .bin w a b => .tup [.str w.s, a.enc, b.enc]
def Ec.dp : Ec → Nat
  | .num _ => 0 | .nam _ => 0 | .un a => a.dp + 1 | .bin _ a b => max a.dp b.dp + 1
theorem prog_succ (k : Nat) (f : Fnm) : prog (k + 1) f = bodies (prog k) f := by
  first | rfl | (rw [prog])
theorem Ec.ty (e : Ec) (S : Store) : tyD (.d e.enc) S = some "tuple" := by cases e <;> rfl
/-! ### loops -/
theorem forL_run {α : Type} {gt : Val → Env → Option Env} {body : FS} (g : α → D) (P : List α → Env → Store → Prop) (all : List α)
    (H : ∀ done x rest env S, done ++ x :: rest = all → P done env S → ∃ env1 env2 S2, gt (.d (g x)) env = some env1 ∧ body env1 S = some (.nx, env2, S2) ∧ P (done ++ [x]) env2 S2) :
    ∀ (xs done : List α) (env : Env) (S : Store), done ++ xs = all → P done env S → ∃ env' S', forL gt body ((xs.map g).map Val.d) env S = some (.nx, env', S') ∧ P all env' S'
  | [], done, env, S, e, h => ⟨env, S, rfl, by rw [← e, List.append_nil]; exact h⟩
  | x :: xs, done, env, S, e, h => by
    obtain ⟨env1, env2, S2, h1, h2, h3⟩ := H done x xs env S e h
    obtain ⟨env', S', h4, h5⟩ := forL_run g P all H xs (done ++ [x]) env2 S2 (by rw [← e]; simp) h3
    refine ⟨env', S', ?_, h5⟩
    rw [List.map_cons, List.map_cons]
    unfold forL
    rw [h1]
    dsimp only
    rw [h2]
    exact h4
theorem getA (S T : Store) (j : Nat) : (S ++ T)[S.length + j]? = T[j]? := by rw [List.getElem?_append_right (by omega)]; congr 1; omega
theorem setA (S T : Store) (j : Nat) (o : Ob) : (S ++ T).set (S.length + j) o = S ++ T.set j o := by rw [List.set_append_right _ _ (by omega)]; congr 2; omega
section
variable {S T : Store} {j : Nat} {xs : List Val} {ds : List D}
theorem isL_A (h : T[j]? = some (.lst xs)) : isL (.r (S.length + j)) (S ++ T) = some (.ok (), S ++ T) := by
  unfold isL
  show (match (S ++ T)[S.length + j]? with | some (.lst _) => _ | _ => _) = _
  rw [getA, h]
theorem oApp_A {y : Val} (h : T[j]? = some (.lst xs)) (hl : xs.length < sizeLine) : oApp (.r (S.length + j)) y (S ++ T) = some (.ok (.d .non), S ++ T.set j (.lst (xs ++ [y]))) := by
  unfold oApp
  show (match (S ++ T)[S.length + j]? with | some (.lst xs) => _ | _ => _) = _
  rw [getA, h]
  dsimp only
  rw [if_pos hl, setA]
theorem lstV_A (h : T[j]? = some (.lst xs)) : lstV (.r (S.length + j)) (S ++ T) = some xs := by
  unfold lstV
  show (match (S ++ T)[S.length + j]? with | some (.lst xs) => _ | _ => _) = _
  rw [getA, h]
theorem seqV_A (h : T[j]? = some (.lst xs)) : seqV (.r (S.length + j)) (S ++ T) = some xs := lstV_A h
theorem oLen_A (h : T[j]? = some (.lst xs)) : oLen [.r (S.length + j)] (S ++ T) = some (.ok (.d (.int xs.length)), S ++ T) := by
  refine c1_ok ?_
  show (seqV (.r (S.length + j)) (S ++ T)).map List.length = _
  rw [seqV_A h]; rfl
theorem oIx_A {i : Int} {y : Val} (h : T[j]? = some (.lst xs)) (hi : atI xs i = some y) : oIx (.r (S.length + j)) (.d (.int i)) (S ++ T) = some (.ok y, S ++ T) := by
  show (match seqV (.r (S.length + j)) (S ++ T) with | none => none | some xs => (atI xs i).map fun x => (Ex.ok x, S ++ T)) = _
  rw [seqV_A h]
  dsimp only
  rw [hi]; rfl
theorem unN_A (h : T[j]? = some (.lst (ds.map Val.d))) : unN (.r (S.length + j)) (S ++ T) = some (.ok (.d (.lst ds)), S ++ T.set j .dead) := by
  unfold unN
  show (match (S ++ T)[S.length + j]? with | some (.lst xs) => (datas xs).map fun ds => (Ex.ok (Val.d (.lst ds)), (S ++ T).set (S.length + j) .dead) | _ => none) = _
  rw [getA, h]
  dsimp only
  rw [datas_mapD, setA]; rfl
theorem oCat_A {es : List D} (h : T[j]? = some (.lst (ds.map Val.d))) (hl : ds.length + es.length ≤ sizeLine) : oCat (.r (S.length + j)) (.d (.lst es)) (S ++ T) = some (.ok ((ds ++ es).map Val.d), S ++ T) := by
  unfold oCat
  rw [lstV_A h]
  show okL (ds.map Val.d ++ es.map Val.d) _ = _
  rw [← List.map_append]
  exact okL_ok _ _ (by simpa using hl)
theorem oPlus_A {es : List D} (h : T[j]? = some (.lst (ds.map Val.d))) (hl : ds.length + es.length ≤ sizeLine) : oPlus (.r (S.length + j)) (.d (.lst es)) (S ++ T) = some (.ok (.d (.lst (ds ++ es))), S ++ T) := by
  show bnd (oCat (.r (S.length + j)) (.d (.lst es))) frz (S ++ T) = _
  rw [bnd_def, oCat_A h hl]
  exact frz_map _ _
theorem oCat_lst {as bs : List D} {S : Store} (hl : as.length + bs.length ≤ sizeLine) : oCat (.d (.lst as)) (.d (.lst bs)) S = some (.ok ((as ++ bs).map Val.d), S) := by
  show okL (as.map Val.d ++ bs.map Val.d) S = _
  rw [← List.map_append]
  exact okL_ok _ _ (by simpa using hl)
end
@[simp] theorem fApp_def (fa fb : FE) (env : Env) (S : Store) : fApp fa fb env S = bnd (fa env) (fun x => bnd (isL x) fun _ => bnd (fb env) fun y => oApp x y) S := rfl
/-! ### blocks -/
inductive Tc where
  | set (n : Int) (e : Ec) | tell (e : Ec) | ite (e : Ec) (a b : List Tc) | whl (e : Ec) (a : List Tc)
mutual
def Tc.enc : Tc → D
  | .set n e => .tup [.str "set", .int n, e.enc]
  | .tell e => .tup [.str "tell", e.enc]
  | .ite e a b => .tup [.str "if", e.enc, .tup (Tc.encs a), .tup (Tc.encs b)]
  | .whl e a => .tup [.str "while", e.enc, .tup (Tc.encs a)]
def Tc.encs : List Tc → List D
  | [] => []
  | t :: r => t.enc :: Tc.encs r
end
theorem encs_map : ∀ ts : List Tc, Tc.encs ts = ts.map Tc.enc
  | [] => rfl
  | t :: r => by rw [Tc.encs, encs_map r]; rfl
mutual
def Tc.ht : Tc → Nat
  | .set _ _ => 0 | .tell _ => 0 | .ite _ a b => 1 + max (Tc.hts a) (Tc.hts b) | .whl _ a => 1 + Tc.hts a
def Tc.hts : List Tc → Nat
  | [] => 0
  | t :: r => max t.ht (Tc.hts r)
end
theorem hts_mem : ∀ {ts : List Tc} {x : Tc}, x ∈ ts → x.ht ≤ Tc.hts ts
  | t :: r, x, h => by
    rw [Tc.hts]
    rcases List.mem_cons.mp h with rfl | h
    · omega
    · have := hts_mem h; omega
mutual
def Tc.ex : Tc → List Ec
  | .set _ e => [e] | .tell e => [e] | .ite e a b => e :: (Tc.exs a ++ Tc.exs b) | .whl e a => e :: Tc.exs a
def Tc.exs : List Tc → List Ec
  | [] => []
  | t :: r => t.ex ++ Tc.exs r
end
theorem exs_app : ∀ a b : List Tc, Tc.exs (a ++ b) = Tc.exs a ++ Tc.exs b
  | [], b => by simp [Tc.exs]
  | t :: r, b => by rw [List.cons_append, Tc.exs, Tc.exs, exs_app r b, List.append_assoc]
theorem exs_one (x : Tc) : Tc.exs [x] = x.ex := by simp [Tc.exs]
/-- the deeds inside a deed -/
def Tc.sub : Tc → List (List Tc)
  | .set _ _ => [] | .tell _ => [] | .ite _ a b => [a, b] | .whl _ a => [a]
theorem sub_ht {x : Tc} {a : List Tc} (h : a ∈ x.sub) : Tc.hts a < x.ht := by
  cases x with
  | set n e => cases h
  | tell e => cases h
  | ite e a' b' =>
    have : a = a' ∨ a = b' := by simpa [Tc.sub] using h
    rw [Tc.ht]
    rcases this with rfl | rfl <;> omega
  | whl e a' =>
    have : a = a' := by simpa [Tc.sub] using h
    rw [Tc.ht, this]; omega
/-! deeds -/
mutual
def Tc.dc : Tc → Nat
  | .set _ _ => 1 | .tell _ => 1 | .ite _ a b => 1 + Tc.dcs a + Tc.dcs b | .whl _ a => 1 + Tc.dcs a
def Tc.dcs : List Tc → Nat
  | [] => 0
  | t :: r => t.dc + Tc.dcs r
end
theorem dcs_app : ∀ a b : List Tc, Tc.dcs (a ++ b) = Tc.dcs a + Tc.dcs b
  | [], b => by simp [Tc.dcs]
  | t :: r, b => by rw [List.cons_append, Tc.dcs, Tc.dcs, dcs_app r b]; omega
theorem dcs_one (x : Tc) : Tc.dcs [x] = x.dc := by simp [Tc.dcs]
theorem dc_pos (x : Tc) : 1 ≤ x.dc := by cases x <;> simp [Tc.dc] <;> omega
mutual
theorem ex_len : ∀ x : Tc, x.ex.length = x.dc
  | .set _ _ => rfl
  | .tell _ => rfl
  | .ite _ a b => by simp [Tc.ex, Tc.dc, exs_len a, exs_len b]; omega
  | .whl _ a => by simp [Tc.ex, Tc.dc, exs_len a]; omega
theorem exs_len : ∀ ts : List Tc, (Tc.exs ts).length = Tc.dcs ts
  | [] => rfl
  | t :: r => by rw [Tc.exs, Tc.dcs, List.length_append, ex_len t, exs_len r]
end
theorem len_dcs : ∀ ts : List Tc, ts.length ≤ Tc.dcs ts
  | [] => Nat.le_refl _
  | t :: r => by have := len_dcs r; have := dc_pos t; rw [List.length_cons, Tc.dcs]; omega
theorem ldeeds_ok : ∀ (k : Nat) (ts : List Tc) (S : Store), Tc.hts ts < k → prog k .f_law_deeds_of [.d (.tup (Tc.encs ts))] S = some (.ok (.d (.int (Tc.dcs ts))), S)
  | k + 1, ts, S, h => by
    have ih : ∀ x, x ∈ ts → ∀ a, a ∈ x.sub → prog k .f_law_deeds_of [.d (.tup (Tc.encs a))] S = some (.ok (.d (.int (Tc.dcs a))), S) := fun x hx a ha => ldeeds_ok k a S (by have := hts_mem hx; have := sub_ht ha; omega)
    rw [prog_succ]
    show fnM 1 4 true (m__law_deeds_of (prog k)) [_] S = _
    obtain ⟨env', S', h1, h2⟩ := forL_run (gt := gN 2) (body := b__law_deeds_of_1 (prog k)) Tc.enc (fun done env S' => S' = S ∧ ∃ j j2, env = [some (.d (.tup (Tc.encs ts))), some (.d (.int (((ts.length : Nat) : Int) + Tc.dcs done - (done.length : Nat)))), j, j2]) ts
      (by
        rintro done x rest env S' e ⟨rfl, j, j2, rfl⟩
        have hx : x ∈ ts := by rw [← e]; simp
        refine ⟨_, [some (.d (.tup (Tc.encs ts))), some (.d (.int (((ts.length : Nat) : Int) + Tc.dcs (done ++ [x]) - ((done ++ [x]).length : Nat)))), some (.d x.enc), j2], S', rfl, ?_, rfl, _, _, rfl⟩
        rw [dcs_app, dcs_one, List.length_append, List.length_singleton]
        cases x with
        | set n e => simp (decide := true) [b__law_deeds_of_1, Tc.enc, Tc.dc]; omega
        | tell e => simp (decide := true) [b__law_deeds_of_1, Tc.enc, Tc.dc]; omega
        | ite e a b =>
          have i1 := ih _ hx a (by simp [Tc.sub])
          have i2 := ih _ hx b (by simp [Tc.sub])
          simp (decide := true) [b__law_deeds_of_1, Tc.enc, Tc.dc]
          rw [fLc_all (fun a => D.tup (Tc.encs a)) (fun a => D.int (Tc.dcs a)) [a, b] (by simp) (sl (by simp)) (fun x hx => ⟨_, rfl, by simp at hx; rcases hx with rfl | rfl <;> simp [i1, i2]⟩)]
          simp
          omega
        | whl e a =>
          have i1 := ih _ hx a (by simp [Tc.sub])
          simp (decide := true) [b__law_deeds_of_1, Tc.enc, Tc.dc]
          rw [fLc_all (fun a => D.tup (Tc.encs a)) (fun a => D.int (Tc.dcs a)) [a] (by simp) (sl (by simp)) (fun x hx => ⟨_, rfl, by simp at hx; subst hx; simp [i1]⟩)]
          simp
          omega) ts [] [some (.d (.tup (Tc.encs ts))), some (.d (.int (ts.length : Nat))), none, none] S rfl ⟨rfl, none, none, by simp [Tc.dcs]⟩
    obtain ⟨rfl, j, j2, rfl⟩ := h2
    rw [← encs_map] at h1
    refine fnM_same (env := [some (.d (.tup (Tc.encs ts))), some (.d (.int (((ts.length : Nat) : Int) + Tc.dcs ts - (ts.length : Nat)))), j, j2]) rfl ?_
    have hl : (Tc.encs ts).length = ts.length := by rw [encs_map, List.length_map]
    simp [m__law_deeds_of, envOf, hl, h1]
    omega
end Y

set_option Elab.async false
set_option linter.all false
set_option maxRecDepth 100000
set_option maxHeartbeats 4000000
namespace Y
open PySem PySem.Spec L2
/-! ### the law's equality of ints, lists of ints -/
@[simp] theorem fIsN_def (neg : Bool) (fa : FE) (env : Env) (S : Store) : fIsN neg fa env S = bnd (fa env) (fun x => lift ((isNon x).map fun k => .d (.bl (k != neg)))) S := rfl
@[simp] theorem isN_int (i : Int) : isNon (.d (.int i)) = some false := rfl
@[simp] theorem fAnd_def (fa fb : FE) (env : Env) (S : Store) : fAnd fa fb env S = bnd (fT fa env) (fun k => if k = true then fb env else ret (.d (.bl false))) S := rfl
@[simp] theorem oEq_bl (neg a b : Bool) (S : Store) : oEq neg (.d (.bl a)) (.d (.bl b)) S = some (.ok (.d (.bl (decide (a = b) != neg))), S) := oEq_of neg (by cases a <;> cases b <;> decide) S
theorem rng1_nat (n : Nat) (S : Store) (h : n ≤ 1000000) : rng1 [.d (.int n)] S = some (.ok (((List.range n).map fun (i : Nat) => D.int i).map Val.d), S) := by
  show (if inR (n : Int) = true then some (Ex.ok (rngV 0 n), S) else none) = _
  have : inR (n : Int) = true := by unfold inR; simp; omega
  rw [if_pos this]
  unfold rngV
  simp [Function.comp_def]
theorem same_int (k : Nat) (n : Int) (S : Store) : prog (k + 1) .f_law_same [.d (.int n), .d (.int n)] S = some (.ok (.d (.bl true)), S) := by
  rw [prog_succ]
  show fnM 2 3 true (m__law_same (prog k)) [_, _] S = _
  refine fnM_same (env := [some (.d (.int n)), some (.d (.int n)), none]) rfl ?_
  simp (decide := true) [m__law_same, envOf]
theorem sSeq_rt {g1 g2 : FS} {env env' : Env} {S S' : Store} {v : Val} (h : g1 env S = some (.rt v, env', S')) : sSeq g1 g2 env S = some (.rt v, env', S') := by rw [sSeq_def, h]
theorem sSeq_nx {g1 g2 : FS} {env env' : Env} {S S' : Store} {r : SO} (h : g1 env S = some (.nx, env', S')) (k : g2 env' S' = r) : sSeq g1 g2 env S = r := by rw [sSeq_def, h]; exact k
theorem same_a (ds : List D) (S : Store) (g : FS) (r : SO) (h : g [some (.d (.lst ds)), some (.d (.lst ds)), none] S = r) : sIf (gOr (fT (fIsa "tuple" (fVar 1))) (fT (fIsa "list" (fVar 1)))) g sNil [some (.d (.lst ds)), some (.d (.lst ds)), none] S = r := by
  simp [h]
theorem same_b (ds : List D) (S : Store) (g : FS) (r : SO) (h : g [some (.d (.lst ds)), some (.d (.lst ds)), none] S = r) : sSeq (sIf (gOr (fT (fBin (oEq true) (fIsa "tuple" (fVar 1)) (fIsa "tuple" (fVar 0)))) (gOr (fT (fBin (oEq true) (fIsa "list" (fVar 1)) (fIsa "list" (fVar 0)))) (fT (fBin (oEq true) (fCall oLen (fCons (fVar 0) (fNil))) (fCall oLen (fCons (fVar 1) (fNil))))))) (sSeq (sRet (fC (.bl false))) (sNil)) (sNil)) g [some (.d (.lst ds)), some (.d (.lst ds)), none] S = r := by
  simp [h]
theorem same_c (env : Env) (S : Store) (fl : FA) (h : fl env S = some (.ok [], S)) : sSeq (sRet (fBin (oEq false) (fCall oLen (fCons (fFrz fl) (fNil))) (fC (.int 0)))) (sNil) env S = some (.rt (.d (.bl true)), env, S) := by
  have e : fFrz fl env S = some (.ok (.d (.lst [])), S) := by rw [fFrz_def, bnd_def, h]; rfl
  simp only [sSeq_def, sRet_def, fBin_def, bnd_def, fCall_def, fCons_def, e, fNil_def, ret_def, oLen_lst, fC_def]
  have e2 := oEq_int false 0 0 S
  simp only [List.length_nil]
  rw [show ((0 : Nat) : Int) = 0 from rfl, e2]
  rfl
theorem same_lc (c : Fnm → Fn) (hc : ∀ (n : Int) (S : Store), c .f_law_same [.d (.int n), .d (.int n)] S = some (.ok (.d (.bl true)), S)) (ns : List Int) (S : Store) (h : ns.length ≤ 1000000) :
    fLc (fCall rng1 (fCons (fCall oLen (fCons (fVar 1) (fNil))) (fNil))) (gN 2) (gNot (fT (fCall (ck 2 (c .f_law_same)) (fCons (fBin oIx (fVar 0) (fVar 2)) (fCons (fBin oIx (fVar 1) (fVar 2)) (fNil)))))) (fVar 2) [2] [some (.d (.lst (ns.map D.int))), some (.d (.lst (ns.map D.int))), none] S = some (.ok [], S) := by
  have hr := rng1_nat ns.length S h
  have hr2 : fCall rng1 (fCons (fCall oLen (fCons (fVar 1) fNil)) fNil) [some (.d (.lst (ns.map D.int))), some (.d (.lst (ns.map D.int))), none] S = some (.ok (((List.range ns.length).map fun (i : Nat) => D.int i).map Val.d), S) := by
    have e : fCons (fCall oLen (fCons (fVar 1) fNil)) fNil [some (.d (.lst (ns.map D.int))), some (.d (.lst (ns.map D.int))), none] S = some (.ok [.d (.int (ns.length : Nat))], S) := by simp
    rw [fCall_def, bnd_def, e]
    exact hr
  rw [fLc_pure (fun (i : Nat) => D.int i) (fun (i : Nat) => D.int i) (fun _ => false) (List.range ns.length) hr2 (by rw [List.length_range]; exact sl (by omega)) (fun i hi => ⟨_, rfl, by
    have hi2 := List.mem_range.mp hi
    simp
    rw [atI_nat]
    simp [List.getElem?_eq_getElem hi2, hc], fun h => by cases h⟩)]
  rw [List.filter_eq_nil_iff.mpr (by intro a _; decide)]
  rfl
theorem same_body (c : Fnm → Fn) (hc : ∀ (n : Int) (S : Store), c .f_law_same [.d (.int n), .d (.int n)] S = some (.ok (.d (.bl true)), S)) (ns : List Int) (S : Store) (h : ns.length ≤ 1000000) :
    m__law_same c [some (.d (.lst (ns.map D.int))), some (.d (.lst (ns.map D.int))), none] S = some (.rt (.d (.bl true)), [some (.d (.lst (ns.map D.int))), some (.d (.lst (ns.map D.int))), none], S) := by
  unfold m__law_same
  exact sSeq_rt (same_a _ S _ _ (same_b _ S _ _ (same_c _ S _ (same_lc c hc ns S h))))
theorem same_ints (k : Nat) (ns : List Int) (S : Store) (h : ns.length ≤ 1000000) : prog (k + 2) .f_law_same [.d (.lst (ns.map D.int)), .d (.lst (ns.map D.int))] S = some (.ok (.d (.bl true)), S) := by
  rw [prog_succ]
  generalize hc : prog (k + 1) = c
  show fnM 2 3 true (m__law_same c) [_, _] S = _
  refine fnM_same (env := [some (.d (.lst (ns.map D.int))), some (.d (.lst (ns.map D.int))), none]) rfl (same_body c ?_ ns S h)
  intro n S
  rw [← hc]
  exact same_int k n S
/-! ### the pool -/
def pl (cs : List Int) (a b c d : Int) : Store := [.lst [.d (.lst (cs.map D.int)), .d (.int a), .d (.int b), .d (.int c), .d (.int d)]]
section
variable {cs : List Int} {a b c d : Int}
@[simp] theorem pl_0 : oIx (.r 0) (.d (.int 0)) (pl cs a b c d) = some (.ok (.d (.lst (cs.map D.int))), pl cs a b c d) := rfl
@[simp] theorem pl_1 : oIx (.r 0) (.d (.int 1)) (pl cs a b c d) = some (.ok (.d (.int a)), pl cs a b c d) := rfl
@[simp] theorem pl_2 : oIx (.r 0) (.d (.int 2)) (pl cs a b c d) = some (.ok (.d (.int b)), pl cs a b c d) := rfl
@[simp] theorem pl_3 : oIx (.r 0) (.d (.int 3)) (pl cs a b c d) = some (.ok (.d (.int c)), pl cs a b c d) := rfl
@[simp] theorem pl_4 : oIx (.r 0) (.d (.int 4)) (pl cs a b c d) = some (.ok (.d (.int d)), pl cs a b c d) := rfl
@[simp] theorem pl_p1 (v : Int) : oPut (.r 0) (.d (.int 1)) (.d (.int v)) (pl cs a b c d) = some (pl cs v b c d) := rfl
@[simp] theorem pl_p2 (v : Int) : oPut (.r 0) (.d (.int 2)) (.d (.int v)) (pl cs a b c d) = some (pl cs a v c d) := rfl
@[simp] theorem pl_p3 (v : Int) : oPut (.r 0) (.d (.int 3)) (.d (.int v)) (pl cs a b c d) = some (pl cs a b v d) := rfl
end
@[simp] theorem sPut_def (fo fi fv : FE) (env : Env) (S : Store) : sPut fo fi fv env S = bS (bnd (fv env) (fun v => bnd (fo env) fun o => bnd (fi env) fun i => fun S => (oPut o i v S).map fun S' => (.ok (), S')) S) env fun _ S' => some (.nx, env, S') := rfl
@[simp] theorem oMul_lit (a b : Int) (S : Store) (h : -(2 ^ 64) < b) (h2 : b < 2 ^ 64) : oMul (.d (.int a)) (.d (.int b)) S = some (.ok (.d (.int (a * b))), S) := by
  show (if cMul a b = true then ret (Val.d (.int (a * b))) else stk) S = _
  rw [if_pos (by unfold cMul; simp only [Bool.or_eq_true, Bool.and_eq_true, decide_eq_true_eq]; exact .inr ⟨h, h2⟩)]
  rfl
@[simp] theorem oMod_pos (a b : Int) (S : Store) (h : 0 < b) : oMod (.d (.int a)) (.d (.int b)) S = some (.ok (.d (.int (a % b))), S) := by
  show (if decide (0 < b) = true then ret (Val.d (.int (a % b))) else stk) S = _
  rw [if_pos (decide_eq_true h)]
  rfl
@[simp] theorem oDiv_pos (a b : Int) (S : Store) (h : 0 < b) (h2 : b < 1073741824) : oDiv (.d (.int a)) (.d (.int b)) S = some (.ok (.d (.int (a / b))), S) := by
  show (if (decide (0 < b) && decide (b < 1073741824)) = true then ret (Val.d (.int (a / b))) else stk) S = _
  rw [if_pos (by rw [decide_eq_true h, decide_eq_true h2]; rfl)]
  rfl
@[simp] theorem oSub_int (a b : Int) (S : Store) : oSub (.d (.int a)) (.d (.int b)) S = some (.ok (.d (.int (a - b))), S) := rfl
/-- a def over the pool -/
theorem fnM_pool {n N : Nat} {body : FS} {args : List Val} {env : Env} {v : D} {cs cs' : List Int} {a b c d a' b' c' d' : Int} (hn : args.length = n) (h : body (envOf N args) (pl cs a b c d) = some (.rt (.d v), env, pl cs' a' b' c' d')) :
    fnM n N true body args (pl cs a b c d) = some (.ok (.d v), pl cs' a' b' c' d') := by
  unfold fnM
  rw [if_pos hn, h]
  show cutF true _ (.ok (.d v)) _ = _
  unfold cutF
  have hc : cutOk (pl cs a b c d) (pl cs' a' b' c' d') := ⟨Nat.le_refl _, fun i o hi e => .inr (by
    cases i with
    | zero => cases e; rfl
    | succ i => exact absurd hi (by show ¬ (i + 1 < 1); omega))⟩
  rw [if_pos rfl, if_pos ⟨hc, fun r e => by cases e; rfl⟩]
  rfl
theorem spread_ok (k : Nat) (n : Int) (S : Store) : ∃ v, prog (k + 1) .f_law_spread [.d (.int n)] S = some (.ok (.d (.int v)), S) := by
  rw [prog_succ]
  show ∃ v, fnM 1 4 true (m__law_spread (prog k)) [_] S = _
  obtain ⟨env', S', h1, h2⟩ := forL_run (gt := gN 3) (body := b__law_spread_1 (prog k)) (fun i : Nat => D.int i) (fun done env S' => S' = S ∧ ∃ m t j, env = [some (.d (.int n)), some (.d (.int m)), some (.d (.int t)), j]) (List.range 4)
    (by
      rintro done x rest env S' he ⟨rfl, m, t, j, rfl⟩
      refine ⟨_, [some (.d (.int n)), some (.d (.int ((m * 48271 + 12345 + x) % 2147483647))), some (.d (.int (t * 2147483647 + (m * 48271 + 12345 + x) % 2147483647))), some (.d (.int x))], S', rfl, ?_, rfl, _, _, _, rfl⟩
      simp (decide := true) [b__law_spread_1]) (List.range 4) [] [some (.d (.int n)), some (.d (.int (n % 2147483647))), some (.d (.int 1)), none] S rfl ⟨rfl, _, _, _, rfl⟩
  obtain ⟨rfl, m, t, j, rfl⟩ := h2
  refine ⟨t, fnM_same (env := [some (.d (.int n)), some (.d (.int m)), some (.d (.int t)), j]) rfl ?_⟩
  have e := rng1_nat 4 S' (by decide)
  have e' : rng1 [.d (.int 4)] S' = some (.ok (((List.range 4).map fun (i : Nat) => D.int i).map Val.d), S') := e
  simp only [m__law_spread, envOf]
  simp (decide := true) [e']
  simp at h1
  simp [h1]
def tlV (b c d many : Int) : Int := if b ≤ 0 then (((d * 48271 + (c + 1) * 69621 + 1) % 2147483647) * 16807 + (c + 1)) % 2147483629 / 5 % many else b % many
def tlP (b many : Int) : Int := if b ≤ 0 then b else b / many
theorem tlV_range (b c d : Int) {many : Int} (h : 0 < many) : 0 ≤ tlV b c d many ∧ tlV b c d many < many := by
  unfold tlV
  split
  · exact ⟨Int.emod_nonneg _ (by omega), Int.emod_lt_of_pos _ h⟩
  · exact ⟨Int.emod_nonneg _ (by omega), Int.emod_lt_of_pos _ h⟩
abbrev Pool (S : Store) : Prop := ∃ cs a b c d, S = pl cs a b c d ∧ 0 ≤ a
theorem draw_ok (k : Nat) {S : Store} (hS : Pool S) (many : Int) (h : 0 < many) (h2 : many < 1073741824) :
    ∃ S' v, Pool S' ∧ 0 ≤ v ∧ v < many ∧ prog (k + 2) .f_law_draw [.r 0, .d (.int many)] S = some (.ok (.d (.int v)), S') := by
  obtain ⟨cs, a, b, c, d, rfl, ha⟩ := hS
  rw [prog_succ]
  show ∃ S' v, Pool S' ∧ 0 ≤ v ∧ v < many ∧ fnM 2 5 true (m__law_draw (prog (k + 1))) [_, _] _ = _
  by_cases c1 : b ≤ 0 ∧ a < (cs.length : Nat)
  · obtain ⟨c1, c2⟩ := c1
    obtain ⟨n, rfl⟩ := Int.eq_ofNat_of_zero_le ha
    have hn : n < cs.length := by omega
    have ec : atI (cs.map (Val.d ∘ D.int)) (n : Int) = some (.d (.int cs[n])) := by rw [atI_nat]; simp [List.getElem?_eq_getElem hn]
    by_cases c3 : cs[n] < 1000000000000000000
    · obtain ⟨v, hv⟩ := spread_ok k cs[n] (pl cs (n + 1) cs[n] c d)
      have hr := tlV_range v c d h
      refine ⟨pl cs (n + 1) (tlP v many) (c + 1) d, tlV v c d many, ⟨_, _, _, _, _, rfl, by omega⟩, hr.1, hr.2, ?_⟩
      by_cases c4 : v ≤ 0
      · refine fnM_pool (env := [some (.r 0), some (.d (.int many)), some (.d (.int cs[n])), some (.d (.int ((((d * 48271 + (c + 1) * 69621 + 1) % 2147483647) * 16807 + (c + 1)) % 2147483629))), none]) rfl ?_
        simp (decide := true) [m__law_draw, envOf, c1, c2, ec, c3, hv, c4, h, h2, tlV, tlP]
      · refine fnM_pool (env := [some (.r 0), some (.d (.int many)), some (.d (.int cs[n])), none, some (.d (.int (v % many)))]) rfl ?_
        simp (decide := true) [m__law_draw, envOf, c1, c2, ec, c3, hv, c4, h, h2, tlV, tlP]
    · have hr := tlV_range cs[n] c d h
      have c4 : ¬ cs[n] ≤ 0 := by omega
      refine ⟨pl cs (n + 1) (tlP cs[n] many) (c + 1) d, tlV cs[n] c d many, ⟨_, _, _, _, _, rfl, by omega⟩, hr.1, hr.2, ?_⟩
      refine fnM_pool (env := [some (.r 0), some (.d (.int many)), some (.d (.int cs[n])), none, some (.d (.int (cs[n] % many)))]) rfl ?_
      simp (decide := true) [m__law_draw, envOf, c1, c2, ec, c3, c4, h, h2, tlV, tlP]
  · have hr := tlV_range b c d h
    refine ⟨pl cs a (tlP b many) (c + 1) d, tlV b c d many, ⟨_, _, _, _, _, rfl, ha⟩, hr.1, hr.2, ?_⟩
    by_cases c4 : b ≤ 0
    · have c2 : ¬ (a < (cs.length : Nat)) := fun c2 => c1 ⟨c4, c2⟩
      refine fnM_pool (env := [some (.r 0), some (.d (.int many)), none, some (.d (.int ((((d * 48271 + (c + 1) * 69621 + 1) % 2147483647) * 16807 + (c + 1)) % 2147483629))), none]) rfl ?_
      simp (decide := true) [m__law_draw, envOf, c2, c4, h, h2, tlV, tlP]
    · refine fnM_pool (env := [some (.r 0), some (.d (.int many)), none, none, some (.d (.int (b % many)))]) rfl ?_
      simp (decide := true) [m__law_draw, envOf, c4, h, h2, tlV, tlP]
end Y

set_option Elab.async false
set_option linter.all false
set_option maxRecDepth 100000
set_option maxHeartbeats 4000000
namespace Y
open PySem PySem.Spec L2
theorem fnM_poolS {n N : Nat} {body : FS} {args : List Val} {env : Env} {v : D} {S S' : Store} (hS : Pool S) (hS' : Pool S') (hn : args.length = n) (h : body (envOf N args) S = some (.rt (.d v), env, S')) : fnM n N true body args S = some (.ok (.d v), S') := by
  obtain ⟨cs, a, b, c, d, rfl, _⟩ := hS
  obtain ⟨cs', a', b', c', d', rfl, _⟩ := hS'
  exact fnM_pool hn h
theorem atI_in {ds : List D} {v : Int} (h : 0 ≤ v) (h2 : v < (ds.length : Nat)) : ∃ x ∈ ds, atI (ds.map Val.d) v = some (.d x) := by
  obtain ⟨n, rfl⟩ := Int.eq_ofNat_of_zero_le h
  have hn : n < ds.length := by omega
  refine ⟨ds[n], List.getElem_mem hn, ?_⟩
  rw [atI_nat]
  simp [List.getElem?_eq_getElem hn]
theorem pick_ok (k : Nat) {S : Store} (hS : Pool S) (ds : List D) (h : 0 < ds.length) (h2 : ds.length < 1000000) :
    ∃ S' x, Pool S' ∧ x ∈ ds ∧ prog (k + 3) .f_law_pick [.r 0, .d (.lst ds)] S = some (.ok (.d x), S') := by
  obtain ⟨S', v, hS', h3, h4, h5⟩ := draw_ok k hS (ds.length : Nat) (by omega) (by omega)
  obtain ⟨x, hx, ex⟩ := atI_in h3 h4
  refine ⟨S', x, hS', hx, ?_⟩
  rw [prog_succ]
  show fnM 2 2 true (m__law_pick (prog (k + 2))) [_, _] S = _
  refine fnM_poolS hS hS' (env := [some (.r 0), some (.d (.lst ds))]) rfl ?_
  simp [m__law_pick, envOf, h5, ex]
@[simp] theorem mkTup_8 (a b c d e f g h : D) (S : Store) : mkTup [.d a, .d b, .d c, .d d, .d e, .d f, .d g, .d h] S = some (.ok (.d (.tup [a, b, c, d, e, f, g, h])), S) := mkTup_map [a, b, c, d, e, f, g, h] S (by show 8 ≤ sizeLine; decide)
@[simp] theorem okL_6 (a b c d e f : Val) (S : Store) : okL [a, b, c, d, e, f] S = some (.ok [a, b, c, d, e, f], S) := okL_ok _ S (sl (by simp))
@[simp] theorem frz_6 (a b c d e f : D) (S : Store) : frz [.d a, .d b, .d c, .d d, .d e, .d f] S = some (.ok (.d (.lst [a, b, c, d, e, f])), S) := rfl
def Ec.wf : Ec → Prop
  | .num i => 0 ≤ i ∧ i < 1000 | .nam i => 0 ≤ i ∧ i < 4 | .un a => a.wf | .bin _ a b => a.wf ∧ b.wf
/-- the leaf -/
theorem leaf_ok (k : Nat) {S : Store} (hS : Pool S) (env : Env) (he : env[0]? = some (some (.r 0))) : ∃ S' e, Pool S' ∧ (Ec.dp e = 0 ∧ e.wf) ∧
    sSeq (sIf (fT (fBin oLt (fCall (ck 2 (prog (k + 2) .f_law_draw)) (fCons (fVar 0) (fCons (fC (.int 5)) (fNil)))) (fC (.int 2)))) (sSeq (sRet (fTup (fCons (fC (.str "number")) (fCons (fBin oIx (fTup (fCons (fC (.int 0)) (fCons (fC (.int 1)) (fCons (fC (.int 2)) (fCons (fC (.int 3)) (fCons (fC (.int 5)) (fCons (fC (.int 9)) (fCons (fC (.int 998)) (fCons (fC (.int 999)) (fNil)))))))))) (fCall (ck 2 (prog (k + 2) .f_law_draw)) (fCons (fVar 0) (fCons (fC (.int 8)) (fNil))))) (fNil))))) (sNil)) (sNil)) (sSeq (sRet (fTup (fCons (fC (.str "name")) (fCons (fCall (ck 2 (prog (k + 2) .f_law_draw)) (fCons (fVar 0) (fCons (fC (.int 4)) (fNil)))) (fNil))))) (sNil)) env S = some (.rt (.d e.enc), env, S') := by
  obtain ⟨S1, v1, h1, a1, b1, e1⟩ := draw_ok k hS 5 (by decide) (by decide)
  by_cases c : v1 < 2
  · obtain ⟨S2, v2, h2, a2, b2, e2⟩ := draw_ok k h1 8 (by decide) (by decide)
    obtain ⟨x, hx, ex⟩ := atI_in (ds := [D.int 0, D.int 1, D.int 2, D.int 3, D.int 5, D.int 9, D.int 998, D.int 999]) a2 (by simpa using b2)
    have hi : ∃ i, x = .int i ∧ 0 ≤ i ∧ i < 1000 := by simp at hx; rcases hx with h | h | h | h | h | h | h | h <;> exact ⟨_, h, by decide, by decide⟩
    obtain ⟨i, rfl, hi0, hi1⟩ := hi
    refine ⟨S2, .num i, h2, ⟨rfl, hi0, hi1⟩, ?_⟩
    simp at ex
    simp (decide := true) [he, e1, c, e2, ex, Ec.enc]
  · obtain ⟨S2, v2, h2, a2, b2, e2⟩ := draw_ok k h1 4 (by decide) (by decide)
    refine ⟨S2, .nam v2, h2, ⟨rfl, a2, b2⟩, ?_⟩
    simp (decide := true) [he, e1, c, e2, Ec.enc]
theorem sIf_t {gc : FB} {g1 g2 : FS} {env : Env} {S S1 : Store} {r : SO} (h : gc env S = some (.ok true, S1)) (k : g1 env S1 = r) : sIf gc g1 g2 env S = r := by rw [sIf_def, h]; exact k
theorem sIf_f {gc : FB} {g1 g2 : FS} {env : Env} {S S1 : Store} {r : SO} (h : gc env S = some (.ok false, S1)) (k : g2 env S1 = r) : sIf gc g1 g2 env S = r := by rw [sIf_def, h]; exact k
theorem expr_ok : ∀ (d k : Nat) {S : Store}, Pool S → ∃ S' e, Pool S' ∧ (Ec.dp e ≤ d ∧ e.wf) ∧ prog (k + 4 + d) .f_law_expression [.r 0, .d (.int (d : Nat))] S = some (.ok (.d e.enc), S')
  | 0, k, S, hS => by
    obtain ⟨S', e, hS', he, h⟩ := leaf_ok (k + 1) hS [some (.r 0), some (.d (.int (0 : Nat))), none] rfl
    refine ⟨S', e, hS', ⟨by omega, he.2⟩, ?_⟩
    show prog (k + 3 + 1) .f_law_expression _ _ = _
    rw [prog_succ]
    show fnM 2 3 true (m__law_expression (prog (k + 3))) [_, _] S = _
    refine fnM_poolS hS hS' (env := [some (.r 0), some (.d (.int (0 : Nat))), none]) rfl ?_
    unfold m__law_expression
    exact sSeq_rt (sIf_t (S1 := S) (by simp [envOf]) h)
  | d + 1, k, S, hS => by
    generalize hD : ((d + 1 : Nat) : Int) = z
    have hd : ¬ (z = 0) := by omega
    have hd1 : z - 1 = (d : Nat) := by omega
    obtain ⟨S1, v1, h1, a1, b1, e1⟩ := draw_ok (k + 2 + d) hS 4 (by decide) (by decide)
    have e1' : prog (k + 4 + d) .f_law_draw [.r 0, .d (.int 4)] S = some (.ok (.d (.int v1)), S1) := by
      rw [show k + 4 + d = k + 2 + d + 2 by omega]; exact e1
    show ∃ S' e, Pool S' ∧ (Ec.dp e ≤ d + 1 ∧ e.wf) ∧ prog (k + 4 + d + 1) .f_law_expression _ S = _
    rw [prog_succ]
    show ∃ S' e, Pool S' ∧ (Ec.dp e ≤ d + 1 ∧ e.wf) ∧ fnM 2 3 true (m__law_expression (prog (k + 4 + d))) [_, _] S = _
    by_cases c : v1 = 0
    · obtain ⟨S', e, hS', he, h⟩ := leaf_ok (k + 2 + d) h1 [some (.r 0), some (.d (.int z)), none] rfl
      rw [show k + 2 + d + 2 = k + 4 + d by omega] at h
      refine ⟨S', e, hS', ⟨by omega, he.2⟩, ?_⟩
      refine fnM_poolS hS hS' (env := [some (.r 0), some (.d (.int z)), none]) rfl ?_
      unfold m__law_expression
      exact sSeq_rt (sIf_t (S1 := S1) (by simp [envOf, hd, e1', c]) h)
    · obtain ⟨S2, x, h2, hx, e2⟩ := pick_ok (k + 1 + d) h1 [D.str "plus", D.str "minus", D.str "times", D.str "less", D.str "same", D.str "not"] (by decide) (by simp)
      have e2' : prog (k + 4 + d) .f_law_pick [.r 0, .d (.lst [D.str "plus", D.str "minus", D.str "times", D.str "less", D.str "same", D.str "not"])] S1 = some (.ok (.d x), S2) := by
        rw [show k + 4 + d = k + 1 + d + 3 by omega]; exact e2
      obtain ⟨S3, ea, h3, l3, e3⟩ := expr_ok d k h2
      by_cases hnot : x = .str "not"
      · subst hnot
        refine ⟨S3, .un ea, h3, ⟨by simp only [Ec.dp]; omega, l3.2⟩, ?_⟩
        refine fnM_poolS hS h3 (env := [some (.r 0), some (.d (.int z)), some (.d (.str "not"))]) rfl ?_
        unfold m__law_expression
        refine sSeq_nx (sIf_f (S1 := S1) (by simp [envOf, hd, e1', c]) rfl) ?_
        simp (decide := true) [envOf, e2', hd1, e3, Ec.enc]
      · obtain ⟨S4, eb, h4, l4, e4⟩ := expr_ok d k h3
        have hw : ∃ w : W, x = .str w.s := by
          simp at hx
          rcases hx with h | h | h | h | h | h
          · exact ⟨.plus, h⟩
          · exact ⟨.minus, h⟩
          · exact ⟨.times, h⟩
          · exact ⟨.less, h⟩
          · exact ⟨.same, h⟩
          · exact absurd h hnot
        obtain ⟨w, rfl⟩ := hw
        refine ⟨S4, .bin w ea eb, h4, ⟨by simp only [Ec.dp]; omega, l3.2, l4.2⟩, ?_⟩
        refine fnM_poolS hS h4 (env := [some (.r 0), some (.d (.int z)), some (.d (.str w.s))]) rfl ?_
        unfold m__law_expression
        refine sSeq_nx (sIf_f (S1 := S1) (by simp [envOf, hd, e1', c]) rfl) ?_
        cases w <;> (simp only [W.s] at e2'; simp (decide := true) [envOf, e2', hd1, e3, e4, Ec.enc, W.s])
end Y

set_option Elab.async false
set_option linter.all false
set_option maxRecDepth 100000
set_option maxHeartbeats 4000000
namespace Y
open PySem PySem.Spec L2
theorem lcL_pool {gt : Val → Env → Option Env} {f : FE} {env0 : Env} (Q : Tc → Prop) : ∀ (xs : List Val) (acc : List Val) {S : Store}, Pool S → acc.length + xs.length ≤ 1000000 →
    (∀ x ∈ xs, ∀ S, Pool S → ∃ env1 S' t, gt x env0 = some env1 ∧ Pool S' ∧ Q t ∧ f env1 S = some (.ok (.d t.enc), S')) →
    ∃ (S' : Store) (ts : List Tc), Pool S' ∧ ts.length = xs.length ∧ (∀ t ∈ ts, Q t) ∧ lcL gt gYes f env0 xs acc S = some (.ok (acc ++ (ts.map Tc.enc).map Val.d), S')
  | [], acc, S, hS, _, _ => ⟨S, [], hS, rfl, by simp, by show some (Ex.ok acc, S) = _; simp⟩
  | x :: xs, acc, S, hS, hl, H => by
    obtain ⟨env1, S1, t, h1, h2, h3, h4⟩ := H x List.mem_cons_self S hS
    rw [List.length_cons] at hl
    obtain ⟨S2, ts, g1, g2, g3, g4⟩ := lcL_pool Q xs (acc ++ [.d t.enc]) h2 (by rw [List.length_append, List.length_singleton]; omega) fun y hy => H y (List.mem_cons_of_mem _ hy)
    refine ⟨S2, t :: ts, g1, by simp [g2], by simpa using ⟨h3, g3⟩, ?_⟩
    show (match gt x env0 with | none => none | some env1 => _) = _
    rw [h1]
    dsimp only
    rw [bnd_def, gYes_def]
    dsimp only
    rw [if_pos rfl, bnd_def, h4]
    dsimp only
    rw [if_pos (sl' (by omega)), g4]
    simp
mutual
def Tc.wf : Tc → Prop
  | .set n e => (0 ≤ n ∧ n < 4) ∧ e.wf | .tell e => e.wf | .ite e a b => e.wf ∧ Tc.wfs a ∧ Tc.wfs b | .whl e a => e.wf ∧ Tc.wfs a
def Tc.wfs : List Tc → Prop
  | [] => True
  | t :: r => t.wf ∧ Tc.wfs r
end
theorem wfs_app : ∀ {a b : List Tc}, Tc.wfs (a ++ b) ↔ Tc.wfs a ∧ Tc.wfs b
  | [], b => by simp [Tc.wfs]
  | t :: r, b => by rw [List.cons_append, Tc.wfs, Tc.wfs, wfs_app, and_assoc]
abbrev okT (d : Nat) (t : Tc) : Prop := t.ht ≤ d ∧ (∀ e ∈ t.ex, Ec.dp e ≤ 2) ∧ t.wf
abbrev okB (d : Nat) (ts : List Tc) : Prop := Tc.hts ts ≤ d ∧ (∀ e ∈ Tc.exs ts, Ec.dp e ≤ 2) ∧ Tc.wfs ts
theorem okB_of {d : Nat} : ∀ {ts : List Tc}, (∀ t ∈ ts, okT d t) → okB d ts
  | [], _ => ⟨by simp [Tc.hts], by simp [Tc.exs], by simp [Tc.wfs]⟩
  | t :: r, h => by
    obtain ⟨a, b, c⟩ := h t List.mem_cons_self
    obtain ⟨a2, b2, c2⟩ := okB_of (ts := r) fun x hx => h x (List.mem_cons_of_mem _ hx)
    refine ⟨by rw [Tc.hts]; omega, fun e he => ?_, by rw [Tc.wfs]; exact ⟨c, c2⟩⟩
    rw [Tc.exs] at he
    rcases List.mem_append.mp he with h | h
    · exact b e h
    · exact b2 e h
theorem block_of (d k : Nat) (hdeed : ∀ {S : Store}, Pool S → ∃ S' t, Pool S' ∧ okT d t ∧ prog (k + 10 + 2 * d) .f_law_deed [.r 0, .d (.int (d : Nat))] S = some (.ok (.d t.enc), S')) {S : Store} (hS : Pool S) :
    ∃ S' ts, Pool S' ∧ okB d ts ∧ ts.length ≤ 3 ∧ prog (k + 11 + 2 * d) .f_law_block [.r 0, .d (.int (d : Nat))] S = some (.ok (.d (.tup (Tc.encs ts))), S') := by
  generalize hz : ((d : Nat) : Int) = z at *
  obtain ⟨S1, v, h1, a1, b1, e1⟩ := draw_ok (k + 8 + 2 * d) hS 4 (by decide) (by decide)
  rw [show k + 8 + 2 * d + 2 = k + 10 + 2 * d by omega] at e1
  obtain ⟨n, rfl⟩ := Int.eq_ofNat_of_zero_le a1
  have hr := rng1_nat n S1 (by omega)
  obtain ⟨S2, ts, h2, hlen, h3, e2⟩ := lcL_pool (gt := gN 2) (f := fCall (ck 2 (prog (k + 10 + 2 * d) .f_law_deed)) (fCons (fVar 0) (fCons (fVar 1) (fNil)))) (env0 := [some (.r 0), some (.d (.int z)), none]) (okT d) (((List.range n).map fun (i : Nat) => D.int i).map Val.d) [] h1 (by simp; omega) (by
    intro x hx S hS
    obtain ⟨S', t, g1, g2, g3⟩ := hdeed hS
    exact ⟨_, S', t, rfl, g1, g2, by simp [g3]⟩)
  refine ⟨S2, ts, h2, okB_of h3, by simp at hlen; omega, ?_⟩
  rw [show k + 11 + 2 * d = k + 10 + 2 * d + 1 by omega]
  rw [prog_succ]
  show fnM 2 3 true (m__law_block (prog (k + 10 + 2 * d))) [_, _] S = _
  refine fnM_poolS hS h2 (env := [some (.r 0), some (.d (.int z)), none]) rfl ?_
  have e3 : fCall rng1 (fCons (fCall (ck 2 (prog (k + 10 + 2 * d) .f_law_draw)) (fCons (fVar 0) (fCons (fC (.int 4)) (fNil)))) (fNil)) [some (.r 0), some (.d (.int z)), none] S = some (.ok (((List.range n).map fun (i : Nat) => D.int i).map Val.d), S1) := by
    have e : fCons (fCall (ck 2 (prog (k + 10 + 2 * d) .f_law_draw)) (fCons (fVar 0) (fCons (fC (.int 4)) (fNil)))) (fNil) [some (.r 0), some (.d (.int z)), none] S = some (.ok [.d (.int (n : Nat))], S1) := by simp [e1]
    rw [fCall_def, bnd_def, e]
    exact hr
  have e4 : fFrz (fLc (fCall rng1 (fCons (fCall (ck 2 (prog (k + 10 + 2 * d) .f_law_draw)) (fCons (fVar 0) (fCons (fC (.int 4)) (fNil)))) (fNil))) (gN 2) (gYes) (fCall (ck 2 (prog (k + 10 + 2 * d) .f_law_deed)) (fCons (fVar 0) (fCons (fVar 1) (fNil)))) [2]) [some (.r 0), some (.d (.int z)), none] S = some (.ok (.d (.lst (ts.map Tc.enc))), S2) := by
    rw [fFrz_def, bnd_def]
    have : fLc (fCall rng1 (fCons (fCall (ck 2 (prog (k + 10 + 2 * d) .f_law_draw)) (fCons (fVar 0) (fCons (fC (.int 4)) (fNil)))) (fNil))) (gN 2) (gYes) (fCall (ck 2 (prog (k + 10 + 2 * d) .f_law_deed)) (fCons (fVar 0) (fCons (fVar 1) (fNil)))) [2] [some (.r 0), some (.d (.int z)), none] S = some (.ok ((ts.map Tc.enc).map Val.d), S2) := by
      show bnd _ _ S = _
      rw [bnd_def, e3]
      exact noX_ok e2
    rw [this]
    exact frz_map _ _
  unfold m__law_block
  generalize fFrz (fLc (fCall rng1 (fCons (fCall (ck 2 (prog (k + 10 + 2 * d) .f_law_draw)) (fCons (fVar 0) (fCons (fC (.int 4)) (fNil)))) (fNil))) (gN 2) (gYes) (fCall (ck 2 (prog (k + 10 + 2 * d) .f_law_deed)) (fCons (fVar 0) (fCons (fVar 1) (fNil)))) [2]) = F at e4 ⊢
  simp [envOf, e4, encs_map]
end Y

set_option Elab.async false
set_option linter.all false
set_option maxRecDepth 100000
set_option maxHeartbeats 4000000
namespace Y
open PySem PySem.Spec L2
theorem expr2 (k : Nat) {S : Store} (hS : Pool S) : ∃ S' e, Pool S' ∧ (Ec.dp e ≤ 2 ∧ e.wf) ∧ prog (k + 6) .f_law_expression [.r 0, .d (.int 2)] S = some (.ok (.d e.enc), S') := expr_ok 2 k hS
/-- a deed without deeds in it -/
theorem flat_ok (c : Fnm → Fn) (k : Nat) (hc : c = prog (k + 6)) {S : Store} (hS : Pool S) (v : Int) (z : D) : ∃ S' t, Pool S' ∧ Tc.ht t = 0 ∧ ((∀ e ∈ t.ex, Ec.dp e ≤ 2) ∧ t.wf) ∧
    sSeq (sIf (fT (fBin (oEq false) (fBin oMod (fVar 2) (fC (.int 4))) (fC (.int 3)))) (sSeq (sRet (fTup (fCons (fC (.str "tell")) (fCons (fCall (ck 2 (c .f_law_expression)) (fCons (fVar 0) (fCons (fC (.int 2)) (fNil)))) (fNil))))) (sNil)) (sNil)) (sSeq (sRet (fTup (fCons (fC (.str "set")) (fCons (fCall (ck 2 (c .f_law_draw)) (fCons (fVar 0) (fCons (fC (.int 4)) (fNil)))) (fCons (fCall (ck 2 (c .f_law_expression)) (fCons (fVar 0) (fCons (fC (.int 2)) (fNil)))) (fNil)))))) (sNil)) [some (.r 0), some (.d z), some (.d (.int v)), none, none] S = some (.rt (.d t.enc), [some (.r 0), some (.d z), some (.d (.int v)), none, none], S') := by
  by_cases h : v % 4 = 3
  · obtain ⟨S1, e, h1, l1, e1⟩ := expr2 k hS
    rw [← hc] at e1
    refine ⟨S1, .tell e, h1, rfl, ⟨by simpa [Tc.ex] using l1.1, by rw [Tc.wf]; exact l1.2⟩, ?_⟩
    simp (decide := true) [h, e1, Tc.enc]
  · obtain ⟨S1, n, h1, n1, n2, e1⟩ := draw_ok (k + 4) hS 4 (by decide) (by decide)
    obtain ⟨S2, e, h2, l2, e2⟩ := expr2 k h1
    rw [← hc] at e1 e2
    refine ⟨S2, .set n e, h2, rfl, ⟨by simpa [Tc.ex] using l2.1, by rw [Tc.wf]; exact ⟨⟨n1, n2⟩, l2.2⟩⟩, ?_⟩
    simp (decide := true) [h, e1, e2, Tc.enc]
end Y

set_option Elab.async false
set_option linter.all false
set_option maxRecDepth 100000
set_option maxHeartbeats 4000000
namespace Y
open PySem PySem.Spec L2
/-! ### which data may be compared -/
def Sh (d : D) (n : Nat) : Prop := ∃ p, d.toP = some p ∧ p.canLay0 = true ∧ p.depth ≤ n
def Shs (ds : List D) (n : Nat) : Prop := ∃ ps, D.toPs ds = some ps ∧ PyData.canLayAll0 ps = true ∧ PyData.depthAll ps ≤ n ∧ ps.length = ds.length
theorem sh_int (i : Int) (n : Nat) : Sh (.int i) n := ⟨.int i, rfl, rfl, Nat.zero_le _⟩
theorem sh_str {z : Str} (h : PyData.strOk z = true) (n : Nat) : Sh (.str z) n := ⟨.str z, rfl, h, Nat.zero_le _⟩
theorem sh_mono {d : D} {n m : Nat} (h : Sh d n) (hn : n ≤ m) : Sh d m := by
  obtain ⟨p, a, b, c⟩ := h
  exact ⟨p, a, b, Nat.le_trans c hn⟩
theorem shs_nil (n : Nat) : Shs [] n := ⟨[], rfl, rfl, Nat.zero_le _, rfl⟩
theorem shs_cons {d : D} {ds : List D} {n : Nat} (h : Sh d n) (h2 : Shs ds n) : Shs (d :: ds) n := by
  obtain ⟨p, a, b, c⟩ := h
  obtain ⟨ps, a2, b2, c2, e2⟩ := h2
  refine ⟨p :: ps, ?_, ?_, ?_, ?_⟩
  · rw [D.toPs, a, a2]
  · rw [PyData.canLayAll0, b, b2]; rfl
  · rw [PyData.depthAll]; omega
  · rw [List.length_cons, List.length_cons, e2]
theorem sh_tup {ds : List D} {n m : Nat} (h : Shs ds n) (hm : n + 1 ≤ m) : Sh (.tup ds) m := by
  obtain ⟨ps, a2, b2, c2, e2⟩ := h
  refine ⟨.tuple ps, ?_, ?_, ?_⟩
  · rw [D.toP, a2]; rfl
  · rw [PyData.canLay0]; exact b2
  · rw [PyData.depth]; omega
theorem eqD_nil {ds : List D} {n : Nat} (h : Shs ds n) (hn : n < 64) : eqD (.tup ds) (.tup []) = some ds.isEmpty := by
  obtain ⟨ps, a2, b2, c2, e2⟩ := h
  unfold eqD
  have t1 : D.toP (.tup ds) = some (.tuple ps) := by rw [D.toP, a2]; rfl
  have t2 : D.toP (.tup []) = some (.tuple []) := by rw [D.toP, D.toPs]; rfl
  rw [t1, t2]
  dsimp only
  have s1 : SeqAt.shaped (.tuple ps) = true := by
    unfold SeqAt.shaped
    rw [PyData.canLay0, b2, PyData.depth]
    simp; omega
  have s2 : SeqAt.shaped (.tuple []) = true := by decide
  rw [s1, s2, if_pos (by rfl)]
  congr 1
  rw [PyData.eqv]
  cases ps with
  | nil =>
    cases ds with
    | nil => rfl
    | cons a b => cases e2
  | cons p r =>
    cases ds with
    | nil => cases e2
    | cons a b => rfl
theorem oEq_nil (neg : Bool) {ds : List D} {n : Nat} (h : Shs ds n) (hn : n < 64) (S : Store) : oEq neg (.d (.tup ds)) (.d (.tup [])) S = some (.ok (.d (.bl (ds.isEmpty != neg))), S) := oEq_of neg (eqD_nil h hn) S
theorem W.ok (w : W) : PyData.strOk w.s = true := by cases w <;> simp only [W.s, sk_plus, sk_minus, sk_times, sk_less, sk_same]
theorem sh_ec : ∀ e : Ec, Sh e.enc (e.dp + 1)
  | .num i => sh_tup (n := 0) (shs_cons (sh_str sk_number _) (shs_cons (sh_int i _) (shs_nil _))) (by simp [Ec.dp])
  | .nam i => sh_tup (n := 0) (shs_cons (sh_str sk_name _) (shs_cons (sh_int i _) (shs_nil _))) (by simp [Ec.dp])
  | .un a => sh_tup (n := a.dp + 1) (shs_cons (sh_str sk_not _) (shs_cons (sh_ec a) (shs_nil _))) (by simp [Ec.dp])
  | .bin w a b => sh_tup (n := max a.dp b.dp + 1) (shs_cons (sh_str w.ok _) (shs_cons (sh_mono (sh_ec a) (by omega)) (shs_cons (sh_mono (sh_ec b) (by omega)) (shs_nil _)))) (by simp [Ec.dp])
mutual
theorem sh_tc (M : Nat) : ∀ t : Tc, (∀ e ∈ t.ex, Ec.dp e ≤ M) → Sh t.enc (2 * t.ht + M + 2)
  | .set n e, h => by
    rw [Tc.enc]
    exact sh_tup (n := M + 1) (shs_cons (sh_str sk_set _) (shs_cons (sh_int n _) (shs_cons (sh_mono (sh_ec e) (by have := h e (by simp [Tc.ex]); omega)) (shs_nil _)))) (by omega)
  | .tell e, h => by
    rw [Tc.enc]
    exact sh_tup (n := M + 1) (shs_cons (sh_str sk_tell _) (shs_cons (sh_mono (sh_ec e) (by have := h e (by simp [Tc.ex]); omega)) (shs_nil _))) (by omega)
  | .ite e a b, h => by
    rw [Tc.enc]
    have ha := sh_tcs M a fun x hx => h x (by simp [Tc.ex, hx])
    have hb := sh_tcs M b fun x hx => h x (by simp [Tc.ex, hx])
    have he := h e (by simp [Tc.ex])
    have hh : (Tc.ite e a b).ht = 1 + max (Tc.hts a) (Tc.hts b) := by rw [Tc.ht]
    exact sh_tup (n := 2 * max (Tc.hts a) (Tc.hts b) + M + 3) (shs_cons (sh_str sk_if _) (shs_cons (sh_mono (sh_ec e) (by omega)) (shs_cons (sh_mono (sh_tup ha (Nat.le_refl _)) (by omega)) (shs_cons (sh_mono (sh_tup hb (Nat.le_refl _)) (by omega)) (shs_nil _))))) (by omega)
  | .whl e a, h => by
    rw [Tc.enc]
    have ha := sh_tcs M a fun x hx => h x (by simp [Tc.ex, hx])
    have he := h e (by simp [Tc.ex])
    have hh : (Tc.whl e a).ht = 1 + Tc.hts a := by rw [Tc.ht]
    exact sh_tup (n := 2 * Tc.hts a + M + 3) (shs_cons (sh_str sk_while _) (shs_cons (sh_mono (sh_ec e) (by omega)) (shs_cons (sh_mono (sh_tup ha (Nat.le_refl _)) (by omega)) (shs_nil _)))) (by omega)
theorem sh_tcs (M : Nat) : ∀ ts : List Tc, (∀ e ∈ Tc.exs ts, Ec.dp e ≤ M) → Shs (Tc.encs ts) (2 * Tc.hts ts + M + 2)
  | [], _ => by rw [Tc.encs]; exact shs_nil _
  | t :: r, h => by
    have h1 := sh_tc M t fun x hx => h x (by simp [Tc.exs, hx])
    have h2 := sh_tcs M r fun x hx => h x (by simp [Tc.exs, hx])
    have hh : Tc.hts (t :: r) = max t.ht (Tc.hts r) := by rw [Tc.hts]
    rw [Tc.encs]
    refine shs_cons (sh_mono h1 (by omega)) ?_
    obtain ⟨ps, a, b, c, d⟩ := h2
    exact ⟨ps, a, b, by omega, d⟩
end
end Y

set_option Elab.async false
set_option linter.all false
set_option maxRecDepth 100000
set_option maxHeartbeats 4000000
namespace Y
open PySem PySem.Spec L2
theorem encs_app (a b : List Tc) : Tc.encs (a ++ b) = Tc.encs a ++ Tc.encs b := by rw [encs_map, encs_map, encs_map, List.map_append]
theorem hts_app : ∀ a b : List Tc, Tc.hts (a ++ b) = max (Tc.hts a) (Tc.hts b)
  | [], b => by simp [Tc.hts]
  | t :: r, b => by rw [List.cons_append, Tc.hts, Tc.hts, hts_app r b]; omega
theorem hts_one (x : Tc) : Tc.hts [x] = x.ht := by simp [Tc.hts]
theorem oPlus_one (ts : List Tc) (x : Tc) (S : Store) (h : ts.length ≤ 1000000) : oPlus (.d (.tup (Tc.encs ts))) (.d (.tup [x.enc])) S = some (.ok (.d (.tup (Tc.encs (ts ++ [x])))), S) := by
  rw [oPlus_tup _ _ _ (sl (by rw [encs_map, List.length_map]; simp; omega)), encs_app]
  rfl
def moreT (n w : Int) : Tc := .set n (.bin .plus (.nam n) (.num (1 + w)))
theorem moreT_enc (n w : Int) : (moreT n w).enc = .tup [.str "set", .int n, .tup [.str "plus", .tup [.str "name", .int n], .tup [.str "number", .int (1 + w)]]] := rfl
theorem deed_ok : ∀ (d k : Nat) {S : Store}, Pool S → ∃ S' t, Pool S' ∧ okT d t ∧ prog (k + 10 + 2 * d) .f_law_deed [.r 0, .d (.int (d : Nat))] S = some (.ok (.d t.enc), S')
  | d, k, S, hS => by
    generalize hz : ((d : Nat) : Int) = z
    obtain ⟨S1, v, h1, a1, b1, e1⟩ := draw_ok (k + 7 + 2 * d) hS 8 (by decide) (by decide)
    rw [show k + 7 + 2 * d + 2 = k + 9 + 2 * d by omega] at e1
    rw [show k + 10 + 2 * d = k + 9 + 2 * d + 1 by omega, prog_succ]
    generalize hc : prog (k + 9 + 2 * d) = c at e1
    show ∃ S' t, Pool S' ∧ okT d t ∧ fnM 2 5 true (m__law_deed c) [_, _] S = _
    by_cases cA : z = 0 ∨ v < 4
    · obtain ⟨S2, t, h2, t1, t2, e2⟩ := flat_ok c (k + 3 + 2 * d) (by rw [← hc, show k + 3 + 2 * d + 6 = k + 9 + 2 * d by omega]) h1 v (.int z)
      refine ⟨S2, t, h2, ⟨by omega, t2⟩, ?_⟩
      refine fnM_poolS hS h2 (env := [some (.r 0), some (.d (.int z)), some (.d (.int v)), none, none]) rfl ?_
      unfold m__law_deed
      refine sSeq_nx (env' := [some (.r 0), some (.d (.int z)), some (.d (.int v)), none, none]) (S' := S1) (by simp [envOf, e1]) ?_
      refine sSeq_rt (sIf_t (S1 := S1) ?_ e2)
      by_cases c0 : z = 0
      · simp [c0]
      · have c1 : v < 4 := by omega
        simp [c0, c1]
    · have c0 : ¬ z = 0 := fun h => cA (.inl h)
      have c1 : ¬ v < 4 := fun h => cA (.inr h)
      obtain ⟨d, rfl⟩ : ∃ d', d = d' + 1 := ⟨d - 1, by omega⟩
      have hz1 : z - 1 = (d : Nat) := by omega
      have blk : ∀ {S : Store}, Pool S → ∃ S' ts, Pool S' ∧ okB d ts ∧ ts.length ≤ 3 ∧ c .f_law_block [.r 0, .d (.int (d : Nat))] S = some (.ok (.d (.tup (Tc.encs ts))), S') := by
        intro S hS
        obtain ⟨S', ts, g1, g2, gl, g3⟩ := block_of d k (fun {S} hS => deed_ok d k hS) hS
        exact ⟨S', ts, g1, g2, gl, by rw [← hc, show k + 9 + 2 * (d + 1) = k + 11 + 2 * d by omega]; exact g3⟩
      have ex2 : ∀ {S : Store}, Pool S → ∃ S' e, Pool S' ∧ (Ec.dp e ≤ 2 ∧ e.wf) ∧ c .f_law_expression [.r 0, .d (.int 2)] S = some (.ok (.d e.enc), S') := by
        intro S hS
        have := expr2 (k + 5 + 2 * d) hS
        rw [show k + 5 + 2 * d + 6 = k + 9 + 2 * (d + 1) by omega, hc] at this
        exact this
      have drw : ∀ {S : Store}, Pool S → ∀ (many : Int), 0 < many → many < 1073741824 → ∃ S' v, Pool S' ∧ 0 ≤ v ∧ v < many ∧ c .f_law_draw [.r 0, .d (.int many)] S = some (.ok (.d (.int v)), S') := by
        intro S hS many p1 p2
        have := draw_ok (k + 9 + 2 * d) hS many p1 p2
        rw [show k + 9 + 2 * d + 2 = k + 9 + 2 * (d + 1) by omega, hc] at this
        exact this
      clear hc
      by_cases c2 : v < 6
      · obtain ⟨S2, e, h2, l2, e2⟩ := ex2 h1
        obtain ⟨S3, ta, h3, l3, _, e3⟩ := blk h2
        obtain ⟨S4, tb, h4, l4, _, e4⟩ := blk h3
        refine ⟨S4, .ite e ta tb, h4, ⟨by rw [Tc.ht]; have := l3.1; have := l4.1; omega, ?_, by rw [Tc.wf]; exact ⟨l2.2, l3.2.2, l4.2.2⟩⟩, ?_⟩
        · intro x hx
          simp [Tc.ex] at hx
          rcases hx with rfl | hx | hx
          · exact l2.1
          · exact l3.2.1 x hx
          · exact l4.2.1 x hx
        · refine fnM_poolS hS h4 (env := [some (.r 0), some (.d (.int z)), some (.d (.int v)), none, none]) rfl ?_
          simp (decide := true) [m__law_deed, envOf, e1, c0, c1, c2, e2, hz1, e3, e4, Tc.enc]
      · obtain ⟨S2, n, h2, n1, n2, e2⟩ := drw h1 4 (by decide) (by decide)
        obtain ⟨S3, u, h3, u1, u2, e3⟩ := drw h2 5 (by decide) (by decide)
        by_cases c3 : u < 3
        · obtain ⟨S4, w, h4, w1, w2, e4⟩ := drw h3 3 (by decide) (by decide)
          obtain ⟨S5, q, h5, q1, q2, e5⟩ := drw h4 12 (by decide) (by decide)
          obtain ⟨S6, ta, h6, l6, n6, e6⟩ := blk h5
          have hp := oPlus_one ta (moreT n w) S6 (by omega)
          rw [moreT_enc] at hp
          refine ⟨S6, .whl (.bin .less (.nam n) (.num q)) (ta ++ [moreT n w]), h6, ⟨?_, ?_, ?_⟩, ?_⟩
          · rw [Tc.ht, hts_app, hts_one]
            have := l6.1
            have : (moreT n w).ht = 0 := rfl
            omega
          · intro x hx
            rw [Tc.ex, exs_app, exs_one] at hx
            rcases List.mem_cons.mp hx with rfl | hx
            · simp [Ec.dp]
            · rcases List.mem_append.mp hx with hx | hx
              · exact l6.2.1 x hx
              · simp [moreT, Tc.ex] at hx
                subst hx
                simp [Ec.dp]
          · rw [Tc.wf, wfs_app, moreT]
            refine ⟨⟨⟨n1, n2⟩, q1, by omega⟩, l6.2.2, ?_⟩
            rw [Tc.wfs, Tc.wf, Tc.wfs]
            exact ⟨⟨⟨n1, n2⟩, ⟨n1, n2⟩, by omega, by omega⟩, trivial⟩
          · refine fnM_poolS hS h6 (env := [some (.r 0), some (.d (.int z)), some (.d (.int v)), some (.d (.int n)), some (.d (moreT n w).enc)]) rfl ?_
            rw [moreT_enc]
            simp (decide := true) [m__law_deed, envOf, e1, c0, c1, c2, e2, e3, c3, hz1, e4, e5, e6, hp, Tc.enc, Ec.enc, W.s]
        · obtain ⟨S4, e, h4, l4, e4⟩ := ex2 h3
          obtain ⟨S5, ta, h5, l5, _, e5⟩ := blk h4
          refine ⟨S5, .whl e ta, h5, ⟨by rw [Tc.ht]; have := l5.1; omega, ?_, by rw [Tc.wf]; exact ⟨l4.2, l5.2.2⟩⟩, ?_⟩
          · intro x hx
            simp [Tc.ex] at hx
            rcases hx with rfl | hx
            · exact l4.1
            · exact l5.2.1 x hx
          · refine fnM_poolS hS h5 (env := [some (.r 0), some (.d (.int z)), some (.d (.int v)), some (.d (.int n)), none]) rfl ?_
            simp (decide := true) [m__law_deed, envOf, e1, c0, c1, c2, e2, e3, c3, hz1, e4, e5, Tc.enc]
end Y

set_option Elab.async false
set_option linter.all false
set_option maxRecDepth 100000
set_option maxHeartbeats 4000000
namespace Y
open PySem PySem.Spec L2
theorem cutL_map {α β : Type} (f : α → β) (xs : List α) (lo hi : Option Int) : cutL (xs.map f) lo hi = (cutL xs lo hi).map f := by
  unfold cutL
  simp [List.map_take, List.map_drop]
theorem oSl_ro (ns : List Int) (lo hi : Option Int) (S : Store) : oSl (.d (.ro ns)) lo hi S = some (.ok (.d (.lst ((cutL ns lo hi).map D.int))), S) := by
  show frz (cutL (ns.map fun n => Val.d (.int n)) lo hi) S = _
  rw [cutL_map]
  have := frz_map ((cutL ns lo hi).map D.int) S
  rw [List.map_map] at this
  exact this
theorem oList_ro (ns : List Int) (S : Store) : oList [.d (.ro ns)] S = some (.ok ((ns.map D.int).map Val.d), S) := by
  rw [List.map_map]
  exact c1_ok (a := ns.map fun n => Val.d (.int n)) rfl
theorem fnM_keep {n N : Nat} {body : FS} {args : List Val} {env : Env} {v : Val} {S S' : Store} (hn : args.length = n) (h : body (envOf N args) S = some (.rt v, env, S')) : fnM n N false body args S = some (.ok v, S') := by
  unfold fnM
  rw [if_pos hn, h]
  show cutF false S (.ok v) S' = _
  unfold cutF
  rw [if_neg (by decide)]
theorem pool_ok (k : Nat) (ns : List Int) : ∃ S', Pool S' ∧ prog (k + 1) .f_law_pool [.d (.ro ns)] [] = some (.ok (.r 0), S') := by
  rw [prog_succ]
  show ∃ S', Pool S' ∧ fnM 1 3 false (m__law_pool (prog k)) [_] [] = _
  obtain ⟨env', S', h1, h2⟩ := forL_run (gt := gN 2) (body := b__law_pool_1 (prog k)) D.int (fun done env S' => S' = [] ∧ ∃ m j, env = [some (.d (.ro ns)), some (.d (.int m)), j]) (cutL ns none (some 63))
    (by
      rintro done x rest env S' he ⟨rfl, m, j, rfl⟩
      refine ⟨_, [some (.d (.ro ns)), some (.d (.int ((m * 31 + x) % 1000003))), some (.d (.int x))], [], rfl, ?_, rfl, _, _, rfl⟩
      simp (decide := true) [b__law_pool_1]) (cutL ns none (some 63)) [] [some (.d (.ro ns)), some (.d (.int 7)), none] [] rfl ⟨rfl, _, _, rfl⟩
  obtain ⟨rfl, m, j, rfl⟩ := h2
  refine ⟨pl ns 0 0 0 m, ⟨_, _, _, _, _, rfl, Int.le_refl 0⟩, fnM_keep (env := [some (.d (.ro ns)), some (.d (.int m)), j]) rfl ?_⟩
  unfold m__law_pool
  refine sSeq_nx (env' := [some (.d (.ro ns)), some (.d (.int 7)), none]) (S' := []) (by simp [envOf]) ?_
  refine sSeq_nx (env' := [some (.d (.ro ns)), some (.d (.int m)), j]) (S' := []) ?_ ?_
  · rw [sFor_def, fSeq_def]
    simp only [bnd_def, fSl_def, fVar_def, fNo_def, fPart_def, fC_def, asI_int, lift_some, Option.map_some, List.getElem?_cons_zero, Option.join_some, oSl_ro, fzV_lst, bS_ok]
    exact h1
  · have e := oList_ro ns ([] : Store)
    have e2 := frz_map (ns.map D.int) ([] : Store)
    simp only [sSeq_def, sRet_def, fNew_def, fLst_def, fCons_def, fFrz_def, fCall_def, fNil_def, fVar_def, fC_def, bnd_def, ret_def, lift_some, List.getElem?_cons_zero, List.getElem?_cons_succ, Option.join_some, e, e2, okL_5, new_def, bS_ok]
    rfl
theorem program_ok (k : Nat) {S : Store} (hS : Pool S) : ∃ S' ts, Pool S' ∧ ts ≠ [] ∧ okB 3 ts ∧ Tc.dcs ts ≤ 24 ∧ prog (k + 18) .f_law_program [.r 0] S = some (.ok (.d (.tup (Tc.encs ts))), S') := by
  obtain ⟨S1, bs, h1, b1, n1, e1⟩ := block_of 3 k (fun {S} hS => deed_ok 3 k hS) hS
  replace e1 : prog (k + 17) .f_law_block [.r 0, .d (.int 3)] S = some (.ok (.d (.tup (Tc.encs bs))), S1) := e1
  have hld : ∀ fs : List Tc, okB 3 fs → ∀ S, prog (k + 17) .f_law_deeds_of [.d (.tup (Tc.encs fs))] S = some (.ok (.d (.int (Tc.dcs fs))), S) := fun fs h S => ldeeds_ok (k + 17) fs S (by have := h.1; omega)
  obtain ⟨S2, n, h2, n1, n2, e2⟩ := draw_ok (k + 15) h1 4 (by decide) (by decide)
  replace e2 : prog (k + 17) .f_law_draw [.r 0, .d (.int 4)] S1 = some (.ok (.d (.int n)), S2) := e2
  rw [prog_succ]
  generalize prog (k + 17) = c at e1 e2 hld
  show ∃ S' ts, Pool S' ∧ ts ≠ [] ∧ okB 3 ts ∧ Tc.dcs ts ≤ 24 ∧ fnM 1 3 true (m__law_program c) [_] S = _
  obtain ⟨env', S', g1, g2⟩ := forL_run (gt := gN 2) (body := b__law_program_1 c) Tc.enc (fun done env S' => S' = S1 ∧ ∃ fs j, env = [some (.r 0), some (.d (.tup (Tc.encs fs))), j] ∧ okB 3 fs ∧ Tc.dcs fs ≤ 24) bs
    (by
      rintro done x rest env S' he ⟨rfl, fs, j, rfl, f1, f2⟩
      have hx : x ∈ bs := by rw [← he]; simp
      have hx1 : okB 3 (fs ++ [x]) := by
        refine ⟨?_, fun e h => ?_, ?_⟩
        · rw [hts_app, hts_one]
          have := f1.1
          have := hts_mem hx
          have := b1.1
          omega
        · rw [exs_app, exs_one] at h
          rcases List.mem_append.mp h with h | h
          · exact f1.2.1 e h
          · refine b1.2.1 e ?_
            obtain ⟨p, q, rfl⟩ := List.append_of_mem hx
            rw [exs_app, Tc.exs]
            simp [h]
        · rw [wfs_app, Tc.wfs, Tc.wfs]
          refine ⟨f1.2.2, ?_, trivial⟩
          have hb := b1.2.2
          obtain ⟨p, q, rfl⟩ := List.append_of_mem hx
          rw [wfs_app, Tc.wfs] at hb
          exact hb.2.1
      have hp := oPlus_one fs x S' (by have := len_dcs fs; omega)
      have hd := hld (fs ++ [x]) hx1 S'
      by_cases c1 : Tc.dcs (fs ++ [x]) ≤ 24
      · have c2 : ((Tc.dcs (fs ++ [x]) : Nat) : Int) ≤ 24 := by omega
        refine ⟨_, [some (.r 0), some (.d (.tup (Tc.encs (fs ++ [x])))), some (.d x.enc)], S', rfl, ?_, rfl, fs ++ [x], _, rfl, hx1, c1⟩
        simp [b__law_program_1, hp, hd, c2]
      · have c2 : ¬ ((Tc.dcs (fs ++ [x]) : Nat) : Int) ≤ 24 := by omega
        refine ⟨_, [some (.r 0), some (.d (.tup (Tc.encs fs))), some (.d x.enc)], S', rfl, ?_, rfl, fs, _, rfl, f1, f2⟩
        simp [b__law_program_1, hp, hd, c2]) bs [] [some (.r 0), some (.d (.tup [])), none] S1 rfl ⟨rfl, [], none, rfl, ⟨by simp [Tc.hts], by simp [Tc.exs], by simp [Tc.wfs]⟩, by simp [Tc.dcs]⟩
  obtain ⟨rfl, fs, j, rfl, f1, f2⟩ := g2
  have hq := fun S => oEq_nil true (sh_tcs 2 fs f1.2.1) (by have := f1.1; omega) S
  rw [← encs_map] at g1
  have hrun : ∀ r, sSeq (sRet (fIf (fT (fBin (oEq true) (fVar 1) (fTup (fNil)))) (fVar 1) (fTup (fCons (fTup (fCons (fC (.str "tell")) (fCons (fTup (fCons (fC (.str "name")) (fCons (fCall (ck 2 (c .f_law_draw)) (fCons (fVar 0) (fCons (fC (.int 4)) (fNil)))) (fNil)))) (fNil)))) (fNil))))) (sNil) [some (.r 0), some (.d (.tup (Tc.encs fs))), j] S' = r → m__law_program c (envOf 3 [.r 0]) S = r := by
    intro r hr
    unfold m__law_program
    refine sSeq_nx (env' := [some (.r 0), some (.d (.tup [])), none]) (S' := S) (by simp [envOf]) ?_
    refine sSeq_nx (env' := [some (.r 0), some (.d (.tup (Tc.encs fs))), j]) (S' := S') ?_ hr
    rw [sFor_def]
    have e : fSeq (fCall (ck 2 (c .f_law_block)) (fCons (fVar 0) (fCons (fC (.int 3)) (fNil)))) [some (.r 0), some (.d (.tup [])), none] S = some (.ok ((Tc.encs bs).map Val.d), S') := by simp [e1]
    rw [e]
    exact g1
  by_cases hf : fs = []
  · subst hf
    refine ⟨S2, [.tell (.nam n)], h2, by simp, ⟨by simp [Tc.hts, Tc.ht], by simp [Tc.exs, Tc.ex, Ec.dp], by simp only [Tc.wfs, Tc.wf, Ec.wf]; exact ⟨⟨n1, n2⟩, trivial⟩⟩, by simp [Tc.dcs, Tc.dc], ?_⟩
    refine fnM_poolS hS h2 (env := [some (.r 0), some (.d (.tup [])), j]) rfl (hrun _ ?_)
    have hq2 := hq S'
    simp only [Tc.encs] at hq2
    simp (decide := true) [Tc.encs, hq2, e2, Tc.enc, Ec.enc]
  · refine ⟨S', fs, h1, hf, f1, f2, ?_⟩
    refine fnM_poolS hS h1 (env := [some (.r 0), some (.d (.tup (Tc.encs fs))), j]) rfl (hrun _ ?_)
    have he : (Tc.encs fs).isEmpty = false := by
      cases fs with
      | nil => exact absurd rfl hf
      | cons x r => rfl
    have hq2 := hq S'
    rw [he] at hq2
    simp [hq2]
end Y

set_option Elab.async false
set_option linter.all false
set_option maxRecDepth 100000
set_option maxHeartbeats 4000000
namespace Y
open PySem PySem.Spec L2
/-! ### values -/
def W.val : W → Int → Int → Int
  | .plus, x, y => (x + y) % 1000 | .minus, x, y => (x - y) % 1000 | .times, x, y => (x * y) % 1000 | .less, x, y => if x < y then 1 else 0 | .same, x, y => if x = y then 1 else 0
def Ec.val : Ec → List Int → Int
  | .num i, _ => i | .nam i, s => s.getD i.toNat 0 | .un a, s => if a.val s = 0 then 1 else 0 | .bin w a b, s => w.val (a.val s) (b.val s)
def Rg (v : Int) : Prop := 0 ≤ v ∧ v < 1000
structure okS (s : List Int) : Prop where
  len : s.length = 4
  rg : ∀ v ∈ s, Rg v
theorem okS.at {s : List Int} (h : okS s) {i : Int} (h0 : 0 ≤ i) (h1 : i < 4) : ∃ n : Nat, i = n ∧ s[n]? = some (s.getD i.toNat 0) ∧ Rg (s.getD i.toNat 0) := by
  obtain ⟨n, rfl⟩ := Int.eq_ofNat_of_zero_le h0
  have hn : n < s.length := by rw [h.len]; omega
  refine ⟨n, rfl, ?_, ?_⟩
  · rw [Int.toNat_natCast, List.getElem?_eq_getElem hn, List.getD_eq_getElem?_getD, List.getElem?_eq_getElem hn]; rfl
  · rw [Int.toNat_natCast, List.getD_eq_getElem?_getD, List.getElem?_eq_getElem hn]
    exact h.rg _ (List.getElem_mem hn)
theorem W.val_rg (w : W) {x y : Int} : Rg (w.val x y) := by
  cases w <;> simp only [W.val, Rg] <;> (try split) <;> omega
theorem Ec.val_rg : ∀ {e : Ec} {s : List Int}, e.wf → okS s → Rg (e.val s)
  | .num i, s, h, _ => h
  | .nam i, s, h, hs => by obtain ⟨n, _, _, h3⟩ := hs.at h.1 h.2; exact h3
  | .un a, s, h, hs => by simp only [Ec.val, Rg]; split <;> omega
  | .bin w a b, s, h, hs => w.val_rg
def stE (s : List Int) : D := .tup (s.map D.int)
theorem atI_st {s : List Int} (h : okS s) {i : Int} (h0 : 0 ≤ i) (h1 : i < 4) : atI ((s.map D.int).map Val.d) i = some (.d (.int (s.getD i.toNat 0))) := by
  obtain ⟨n, e, h2, _⟩ := h.at h0 h1
  generalize s.getD i.toNat 0 = v at h2
  subst e
  rw [atI_nat, List.getElem?_map, List.getElem?_map, h2]
  rfl
theorem ix_st {s : List Int} (h : okS s) {i : Int} (h0 : 0 ≤ i) (h1 : i < 4) (S : Store) : oIx (.d (stE s)) (.d (.int i)) S = some (.ok (.d (.int (s.getD i.toNat 0))), S) := by
  rw [stE, oIx_tup, atI_st h h0 h1]; rfl
@[simp] theorem oInt1_bl (b : Bool) (S : Store) : oInt1 [.d (.bl b)] S = some (.ok (.d (.int (if b = true then 1 else 0))), S) := rfl
theorem oMul_ok (a b : Int) (S : Store) (h : Rg a) : oMul (.d (.int a)) (.d (.int b)) S = some (.ok (.d (.int (a * b))), S) := by
  show (if cMul a b = true then ret (Val.d (.int (a * b))) else stk) S = _
  rw [if_pos (by unfold cMul; simp only [Bool.or_eq_true, Bool.and_eq_true, decide_eq_true_eq]; exact .inl ⟨by have := h.1; omega, by have := h.2; omega⟩)]
  rfl
theorem worked_ok (k : Nat) (w : W) (x y : Int) (S : Store) (hx : Rg x) : prog (k + 1) .f_worked [.d (.str w.s), .d (.int x), .d (.int y)] S = some (.ok (.d (.int (w.val x y))), S) := by
  rw [prog_succ]
  show fnM 3 3 true (m_worked (prog k)) [_, _, _] S = _
  refine fnM_same (env := [some (.d (.str w.s)), some (.d (.int x)), some (.d (.int y))]) rfl ?_
  cases w <;> simp (decide := true) [m_worked, envOf, W.s, W.val, k_SIZE, oMul_ok _ _ _ hx]
theorem lworked_ok (k : Nat) (w : W) (x y : Int) (S : Store) (hx : Rg x) : prog (k + 1) .f_law_worked [.d (.str w.s), .d (.int x), .d (.int y)] S = some (.ok (.d (.int (w.val x y))), S) := by
  rw [prog_succ]
  show fnM 3 3 true (m__law_worked (prog k)) [_, _, _] S = _
  refine fnM_same (env := [some (.d (.str w.s)), some (.d (.int x)), some (.d (.int y))]) rfl ?_
  cases w <;> simp (decide := true) [m__law_worked, envOf, W.s, W.val, oMul_ok _ _ _ hx]
theorem val_ok : ∀ (e : Ec) (k : Nat) {s : List Int} (S : Store), e.wf → okS s → e.dp + 1 < k → prog k .f_value_of [.d e.enc, .d (stE s)] S = some (.ok (.d (.int (e.val s))), S)
  | .num i, k + 1, s, S, _, hs, _ => by
    rw [prog_succ]
    show fnM 2 2 true (m_value_of (prog k)) [_, _] S = _
    refine fnM_same (env := [some (.d (Ec.num i).enc), some (.d (stE s))]) rfl ?_
    simp (decide := true) [m_value_of, envOf, Ec.enc, Ec.val]
  | .nam i, k + 1, s, S, h, hs, _ => by
    rw [prog_succ]
    show fnM 2 2 true (m_value_of (prog k)) [_, _] S = _
    refine fnM_same (env := [some (.d (Ec.nam i).enc), some (.d (stE s))]) rfl ?_
    simp (decide := true) [m_value_of, envOf, Ec.enc, Ec.val, ix_st hs h.1 h.2]
  | .un a, k + 1, s, S, h, hs, hk => by
    have ih := val_ok a k S h hs (by simp only [Ec.dp] at hk; omega)
    rw [prog_succ]
    show fnM 2 2 true (m_value_of (prog k)) [_, _] S = _
    refine fnM_same (env := [some (.d (Ec.un a).enc), some (.d (stE s))]) rfl ?_
    simp (decide := true) [m_value_of, envOf, Ec.enc, Ec.val, ih]
  | .bin w a b, k + 1, s, S, h, hs, hk => by
    simp only [Ec.dp] at hk
    obtain ⟨k, rfl⟩ : ∃ j, k = j + 1 := ⟨k - 1, by omega⟩
    have i1 := val_ok a (k + 1) S h.1 hs (by omega)
    have i2 := val_ok b (k + 1) S h.2 hs (by omega)
    have i3 := worked_ok k w (a.val s) (b.val s) S (Ec.val_rg h.1 hs)
    rw [prog_succ]
    show fnM 2 2 true (m_value_of (prog (k + 1))) [_, _] S = _
    refine fnM_same (env := [some (.d (Ec.bin w a b).enc), some (.d (stE s))]) rfl ?_
    cases w <;> (simp only [W.s] at i3; simp (decide := true) [m_value_of, envOf, Ec.enc, Ec.val, W.s, i1, i2, i3])
theorem lval_ok : ∀ (e : Ec) (k : Nat) {s : List Int} (S : Store), e.wf → okS s → e.dp + 1 < k → prog k .f_law_value [.d e.enc, .d (stE s)] S = some (.ok (.d (.int (e.val s))), S)
  | .num i, k + 1, s, S, _, hs, _ => by
    rw [prog_succ]
    show fnM 2 2 true (m__law_value (prog k)) [_, _] S = _
    refine fnM_same (env := [some (.d (Ec.num i).enc), some (.d (stE s))]) rfl ?_
    simp (decide := true) [m__law_value, envOf, Ec.enc, Ec.val]
  | .nam i, k + 1, s, S, h, hs, _ => by
    rw [prog_succ]
    show fnM 2 2 true (m__law_value (prog k)) [_, _] S = _
    refine fnM_same (env := [some (.d (Ec.nam i).enc), some (.d (stE s))]) rfl ?_
    simp (decide := true) [m__law_value, envOf, Ec.enc, Ec.val, ix_st hs h.1 h.2]
  | .un a, k + 1, s, S, h, hs, hk => by
    have ih := lval_ok a k S h hs (by simp only [Ec.dp] at hk; omega)
    rw [prog_succ]
    show fnM 2 2 true (m__law_value (prog k)) [_, _] S = _
    refine fnM_same (env := [some (.d (Ec.un a).enc), some (.d (stE s))]) rfl ?_
    simp (decide := true) [m__law_value, envOf, Ec.enc, Ec.val, ih]
  | .bin w a b, k + 1, s, S, h, hs, hk => by
    simp only [Ec.dp] at hk
    obtain ⟨k, rfl⟩ : ∃ j, k = j + 1 := ⟨k - 1, by omega⟩
    have i1 := lval_ok a (k + 1) S h.1 hs (by omega)
    have i2 := lval_ok b (k + 1) S h.2 hs (by omega)
    have i3 := lworked_ok k w (a.val s) (b.val s) S (Ec.val_rg h.1 hs)
    rw [prog_succ]
    show fnM 2 2 true (m__law_value (prog (k + 1))) [_, _] S = _
    refine fnM_same (env := [some (.d (Ec.bin w a b).enc), some (.d (stE s))]) rfl ?_
    cases w <;> (simp only [W.s] at i3; simp (decide := true) [m__law_value, envOf, Ec.enc, Ec.val, W.s, i1, i2, i3])
/-- store[:n] + (v,) + store[n + 1:] -/
theorem okS.set {s : List Int} (h : okS s) {v : Int} (hv : Rg v) (n : Nat) : okS (s.set n v) := ⟨by rw [List.length_set]; exact h.len, fun x hx => by
  rcases List.mem_or_eq_of_mem_set hx with hx | hx
  · exact h.rg x hx
  · rw [hx]; exact hv⟩
theorem cutL_to {α : Type} (xs : List α) (n : Nat) : cutL xs none (some (n : Int)) = xs.take n := by
  unfold cutL
  rw [HT.sIx_none, HT.sIx_nat]
  simp only [List.drop_zero, Nat.sub_zero]
  rcases Nat.le_total n xs.length with h | h
  · rw [Nat.min_eq_left h]
  · rw [Nat.min_eq_right h, List.take_of_length_le (Nat.le_refl _), List.take_of_length_le h]
theorem cutL_fr {α : Type} (xs : List α) (n : Nat) : cutL xs (some (n : Int)) none = xs.drop n := by
  unfold cutL
  rw [HT.sIx_none, HT.sIx_nat]
  rcases Nat.le_total n xs.length with h | h
  · rw [Nat.min_eq_left h, List.take_of_length_le (by rw [List.length_drop]; exact Nat.le_refl _)]
  · rw [Nat.min_eq_right h, List.drop_of_length_le (Nat.le_refl _), List.drop_of_length_le h]; simp
theorem set_cut {s : List Int} {n : Nat} (h : n < s.length) (v : Int) : cutL s none (some (n : Int)) ++ [v] ++ cutL s (some ((n : Int) + 1)) none = s.set n v := by
  rw [cutL_to, show ((n : Int) + 1) = ((n + 1 : Nat) : Int) by omega, cutL_fr, List.set_eq_take_append_cons_drop, if_pos h]
  simp
theorem stE_set {s : List Int} (h : okS s) {i v : Int} (h0 : 0 ≤ i) (h1 : i < 4) : cutL (s.map D.int) none (some i) ++ [D.int v] ++ cutL (s.map D.int) (some (i + 1)) none = (s.set i.toNat v).map D.int := by
  obtain ⟨n, rfl⟩ := Int.eq_ofNat_of_zero_le h0
  rw [Int.toNat_natCast, ← set_cut (by rw [h.len]; omega) v, cutL_map, cutL_map]
  simp
theorem with_ok (k : Nat) {s : List Int} (hs : okS s) {i v : Int} (h0 : 0 ≤ i) (h1 : i < 4) (S : Store) : prog (k + 1) .f_with_value [.d (stE s), .d (.int i), .d (.int v)] S = some (.ok (.d (stE (s.set i.toNat v))), S) := by
  rw [prog_succ]
  show fnM 3 3 true (m_with_value (prog k)) [_, _, _] S = _
  refine fnM_same (env := [some (.d (stE s)), some (.d (.int i)), some (.d (.int v))]) rfl ?_
  have e := stE_set hs (v := v) h0 h1
  have l1 : (cutL (s.map D.int) none (some i)).length ≤ 4 := by
    obtain ⟨n, rfl⟩ := Int.eq_ofNat_of_zero_le h0
    rw [cutL_to, List.length_take, List.length_map, hs.len]; omega
  have l2 : (cutL (s.map D.int) (some (i + 1)) none).length ≤ 4 := by
    obtain ⟨n, rfl⟩ := Int.eq_ofNat_of_zero_le h0
    rw [show ((n : Int) + 1) = ((n + 1 : Nat) : Int) by omega, cutL_fr, List.length_drop, List.length_map, hs.len]; omega
  have p1 := oPlus_tup (cutL (s.map D.int) none (some i)) [D.int v] S (sl (by simp; omega))
  have p2 := oPlus_tup (cutL (s.map D.int) none (some i) ++ [D.int v]) (cutL (s.map D.int) (some (i + 1)) none) S (sl (by simp; omega))
  rw [e] at p2
  simp only [m_with_value, stE]
  simp (decide := true) [envOf, p1, p2]
end Y

set_option Elab.async false
set_option linter.all false
set_option maxRecDepth 100000
set_option maxHeartbeats 4000000
namespace Y
open PySem PySem.Spec L2
/-! ### while -/
theorem whileN_mono {gc : FB} {body : FS} : ∀ {n : Nat} {env : Env} {S : Store} {r : Fl × Env × Store}, whileN gc body n env S = some r → whileN gc body (n + 1) env S = some r
  | 0, env, S, r, h => by cases h
  | n + 1, env, S, r, h => by
    unfold whileN at h ⊢
    cases e : gc env S with
    | none => rw [e] at h; cases h
    | some p =>
      obtain ⟨q, S1⟩ := p
      rw [e] at h
      cases q with
      | exc z => exact h
      | ok b =>
        rw [bS_ok] at h ⊢
        cases b with
        | false => exact h
        | true =>
          rw [if_pos rfl] at h ⊢
          cases e2 : body env S1 with
          | none => rw [e2] at h; cases h
          | some t =>
            obtain ⟨fl, env2, S2⟩ := t
            rw [e2] at h
            cases fl with
            | nx => exact whileN_mono h
            | ct => exact whileN_mono h
            | bk => exact h
            | rt v => exact h
            | xc z => exact h
theorem whileN_le {gc : FB} {body : FS} {n m : Nat} {env : Env} {S : Store} {r : Fl × Env × Store} (h : whileN gc body n env S = some r) (l : n ≤ m) : whileN gc body m env S = some r := by
  induction m with
  | zero => rw [show n = 0 by omega] at h; exact h
  | succ m ih =>
    rcases Nat.lt_or_ge n (m + 1) with q | q
    · exact whileN_mono (ih (by omega))
    · rw [show m + 1 = n by omega]; exact h
theorem sWhile_of {gc : FB} {body : FS} {n : Nat} {env : Env} {S : Store} {r : Fl × Env × Store} (h : whileN gc body n env S = some r) : sWhile gc body env S = some r := by
  have hx : ∃ n r, whileN gc body n env S = some r := ⟨n, r, h⟩
  unfold sWhile
  rw [dif_pos hx]
  obtain ⟨r', h'⟩ := hx.choose_spec
  have a := whileN_le h' (Nat.le_max_left hx.choose n)
  have b := whileN_le h (Nat.le_max_right hx.choose n)
  rw [h', ← a, b]
theorem sWhile_f {gc : FB} {body : FS} {env : Env} {S S1 : Store} (h : gc env S = some (.ok false, S1)) : sWhile gc body env S = some (.nx, env, S1) := by
  refine sWhile_of (n := 1) ?_
  unfold whileN
  rw [h]; rfl
theorem sWhile_r {gc : FB} {body : FS} {env env2 : Env} {S S1 S2 : Store} {v : Val} (h : gc env S = some (.ok true, S1)) (h2 : body env S1 = some (.rt v, env2, S2)) : sWhile gc body env S = some (.rt v, env2, S2) := by
  refine sWhile_of (n := 1) ?_
  unfold whileN
  rw [h, bS_ok, if_pos rfl, h2]
theorem sWhile_t {gc : FB} {body : FS} {env env2 : Env} {S S1 S2 : Store} {r : Fl × Env × Store} (h : gc env S = some (.ok true, S1)) (h2 : body env S1 = some (.nx, env2, S2)) (h3 : sWhile gc body env2 S2 = some r) : sWhile gc body env S = some r := by
  obtain ⟨n, hn⟩ := sWhile_some h3
  refine sWhile_of (n := n + 1) ?_
  unfold whileN
  rw [h, bS_ok, if_pos rfl, h2]
  exact hn
/-! ### states -/
structure Cf where
  b : List Tc
  s : List Int
  o : List Int
def tolE (o : List Int) : D := .tup (o.map D.int)
def blkE (b : List Tc) : D := .tup (Tc.encs b)
def Cf.enc (x : Cf) : D := .tup [blkE x.b, stE x.s, tolE x.o]
def Cf.tt (x : Cf) : Bool := match x.b with
  | .whl _ _ :: _ => true
  | _ => false
def Cf.nx : Cf → Cf
  | ⟨[], s, o⟩ => ⟨[], s, o⟩
  | ⟨.set n e :: r, s, o⟩ => ⟨r, s.set n.toNat (e.val s), o⟩
  | ⟨.tell e :: r, s, o⟩ => ⟨r, s, o ++ [e.val s]⟩
  | ⟨.ite e a b :: r, s, o⟩ => ⟨(if e.val s = 0 then b else a) ++ r, s, o⟩
  | ⟨.whl e a :: r, s, o⟩ => ⟨if e.val s = 0 then r else a ++ .whl e a :: r, s, o⟩
structure okD (n : Nat) (b : List Tc) : Prop where
  wf : Tc.wfs b
  ht : Tc.hts b ≤ 3
  dp : ∀ e ∈ Tc.exs b, Ec.dp e ≤ 2
  dc : ∀ t ∈ b, t.dc ≤ 24
  bud : Tc.dcs b ≤ n
structure Gd (n : Nat) (x : Cf) : Prop where
  d : okD 300 x.b
  s : okS x.s
  o : ∀ v ∈ x.o, Rg v
  bud : Tc.dcs x.b + 25 * n + x.o.length ≤ 300
theorem wf_mem : ∀ {b : List Tc} {t : Tc}, Tc.wfs b → t ∈ b → t.wf
  | x :: r, t, h, m => by
    rw [Tc.wfs] at h
    rcases List.mem_cons.mp m with rfl | m
    · exact h.1
    · exact wf_mem h.2 m
theorem dc_mem : ∀ {b : List Tc} {t : Tc}, t ∈ b → t.dc ≤ Tc.dcs b
  | x :: r, t, m => by
    rw [Tc.dcs]
    rcases List.mem_cons.mp m with rfl | m
    · omega
    · have := dc_mem m; omega
/-- what stands in a deed, put ahead -/
theorem okD.tl {n : Nat} {t : Tc} {r : List Tc} (h : okD n (t :: r)) : okD (n - 1) r := by
  have h1 := h.wf
  have h2 := h.ht
  have h3 := h.bud
  have := dc_pos t
  rw [Tc.wfs] at h1
  rw [Tc.hts] at h2
  rw [Tc.dcs] at h3
  exact ⟨h1.2, by omega, fun e he => h.dp e (by rw [Tc.exs]; exact List.mem_append_right _ he), fun x hx => h.dc x (List.mem_cons_of_mem _ hx), by omega⟩
theorem okD.le {n m : Nat} {b : List Tc} (h : okD n b) (l : Tc.dcs b ≤ m) : okD m b := ⟨h.wf, h.ht, h.dp, h.dc, l⟩
theorem okD.app {n m : Nat} {a b : List Tc} (h : okD n a) (k : okD m b) : okD (n + m) (a ++ b) :=
  ⟨wfs_app.mpr ⟨h.wf, k.wf⟩, by rw [hts_app]; have := h.ht; have := k.ht; omega, fun e he => by
    rw [exs_app] at he
    rcases List.mem_append.mp he with q | q
    · exact h.dp e q
    · exact k.dp e q, fun x hx => by
    rcases List.mem_append.mp hx with q | q
    · exact h.dc x q
    · exact k.dc x q, by rw [dcs_app]; have := h.bud; have := k.bud; omega⟩
theorem okD.sub {n : Nat} {t : Tc} {r a : List Tc} (h : okD n (t :: r)) (ha : a ∈ t.sub) : okD 23 a ∧ Tc.dcs a + 1 ≤ t.dc ∧ Tc.hts a < 3 := by
  have h1 := h.wf
  have h2 := h.ht
  have h4 := h.dc t List.mem_cons_self
  have h5 := sub_ht ha
  rw [Tc.wfs] at h1
  rw [Tc.hts] at h2
  have hx : Tc.wfs a ∧ Tc.dcs a + 1 ≤ t.dc ∧ ∀ e ∈ Tc.exs a, e ∈ t.ex := by
    cases t with
    | set n e => cases ha
    | tell e => cases ha
    | ite e p q =>
      have hh := h1.1
      rw [Tc.wf] at hh
      simp [Tc.sub] at ha
      rcases ha with rfl | rfl
      · exact ⟨hh.2.1, by rw [Tc.dc]; omega, fun e he => by rw [Tc.ex]; simp [he]⟩
      · exact ⟨hh.2.2, by rw [Tc.dc]; omega, fun e he => by rw [Tc.ex]; simp [he]⟩
    | whl e p =>
      have hh := h1.1
      rw [Tc.wf] at hh
      simp [Tc.sub] at ha
      subst ha
      exact ⟨hh.2, by rw [Tc.dc]; omega, fun e he => by rw [Tc.ex]; simp [he]⟩
  exact ⟨⟨hx.1, by omega, fun e he => h.dp e (by rw [Tc.exs]; exact List.mem_append_left _ (hx.2.2 e he)), fun x hx2 => by have := dc_mem hx2; have := hx.2.1; omega, by have := hx.2.1; omega⟩, hx.2.1, by omega⟩
theorem okD.e {n : Nat} {t : Tc} {r : List Tc} (h : okD n (t :: r)) {e : Ec} (he : t.ex.head? = some e) : e.wf ∧ e.dp ≤ 2 := by
  have h1 := h.wf
  rw [Tc.wfs] at h1
  have hm : e ∈ t.ex := List.mem_of_mem_head? he
  refine ⟨?_, h.dp e (by rw [Tc.exs]; exact List.mem_append_left _ hm)⟩
  cases t with
  | set n e' => simp [Tc.ex] at he; subst he; have := h1.1; rw [Tc.wf] at this; exact this.2
  | tell e' => simp [Tc.ex] at he; subst he; have := h1.1; rw [Tc.wf] at this; exact this
  | ite e' p q => simp [Tc.ex] at he; subst he; have := h1.1; rw [Tc.wf] at this; exact this.1
  | whl e' p => simp [Tc.ex] at he; subst he; have := h1.1; rw [Tc.wf] at this; exact this.1
theorem nx_turn {m : Nat} {x : Cf} (h : Gd (m + 1) x) (ht : x.tt = true) : Gd m x.nx ∧ Tc.dcs x.nx.b + 25 * m < Tc.dcs x.b + 25 * (m + 1) := by
  obtain ⟨b, s, o⟩ := x
  cases b with
  | nil => cases ht
  | cons t r =>
    cases t with
    | whl e a =>
      have hd := h.d
      have hb := h.bud
      obtain ⟨g1, g2, g3⟩ := okD.sub (a := a) hd (by simp [Tc.sub])
      have h24 := hd.dc _ List.mem_cons_self
      have htl := hd.tl
      simp only at hb
      have e0 : Tc.dcs (.whl e a :: r) = (Tc.whl e a).dc + Tc.dcs r := by rw [Tc.dcs]
      by_cases c : e.val s = 0
      · have ex : (Cf.mk (.whl e a :: r) s o).nx = ⟨r, s, o⟩ := by simp only [Cf.nx, if_pos c]
        rw [ex]
        have := dc_pos (.whl e a)
        exact ⟨⟨htl.le (by first | omega | (simp only; omega)), h.s, h.o, by first | omega | (simp only; omega)⟩, by first | omega | (simp only; omega)⟩
      · have ex : (Cf.mk (.whl e a :: r) s o).nx = ⟨a ++ .whl e a :: r, s, o⟩ := by simp only [Cf.nx, if_neg c]
        have e1 : Tc.dcs (a ++ .whl e a :: r) = Tc.dcs a + Tc.dcs (.whl e a :: r) := dcs_app _ _
        rw [ex]
        exact ⟨⟨(g1.app hd).le (by first | omega | (simp only; omega)), h.s, h.o, by first | omega | (simp only; omega)⟩, by first | omega | (simp only; omega)⟩
    | _ => cases ht
theorem nx_go {n : Nat} {x : Cf} (h : Gd n x) (hb : x.b ≠ []) (ht : x.tt = false) : Gd n x.nx ∧ Tc.dcs x.nx.b < Tc.dcs x.b := by
  obtain ⟨b, s, o⟩ := x
  cases b with
  | nil => exact absurd rfl hb
  | cons t r =>
    have hd := h.d
    have hb := h.bud
    have htl := hd.tl
    have hp := dc_pos t
    have e0 : Tc.dcs (t :: r) = t.dc + Tc.dcs r := by rw [Tc.dcs]
    simp only at hb
    cases t with
    | whl e a => cases ht
    | set i e =>
      obtain ⟨w1, w2⟩ := hd.e (e := e) (by simp [Tc.ex])
      have ex : (Cf.mk (.set i e :: r) s o).nx = ⟨r, s.set i.toNat (e.val s), o⟩ := rfl
      rw [ex]
      exact ⟨⟨htl.le (by first | omega | (simp only; omega)), h.s.set (Ec.val_rg w1 h.s) _, h.o, by first | omega | (simp only; omega)⟩, by first | omega | (simp only; omega)⟩
    | tell e =>
      obtain ⟨w1, w2⟩ := hd.e (e := e) (by simp [Tc.ex])
      have ex : (Cf.mk (.tell e :: r) s o).nx = ⟨r, s, o ++ [e.val s]⟩ := rfl
      rw [ex]
      refine ⟨⟨htl.le (by first | omega | (simp only; omega)), h.s, fun v hv => ?_, by simp only [List.length_append, List.length_singleton]; omega⟩, by first | omega | (simp only; omega)⟩
      rcases List.mem_append.mp hv with q | q
      · exact h.o v q
      · rw [List.mem_singleton.mp q]; exact Ec.val_rg w1 h.s
    | ite e p q =>
      by_cases c : e.val s = 0
      · have ex : (Cf.mk (.ite e p q :: r) s o).nx = ⟨q ++ r, s, o⟩ := by simp only [Cf.nx, if_pos c]
        obtain ⟨g1, g2, g3⟩ := okD.sub (a := q) hd (by simp [Tc.sub])
        have e1 : Tc.dcs (q ++ r) = Tc.dcs q + Tc.dcs r := dcs_app _ _
        rw [ex]
        exact ⟨⟨(g1.app htl).le (by first | omega | (simp only; omega)), h.s, h.o, by first | omega | (simp only; omega)⟩, by first | omega | (simp only; omega)⟩
      · have ex : (Cf.mk (.ite e p q :: r) s o).nx = ⟨p ++ r, s, o⟩ := by simp only [Cf.nx, if_neg c]
        obtain ⟨g1, g2, g3⟩ := okD.sub (a := p) hd (by simp [Tc.sub])
        have e1 : Tc.dcs (p ++ r) = Tc.dcs p + Tc.dcs r := dcs_app _ _
        rw [ex]
        exact ⟨⟨(g1.app htl).le (by first | omega | (simp only; omega)), h.s, h.o, by first | omega | (simp only; omega)⟩, by first | omega | (simp only; omega)⟩
/-- along the run -/
theorem cf_ind {motive : Nat → Cf → Prop} (h_end : ∀ n x, Gd n x → x.b = [] → motive n x) (h_stop : ∀ x, Gd 0 x → x.tt = true → motive 0 x) (h_turn : ∀ m x, Gd (m + 1) x → x.tt = true → Gd m x.nx → motive m x.nx → motive (m + 1) x)
    (h_go : ∀ n x, Gd n x → x.b ≠ [] → x.tt = false → Gd n x.nx → motive n x.nx → motive n x) : ∀ n x, Gd n x → motive n x := by
  have go : ∀ g n x, Tc.dcs x.b + 25 * n ≤ g → Gd n x → motive n x := by
    intro g
    induction g with
    | zero =>
      intro n x hg h
      refine h_end n x h ?_
      have := len_dcs x.b
      exact List.eq_nil_of_length_eq_zero (by omega)
    | succ g ih =>
      intro n x hg h
      by_cases hb : x.b = []
      · exact h_end n x h hb
      · cases ht : x.tt with
        | true =>
          cases n with
          | zero => exact h_stop x h ht
          | succ m =>
            obtain ⟨a, b⟩ := nx_turn h ht
            exact h_turn m x h ht a (ih m x.nx (by omega) a)
        | false =>
          obtain ⟨a, b⟩ := nx_go h hb ht
          exact h_go n x h hb ht a (ih n x.nx (by omega) a)
  exact fun n x h => go _ n x (Nat.le_refl _) h
def tr : Nat → Nat → Cf → List Cf
  | 0, _, x => [x]
  | g + 1, n, x => if x.b = [] then [x] else if x.tt = true then (match n with
    | 0 => [x]
    | m + 1 => x :: tr g m x.nx) else x :: tr g n x.nx
theorem tr_s (g n : Nat) (x : Cf) : tr (g + 1) n x = if x.b = [] then [x] else if x.tt = true then (match n with
    | 0 => [x]
    | m + 1 => x :: tr g m x.nx) else x :: tr g n x.nx := by cases n <;> rfl
theorem tr_more : ∀ {g n : Nat} {x : Cf}, Gd n x → Tc.dcs x.b + 25 * n ≤ g → tr (g + 1) n x = tr g n x
  | 0, n, x, h, hg => by
    have := len_dcs x.b
    have hb : x.b = [] := List.eq_nil_of_length_eq_zero (by omega)
    rw [tr_s, if_pos hb]; rfl
  | g + 1, n, x, h, hg => by
    rw [tr_s (g + 1) n x, tr_s g n x]
    by_cases hb : x.b = []
    · rw [if_pos hb, if_pos hb]
    · rw [if_neg hb, if_neg hb]
      cases ht : x.tt with
      | true =>
        rw [if_pos rfl, if_pos rfl]
        cases n with
        | zero => rfl
        | succ m =>
          obtain ⟨a, b⟩ := nx_turn h ht
          show x :: tr (g + 1) m x.nx = x :: tr g m x.nx
          rw [tr_more a (by omega)]
      | false =>
        rw [if_neg (by decide), if_neg (by decide)]
        obtain ⟨a, b⟩ := nx_go h hb ht
        rw [tr_more a (by omega)]
def T (n : Nat) (x : Cf) : List Cf := tr 300 n x
theorem T_end {n : Nat} {x : Cf} (hb : x.b = []) : T n x = [x] := by unfold T; rw [show (300 : Nat) = 299 + 1 from rfl, tr_s, if_pos hb]
theorem tt_ne {x : Cf} (ht : x.tt = true) : x.b ≠ [] := fun e => by unfold Cf.tt at ht; rw [e] at ht; cases ht
theorem T_stop {x : Cf} (ht : x.tt = true) : T 0 x = [x] := by unfold T; rw [show (300 : Nat) = 299 + 1 from rfl, tr_s, if_neg (tt_ne ht), if_pos ht]
theorem T_turn {m : Nat} {x : Cf} (h : Gd (m + 1) x) (ht : x.tt = true) : T (m + 1) x = x :: T m x.nx := by
  obtain ⟨a, b⟩ := nx_turn h ht
  have := h.bud
  unfold T
  rw [show (300 : Nat) = 299 + 1 from rfl, tr_s, if_neg (tt_ne ht), if_pos ht]
  show x :: tr 299 m x.nx = _
  rw [← tr_more a (by omega)]
theorem T_go {n : Nat} {x : Cf} (h : Gd n x) (hb : x.b ≠ []) (ht : x.tt = false) : T n x = x :: T n x.nx := by
  obtain ⟨a, b⟩ := nx_go h hb ht
  have := h.bud
  unfold T
  rw [show (300 : Nat) = 299 + 1 from rfl, tr_s, if_neg hb, ht, if_neg (by decide)]
  show x :: tr 299 n x.nx = _
  rw [← tr_more a (by omega)]
end Y

set_option Elab.async false
set_option linter.all false
set_option maxRecDepth 100000
set_option maxHeartbeats 4000000
namespace Y
open PySem PySem.Spec L2
@[simp] theorem sAsg_def (gt : Val → Env → Option Env) (f : FE) (env : Env) (S : Store) : sAsg gt f env S = bS (f env S) env fun x S' => (gt x env).map fun env' => (.nx, env', S') := rfl
@[simp] theorem gT_tup (ts : List Nat) (ds : List D) (env : Env) : gT ts (.d (.tup ds)) env = setsE ts ds env := rfl
@[simp] theorem setsE_nil (env : Env) : setsE [] [] env = some env := rfl
@[simp] theorem setsE_cons (i : Nat) (is : List Nat) (d : D) (ds : List D) (env : Env) : setsE (i :: is) (d :: ds) env = setsE is ds (env.set i (some (.d d))) := rfl
@[simp] theorem sAug_def (i : Nat) (op : Val → Val → M Val) (f : FE) (env : Env) (S : Store) : sAug i op f env S = bS (bnd (lift ((env[i]?).join)) (fun x => bnd (f env) fun y => op x y) S) env fun z S' => some (.nx, env.set i (some z), S') := rfl
@[simp] theorem oIadd_int (a b : Int) (S : Store) : oIadd (.d (.int a)) (.d (.int b)) S = some (.ok (.d (.int (a + b))), S) := rfl
theorem oIadd_tup (a b : List D) (S : Store) (h : a.length + b.length ≤ sizeLine) : oIadd (.d (.tup a)) (.d (.tup b)) S = some (.ok (.d (.tup (a ++ b))), S) := by
  show (if a.length + b.length ≤ sizeLine then ret (Val.d (.tup (a ++ b))) else stk) S = _
  rw [if_pos h]; rfl
theorem tolE_app (o : List Int) (v : Int) : D.tup (o.map D.int ++ [.int v]) = tolE (o ++ [v]) := by simp [tolE]
theorem oPlus_tol (o : List Int) (v : Int) (S : Store) (h : o.length ≤ 1000) : oPlus (.d (tolE o)) (.d (.tup [.int v])) S = some (.ok (.d (tolE (o ++ [v]))), S) := by
  rw [tolE, oPlus_tup _ _ _ (sl (by simp; omega)), tolE_app]
theorem oIadd_tol (o : List Int) (v : Int) (S : Store) (h : o.length ≤ 1000) : oIadd (.d (tolE o)) (.d (.tup [.int v])) S = some (.ok (.d (tolE (o ++ [v]))), S) := by
  rw [tolE, oIadd_tup _ _ _ (sl (by simp; omega)), tolE_app]
theorem oPlus_blk (a r : List Tc) (S : Store) (h : a.length + r.length ≤ 1000000) : oPlus (.d (.tup (Tc.encs a))) (.d (.tup (Tc.encs r))) S = some (.ok (.d (.tup (Tc.encs (a ++ r)))), S) := by
  rw [oPlus_tup _ _ _ (sl (by rw [encs_map, encs_map, List.length_map, List.length_map]; omega)), encs_app]
theorem step_nil (k : Nat) {x : Cf} (hb : x.b = []) (S : Store) : prog (k + 1) .f_step_steps [.d x.enc] S = some (.ok (.d .non), S) := by
  obtain ⟨b, s, o⟩ := x
  simp only at hb
  subst hb
  rw [prog_succ]
  show fnM 1 7 true (m_step_steps (prog k)) [_] S = _
  refine fnM_same (env := [some (.d (Cf.enc ⟨[], s, o⟩)), some (.d (blkE [])), some (.d (stE s)), some (.d (tolE o)), none, none, none]) rfl ?_
  simp (decide := true) [m_step_steps, envOf, Cf.enc, blkE, Tc.encs]
theorem step_ok (k : Nat) {n : Nat} {x : Cf} (h : Gd n x) (hb : x.b ≠ []) (S : Store) : prog (k + 5) .f_step_steps [.d x.enc] S = some (.ok (.d x.nx.enc), S) := by
  obtain ⟨b, s, o⟩ := x
  cases b with
  | nil => exact absurd rfl hb
  | cons t r =>
    have hd := h.d
    have hs := h.s
    have hbud := h.bud
    simp only at hd hs hbud
    have e0 : Tc.dcs (t :: r) = t.dc + Tc.dcs r := by rw [Tc.dcs]
    have hl := len_dcs r
    have hne : ¬ (((Tc.encs r).length : Nat) : Int) + 1 = 0 := by omega
    rw [prog_succ]
    have hv : ∀ e : Ec, e.wf → e.dp ≤ 2 → prog (k + 4) .f_value_of [.d e.enc, .d (stE s)] S = some (.ok (.d (.int (e.val s))), S) := fun e w d => val_ok e (k + 4) S w hs (by omega)
    have hw : ∀ (i v : Int), 0 ≤ i → i < 4 → prog (k + 4) .f_with_value [.d (stE s), .d (.int i), .d (.int v)] S = some (.ok (.d (stE (s.set i.toNat v))), S) := fun i v h0 h1 => with_ok (k + 3) hs h0 h1 S
    generalize prog (k + 4) = c at hv hw
    show fnM 1 7 true (m_step_steps c) [_] S = _
    cases t with
    | set i e =>
      obtain ⟨w1, w2⟩ := hd.e (e := e) (by simp [Tc.ex])
      have w3 := hd.wf
      rw [Tc.wfs, Tc.wf] at w3
      have v1 := hv e w1 w2
      have v2 := hw i (e.val s) w3.1.1.1 w3.1.1.2
      refine fnM_same (env := [some (.d (Cf.enc ⟨.set i e :: r, s, o⟩)), some (.d (blkE (.set i e :: r))), some (.d (stE s)), some (.d (tolE o)), some (.d (Tc.set i e).enc), some (.d (blkE r)), none]) rfl ?_
      simp (decide := true) [m_step_steps, hne, envOf, Cf.enc, blkE, Tc.encs, Tc.enc, v1, v2, Cf.nx]
    | tell e =>
      obtain ⟨w1, w2⟩ := hd.e (e := e) (by simp [Tc.ex])
      have v1 := hv e w1 w2
      have v2 := oPlus_tol o (e.val s) S (by omega)
      refine fnM_same (env := [some (.d (Cf.enc ⟨.tell e :: r, s, o⟩)), some (.d (blkE (.tell e :: r))), some (.d (stE s)), some (.d (tolE o)), some (.d (Tc.tell e).enc), some (.d (blkE r)), some (.d (.int (e.val s)))]) rfl ?_
      simp (decide := true) [m_step_steps, hne, envOf, Cf.enc, blkE, Tc.encs, Tc.enc, v1, v2, Cf.nx]
    | ite e p q =>
      obtain ⟨w1, w2⟩ := hd.e (e := e) (by simp [Tc.ex])
      have v1 := hv e w1 w2
      obtain ⟨g1, g2, _⟩ := okD.sub (a := p) hd (by simp [Tc.sub])
      obtain ⟨g3, g4, _⟩ := okD.sub (a := q) hd (by simp [Tc.sub])
      have v2 := oPlus_blk p r S (by have := len_dcs p; omega)
      have v3 := oPlus_blk q r S (by have := len_dcs q; omega)
      refine fnM_same (env := [some (.d (Cf.enc ⟨.ite e p q :: r, s, o⟩)), some (.d (blkE (.ite e p q :: r))), some (.d (stE s)), some (.d (tolE o)), some (.d (Tc.ite e p q).enc), some (.d (blkE r)), some (.d (.int (e.val s)))]) rfl ?_
      by_cases c : e.val s = 0
      · simp (decide := true) [m_step_steps, hne, envOf, Cf.enc, blkE, Tc.encs, Tc.enc, v1, v2, v3, Cf.nx, c]
      · simp (decide := true) [m_step_steps, hne, envOf, Cf.enc, blkE, Tc.encs, Tc.enc, v1, v2, v3, Cf.nx, c]
    | whl e a =>
      obtain ⟨w1, w2⟩ := hd.e (e := e) (by simp [Tc.ex])
      have v1 := hv e w1 w2
      obtain ⟨g1, g2, _⟩ := okD.sub (a := a) hd (by simp [Tc.sub])
      have v2 : oPlus (.d (.tup (Tc.encs a))) (.d (.tup (.tup [.str "while", e.enc, .tup (Tc.encs a)] :: Tc.encs r))) S = some (.ok (.d (.tup (Tc.encs (a ++ .whl e a :: r)))), S) := oPlus_blk a (.whl e a :: r) S (by have := len_dcs a; rw [List.length_cons]; omega)
      refine fnM_same (env := [some (.d (Cf.enc ⟨.whl e a :: r, s, o⟩)), some (.d (blkE (.whl e a :: r))), some (.d (stE s)), some (.d (tolE o)), some (.d (Tc.whl e a).enc), some (.d (blkE r)), some (.d (.int (e.val s)))]) rfl ?_
      by_cases c : e.val s = 0
      · simp (decide := true) [m_step_steps, hne, envOf, Cf.enc, blkE, Tc.encs, Tc.enc, v1, v2, Cf.nx, c]
      · simp (decide := true) [m_step_steps, hne, envOf, Cf.enc, blkE, Tc.encs, Tc.enc, v1, v2, Cf.nx, c]
theorem takes_ok (k : Nat) (x : Cf) (S : Store) : prog (k + 1) .f_takes_turn_steps [.d x.enc] S = some (.ok (.d (.bl x.tt)), S) := by
  rw [prog_succ]
  show fnM 1 1 true (m_takes_turn_steps (prog k)) [_] S = _
  refine fnM_same (env := [some (.d x.enc)]) rfl ?_
  obtain ⟨b, s, o⟩ := x
  cases b with
  | nil => simp (decide := true) [m_takes_turn_steps, envOf, Cf.enc, blkE, Tc.encs, Cf.tt]
  | cons t r =>
    have hp : (0 : Int) < ((Tc.encs r).length : Int) + 1 := by omega
    cases t <;> simp (decide := true) [m_takes_turn_steps, envOf, Cf.enc, blkE, Tc.encs, Tc.enc, Cf.tt, hp]
end Y

set_option Elab.async false
set_option linter.all false
set_option maxRecDepth 100000
set_option maxHeartbeats 4000000
namespace Y
open PySem PySem.Spec L2
def cfV (l : List Cf) : List Val := (l.map Cf.enc).map Val.d
theorem cfV_len (l : List Cf) : (cfV l).length = l.length := by simp [cfV]
theorem cfV_snoc (l : List Cf) (x : Cf) : cfV (l ++ [x]) = cfV l ++ [.d x.enc] := by simp [cfV]
section
variable {S : Store} {l : List Cf} {x : Cf}
theorem cf_last : oIx (.r S.length) (.d (.int (-1))) (S ++ [.lst (cfV (l ++ [x]))]) = some (.ok (.d x.enc), S ++ [.lst (cfV (l ++ [x]))]) :=
  oIx_A (T := [.lst (cfV (l ++ [x]))]) (j := 0) rfl (by rw [atI_last, cfV_snoc]; simp)
theorem cf_isL : isL (.r S.length) (S ++ [.lst (cfV l)]) = some (.ok (), S ++ [.lst (cfV l)]) := isL_A (T := [.lst (cfV l)]) (j := 0) rfl
theorem cf_app (h : l.length ≤ 100000) : oApp (.r S.length) (.d x.enc) (S ++ [.lst (cfV l)]) = some (.ok (.d .non), S ++ [.lst (cfV (l ++ [x]))]) := by
  rw [cfV_snoc]
  exact oApp_A (T := [.lst (cfV l)]) (j := 0) rfl (sl' (by rw [cfV_len]; omega))
theorem cf_un : unN (.r S.length) (S ++ [.lst (cfV l)]) = some (.ok (.d (.lst (l.map Cf.enc))), S ++ [.dead]) := unN_A (T := [.lst (cfV l)]) (j := 0) rfl
end
theorem isNon_tup (ds : List D) : isNon (.d (.tup ds)) = some false := rfl
@[simp] theorem isNon_cf (x : Cf) : isNon (.d x.enc) = some false := rfl
@[simp] theorem isNon_non : isNon (.d .non) = some true := rfl
theorem T_ne (n : Nat) (x : Cf) : T n x ≠ [] := by
  unfold T
  rw [show (300 : Nat) = 299 + 1 from rfl, tr_s]
  split
  · simp
  · split
    · cases n <;> simp
    · simp
theorem trace_loop (k : Nat) (S : Store) (e0 e1 : Option Val) : ∀ n x, Gd n x → ∀ (done : List Cf) (e4 : Option Val), done.length + Tc.dcs x.b + 25 * n ≤ 1000 → ∃ env',
    sWhile (fT (fC (.bl true))) (b_trace_1 (prog (k + 5))) [e0, e1, some (.d (.int (n : Nat))), some (.r S.length), e4] (S ++ [.lst (cfV (done ++ [x]))]) = some (.rt (.d (.lst ((done ++ T n x).map Cf.enc))), env', S ++ [.dead]) := by
  refine cf_ind ?_ ?_ ?_ ?_
  · intro n x h hb done e4 hl
    have ht : x.tt = false := by unfold Cf.tt; rw [hb]
    have e1' := takes_ok (k + 4) x (S ++ [.lst (cfV (done ++ [x]))])
    have e2' := step_nil (k + 4) hb (S ++ [.lst (cfV (done ++ [x]))])
    rw [ht] at e1'
    rw [T_end hb]
    refine ⟨_, sWhile_r (S1 := S ++ [.lst (cfV (done ++ [x]))]) (env2 := [e0, e1, some (.d (.int (n : Nat))), some (.r S.length), some (.d .non)]) (by simp) ?_⟩
    simp (decide := true) [b_trace_1, cf_last, e1', e2', cf_un]
  · intro x h ht done e4 hl
    have e1' := takes_ok (k + 4) x (S ++ [.lst (cfV (done ++ [x]))])
    rw [ht] at e1'
    rw [T_stop ht]
    refine ⟨_, sWhile_r (S1 := S ++ [.lst (cfV (done ++ [x]))]) (env2 := [e0, e1, some (.d (.int (0 : Nat))), some (.r S.length), e4]) (by simp) ?_⟩
    simp (decide := true) [b_trace_1, cf_last, e1', cf_un]
  · intro m x h ht g ih done e4 hl
    obtain ⟨_, hlt⟩ := nx_turn h ht
    have e1' := takes_ok (k + 4) x (S ++ [.lst (cfV (done ++ [x]))])
    have e2' := step_ok k h (tt_ne ht) (S ++ [.lst (cfV (done ++ [x]))])
    rw [ht] at e1'
    obtain ⟨env', q⟩ := ih (done ++ [x]) (some (.d x.nx.enc)) (by rw [List.length_append, List.length_singleton]; omega)
    have ea := cf_app (S := S) (l := done ++ [x]) (x := x.nx) (by rw [List.length_append, List.length_singleton]; omega)
    have hz : ¬ (((m + 1 : Nat) : Int) = 0) := by omega
    have hz2 : (((m + 1 : Nat) : Int) - 1) = (m : Nat) := by omega
    rw [T_turn h ht, List.append_cons done x (T m x.nx)]
    refine ⟨env', sWhile_t (S1 := S ++ [.lst (cfV (done ++ [x]))]) (S2 := S ++ [.lst (cfV (done ++ [x] ++ [x.nx]))]) (env2 := [e0, e1, some (.d (.int (m : Nat))), some (.r S.length), some (.d x.nx.enc)]) (by simp) ?_ q⟩
    generalize ((m + 1 : Nat) : Int) = z at hz hz2 ⊢
    simp (decide := true) only [b_trace_1, sSeq_def, sIf_def, fT_def, fCall_def, fCons_def, fNil_def, fBin_def, fVar_def, fNeg_def, fC_def, bnd_def, ret_def, lift_some, asI_int, Option.map_some, List.getElem?_cons_succ, List.getElem?_cons_zero, Option.join_some, cf_last, ck_def, List.length_cons, List.length_nil, Nat.zero_add, if_true, e1', asB_def, bS_ok, oEq_int, hz, decide_false, Bool.bne_false, Bool.false_eq_true, if_false, sNil_def, sAug_def, oSub_int, hz2, List.set_cons_succ, List.set_cons_zero, sSet_def, e2', fIsN_def, isNon_cf, sDo_def, fApp_def, cf_isL, ea]
  · intro n x h hb ht g ih done e4 hl
    obtain ⟨_, hlt⟩ := nx_go h hb ht
    have e1' := takes_ok (k + 4) x (S ++ [.lst (cfV (done ++ [x]))])
    have e2' := step_ok k h hb (S ++ [.lst (cfV (done ++ [x]))])
    rw [ht] at e1'
    obtain ⟨env', q⟩ := ih (done ++ [x]) (some (.d x.nx.enc)) (by rw [List.length_append, List.length_singleton]; omega)
    have ea := cf_app (S := S) (l := done ++ [x]) (x := x.nx) (by rw [List.length_append, List.length_singleton]; omega)
    rw [T_go h hb ht, List.append_cons done x (T n x.nx)]
    refine ⟨env', sWhile_t (S1 := S ++ [.lst (cfV (done ++ [x]))]) (S2 := S ++ [.lst (cfV (done ++ [x] ++ [x.nx]))]) (env2 := [e0, e1, some (.d (.int (n : Nat))), some (.r S.length), some (.d x.nx.enc)]) (by simp) ?_ q⟩
    simp (decide := true) only [b_trace_1, sSeq_def, sIf_def, fT_def, fCall_def, fCons_def, fNil_def, fBin_def, fVar_def, fNeg_def, fC_def, bnd_def, ret_def, lift_some, asI_int, Option.map_some, List.getElem?_cons_succ, List.getElem?_cons_zero, Option.join_some, cf_last, ck_def, List.length_cons, List.length_nil, Nat.zero_add, if_true, e1', asB_def, bS_ok, oEq_int, decide_false, Bool.bne_false, Bool.false_eq_true, if_false, sNil_def, sAug_def, oSub_int, List.set_cons_succ, List.set_cons_zero, sSet_def, e2', fIsN_def, isNon_cf, sDo_def, fApp_def, cf_isL, ea]
theorem trace_ok (k : Nat) {n : Nat} {b : List Tc} {s : List Int} (h : Gd n ⟨b, s, []⟩) (S : Store) : prog (k + 6) .f_trace [.d (blkE b), .d (stE s), .d (.int (n : Nat))] S = some (.ok (.d (.lst ((T n ⟨b, s, []⟩).map Cf.enc))), S) := by
  have hb := h.bud
  simp only at hb
  obtain ⟨env', q⟩ := trace_loop k S (some (.d (blkE b))) (some (.d (stE s))) n _ h [] none (by simp only [List.length_nil] at *; omega)
  rw [show k + 6 = k + 5 + 1 from rfl, prog_succ]
  show fnM 3 5 true (m_trace (prog (k + 5))) [_, _, _] S = _
  refine fnM_app (env := env') (T := [.dead]) rfl ?_
  unfold m_trace
  refine sSeq_nx (env' := [some (.d (blkE b)), some (.d (stE s)), some (.d (.int (n : Nat))), some (.r S.length), none]) (S' := S ++ [.lst (cfV [⟨b, s, []⟩])]) ?_ ?_
  · simp (decide := true) [envOf, cfV, Cf.enc, tolE]
  · exact sSeq_rt q
end Y

set_option Elab.async false
set_option linter.all false
set_option maxRecDepth 100000
set_option maxHeartbeats 4000000
namespace Y
open PySem PySem.Spec L2
inductive Kx where
  | t (x : Tc) | b (xs : List Tc)
structure Mc where
  n : Nat
  s : List Int
  o : List Int
inductive Ev : Kx → Mc → Bool → Mc → Prop where
  | set {i e n s o} : Ev (.t (.set i e)) ⟨n, s, o⟩ true ⟨n, s.set i.toNat (e.val s), o⟩
  | tell {e n s o} : Ev (.t (.tell e)) ⟨n, s, o⟩ true ⟨n, s, o ++ [e.val s]⟩
  | iteT {e p q n s o d c} : e.val s ≠ 0 → Ev (.b p) ⟨n, s, o⟩ d c → Ev (.t (.ite e p q)) ⟨n, s, o⟩ d c
  | iteF {e p q n s o d c} : e.val s = 0 → Ev (.b q) ⟨n, s, o⟩ d c → Ev (.t (.ite e p q)) ⟨n, s, o⟩ d c
  | stop {e a s o} : Ev (.t (.whl e a)) ⟨0, s, o⟩ false ⟨0, s, o⟩
  | out {e a n s o} : e.val s = 0 → Ev (.t (.whl e a)) ⟨n + 1, s, o⟩ true ⟨n, s, o⟩
  | rnd {e a n s o c d c'} : e.val s ≠ 0 → Ev (.b a) ⟨n, s, o⟩ true c → Ev (.t (.whl e a)) c d c' → Ev (.t (.whl e a)) ⟨n + 1, s, o⟩ d c'
  | brk {e a n s o c} : e.val s ≠ 0 → Ev (.b a) ⟨n, s, o⟩ false c → Ev (.t (.whl e a)) ⟨n + 1, s, o⟩ false c
  | nil {c} : Ev (.b []) c true c
  | cons {x r c c1 d c2} : Ev (.t x) c true c1 → Ev (.b r) c1 d c2 → Ev (.b (x :: r)) c d c2
  | consF {x r c c1} : Ev (.t x) c false c1 → Ev (.b (x :: r)) c false c1
theorem ev_split : ∀ {a r : List Tc} {c c' : Mc} {d : Bool}, Ev (.b (a ++ r)) c d c' → (∃ c1, Ev (.b a) c true c1 ∧ Ev (.b r) c1 d c') ∨ (d = false ∧ Ev (.b a) c false c')
  | [], r, c, c', d, h => .inl ⟨c, .nil, h⟩
  | x :: a, r, c, c', d, h => by
    rw [List.cons_append] at h
    cases h with
    | cons h1 h2 =>
      rcases ev_split h2 with ⟨c2, h3, h4⟩ | ⟨h3, h4⟩
      · exact .inl ⟨c2, .cons h1 h3, h4⟩
      · exact .inr ⟨h3, .cons h1 h4⟩
    | consF h1 => exact .inr ⟨rfl, .consF h1⟩
def lastC (n : Nat) (x : Cf) : Option Cf := (T n x).getLast?
theorem last_cons {x : Cf} {l : List Cf} (h : l ≠ []) : (x :: l).getLast? = l.getLast? := by
  cases l with
  | nil => exact absurd rfl h
  | cons y r => rw [List.getLast?_cons_cons]
/-- what a run of the rest comes to -/
theorem ev_run : ∀ n x, Gd n x → ∃ d c, Ev (.b x.b) ⟨n, x.s, x.o⟩ d c ∧ ∃ y, lastC n x = some y ∧ y.o = c.o ∧ (d = true → y.b = [] ∧ y.s = c.s) ∧ (d = false → y.b ≠ []) := by
  refine cf_ind ?_ ?_ ?_ ?_
  · intro n x h hb
    refine ⟨true, ⟨n, x.s, x.o⟩, by rw [hb]; exact .nil, x, ?_, rfl, ⟨fun _ => ⟨hb, rfl⟩, fun e => (by cases e)⟩⟩
    unfold lastC; rw [T_end hb]; rfl
  · intro x h ht
    refine ⟨false, ⟨0, x.s, x.o⟩, ?_, x, by unfold lastC; rw [T_stop ht]; rfl, rfl, ⟨fun e => (by cases e), fun _ => tt_ne ht⟩⟩
    obtain ⟨b, s, o⟩ := x
    cases b with
    | nil => cases ht
    | cons t r =>
      cases t with
      | whl e a => exact .consF .stop
      | _ => cases ht
  · intro m x h ht g ⟨d, c, ih, y, hy, hr⟩
    have hl : lastC (m + 1) x = some y := by
      unfold lastC at hy ⊢
      rw [T_turn h ht, last_cons (T_ne _ _)]; exact hy
    refine ⟨d, c, ?_, y, hl, hr⟩
    obtain ⟨b, s, o⟩ := x
    cases b with
    | nil => cases ht
    | cons t r =>
      cases t with
      | whl e a =>
        by_cases z : e.val s = 0
        · have ex : (Cf.mk (.whl e a :: r) s o).nx = ⟨r, s, o⟩ := by simp only [Cf.nx, if_pos z]
          rw [ex] at ih
          exact .cons (.out z) ih
        · have ex : (Cf.mk (.whl e a :: r) s o).nx = ⟨a ++ .whl e a :: r, s, o⟩ := by simp only [Cf.nx, if_neg z]
          rw [ex] at ih
          rcases ev_split (a := a) (r := .whl e a :: r) ih with ⟨c1, h1, h2⟩ | ⟨h1, h2⟩
          · cases h2 with
            | cons h3 h4 => exact .cons (.rnd z h1 h3) h4
            | consF h3 => exact .consF (.rnd z h1 h3)
          · subst h1
            exact .consF (.brk z h2)
      | _ => cases ht
  · intro n x h hb ht g ⟨d, c, ih, y, hy, hr⟩
    have hl : lastC n x = some y := by
      unfold lastC at hy ⊢
      rw [T_go h hb ht, last_cons (T_ne _ _)]; exact hy
    refine ⟨d, c, ?_, y, hl, hr⟩
    obtain ⟨b, s, o⟩ := x
    cases b with
    | nil => exact absurd rfl hb
    | cons t r =>
      cases t with
      | whl e a => cases ht
      | set i e => exact .cons .set ih
      | tell e => exact .cons .tell ih
      | ite e p q =>
        by_cases z : e.val s = 0
        · have ex : (Cf.mk (.ite e p q :: r) s o).nx = ⟨q ++ r, s, o⟩ := by simp only [Cf.nx, if_pos z]
          rw [ex] at ih
          rcases ev_split (a := q) (r := r) ih with ⟨c1, h1, h2⟩ | ⟨h1, h2⟩
          · exact .cons (.iteF z h1) h2
          · subst h1
            exact .consF (.iteF z h2)
        · have ex : (Cf.mk (.ite e p q :: r) s o).nx = ⟨p ++ r, s, o⟩ := by simp only [Cf.nx, if_neg z]
          rw [ex] at ih
          rcases ev_split (a := p) (r := r) ih with ⟨c1, h1, h2⟩ | ⟨h1, h2⟩
          · exact .cons (.iteT z h1) h2
          · subst h1
            exact .consF (.iteT z h2)
/-! what is kept -/
def okK : Kx → Prop
  | .t x => okD 300 [x]
  | .b xs => okD 300 xs
structure okM (c : Mc) : Prop where
  s : okS c.s
  o : ∀ v ∈ c.o, Rg v
theorem okK_sub {x : Tc} (h : okK (.t x)) {a : List Tc} (ha : a ∈ x.sub) : okK (.b a) := (okD.sub (r := []) h ha).1.le (by have := (okD.sub (r := []) h ha).1.bud; omega)
theorem okK_hd {x : Tc} {r : List Tc} (h : okK (.b (x :: r))) : okK (.t x) ∧ okK (.b r) := by
  have h' : okD 300 (x :: r) := h
  have hb := h'.bud
  have e0 : Tc.dcs (x :: r) = x.dc + Tc.dcs r := by rw [Tc.dcs]
  have w := h'.wf
  have ht := h'.ht
  rw [Tc.wfs] at w
  rw [Tc.hts] at ht
  refine ⟨⟨by rw [Tc.wfs]; exact ⟨w.1, by rw [Tc.wfs]; trivial⟩, by rw [hts_one]; omega, fun e he => ?_, fun t ht => ?_, by rw [dcs_one]; omega⟩, (okD.tl h').le (by omega)⟩
  · rw [exs_one] at he
    exact h'.dp e (by rw [Tc.exs]; exact List.mem_append_left _ he)
  · rw [List.mem_singleton.mp ht]; exact h'.dc _ List.mem_cons_self
theorem ev_keep {k : Kx} {c c' : Mc} {d : Bool} (h : Ev k c d c') : okK k → okM c → okM c' ∧ c.o.length ≤ c'.o.length := by
  induction h with
  | set =>
    intro hk hm
    obtain ⟨w1, _⟩ := okD.e (r := []) hk rfl
    exact ⟨⟨hm.s.set (Ec.val_rg w1 hm.s) _, hm.o⟩, Nat.le_refl _⟩
  | tell =>
    intro hk hm
    obtain ⟨w1, _⟩ := okD.e (r := []) hk rfl
    refine ⟨⟨hm.s, fun v hv => ?_⟩, by simp⟩
    rcases List.mem_append.mp hv with q | q
    · exact hm.o v q
    · rw [List.mem_singleton.mp q]; exact Ec.val_rg w1 hm.s
  | iteT z _ ih => exact fun hk hm => ih (okK_sub hk (by simp [Tc.sub])) ⟨hm.s, hm.o⟩
  | iteF z _ ih => exact fun hk hm => ih (okK_sub hk (by simp [Tc.sub])) ⟨hm.s, hm.o⟩
  | stop => exact fun hk hm => ⟨hm, Nat.le_refl _⟩
  | out z => exact fun hk hm => ⟨⟨hm.s, hm.o⟩, Nat.le_refl _⟩
  | rnd z _ _ ih1 ih2 =>
    intro hk hm
    obtain ⟨a, b⟩ := ih1 (okK_sub hk (by simp [Tc.sub])) ⟨hm.s, hm.o⟩
    obtain ⟨a2, b2⟩ := ih2 hk a
    exact ⟨a2, Nat.le_trans b b2⟩
  | brk z _ ih => exact fun hk hm => ih (okK_sub hk (by simp [Tc.sub])) ⟨hm.s, hm.o⟩
  | nil => exact fun hk hm => ⟨hm, Nat.le_refl _⟩
  | cons _ _ ih1 ih2 =>
    intro hk hm
    obtain ⟨k1, k2⟩ := okK_hd hk
    obtain ⟨a, b⟩ := ih1 k1 hm
    obtain ⟨a2, b2⟩ := ih2 k2 a
    exact ⟨a2, Nat.le_trans b b2⟩
  | consF _ ih => exact fun hk hm => ih (okK_hd hk).1 hm
end Y

set_option Elab.async false
set_option linter.all false
set_option maxRecDepth 100000
set_option maxHeartbeats 4000000
namespace Y
open PySem PySem.Spec L2
@[simp] theorem fFld_def (C f : Str) (fa : FE) (env : Env) (S : Store) : fFld C f fa env S = bnd (fa env) (oFld C f) S := rfl
@[simp] theorem sFldPut_def (C f : Str) (fa fv : FE) (env : Env) (S : Store) : sFldPut C f fa fv env S = bS (bnd (fv env) (fun y => bnd (fa env) fun x => oFldPut C f x y) S) env fun _ S' => some (.nx, env, S') := rfl
@[simp] theorem sFldAug_def (C f : Str) (op : Val → Val → M Val) (fa fv : FE) (env : Env) (S : Store) : sFldAug C f op fa fv env S = bS (bnd (fa env) (fun x => bnd (oFld C f x) fun z => bnd (fv env) fun y => bnd (op z y) fun t => oFldPut C f x t) S) env fun _ S' => some (.nx, env, S') := rfl
@[simp] theorem fMeth_def (C m : Str) (n : Nat) (F : Fn) (fa : FE) (fs : FA) (env : Env) (S : Store) : fMeth C m n F fa fs env S = bnd (fa env) (fun x => bnd (isI C m x) fun _ => bnd (fs env) fun xs => ck n F (x :: xs)) S := rfl
theorem insV_at {C : Str} {i : Nat} {S : Store} {ks : List Str} {xs : List Val} (h : S[i]? = some (.ins C ks xs)) : insV C (.r i) S = some (i, ks, xs) := by
  unfold insV
  dsimp only
  rw [h]
  dsimp only
  rw [if_pos rfl]
/-- a def that writes one object -/
theorem fnM_set {n N : Nat} {body : FS} {args : List Val} {env : Env} {v : Val} {S : Store} {i : Nat} {o : Ob} (hn : args.length = n) (ho : obLt S.length o = true) (hv : vLt S.length v = true) (h : body (envOf N args) S = some (.rt v, env, S.set i o)) : fnM n N true body args S = some (.ok v, S.set i o) := by
  unfold fnM
  rw [if_pos hn, h]
  show cutF true S (.ok v) (S.set i o) = _
  unfold cutF
  have hc : cutOk S (S.set i o) := ⟨by rw [List.length_set]; exact Nat.le_refl _, fun j p hj e => by
    by_cases e2 : i = j
    · subst e2
      rw [List.getElem?_set_self hj] at e
      cases e
      exact .inr ho
    · rw [List.getElem?_set_ne e2] at e
      exact .inl e⟩
  rw [if_pos rfl, if_pos ⟨hc, fun r e => by cases e; exact hv⟩, List.take_of_length_le (by rw [List.length_set]; exact Nat.le_refl _)]
def runO (c : Mc) : Ob := .ins "Run" ["store", "told", "turns"] [.d (stE c.s), .d (tolE c.o), .d (.int (c.n : Nat))]
theorem runO_lt (m : Nat) (c : Mc) : obLt m (runO c) = true := rfl
section
variable {S : Store} {i : Nat} {c : Mc}
theorem run_store (h : S[i]? = some (runO c)) : oFld "Run" "store" (.r i) S = some (.ok (.d (stE c.s)), S) := by unfold oFld; rw [insV_at h]; rfl
theorem run_told (h : S[i]? = some (runO c)) : oFld "Run" "told" (.r i) S = some (.ok (.d (tolE c.o)), S) := by unfold oFld; rw [insV_at h]; rfl
theorem run_turns (h : S[i]? = some (runO c)) : oFld "Run" "turns" (.r i) S = some (.ok (.d (.int (c.n : Nat))), S) := by unfold oFld; rw [insV_at h]; rfl
theorem run_pstore (h : S[i]? = some (runO c)) (s : List Int) : oFldPut "Run" "store" (.r i) (.d (stE s)) S = some (.ok (), S.set i (runO ⟨c.n, s, c.o⟩)) := by unfold oFldPut; rw [insV_at h]; rfl
theorem run_ptold (h : S[i]? = some (runO c)) (o : List Int) : oFldPut "Run" "told" (.r i) (.d (tolE o)) S = some (.ok (), S.set i (runO ⟨c.n, c.s, o⟩)) := by unfold oFldPut; rw [insV_at h]; rfl
theorem run_pturns (h : S[i]? = some (runO c)) (n : Nat) : oFldPut "Run" "turns" (.r i) (.d (.int (n : Nat))) S = some (.ok (), S.set i (runO ⟨n, c.s, c.o⟩)) := by unfold oFldPut; rw [insV_at h]; rfl
theorem run_isI (h : S[i]? = some (runO c)) (m : Str) (hm : ¬ m ∈ (["store", "told", "turns"] : List Str)) : isI "Run" m (.r i) S = some (.ok (), S) := by unfold isI; rw [insV_at h]; dsimp only; rw [if_neg hm]
theorem run_at (h : S[i]? = some (runO c)) (o : Ob) : (S.set i o)[i]? = some o := List.getElem?_set_self (List.getElem?_eq_some_iff.mp h).1
end
abbrev WlC : FB := fT (fBin oGt (fFld "Run" "turns" (fVar 0)) (fC (.int 0)))
def ClR (k : Kx) (c : Mc) (d : Bool) (c' : Mc) : Prop := match k with
  | .t (.whl e a) => ∀ (K : Nat) (S : Store) (i : Nat), S[i]? = some (runO c) → ∃ env', sWhile WlC (b_Run_do_1 (prog (K + 2 * (Tc.whl e a).ht + 5))) [some (.r i), some (.d (Tc.whl e a).enc)] S = some (if d = true then .rt (.d (.bl true)) else .nx, env', S.set i (runO c')) ∨ (d = false ∧ sWhile WlC (b_Run_do_1 (prog (K + 2 * (Tc.whl e a).ht + 5))) [some (.r i), some (.d (Tc.whl e a).enc)] S = some (.rt (.d (.bl false)), env', S.set i (runO c')))
  | .t x => ∀ (K : Nat) (S : Store) (i : Nat), S[i]? = some (runO c) → prog (K + 2 * x.ht + 6) .f_Run_do [.r i, .d x.enc] S = some (.ok (.d (.bl d)), S.set i (runO c'))
  | .b xs => ∀ (K : Nat) (S : Store) (i : Nat) (e1 e2 : Option Val) (h : Nat), S[i]? = some (runO c) → Tc.hts xs ≤ h → ∃ env', forL (gN 2) (b_Run_do_block_1 (prog (K + 2 * h + 6))) ((Tc.encs xs).map Val.d) [some (.r i), e1, e2] S = some (if d = true then .nx else .rt (.d (.bl false)), env', S.set i (runO c'))
/-- by name -/
theorem ClR.blk {xs : List Tc} {c c' : Mc} {d : Bool} (h : ClR (.b xs) c d c') (K : Nat) {S : Store} {i : Nat} (hi : S[i]? = some (runO c)) {m : Nat} (hm : Tc.hts xs ≤ m) : prog (K + 2 * m + 7) .f_Run_do_block [.r i, .d (blkE xs)] S = some (.ok (.d (.bl d)), S.set i (runO c')) := by
  obtain ⟨env', q⟩ := h K S i (some (.d (blkE xs))) none m hi hm
  rw [show K + 2 * m + 7 = K + 2 * m + 6 + 1 from rfl, prog_succ]
  show fnM 2 3 true (m_Run_do_block (prog (K + 2 * m + 6))) [_, _] S = _
  refine fnM_set (env := env') rfl (runO_lt _ _) rfl ?_
  unfold m_Run_do_block
  have e : sFor (fSeq (fVar 1)) (gN 2) (b_Run_do_block_1 (prog (K + 2 * m + 6))) (envOf 3 [.r i, .d (blkE xs)]) S = some (if d = true then .nx else .rt (.d (.bl false)), env', S.set i (runO c')) := by
    rw [sFor_def]
    have e2 : fSeq (fVar 1) (envOf 3 [.r i, .d (blkE xs)]) S = some (.ok ((Tc.encs xs).map Val.d), S) := by simp [envOf, blkE]
    rw [e2]
    exact q
  cases d with
  | true => exact sSeq_nx (by simpa using e) (by simp)
  | false => exact sSeq_rt (by simpa using e)
theorem ClR.whl {e : Ec} {a : List Tc} {c c' : Mc} {d : Bool} (h : ClR (.t (.whl e a)) c d c') (K : Nat) {S : Store} {i : Nat} (hi : S[i]? = some (runO c)) : prog (K + 2 * (Tc.whl e a).ht + 6) .f_Run_do [.r i, .d (Tc.whl e a).enc] S = some (.ok (.d (.bl d)), S.set i (runO c')) := by
  obtain ⟨env', q⟩ := h K S i hi
  rw [show K + 2 * (Tc.whl e a).ht + 6 = K + 2 * (Tc.whl e a).ht + 5 + 1 from rfl, prog_succ]
  generalize prog (K + 2 * (Tc.whl e a).ht + 5) = cc at q
  show fnM 2 2 true (m_Run_do cc) [_, _] S = _
  refine fnM_set (env := env') rfl (runO_lt _ _) rfl ?_
  unfold m_Run_do
  refine sSeq_nx (env' := [some (.r i), some (.d (Tc.whl e a).enc)]) (S' := S) (by simp (decide := true) [envOf, Tc.enc]) ?_
  refine sSeq_nx (env' := [some (.r i), some (.d (Tc.whl e a).enc)]) (S' := S) (by simp (decide := true) [Tc.enc]) ?_
  refine sSeq_nx (env' := [some (.r i), some (.d (Tc.whl e a).enc)]) (S' := S) (by simp (decide := true) [Tc.enc]) ?_
  rcases q with q | ⟨rfl, q⟩
  · cases d with
    | true => exact sSeq_rt (by simpa using q)
    | false => exact sSeq_nx (by simpa using q) (by simp)
  · exact sSeq_rt q
theorem ClR.t {x : Tc} {c c' : Mc} {d : Bool} (h : ClR (.t x) c d c') (K : Nat) {S : Store} {i : Nat} (hi : S[i]? = some (runO c)) : prog (K + 2 * x.ht + 6) .f_Run_do [.r i, .d x.enc] S = some (.ok (.d (.bl d)), S.set i (runO c')) := by
  cases x with
  | whl e a => exact ClR.whl h K hi
  | set n e => exact h K S i hi
  | tell e => exact h K S i hi
  | ite e p q => exact h K S i hi
theorem run_ok {k : Kx} {c c' : Mc} {d : Bool} (h : Ev k c d c') : okK k → okM c → c'.o.length ≤ 1000 → ClR k c d c' := by
  induction h with
  | @set i e n s o =>
    intro hk hm _ K S j hj
    obtain ⟨w1, w2⟩ := okD.e (r := []) hk rfl
    have w3 := (show okD 300 [.set i e] from hk).wf
    rw [Tc.wfs, Tc.wf] at w3
    have v1 := val_ok e (K + 2 * (Tc.set i e).ht + 5) S w1 hm.s (by omega)
    have v2 := with_ok (K + 2 * (Tc.set i e).ht + 4) (v := e.val s) hm.s w3.1.1.1 w3.1.1.2 S
    have f1 := run_store hj
    have f2 := run_pstore hj (s.set i.toNat (e.val s))
    rw [show K + 2 * (Tc.set i e).ht + 6 = K + 2 * (Tc.set i e).ht + 5 + 1 from rfl, prog_succ]
    show fnM 2 2 true (m_Run_do (prog (K + 2 * (Tc.set i e).ht + 5))) [_, _] S = _
    refine fnM_set (env := [some (.r j), some (.d (Tc.set i e).enc)]) rfl (runO_lt _ _) rfl ?_
    generalize prog (K + 2 * (Tc.set i e).ht + 5) = cc at v1 v2
    simp only at f1 f2 v1
    simp (decide := true) [m_Run_do, envOf, Tc.enc, f1, f2, v1, v2]
  | @tell e n s o =>
    intro hk hm hl K S j hj
    obtain ⟨w1, w2⟩ := okD.e (r := []) hk rfl
    have v1 := val_ok e (K + 2 * (Tc.tell e).ht + 5) S w1 hm.s (by omega)
    have f1 := run_store hj
    have f3 := run_told hj
    have f2 := run_ptold hj (o ++ [e.val s])
    have v2 := oIadd_tol o (e.val s) S (by simp at hl; omega)
    rw [show K + 2 * (Tc.tell e).ht + 6 = K + 2 * (Tc.tell e).ht + 5 + 1 from rfl, prog_succ]
    show fnM 2 2 true (m_Run_do (prog (K + 2 * (Tc.tell e).ht + 5))) [_, _] S = _
    refine fnM_set (env := [some (.r j), some (.d (Tc.tell e).enc)]) rfl (runO_lt _ _) rfl ?_
    generalize prog (K + 2 * (Tc.tell e).ht + 5) = cc at v1 v2
    simp only at f1 f2 f3 v1
    simp (decide := true) [m_Run_do, envOf, Tc.enc, f1, f2, f3, v1, v2]
  | @iteT e p q n s o d c z hp ih =>
    intro hk hm hl K S j hj
    obtain ⟨w1, w2⟩ := okD.e (r := []) hk rfl
    have b1 := (ih (okK_sub hk (by simp [Tc.sub])) ⟨hm.s, hm.o⟩ hl).blk (K + 2 * max (Tc.hts p) (Tc.hts q) - 2 * Tc.hts p) hj (Nat.le_refl _)
    have hht : K + 2 * max (Tc.hts p) (Tc.hts q) - 2 * Tc.hts p + 2 * Tc.hts p + 7 = K + 2 * (Tc.ite e p q).ht + 5 := by rw [Tc.ht]; omega
    rw [hht] at b1
    have v1 := val_ok e (K + 2 * (Tc.ite e p q).ht + 5) S w1 hm.s (by omega)
    have f1 := run_store hj
    have f2 := run_isI hj "do_block" (by decide)
    rw [show K + 2 * (Tc.ite e p q).ht + 6 = K + 2 * (Tc.ite e p q).ht + 5 + 1 from rfl, prog_succ]
    show fnM 2 2 true (m_Run_do (prog (K + 2 * (Tc.ite e p q).ht + 5))) [_, _] S = _
    refine fnM_set (env := [some (.r j), some (.d (Tc.ite e p q).enc)]) rfl (runO_lt _ _) rfl ?_
    generalize prog (K + 2 * (Tc.ite e p q).ht + 5) = cc at v1 b1
    simp only at f1 f2 v1
    simp only [blkE] at b1
    simp (decide := true) [m_Run_do, envOf, Tc.enc, f1, f2, v1, z, b1]
  | @iteF e p q n s o d c z hp ih =>
    intro hk hm hl K S j hj
    obtain ⟨w1, w2⟩ := okD.e (r := []) hk rfl
    have b1 := (ih (okK_sub hk (by simp [Tc.sub])) ⟨hm.s, hm.o⟩ hl).blk (K + 2 * max (Tc.hts p) (Tc.hts q) - 2 * Tc.hts q) hj (Nat.le_refl _)
    have hht : K + 2 * max (Tc.hts p) (Tc.hts q) - 2 * Tc.hts q + 2 * Tc.hts q + 7 = K + 2 * (Tc.ite e p q).ht + 5 := by rw [Tc.ht]; omega
    rw [hht] at b1
    have v1 := val_ok e (K + 2 * (Tc.ite e p q).ht + 5) S w1 hm.s (by omega)
    have f1 := run_store hj
    have f2 := run_isI hj "do_block" (by decide)
    rw [show K + 2 * (Tc.ite e p q).ht + 6 = K + 2 * (Tc.ite e p q).ht + 5 + 1 from rfl, prog_succ]
    show fnM 2 2 true (m_Run_do (prog (K + 2 * (Tc.ite e p q).ht + 5))) [_, _] S = _
    refine fnM_set (env := [some (.r j), some (.d (Tc.ite e p q).enc)]) rfl (runO_lt _ _) rfl ?_
    generalize prog (K + 2 * (Tc.ite e p q).ht + 5) = cc at v1 b1
    simp only at f1 f2 v1
    simp only [blkE] at b1
    simp (decide := true) [m_Run_do, envOf, Tc.enc, f1, f2, v1, z, b1]
  | @stop e a s o =>
    intro hk hm hl K S j hj
    have f1 := run_turns hj
    have e2 : S.set j (runO ⟨0, s, o⟩) = S := List.ext_getElem? fun m => by
      by_cases em : j = m
      · subst em; rw [run_at hj, hj]
      · rw [List.getElem?_set_ne em]
    refine ⟨[some (.r j), some (.d (Tc.whl e a).enc)], .inl ?_⟩
    rw [e2]
    exact sWhile_f (by simp [f1])
  | @out e a n s o z =>
    intro hk hm hl K S j hj
    obtain ⟨w1, w2⟩ := okD.e (r := []) hk rfl
    have f1 := run_turns hj
    have f2 := run_pturns hj n
    have hj2 := run_at hj (runO ⟨n, s, o⟩)
    have f3 := run_store hj2
    have v1 := val_ok e (K + 2 * (Tc.whl e a).ht + 5) (S.set j (runO ⟨n, s, o⟩)) w1 hm.s (by omega)
    generalize prog (K + 2 * (Tc.whl e a).ht + 5) = cc at v1
    simp only at f1 f2 f3 v1
    have hz : (0 : Int) < ((n + 1 : Nat) : Int) := by omega
    have hz2 : ((n + 1 : Nat) : Int) - 1 = (n : Nat) := by omega
    refine ⟨_, .inl (sWhile_r (S1 := S) (env2 := [some (.r j), some (.d (Tc.whl e a).enc)]) ?_ ?_)⟩
    · generalize ((n + 1 : Nat) : Int) = zz at hz hz2 f1
      simp [f1, hz]
    · generalize ((n + 1 : Nat) : Int) = zz at hz hz2 f1
      simp (decide := true) [b_Run_do_1, f1, f2, f3, hz2, Tc.enc, v1, z]
  | @rnd e a n s o c d c' z h1 h2 ih1 ih2 =>
    intro hk hm hl K S j hj
    obtain ⟨w1, w2⟩ := okD.e (r := []) hk rfl
    obtain ⟨km, kl⟩ := ev_keep h1 (okK_sub hk (by simp [Tc.sub])) ⟨hm.s, hm.o⟩
    obtain ⟨_, kl2⟩ := ev_keep h2 hk km
    have f1 := run_turns hj
    have f2 := run_pturns hj n
    have hj2 := run_at hj (runO ⟨n, s, o⟩)
    have f3 := run_store hj2
    have f4 := run_isI hj2 "do_block" (by decide)
    have b1 := (ih1 (okK_sub hk (by simp [Tc.sub])) ⟨hm.s, hm.o⟩ (by omega)).blk K hj2 (Nat.le_refl _)
    have hht : K + 2 * Tc.hts a + 7 = K + 2 * (Tc.whl e a).ht + 5 := by rw [Tc.ht]; omega
    rw [hht, List.set_set] at b1
    obtain ⟨env', q⟩ := ih2 hk km hl K (S.set j (runO c)) j (run_at hj _)
    rw [List.set_set] at q
    have v1 := val_ok e (K + 2 * (Tc.whl e a).ht + 5) (S.set j (runO ⟨n, s, o⟩)) w1 hm.s (by omega)
    generalize prog (K + 2 * (Tc.whl e a).ht + 5) = cc at v1 q b1
    simp only at f1 f2 f3 f4 v1
    simp only [blkE] at b1
    have hz : (0 : Int) < ((n + 1 : Nat) : Int) := by omega
    have hz2 : ((n + 1 : Nat) : Int) - 1 = (n : Nat) := by omega
    have g1 : WlC [some (.r j), some (.d (Tc.whl e a).enc)] S = some (.ok true, S) := by
      generalize ((n + 1 : Nat) : Int) = zz at hz hz2 f1
      simp [f1, hz]
    have g2 : b_Run_do_1 cc [some (.r j), some (.d (Tc.whl e a).enc)] S = some (.nx, [some (.r j), some (.d (Tc.whl e a).enc)], S.set j (runO c)) := by
      generalize ((n + 1 : Nat) : Int) = zz at hz hz2 f1
      simp (decide := true) [b_Run_do_1, f1, f2, f3, f4, hz2, Tc.enc, v1, z, b1]
    refine ⟨env', ?_⟩
    rcases q with q | ⟨e0, q⟩
    · exact .inl (sWhile_t g1 g2 q)
    · exact .inr ⟨e0, sWhile_t g1 g2 q⟩
  | @brk e a n s o c z h1 ih1 =>
    intro hk hm hl K S j hj
    obtain ⟨w1, w2⟩ := okD.e (r := []) hk rfl
    have f1 := run_turns hj
    have f2 := run_pturns hj n
    have hj2 := run_at hj (runO ⟨n, s, o⟩)
    have f3 := run_store hj2
    have f4 := run_isI hj2 "do_block" (by decide)
    have b1 := (ih1 (okK_sub hk (by simp [Tc.sub])) ⟨hm.s, hm.o⟩ hl).blk K hj2 (Nat.le_refl _)
    have hht : K + 2 * Tc.hts a + 7 = K + 2 * (Tc.whl e a).ht + 5 := by rw [Tc.ht]; omega
    rw [hht, List.set_set] at b1
    have v1 := val_ok e (K + 2 * (Tc.whl e a).ht + 5) (S.set j (runO ⟨n, s, o⟩)) w1 hm.s (by omega)
    generalize prog (K + 2 * (Tc.whl e a).ht + 5) = cc at v1 b1
    simp only at f1 f2 f3 f4 v1
    simp only [blkE] at b1
    have hz : (0 : Int) < ((n + 1 : Nat) : Int) := by omega
    have hz2 : ((n + 1 : Nat) : Int) - 1 = (n : Nat) := by omega
    refine ⟨_, .inr ⟨rfl, sWhile_r (S1 := S) (env2 := [some (.r j), some (.d (Tc.whl e a).enc)]) ?_ ?_⟩⟩
    · generalize ((n + 1 : Nat) : Int) = zz at hz hz2 f1
      simp [f1, hz]
    · generalize ((n + 1 : Nat) : Int) = zz at hz hz2 f1
      simp (decide := true) [b_Run_do_1, f1, f2, f3, f4, hz2, Tc.enc, v1, z, b1]
  | @nil c =>
    intro hk hm hl K S j e1 e2 h hj hh
    refine ⟨[some (.r j), e1, e2], ?_⟩
    have e2' : S.set j (runO c) = S := List.ext_getElem? fun m => by
      by_cases em : j = m
      · subst em; rw [run_at hj, hj]
      · rw [List.getElem?_set_ne em]
    rw [e2']
    rfl
  | @cons x r c c1 d c2 h1 h2 ih1 ih2 =>
    intro hk hm hl K S j e1 e2 h hj hh
    obtain ⟨k1, k2⟩ := okK_hd hk
    obtain ⟨km, kl⟩ := ev_keep h1 k1 hm
    obtain ⟨_, kl2⟩ := ev_keep h2 k2 km
    rw [Tc.hts] at hh
    have t1 := (ih1 k1 hm (by omega)).t (K + 2 * h - 2 * x.ht) hj
    rw [show K + 2 * h - 2 * x.ht + 2 * x.ht + 6 = K + 2 * h + 6 by omega] at t1
    obtain ⟨env', q⟩ := ih2 k2 km hl K (S.set j (runO c1)) j e1 (some (.d x.enc)) h (run_at hj _) (by omega)
    rw [List.set_set] at q
    refine ⟨env', ?_⟩
    rw [Tc.encs, List.map_cons]
    unfold forL
    generalize prog (K + 2 * h + 6) = cc at t1 q
    have f4 := run_isI hj "do" (by decide)
    have g2 : b_Run_do_block_1 cc [some (.r j), e1, some (.d x.enc)] S = some (.nx, [some (.r j), e1, some (.d x.enc)], S.set j (runO c1)) := by
      simp [b_Run_do_block_1, f4, t1]
    simp only [gN_def, List.set_cons_succ, List.set_cons_zero, g2]
    exact q
  | @consF x r c c1 h1 ih1 =>
    intro hk hm hl K S j e1 e2 h hj hh
    obtain ⟨k1, k2⟩ := okK_hd hk
    rw [Tc.hts] at hh
    have t1 := (ih1 k1 hm hl).t (K + 2 * h - 2 * x.ht) hj
    rw [show K + 2 * h - 2 * x.ht + 2 * x.ht + 6 = K + 2 * h + 6 by omega] at t1
    refine ⟨[some (.r j), e1, some (.d x.enc)], ?_⟩
    rw [Tc.encs, List.map_cons]
    unfold forL
    generalize prog (K + 2 * h + 6) = cc at t1
    have f4 := run_isI hj "do" (by decide)
    have g2 : b_Run_do_block_1 cc [some (.r j), e1, some (.d x.enc)] S = some (.rt (.d (.bl false)), [some (.r j), e1, some (.d x.enc)], S.set j (runO c1)) := by
      simp [b_Run_do_block_1, f4, t1]
    simp only [gN_def, List.set_cons_succ, List.set_cons_zero, g2]
    rfl
end Y

set_option Elab.async false
set_option linter.all false
set_option maxRecDepth 100000
set_option maxHeartbeats 4000000
namespace Y
open PySem PySem.Spec L2
def resE (y : Cf) : D := if y.b = [] then .tup [.str "end", stE y.s, tolE y.o] else .tup [.str "going", tolE y.o]
theorem fnM_setN {n N : Nat} {body : FS} {args : List Val} {env : Env} {S : Store} {i : Nat} {o : Ob} (hn : args.length = n) (ho : obLt S.length o = true) (h : body (envOf N args) S = some (.nx, env, S.set i o)) : fnM n N true body args S = some (.ok (.d .non), S.set i o) := by
  unfold fnM
  rw [if_pos hn, h]
  show cutF true S (.ok (.d .non)) (S.set i o) = _
  unfold cutF
  have hc : cutOk S (S.set i o) := ⟨by rw [List.length_set]; exact Nat.le_refl _, fun j p hj e => by
    by_cases e2 : i = j
    · subst e2
      rw [List.getElem?_set_self hj] at e
      cases e
      exact .inr ho
    · rw [List.getElem?_set_ne e2] at e
      exact .inl e⟩
  rw [if_pos rfl, if_pos ⟨hc, fun r e => by cases e; rfl⟩, List.take_of_length_le (by rw [List.length_set]; exact Nat.le_refl _)]
theorem getS (S : Store) (o : Ob) : (S ++ [o])[S.length]? = some o := by simp
theorem setS (S : Store) (o o' : Ob) : (S ++ [o]).set S.length o' = S ++ [o'] := by simp
theorem init_ok (k n : Nat) (s : List Int) (S : Store) : prog (k + 1) .f_Run___init__ [.r S.length, .d (stE s), .d (.int (n : Nat))] (S ++ [.ins "Run" [] []]) = some (.ok (.d .non), S ++ [runO ⟨n, s, []⟩]) := by
  rw [prog_succ]
  show fnM 3 3 true (m_Run___init__ (prog k)) [_, _, _] _ = _
  rw [← setS S (.ins "Run" [] []) (runO ⟨n, s, []⟩)]
  refine fnM_setN (env := [some (.r S.length), some (.d (stE s)), some (.d (.int (n : Nat)))]) rfl rfl ?_
  rw [setS]
  have f1 : oFldPut "Run" "store" (.r S.length) (.d (stE s)) (S ++ [.ins "Run" [] []]) = some (.ok (), S ++ [.ins "Run" ["store"] [.d (stE s)]]) := by
    unfold oFldPut; rw [insV_at (getS S _)]; dsimp only; rw [if_pos (by decide), setS]; rfl
  have f2 : oFldPut "Run" "told" (.r S.length) (.d (.tup [])) (S ++ [.ins "Run" ["store"] [.d (stE s)]]) = some (.ok (), S ++ [.ins "Run" ["store", "told"] [.d (stE s), .d (.tup [])]]) := by
    unfold oFldPut; rw [insV_at (getS S _)]; dsimp only; rw [if_pos (by decide), setS]; rfl
  have f3 : oFldPut "Run" "turns" (.r S.length) (.d (.int (n : Nat))) (S ++ [.ins "Run" ["store", "told"] [.d (stE s), .d (.tup [])]]) = some (.ok (), S ++ [runO ⟨n, s, []⟩]) := by
    unfold oFldPut; rw [insV_at (getS S _)]; dsimp only; rw [if_pos (by decide), setS]; rfl
  simp [m_Run___init__, envOf, f1, f2, f3]
theorem okK_of {n : Nat} {x : Cf} (h : Gd n x) : okK (.b x.b) ∧ okM ⟨n, x.s, x.o⟩ := ⟨h.d, h.s, h.o⟩
theorem T_len (k : Nat) : ∀ n x, Gd n x → (T n x).length ≤ Tc.dcs x.b + 25 * n + 1 := by
  refine cf_ind ?_ ?_ ?_ ?_
  · intro n x h hb; rw [T_end hb]; simp
  · intro x h ht; rw [T_stop ht]; simp
  · intro m x h ht g ih
    obtain ⟨_, hlt⟩ := nx_turn h ht
    rw [T_turn h ht, List.length_cons]; omega
  · intro n x h hb ht g ih
    obtain ⟨_, hlt⟩ := nx_go h hb ht
    rw [T_go h hb ht, List.length_cons]; omega
theorem T_gd : ∀ n x, Gd n x → ∀ y ∈ T n x, ∃ m, m ≤ n ∧ Gd m y := by
  refine cf_ind ?_ ?_ ?_ ?_
  · intro n x h hb y hy; rw [T_end hb] at hy; rw [List.mem_singleton.mp hy]; exact ⟨n, Nat.le_refl _, h⟩
  · intro x h ht y hy; rw [T_stop ht] at hy; rw [List.mem_singleton.mp hy]; exact ⟨0, Nat.le_refl _, h⟩
  · intro m x h ht g ih y hy
    rw [T_turn h ht] at hy
    rcases List.mem_cons.mp hy with rfl | hy
    · exact ⟨_, Nat.le_refl _, h⟩
    · obtain ⟨j, h1, h2⟩ := ih y hy; exact ⟨j, by omega, h2⟩
  · intro n x h hb ht g ih y hy
    rw [T_go h hb ht] at hy
    rcases List.mem_cons.mp hy with rfl | hy
    · exact ⟨_, Nat.le_refl _, h⟩
    · exact ih y hy
theorem last_gd {n : Nat} {x y : Cf} (h : Gd n x) (hy : lastC n x = some y) : ∃ m, m ≤ n ∧ Gd m y := T_gd n x h y (List.mem_of_getLast? hy)
theorem trees_ok (k : Nat) {n : Nat} {b : List Tc} {s : List Int} (h : Gd n ⟨b, s, []⟩) {y : Cf} (hy : lastC n ⟨b, s, []⟩ = some y) (S : Store) : prog (k + 20) .f_run_trees [.d (blkE b), .d (stE s), .d (.int (n : Nat))] S = some (.ok (.d (resE y)), S) := by
  obtain ⟨d, c, hev, y', hy', ho, ht, hf⟩ := ev_run n _ h
  rw [hy] at hy'
  cases hy'
  obtain ⟨hk, hm⟩ := okK_of h
  obtain ⟨m, _, hg⟩ := last_gd h hy
  have hyo := hg.bud
  have hd := h.d.ht
  simp only at hd
  have r1 := (run_ok hev hk hm (by rw [← ho]; omega)).blk (k + 6) (getS S (runO ⟨n, s, []⟩)) (m := 3) hd
  rw [setS] at r1
  replace r1 : prog (k + 19) .f_Run_do_block [.r S.length, .d (blkE b)] (S ++ [runO ⟨n, s, []⟩]) = some (.ok (.d (.bl d)), S ++ [runO c]) := r1
  have r0 := init_ok (k + 18) n s S
  replace r0 : prog (k + 19) .f_Run___init__ [.r S.length, .d (stE s), .d (.int (n : Nat))] (S ++ [.ins "Run" [] []]) = some (.ok (.d .non), S ++ [runO ⟨n, s, []⟩]) := r0
  rw [show k + 20 = k + 19 + 1 from rfl, prog_succ]
  show fnM 3 5 true (m_run_trees (prog (k + 19))) [_, _, _] S = _
  generalize prog (k + 19) = cc at r0 r1
  have i1 := run_isI (getS S (runO ⟨n, s, []⟩)) "do_block" (by decide)
  have i2 := run_store (getS S (runO c))
  have i3 := run_told (getS S (runO c))
  have mk : oMake "Run" 3 (cc .f_Run___init__) [.d (stE s), .d (.int (n : Nat))] S = some (.ok (.r S.length), S ++ [runO ⟨n, s, []⟩]) := by
    unfold oMake
    simp [r0, isNo]
  refine fnM_app (T := [runO c]) (env := [some (.d (blkE b)), some (.d (stE s)), some (.d (.int (n : Nat))), some (.r S.length), some (.d (.bl d))]) rfl ?_
  have hres : resE y = if d = true then .tup [.str "end", stE c.s, tolE c.o] else .tup [.str "going", tolE c.o] := by
    unfold resE
    cases d with
    | true => obtain ⟨h1, h2⟩ := ht rfl; rw [if_pos h1, if_pos rfl, h2, ho]
    | false => rw [if_neg (hf rfl), if_neg (by decide), ho]
  rw [hres]
  cases d with
  | true => simp (decide := true) [m_run_trees, envOf, mk, i1, r1, i2, i3]
  | false => simp (decide := true) [m_run_trees, envOf, mk, i1, r1, i2, i3]
theorem steps_ok (k : Nat) {n : Nat} {b : List Tc} {s : List Int} (h : Gd n ⟨b, s, []⟩) {y : Cf} (hy : lastC n ⟨b, s, []⟩ = some y) (S : Store) : prog (k + 7) .f_run_steps [.d (blkE b), .d (stE s), .d (.int (n : Nat))] S = some (.ok (.d (resE y)), S) := by
  have t1 := trace_ok k h S
  rw [show k + 7 = k + 6 + 1 from rfl, prog_succ]
  show fnM 3 6 true (m_run_steps (prog (k + 6))) [_, _, _] S = _
  generalize prog (k + 6) = cc at t1
  have hl : atI (((T n ⟨b, s, []⟩).map Cf.enc).map Val.d) (-1) = some (.d y.enc) := by
    rw [atI_last, List.getLast?_map, List.getLast?_map, show (T n ⟨b, s, []⟩).getLast? = some y from hy]; rfl
  have i1 : oIx (.d (.lst ((T n ⟨b, s, []⟩).map Cf.enc))) (.d (.int (-1))) S = some (.ok (.d y.enc), S) := by rw [oIx_lst, hl]; rfl
  refine fnM_same (env := [some (.d (blkE b)), some (.d (stE s)), some (.d (.int (n : Nat))), some (.d (blkE y.b)), some (.d (stE y.s)), some (.d (tolE y.o))]) rfl ?_
  unfold resE
  generalize D.lst ((T n ⟨b, s, []⟩).map Cf.enc) = L at t1 i1
  generalize blkE b = B at t1 ⊢
  obtain ⟨yb, ys, yo⟩ := y
  cases yb with
  | nil => simp (decide := true) [m_run_steps, envOf, t1, i1, Cf.enc, blkE, Tc.encs]
  | cons t r =>
    have hne : ¬ (((Tc.encs r).length : Nat) : Int) + 1 = 0 := by omega
    simp (decide := true) [m_run_steps, envOf, t1, i1, Cf.enc, blkE, Tc.encs, hne]
end Y

set_option Elab.async false
set_option linter.all false
set_option maxRecDepth 100000
set_option maxHeartbeats 4000000
namespace Y
open PySem PySem.Spec L2
def lawKs : List Key := [.inr "word", .inr "store", .inr "told", .inr "turns"]
def lawO (w : Str) (c : Mc) : Ob := .dct lawKs [.d (.str w), .d (stE c.s), .d (tolE c.o), .d (.int (c.n : Nat))]
def wd (d : Bool) : Str := if d = true then "end" else "going"
@[simp] theorem sDPut_def (fo fi fv : FE) (env : Env) (S : Store) : sDPut fo fi fv env S = bS (bnd (fv env) (fun z => bnd (fo env) fun x => bnd (fi env) fun y => oDPut x y z) S) env fun _ S' => some (.nx, env, S') := rfl
theorem dctV_at {i : Nat} {S : Store} {ks : List Key} {xs : List Val} (h : S[i]? = some (.dct ks xs)) : dctV (.r i) S = some (i, ks, xs) := by
  unfold dctV
  dsimp only
  rw [h]
section
variable {S : Store} {i : Nat} {c : Mc} {w : Str}
theorem law_word (h : S[i]? = some (lawO w c)) : oDGet (.r i) (.d (.str "word")) S = some (.ok (.d (.str w)), S) := by unfold oDGet; rw [dctV_at h]; rfl
theorem law_store (h : S[i]? = some (lawO w c)) : oDGet (.r i) (.d (.str "store")) S = some (.ok (.d (stE c.s)), S) := by unfold oDGet; rw [dctV_at h]; rfl
theorem law_told (h : S[i]? = some (lawO w c)) : oDGet (.r i) (.d (.str "told")) S = some (.ok (.d (tolE c.o)), S) := by unfold oDGet; rw [dctV_at h]; rfl
theorem law_turns (h : S[i]? = some (lawO w c)) : oDGet (.r i) (.d (.str "turns")) S = some (.ok (.d (.int (c.n : Nat))), S) := by unfold oDGet; rw [dctV_at h]; rfl
theorem law_pword (h : S[i]? = some (lawO w c)) (z : Str) : oDPut (.r i) (.d (.str "word")) (.d (.str z)) S = some (.ok (), S.set i (lawO z c)) := by unfold oDPut; rw [dctV_at h]; rfl
theorem law_pstore (h : S[i]? = some (lawO w c)) (s : List Int) : oDPut (.r i) (.d (.str "store")) (.d (stE s)) S = some (.ok (), S.set i (lawO w ⟨c.n, s, c.o⟩)) := by unfold oDPut; rw [dctV_at h]; rfl
theorem law_ptold (h : S[i]? = some (lawO w c)) (o : List Int) : oDPut (.r i) (.d (.str "told")) (.d (tolE o)) S = some (.ok (), S.set i (lawO w ⟨c.n, c.s, o⟩)) := by unfold oDPut; rw [dctV_at h]; rfl
theorem law_pturns (h : S[i]? = some (lawO w c)) (n : Nat) : oDPut (.r i) (.d (.str "turns")) (.d (.int (n : Nat))) S = some (.ok (), S.set i (lawO w ⟨n, c.s, c.o⟩)) := by unfold oDPut; rw [dctV_at h]; rfl
theorem at_set {o0 : Ob} (h : S[i]? = some o0) (o : Ob) : (S.set i o)[i]? = some o := List.getElem?_set_self (List.getElem?_eq_some_iff.mp h).1
theorem set_same {o0 : Ob} (h : S[i]? = some o0) : S.set i o0 = S := List.ext_getElem? fun m => by
  by_cases em : i = m
  · subst em; rw [at_set h, h]
  · rw [List.getElem?_set_ne em]
end
@[simp] theorem oEq_end (neg : Bool) (d : Bool) (S : Store) : oEq neg (.d (.str (wd d))) (.d (.str "end")) S = some (.ok (.d (.bl (d != neg))), S) := by
  cases d <;> cases neg <;> exact oEq_of _ (by decide +kernel) S
def ClL (k : Kx) (c : Mc) (d : Bool) (c' : Mc) : Prop := match k with
  | .t (.whl e a) => ∀ (K : Nat) (S : Store) (i : Nat), S[i]? = some (lawO "end" c) → ∃ env' fl, (fl = .nx ∨ fl = .rt (.r i)) ∧ env'[1]? = some (some (.r i)) ∧ sWhile (fT (fVar 2)) (b__law_loop_1 (prog (K + 2 * (Tc.whl e a).ht + 5))) [some (.d (Tc.whl e a).enc), some (.r i), some (.d (.bl true))] S = some (fl, env', S.set i (lawO (wd d) c'))
  | .t x => ∀ (K : Nat) (S : Store) (i : Nat) (e0 e3 : Option Val), S[i]? = some (lawO "end" c) → ∃ e3', b__law_do_1 (prog (K + 2 * x.ht + 6)) [e0, some (.r i), some (.d x.enc), e3] S = some (.nx, [e0, some (.r i), some (.d x.enc), e3'], S.set i (lawO (wd d) c'))
  | .b xs => ∀ (K : Nat) (S : Store) (i : Nat) (e0 e2 e3 : Option Val) (h : Nat), S[i]? = some (lawO "end" c) → Tc.hts xs ≤ h → ∃ env' fl, (fl = .nx ∨ fl = .rt (.r i)) ∧ env'[1]? = some (some (.r i)) ∧ forL (gN 2) (b__law_do_1 (prog (K + 2 * h + 6))) ((Tc.encs xs).map Val.d) [e0, some (.r i), e2, e3] S = some (fl, env', S.set i (lawO (wd d) c'))
theorem ClL.blk {xs : List Tc} {c c' : Mc} {d : Bool} (h : ClL (.b xs) c d c') (K : Nat) {S : Store} {i : Nat} (hi : S[i]? = some (lawO "end" c)) {m : Nat} (hm : Tc.hts xs ≤ m) : prog (K + 2 * m + 7) .f_law_do [.d (blkE xs), .r i] S = some (.ok (.r i), S.set i (lawO (wd d) c')) := by
  obtain ⟨env', fl, hf, he, q⟩ := h K S i (some (.d (blkE xs))) none none m hi hm
  rw [show K + 2 * m + 7 = K + 2 * m + 6 + 1 from rfl, prog_succ]
  show fnM 2 4 true (m__law_do (prog (K + 2 * m + 6))) [_, _] S = _
  have hlt : vLt S.length (.r i) = true := decide_eq_true (List.getElem?_eq_some_iff.mp hi).1
  refine fnM_set (env := env') rfl rfl hlt ?_
  unfold m__law_do
  have e : sFor (fSeq (fVar 0)) (gN 2) (b__law_do_1 (prog (K + 2 * m + 6))) (envOf 4 [.d (blkE xs), .r i]) S = some (fl, env', S.set i (lawO (wd d) c')) := by
    rw [sFor_def]
    have e2 : fSeq (fVar 0) (envOf 4 [.d (blkE xs), .r i]) S = some (.ok ((Tc.encs xs).map Val.d), S) := by simp [envOf, blkE]
    rw [e2]
    exact q
  rcases hf with rfl | rfl
  · exact sSeq_nx e (by simp [he])
  · exact sSeq_rt e
theorem ClL.loop {e : Ec} {a : List Tc} {c c' : Mc} {d : Bool} (h : ClL (.t (.whl e a)) c d c') (K : Nat) {S : Store} {i : Nat} (hi : S[i]? = some (lawO "end" c)) : prog (K + 2 * (Tc.whl e a).ht + 6) .f_law_loop [.d (Tc.whl e a).enc, .r i] S = some (.ok (.r i), S.set i (lawO (wd d) c')) := by
  obtain ⟨env', fl, hf, he, q⟩ := h K S i hi
  rw [show K + 2 * (Tc.whl e a).ht + 6 = K + 2 * (Tc.whl e a).ht + 5 + 1 from rfl, prog_succ]
  show fnM 2 3 true (m__law_loop (prog (K + 2 * (Tc.whl e a).ht + 5))) [_, _] S = _
  generalize prog (K + 2 * (Tc.whl e a).ht + 5) = cc at q
  have hlt : vLt S.length (.r i) = true := decide_eq_true (List.getElem?_eq_some_iff.mp hi).1
  refine fnM_set (env := env') rfl rfl hlt ?_
  unfold m__law_loop
  refine sSeq_nx (env' := [some (.d (Tc.whl e a).enc), some (.r i), some (.d (.bl true))]) (S' := S) (by simp [envOf]) ?_
  rcases hf with rfl | rfl
  · exact sSeq_nx q (by simp [he])
  · exact sSeq_rt q
theorem ClL.t {x : Tc} {c c' : Mc} {d : Bool} (h : ClL (.t x) c d c') (K : Nat) {S : Store} {i : Nat} (e0 e3 : Option Val) (hi : S[i]? = some (lawO "end" c)) : ∃ e3', b__law_do_1 (prog (K + 2 * x.ht + 6)) [e0, some (.r i), some (.d x.enc), e3] S = some (.nx, [e0, some (.r i), some (.d x.enc), e3'], S.set i (lawO (wd d) c')) := by
  cases x with
  | whl e a =>
    have q := ClL.loop h K hi
    refine ⟨some (.d (stE c.s)), ?_⟩
    generalize prog (K + 2 * (Tc.whl e a).ht + 6) = cc at q
    have f1 := law_word hi
    have f2 := law_store hi
    have f3 : oEq true (.d (.str "end")) (.d (.str "end")) S = some (.ok (.d (.bl false)), S) := oEq_end true true S
    simp only [Tc.enc] at q
    simp (decide := true) [b__law_do_1, f1, f2, f3, Tc.enc, q]
  | set n e => exact h K S i e0 e3 hi
  | tell e => exact h K S i e0 e3 hi
  | ite e p q => exact h K S i e0 e3 hi
theorem lrun_ok {k : Kx} {c c' : Mc} {d : Bool} (h : Ev k c d c') : okK k → okM c → c'.o.length ≤ 1000 → ClL k c d c' := by
  have f3 : ∀ S, oEq true (.d (.str "end")) (.d (.str "end")) S = some (.ok (.d (.bl false)), S) := fun S => oEq_end true true S
  induction h with
  | @set i e n s o =>
    intro hk hm _ K S j e0 e3 hj
    obtain ⟨w1, w2⟩ := okD.e (r := []) hk rfl
    have w3 := (show okD 300 [.set i e] from hk).wf
    rw [Tc.wfs, Tc.wf] at w3
    have h0 := w3.1.1.1
    have h1 := w3.1.1.2
    have v1 := lval_ok e (K + 2 * (Tc.set i e).ht + 6) S w1 hm.s (by omega)
    have f1 := law_word hj
    have f2 := law_store hj
    have f4 := law_pstore hj (s.set i.toNat (e.val s))
    simp only at f2 f4 v1
    have ee := stE_set hm.s (v := e.val s) h0 h1
    have hlen := hm.s.len
    simp only at ee hlen
    have l1 : (cutL (s.map D.int) none (some i)).length ≤ 4 := by
      obtain ⟨m, rfl⟩ := Int.eq_ofNat_of_zero_le h0
      rw [cutL_to, List.length_take, List.length_map, hlen]; omega
    have l2 : (cutL (s.map D.int) (some (i + 1)) none).length ≤ 4 := by
      obtain ⟨m, rfl⟩ := Int.eq_ofNat_of_zero_le h0
      rw [show ((m : Int) + 1) = ((m + 1 : Nat) : Int) by omega, cutL_fr, List.length_drop, List.length_map, hlen]; omega
    have p1 := oPlus_tup (cutL (s.map D.int) none (some i)) [D.int (e.val s)] S (sl (by simp; omega))
    have p2 := oPlus_tup (cutL (s.map D.int) none (some i) ++ [D.int (e.val s)]) (cutL (s.map D.int) (some (i + 1)) none) S (sl (by simp; omega))
    rw [ee] at p2
    refine ⟨some (.d (stE s)), ?_⟩
    generalize prog (K + 2 * (Tc.set i e).ht + 6) = cc at v1
    simp only [stE] at f2 f4 v1 p2 ⊢
    clear ee
    generalize (s.set i.toNat (e.val s)).map D.int = NL at f4 p2
    simp (decide := true) [b__law_do_1, f1, f2, f3, f4, Tc.enc, v1, p1, p2, wd]
  | @tell e n s o =>
    intro hk hm hl K S j e0 e3 hj
    obtain ⟨w1, w2⟩ := okD.e (r := []) hk rfl
    have v1 := lval_ok e (K + 2 * (Tc.tell e).ht + 6) S w1 hm.s (by omega)
    have f1 := law_word hj
    have f2 := law_store hj
    have f5 := law_told hj
    have f4 := law_ptold hj (o ++ [e.val s])
    have v2 := oPlus_tol o (e.val s) S (by simp at hl; omega)
    simp only at f2 f4 f5 v1
    refine ⟨some (.d (stE s)), ?_⟩
    generalize prog (K + 2 * (Tc.tell e).ht + 6) = cc at v1
    simp (decide := true) [b__law_do_1, f1, f2, f3, f4, f5, Tc.enc, v1, v2, wd]
  | @iteT e p q n s o d c z hp ih =>
    intro hk hm hl K S j e0 e3 hj
    obtain ⟨w1, w2⟩ := okD.e (r := []) hk rfl
    have b1 := (ih (okK_sub hk (by simp [Tc.sub])) ⟨hm.s, hm.o⟩ hl).blk (K + 2 * max (Tc.hts p) (Tc.hts q) - 2 * Tc.hts p + 1) hj (Nat.le_refl _)
    have hht : K + 2 * max (Tc.hts p) (Tc.hts q) - 2 * Tc.hts p + 1 + 2 * Tc.hts p + 7 = K + 2 * (Tc.ite e p q).ht + 6 := by rw [Tc.ht]; omega
    rw [hht] at b1
    have v1 := lval_ok e (K + 2 * (Tc.ite e p q).ht + 6) S w1 hm.s (by omega)
    have f1 := law_word hj
    have f2 := law_store hj
    simp only at f2 v1
    refine ⟨some (.d (stE s)), ?_⟩
    generalize prog (K + 2 * (Tc.ite e p q).ht + 6) = cc at v1 b1
    simp only [blkE] at b1
    simp (decide := true) [b__law_do_1, f1, f2, f3, Tc.enc, v1, z, b1]
  | @iteF e p q n s o d c z hp ih =>
    intro hk hm hl K S j e0 e3 hj
    obtain ⟨w1, w2⟩ := okD.e (r := []) hk rfl
    have b1 := (ih (okK_sub hk (by simp [Tc.sub])) ⟨hm.s, hm.o⟩ hl).blk (K + 2 * max (Tc.hts p) (Tc.hts q) - 2 * Tc.hts q + 1) hj (Nat.le_refl _)
    have hht : K + 2 * max (Tc.hts p) (Tc.hts q) - 2 * Tc.hts q + 1 + 2 * Tc.hts q + 7 = K + 2 * (Tc.ite e p q).ht + 6 := by rw [Tc.ht]; omega
    rw [hht] at b1
    have v1 := lval_ok e (K + 2 * (Tc.ite e p q).ht + 6) S w1 hm.s (by omega)
    have f1 := law_word hj
    have f2 := law_store hj
    simp only at f2 v1
    refine ⟨some (.d (stE s)), ?_⟩
    generalize prog (K + 2 * (Tc.ite e p q).ht + 6) = cc at v1 b1
    simp only [blkE] at b1
    simp (decide := true) [b__law_do_1, f1, f2, f3, Tc.enc, v1, z, b1]
  | @stop e a s o =>
    intro hk hm hl K S j hj
    have f1 := law_turns hj
    have f2 := law_pword hj "going"
    simp only at f1
    refine ⟨[some (.d (Tc.whl e a).enc), some (.r j), some (.d (.bl true))], _, .inr rfl, rfl, sWhile_r (S1 := S) (by simp) ?_⟩
    simp (decide := true) [b__law_loop_1, f1, f2, wd]
  | @out e a n s o z =>
    intro hk hm hl K S j hj
    obtain ⟨w1, w2⟩ := okD.e (r := []) hk rfl
    have f1 := law_turns hj
    have f2 := law_pturns hj n
    have hj2 := at_set hj (lawO "end" ⟨n, s, o⟩)
    have f4 := law_store hj2
    have v1 := lval_ok e (K + 2 * (Tc.whl e a).ht + 5) (S.set j (lawO "end" ⟨n, s, o⟩)) w1 hm.s (by omega)
    generalize prog (K + 2 * (Tc.whl e a).ht + 5) = cc at v1
    simp only at f1 f2 f4 v1
    have hz : ¬ ((n + 1 : Nat) : Int) = 0 := by omega
    have hz2 : ((n + 1 : Nat) : Int) - 1 = (n : Nat) := by omega
    refine ⟨[some (.d (Tc.whl e a).enc), some (.r j), some (.d (.bl false))], _, .inl rfl, rfl, sWhile_t (S1 := S) (env2 := [some (.d (Tc.whl e a).enc), some (.r j), some (.d (.bl false))]) (S2 := S.set j (lawO "end" ⟨n, s, o⟩)) (by simp) ?_ (sWhile_f (by simp [wd]))⟩
    generalize ((n + 1 : Nat) : Int) = zz at hz hz2 f1
    simp (decide := true) [b__law_loop_1, f1, f2, f4, hz, hz2, Tc.enc, v1, z]
  | @rnd e a n s o c d c' z h1 h2 ih1 ih2 =>
    intro hk hm hl K S j hj
    obtain ⟨w1, w2⟩ := okD.e (r := []) hk rfl
    obtain ⟨km, kl⟩ := ev_keep h1 (okK_sub hk (by simp [Tc.sub])) ⟨hm.s, hm.o⟩
    obtain ⟨_, kl2⟩ := ev_keep h2 hk km
    have f1 := law_turns hj
    have f2 := law_pturns hj n
    have hj2 := at_set hj (lawO "end" ⟨n, s, o⟩)
    have f4 := law_store hj2
    have b1 := (ih1 (okK_sub hk (by simp [Tc.sub])) ⟨hm.s, hm.o⟩ (by omega)).blk K hj2 (Nat.le_refl _)
    have hht : K + 2 * Tc.hts a + 7 = K + 2 * (Tc.whl e a).ht + 5 := by rw [Tc.ht]; omega
    rw [hht, List.set_set] at b1
    have hj3 : (S.set j (lawO (wd true) c))[j]? = some (lawO "end" c) := at_set hj _
    have f5 := law_word hj3
    obtain ⟨env', fl, hf, he, q⟩ := ih2 hk km hl K (S.set j (lawO (wd true) c)) j hj3
    rw [List.set_set] at q
    have v1 := lval_ok e (K + 2 * (Tc.whl e a).ht + 5) (S.set j (lawO "end" ⟨n, s, o⟩)) w1 hm.s (by omega)
    generalize prog (K + 2 * (Tc.whl e a).ht + 5) = cc at v1 q b1
    simp only at f1 f2 f4 v1
    simp only [blkE] at b1
    have hz : ¬ ((n + 1 : Nat) : Int) = 0 := by omega
    have hz2 : ((n + 1 : Nat) : Int) - 1 = (n : Nat) := by omega
    refine ⟨env', fl, hf, he, sWhile_t (S1 := S) (env2 := [some (.d (Tc.whl e a).enc), some (.r j), some (.d (.bl true))]) (S2 := S.set j (lawO (wd true) c)) (by simp) ?_ q⟩
    have f6 := oEq_end false true (S.set j (lawO (wd true) c))
    simp only [wd, if_true] at f5 f6 b1 ⊢
    generalize ((n + 1 : Nat) : Int) = zz at hz hz2 f1
    simp (decide := true) [b__law_loop_1, f1, f2, f4, hz, hz2, Tc.enc, v1, z, b1, f5, f6]
  | @brk e a n s o c z h1 ih1 =>
    intro hk hm hl K S j hj
    obtain ⟨w1, w2⟩ := okD.e (r := []) hk rfl
    have f1 := law_turns hj
    have f2 := law_pturns hj n
    have hj2 := at_set hj (lawO "end" ⟨n, s, o⟩)
    have f4 := law_store hj2
    have b1 := (ih1 (okK_sub hk (by simp [Tc.sub])) ⟨hm.s, hm.o⟩ hl).blk K hj2 (Nat.le_refl _)
    have hht : K + 2 * Tc.hts a + 7 = K + 2 * (Tc.whl e a).ht + 5 := by rw [Tc.ht]; omega
    rw [hht, List.set_set] at b1
    have hj3 : (S.set j (lawO (wd false) c))[j]? = some (lawO (wd false) c) := at_set hj _
    have f5 := law_word hj3
    have v1 := lval_ok e (K + 2 * (Tc.whl e a).ht + 5) (S.set j (lawO "end" ⟨n, s, o⟩)) w1 hm.s (by omega)
    generalize prog (K + 2 * (Tc.whl e a).ht + 5) = cc at v1 b1
    simp only at f1 f2 f4 v1
    simp only [blkE] at b1
    have hz : ¬ ((n + 1 : Nat) : Int) = 0 := by omega
    have hz2 : ((n + 1 : Nat) : Int) - 1 = (n : Nat) := by omega
    refine ⟨[some (.d (Tc.whl e a).enc), some (.r j), some (.d (.bl false))], _, .inl rfl, rfl, sWhile_t (S1 := S) (env2 := [some (.d (Tc.whl e a).enc), some (.r j), some (.d (.bl false))]) (S2 := S.set j (lawO (wd false) c)) (by simp) ?_ (sWhile_f (by simp))⟩
    have f6 := oEq_end false false (S.set j (lawO (wd false) c))
    generalize ((n + 1 : Nat) : Int) = zz at hz hz2 f1
    generalize wd false = wf at *
    simp (decide := true) [b__law_loop_1, f1, f2, f4, hz, hz2, Tc.enc, v1, z, b1, f5, f6]
  | @nil c =>
    intro hk hm hl K S j e0 e2 e3 h hj hh
    refine ⟨[e0, some (.r j), e2, e3], _, .inl rfl, rfl, ?_⟩
    rw [show lawO (wd true) c = lawO "end" c from rfl, set_same hj]
    rfl
  | @cons x r c c1 d c2 h1 h2 ih1 ih2 =>
    intro hk hm hl K S j e0 e2 e3 h hj hh
    obtain ⟨k1, k2⟩ := okK_hd hk
    obtain ⟨km, kl⟩ := ev_keep h1 k1 hm
    obtain ⟨_, kl2⟩ := ev_keep h2 k2 km
    rw [Tc.hts] at hh
    obtain ⟨e3', t1⟩ := (ih1 k1 hm (by omega)).t (K + 2 * h - 2 * x.ht) e0 e3 hj
    rw [show K + 2 * h - 2 * x.ht + 2 * x.ht + 6 = K + 2 * h + 6 by omega] at t1
    obtain ⟨env', fl, hf, he, q⟩ := ih2 k2 km hl K (S.set j (lawO (wd true) c1)) j e0 (some (.d x.enc)) e3' h (at_set hj _) (by omega)
    rw [List.set_set] at q
    refine ⟨env', fl, hf, he, ?_⟩
    rw [Tc.encs, List.map_cons]
    unfold forL
    simp only [gN_def, List.set_cons_succ, List.set_cons_zero, t1]
    exact q
  | @consF x r c c1 h1 ih1 =>
    intro hk hm hl K S j e0 e2 e3 h hj hh
    obtain ⟨k1, k2⟩ := okK_hd hk
    rw [Tc.hts] at hh
    obtain ⟨e3', t1⟩ := (ih1 k1 hm hl).t (K + 2 * h - 2 * x.ht) e0 e3 hj
    rw [show K + 2 * h - 2 * x.ht + 2 * x.ht + 6 = K + 2 * h + 6 by omega] at t1
    have hj3 : (S.set j (lawO (wd false) c1))[j]? = some (lawO (wd false) c1) := at_set hj _
    have f5 := law_word hj3
    have f6 := oEq_end true false (S.set j (lawO (wd false) c1))
    cases r with
    | nil =>
      refine ⟨[e0, some (.r j), some (.d x.enc), e3'], _, .inl rfl, rfl, ?_⟩
      rw [Tc.encs, Tc.encs, List.map_cons, List.map_nil]
      unfold forL
      simp only [gN_def, List.set_cons_succ, List.set_cons_zero, t1]
      rfl
    | cons y r =>
      refine ⟨[e0, some (.r j), some (.d y.enc), e3'], _, .inr rfl, rfl, ?_⟩
      rw [Tc.encs, Tc.encs, List.map_cons, List.map_cons]
      unfold forL
      simp only [gN_def, List.set_cons_succ, List.set_cons_zero, t1]
      unfold forL
      generalize prog (K + 2 * h + 6) = cc
      have g2 : b__law_do_1 cc [e0, some (.r j), some (.d y.enc), e3'] (S.set j (lawO (wd false) c1)) = some (.rt (.r j), [e0, some (.r j), some (.d y.enc), e3'], S.set j (lawO (wd false) c1)) := by
        generalize wd false = wf at *
        simp [b__law_do_1, f5, f6]
      simp only [gN_def, List.set_cons_succ, List.set_cons_zero, g2]
end Y

set_option Elab.async false
set_option linter.all false
set_option maxRecDepth 100000
set_option maxHeartbeats 4000000
namespace Y
open PySem PySem.Spec L2
theorem lawrun_ok (k : Nat) {n : Nat} {b : List Tc} {s : List Int} (h : Gd n ⟨b, s, []⟩) {y : Cf} (hy : lastC n ⟨b, s, []⟩ = some y) (S : Store) : prog (k + 20) .f_law_run [.d (blkE b), .d (stE s), .d (.int (n : Nat))] S = some (.ok (.d (resE y)), S) := by
  obtain ⟨d, c, hev, y', hy', ho, ht, hf⟩ := ev_run n _ h
  rw [hy] at hy'
  cases hy'
  obtain ⟨hk, hm⟩ := okK_of h
  obtain ⟨m, _, hg⟩ := last_gd h hy
  have hyo := hg.bud
  have hd := h.d.ht
  simp only at hd
  have r1 := (lrun_ok hev hk hm (by rw [← ho]; omega)).blk (k + 6) (getS S (lawO "end" ⟨n, s, []⟩)) (m := 3) hd
  rw [setS] at r1
  replace r1 : prog (k + 19) .f_law_do [.d (blkE b), .r S.length] (S ++ [lawO "end" ⟨n, s, []⟩]) = some (.ok (.r S.length), S ++ [lawO (wd d) c]) := r1
  rw [show k + 20 = k + 19 + 1 from rfl, prog_succ]
  show fnM 3 4 true (m__law_run (prog (k + 19))) [_, _, _] S = _
  generalize prog (k + 19) = cc at r1
  have i1 := law_word (getS S (lawO (wd d) c))
  have i2 := law_store (getS S (lawO (wd d) c))
  have i3 := law_told (getS S (lawO (wd d) c))
  have i4 := oEq_end false d (S ++ [lawO (wd d) c])
  have hdisp : fDisp [.inr "word", .inr "store", .inr "told", .inr "turns"] (fCons (fC (.str "end")) (fCons (fVar 1) (fCons (fTup (fNil)) (fCons (fVar 2) (fNil))))) [some (.d (blkE b)), some (.d (stE s)), some (.d (.int (n : Nat))), none] S = some (.ok (.r S.length), S ++ [lawO "end" ⟨n, s, []⟩]) := by
    unfold fDisp
    rw [bnd_def, noX_ok (a := [.d (.str "end"), .d (stE s), .d (.tup []), .d (.int (n : Nat))]) (S' := S) (by simp)]
    dsimp only
    rw [if_pos (by rw [show ndB [.inr "word", .inr "store", .inr "told", .inr "turns"] = true by decide]; rfl)]
    rfl
  refine fnM_app (T := [lawO (wd d) c]) (env := [some (.d (blkE b)), some (.d (stE s)), some (.d (.int (n : Nat))), some (.r S.length)]) rfl ?_
  have hres : resE y = if d = true then .tup [.str "end", stE c.s, tolE c.o] else .tup [.str "going", tolE c.o] := by
    unfold resE
    cases d with
    | true => obtain ⟨h1, h2⟩ := ht rfl; rw [if_pos h1, if_pos rfl, h2, ho]
    | false => rw [if_neg (hf rfl), if_neg (by decide), ho]
  rw [hres]
  unfold m__law_run
  refine sSeq_nx (env' := [some (.d (blkE b)), some (.d (stE s)), some (.d (.int (n : Nat))), some (.r S.length)]) (S' := S ++ [lawO "end" ⟨n, s, []⟩]) (by rw [show envOf 4 [.d (blkE b), .d (stE s), .d (.int (n : Nat))] = [some (.d (blkE b)), some (.d (stE s)), some (.d (.int (n : Nat))), none] from rfl, sSet_def, hdisp]; rfl) ?_
  generalize wd d = ww at *
  cases d with
  | true => simp (decide := true) [r1, i1, i2, i3, i4]
  | false => simp (decide := true) [r1, i1, i2, i3, i4]
/-! ### frames -/
theorem sh_next : Sh k_NEXT 1 := sh_tup (n := 0) (shs_cons (sh_str (by decide +kernel) _) (shs_nil _)) (by omega)
theorem eq_next2 (neg : Bool) {w : Str} (hw : PyData.strOk w = true) {d : D} {n : Nat} (h : Sh d n) (hn : n ≤ 60) (S : Store) : oEq neg (.d (.tup [.str w, d])) (.d k_NEXT) S = some (.ok (.d (.bl (false != neg))), S) := by
  refine oEq_of neg ?_ S
  obtain ⟨p, a, b, c⟩ := h
  unfold eqD
  have t1 : D.toP (.tup [.str w, d]) = some (.tuple [.str w, p]) := by simp [D.toP, D.toPs, a]
  have t2 : D.toP k_NEXT = some (.tuple [.str "next"]) := by simp [k_NEXT, D.toP, D.toPs]
  rw [t1, t2]
  dsimp only
  have s1 : SeqAt.shaped (.tuple [.str w, p]) = true := by
    unfold SeqAt.shaped
    simp [PyData.canLay0, PyData.canLayAll0, PyData.depth, PyData.depthAll, hw, b]
    omega
  have s2 : SeqAt.shaped (.tuple [.str "next"]) = true := by decide +kernel
  rw [s1, s2, if_pos (by rfl)]
  simp [PyData.eqv, PyData.eqvAll]
@[simp] theorem eq_next1 (neg : Bool) (S : Store) : oEq neg (.d k_NEXT) (.d k_NEXT) S = some (.ok (.d (.bl (true != neg))), S) := by
  cases neg <;> exact oEq_of _ (by decide +kernel) S
@[simp] theorem sk_eval : PyData.strOk ("eval" : Str) = true := by decide +kernel
@[simp] theorem sk_give : PyData.strOk ("give" : Str) = true := by decide +kernel
@[simp] theorem sk_right : PyData.strOk ("right" : Str) = true := by decide +kernel
@[simp] theorem sk_work : PyData.strOk ("work" : Str) = true := by decide +kernel
def fx (now : D) (fr : List D) (s o : List Int) : D := .tup [now, .tup fr, stE s, tolE o]
abbrev evN (e : Ec) : D := .tup [.str "eval", e.enc]
abbrev gvN (v : Int) : D := .tup [.str "give", .int v]
def dk (b : List Tc) : D := .tup [.str "deeds", blkE b]
noncomputable abbrev FrC (k : Nat) : FB := gNot (fT (fCall (ck 1 (prog (k + 6) .f_is_done)) (fCons (fVar 3) (fNil))))
noncomputable abbrev FrB (k : Nat) : FS := b_run_frames_1 (prog (k + 6))
section
variable {k : Nat} {x y : D} {S : Store} {e0 e1 : Option Val} {r : Fl × Env × Store}
theorem fr_it {n : Int} (hd : prog (k + 6) .f_is_done [.d x] S = some (.ok (.d (.bl false)), S)) (ht : prog (k + 6) .f_takes_turn_frames [.d x] S = some (.ok (.d (.bl false)), S)) (hs : prog (k + 6) .f_step_frames [.d x] S = some (.ok (.d y), S))
    (h : sWhile (FrC k) (FrB k) [e0, e1, some (.d (.int n)), some (.d y)] S = some r) : sWhile (FrC k) (FrB k) [e0, e1, some (.d (.int n)), some (.d x)] S = some r := by
  refine sWhile_t (S1 := S) (env2 := [e0, e1, some (.d (.int n)), some (.d y)]) (S2 := S) ?_ ?_ h
  · unfold FrC; generalize prog (k + 6) = c at hd ht hs ⊢; simp [hd]
  · unfold FrB; generalize prog (k + 6) = c at hd ht hs ⊢; simp [b_run_frames_1, ht, hs]
theorem fr_tn {m : Nat} (hd : prog (k + 6) .f_is_done [.d x] S = some (.ok (.d (.bl false)), S)) (ht : prog (k + 6) .f_takes_turn_frames [.d x] S = some (.ok (.d (.bl true)), S)) (hs : prog (k + 6) .f_step_frames [.d x] S = some (.ok (.d y), S))
    (h : sWhile (FrC k) (FrB k) [e0, e1, some (.d (.int (m : Nat))), some (.d y)] S = some r) : sWhile (FrC k) (FrB k) [e0, e1, some (.d (.int ((m + 1 : Nat) : Int))), some (.d x)] S = some r := by
  have hz : ¬ ((m + 1 : Nat) : Int) = 0 := by omega
  have hz2 : ((m + 1 : Nat) : Int) - 1 = (m : Nat) := by omega
  refine sWhile_t (S1 := S) (env2 := [e0, e1, some (.d (.int (m : Nat))), some (.d y)]) (S2 := S) ?_ ?_ h
  · unfold FrC; generalize prog (k + 6) = c at hd ht hs ⊢; simp [hd]
  · unfold FrB; generalize prog (k + 6) = c at hd ht hs ⊢
    generalize ((m + 1 : Nat) : Int) = z at hz hz2
    simp [b_run_frames_1, ht, hs, hz, hz2]
end
section
variable {s o : List Int} {fr : List D} {S : Store}
theorem done_2 (k : Nat) {w : Str} (hw : PyData.strOk w = true) {d : D} {m : Nat} (h : Sh d m) (hm : m ≤ 60) : prog (k + 1) .f_is_done [.d (fx (.tup [.str w, d]) fr s o)] S = some (.ok (.d (.bl false)), S) := by
  have e := eq_next2 false hw h hm S
  rw [prog_succ]
  show fnM 1 1 true (m_is_done (prog k)) [_] S = _
  refine fnM_same (env := [some (.d (fx (.tup [.str w, d]) fr s o))]) rfl ?_
  simp [m_is_done, envOf, fx, e]
theorem takes_2 (k : Nat) {w : Str} (hw : PyData.strOk w = true) {d : D} {m : Nat} (h : Sh d m) (hm : m ≤ 60) : prog (k + 1) .f_takes_turn_frames [.d (fx (.tup [.str w, d]) fr s o)] S = some (.ok (.d (.bl false)), S) := by
  have e := eq_next2 false hw h hm S
  rw [prog_succ]
  show fnM 1 1 true (m_takes_turn_frames (prog k)) [_] S = _
  refine fnM_same (env := [some (.d (fx (.tup [.str w, d]) fr s o))]) rfl ?_
  simp [m_takes_turn_frames, envOf, fx, e]
theorem done_n (k : Nat) : prog (k + 1) .f_is_done [.d (fx k_NEXT fr s o)] S = some (.ok (.d (.bl (decide (fr = [])))), S) := by
  rw [prog_succ]
  show fnM 1 1 true (m_is_done (prog k)) [_] S = _
  refine fnM_same (env := [some (.d (fx k_NEXT fr s o))]) rfl ?_
  cases fr with
  | nil => simp (decide := true) [m_is_done, envOf, fx]
  | cons a b =>
    have hne : ¬ ((b.length : Nat) : Int) + 1 = 0 := by omega
    simp (decide := true) [m_is_done, envOf, fx, hne]
/-- a step that evaluates, that gives -/
theorem step_ev (k : Nat) {d : D} {m : Nat} (h : Sh d m) (hm : m ≤ 60) {y : D} (hy : prog (k + 1) .f_eval_state [.d d, .d (.tup fr), .d (stE s), .d (tolE o)] S = some (.ok (.d y), S)) : prog (k + 2) .f_step_frames [.d (fx (.tup [.str "eval", d]) fr s o)] S = some (.ok (.d y), S) := by
  have e := eq_next2 false sk_eval h hm S
  have hd := done_2 k (fr := fr) (s := s) (o := o) (S := S) sk_eval h hm
  rw [show k + 2 = k + 1 + 1 from rfl, prog_succ]
  show fnM 1 5 true (m_step_frames (prog (k + 1))) [_] S = _
  refine fnM_same (env := [some (.d (fx (.tup [.str "eval", d]) fr s o)), some (.d (.tup [.str "eval", d])), some (.d (.tup fr)), some (.d (stE s)), some (.d (tolE o))]) rfl ?_
  generalize prog (k + 1) = c at hd hy
  simp only [fx] at hd ⊢
  simp (decide := true) [m_step_frames, envOf, hd, e, hy]
theorem step_gv (k : Nat) {v : Int} {y : D} (hy : prog (k + 1) .f_give_state [.d (.int v), .d (.tup fr), .d (stE s), .d (tolE o)] S = some (.ok (.d y), S)) : prog (k + 2) .f_step_frames [.d (fx (gvN v) fr s o)] S = some (.ok (.d y), S) := by
  have e := eq_next2 false sk_give (sh_int v 0) (by omega) S
  have hd := done_2 k (fr := fr) (s := s) (o := o) (S := S) sk_give (sh_int v 0) (by omega)
  rw [show k + 2 = k + 1 + 1 from rfl, prog_succ]
  show fnM 1 5 true (m_step_frames (prog (k + 1))) [_] S = _
  refine fnM_same (env := [some (.d (fx (gvN v) fr s o)), some (.d (gvN v)), some (.d (.tup fr)), some (.d (stE s)), some (.d (tolE o))]) rfl ?_
  generalize prog (k + 1) = c at hd hy
  simp only [fx] at hd ⊢
  simp (decide := true) [m_step_frames, envOf, hd, e, hy]
theorem step_nx (k : Nat) {b : List Tc} {y : D} (hy : prog (k + 1) .f_deed_state [.d (blkE b), .d (.tup fr), .d (stE s), .d (tolE o)] S = some (.ok (.d y), S)) : prog (k + 2) .f_step_frames [.d (fx k_NEXT (dk b :: fr) s o)] S = some (.ok (.d y), S) := by
  have hd := done_n k (fr := dk b :: fr) (s := s) (o := o) (S := S)
  rw [show k + 2 = k + 1 + 1 from rfl, prog_succ]
  show fnM 1 5 true (m_step_frames (prog (k + 1))) [_] S = _
  refine fnM_same (env := [some (.d (fx k_NEXT (dk b :: fr) s o)), some (.d k_NEXT), some (.d (.tup (dk b :: fr))), some (.d (stE s)), some (.d (tolE o))]) rfl ?_
  generalize prog (k + 1) = c at hd hy
  simp only [fx, dk] at hd ⊢
  simp (decide := true) [m_step_frames, envOf, hd, hy]
end
theorem fr_plus (x : D) (fr : List D) (S : Store) (h : fr.length ≤ 1000000) : oPlus (.d (.tup [x])) (.d (.tup fr)) S = some (.ok (.d (.tup (x :: fr))), S) := by
  rw [oPlus_tup _ _ _ (sl (by simp; omega))]; rfl
/-- an expression is evaluated -/
theorem fr_eval (k : Nat) (e0 e1 : Option Val) (n : Int) (S : Store) {s : List Int} (o : List Int) (hs : okS s) : ∀ (e : Ec) (fr : List D) (r : Fl × Env × Store), e.wf → e.dp ≤ 40 → fr.length + 2 * e.dp ≤ 100000 →
    sWhile (FrC k) (FrB k) [e0, e1, some (.d (.int n)), some (.d (fx (gvN (e.val s)) fr s o))] S = some r → sWhile (FrC k) (FrB k) [e0, e1, some (.d (.int n)), some (.d (fx (evN e) fr s o))] S = some r
  | .num i, fr, r, hw, hd, hl, h => by
    refine fr_it (done_2 (k + 5) sk_eval (sh_ec _) (by simp only [Ec.dp]; omega)) (takes_2 (k + 5) sk_eval (sh_ec _) (by simp only [Ec.dp]; omega)) (step_ev (k + 4) (sh_ec _) (by simp only [Ec.dp]; omega) ?_) h
    rw [prog_succ]
    show fnM 4 4 true (m_eval_state (prog (k + 4))) [_, _, _, _] S = _
    refine fnM_same (env := [some (.d (Ec.num i).enc), some (.d (.tup fr)), some (.d (stE s)), some (.d (tolE o))]) rfl ?_
    simp (decide := true) [m_eval_state, envOf, Ec.enc, Ec.val, fx]
  | .nam i, fr, r, hw, hd, hl, h => by
    refine fr_it (done_2 (k + 5) sk_eval (sh_ec _) (by simp only [Ec.dp]; omega)) (takes_2 (k + 5) sk_eval (sh_ec _) (by simp only [Ec.dp]; omega)) (step_ev (k + 4) (sh_ec _) (by simp only [Ec.dp]; omega) ?_) h
    rw [prog_succ]
    show fnM 4 4 true (m_eval_state (prog (k + 4))) [_, _, _, _] S = _
    refine fnM_same (env := [some (.d (Ec.nam i).enc), some (.d (.tup fr)), some (.d (stE s)), some (.d (tolE o))]) rfl ?_
    simp (decide := true) [m_eval_state, envOf, Ec.enc, Ec.val, fx, ix_st hs hw.1 hw.2]
  | .un a, fr, r, hw, hd, hl, h => by
    simp only [Ec.dp] at hd hl
    have p1 := fr_plus (.tup [.str "not"]) fr S (by omega)
    refine fr_it (y := fx (evN a) (.tup [.str "not"] :: fr) s o) (done_2 (k + 5) sk_eval (sh_ec _) (by simp only [Ec.dp]; omega)) (takes_2 (k + 5) sk_eval (sh_ec _) (by simp only [Ec.dp]; omega)) (step_ev (k + 4) (sh_ec _) (by simp only [Ec.dp]; omega) ?_) ?_
    · rw [prog_succ]
      show fnM 4 4 true (m_eval_state (prog (k + 4))) [_, _, _, _] S = _
      refine fnM_same (env := [some (.d (Ec.un a).enc), some (.d (.tup fr)), some (.d (stE s)), some (.d (tolE o))]) rfl ?_
      simp (decide := true) [m_eval_state, envOf, Ec.enc, fx, p1]
    · refine fr_eval k e0 e1 n S o hs a _ r hw (by omega) (by rw [List.length_cons]; omega) ?_
      refine fr_it (done_2 (k + 5) sk_give (sh_int _ 0) (by omega)) (takes_2 (k + 5) sk_give (sh_int _ 0) (by omega)) (step_gv (k + 4) ?_) h
      rw [prog_succ]
      show fnM 4 7 true (m_give_state (prog (k + 4))) [_, _, _, _] S = _
      refine fnM_same (env := [some (.d (.int (a.val s))), some (.d (.tup (.tup [.str "not"] :: fr))), some (.d (stE s)), some (.d (tolE o)), some (.d (.tup [.str "not"])), some (.d (.tup fr)), none]) rfl ?_
      simp (decide := true) [m_give_state, envOf, fx, Ec.val]
  | .bin w a b, fr, r, hw, hd, hl, h => by
    simp only [Ec.dp] at hd hl
    have p1 := fr_plus (.tup [.str "right", .str w.s, b.enc]) fr S (by omega)
    refine fr_it (y := fx (evN a) (.tup [.str "right", .str w.s, b.enc] :: fr) s o) (done_2 (k + 5) sk_eval (sh_ec _) (by simp only [Ec.dp]; omega)) (takes_2 (k + 5) sk_eval (sh_ec _) (by simp only [Ec.dp]; omega)) (step_ev (k + 4) (sh_ec _) (by simp only [Ec.dp]; omega) ?_) ?_
    · rw [prog_succ]
      show fnM 4 4 true (m_eval_state (prog (k + 4))) [_, _, _, _] S = _
      refine fnM_same (env := [some (.d (Ec.bin w a b).enc), some (.d (.tup fr)), some (.d (stE s)), some (.d (tolE o))]) rfl ?_
      cases w <;> (simp only [W.s] at p1; simp (decide := true) [m_eval_state, envOf, Ec.enc, fx, p1, W.s])
    · refine fr_eval k e0 e1 n S o hs a _ r hw.1 (by omega) (by rw [List.length_cons]; omega) ?_
      have p2 := fr_plus (.tup [.str "work", .str w.s, .int (a.val s)]) fr S (by omega)
      refine fr_it (y := fx (evN b) (.tup [.str "work", .str w.s, .int (a.val s)] :: fr) s o) (done_2 (k + 5) sk_give (sh_int _ 0) (by omega)) (takes_2 (k + 5) sk_give (sh_int _ 0) (by omega)) (step_gv (k + 4) ?_) ?_
      · rw [prog_succ]
        show fnM 4 7 true (m_give_state (prog (k + 4))) [_, _, _, _] S = _
        refine fnM_same (env := [some (.d (.int (a.val s))), some (.d (.tup (.tup [.str "right", .str w.s, b.enc] :: fr))), some (.d (stE s)), some (.d (tolE o)), some (.d (.tup [.str "right", .str w.s, b.enc])), some (.d (.tup fr)), none]) rfl ?_
        simp (decide := true) [m_give_state, envOf, fx, p2]
      · refine fr_eval k e0 e1 n S o hs b _ r hw.2 (by omega) (by rw [List.length_cons]; omega) ?_
        refine fr_it (done_2 (k + 5) sk_give (sh_int _ 0) (by omega)) (takes_2 (k + 5) sk_give (sh_int _ 0) (by omega)) (step_gv (k + 4) ?_) h
        have v1 := worked_ok (k + 3) w (a.val s) (b.val s) S (Ec.val_rg hw.1 hs)
        rw [prog_succ]
        show fnM 4 7 true (m_give_state (prog (k + 4))) [_, _, _, _] S = _
        refine fnM_same (env := [some (.d (.int (b.val s))), some (.d (.tup (.tup [.str "work", .str w.s, .int (a.val s)] :: fr))), some (.d (stE s)), some (.d (tolE o)), some (.d (.tup [.str "work", .str w.s, .int (a.val s)])), some (.d (.tup fr)), none]) rfl ?_
        generalize prog (k + 4) = c at v1
        simp (decide := true) [m_give_state, envOf, fx, Ec.val, v1]
end Y

set_option Elab.async false
set_option linter.all false
set_option maxRecDepth 100000
set_option maxHeartbeats 4000000
namespace Y
open PySem PySem.Spec L2
theorem cutL_1 {α : Type} (x : α) (r : List α) : cutL (x :: r) none (some 1) = [x] := by
  have := cutL_to (x :: r) 1
  simpa using this
theorem cutL_1n {α : Type} : cutL ([] : List α) none (some 1) = [] := by
  have := cutL_to ([] : List α) 1
  simpa using this
section
variable {s o : List Int} {fr : List D} {S : Store}
theorem takes_n0 (k : Nat) : prog (k + 1) .f_takes_turn_frames [.d (fx k_NEXT (dk [] :: fr) s o)] S = some (.ok (.d (.bl false)), S) := by
  have e := oEq_nil true (shs_nil 0) (by omega) S
  have hp : (0 : Int) < ((fr.length : Nat) : Int) + 1 := by omega
  rw [prog_succ]
  show fnM 1 1 true (m_takes_turn_frames (prog k)) [_] S = _
  refine fnM_same (env := [some (.d (fx k_NEXT (dk [] :: fr) s o))]) rfl ?_
  simp (decide := true) [m_takes_turn_frames, envOf, fx, dk, blkE, Tc.encs, cutL_1n, e, hp]
theorem takes_n (k : Nat) {n : Nat} {t : Tc} {r : List Tc} (h : okD n (t :: r)) : prog (k + 1) .f_takes_turn_frames [.d (fx k_NEXT (dk (t :: r) :: fr) s o)] S = some (.ok (.d (.bl (Cf.mk (t :: r) s o).tt)), S) := by
  have hsh : Sh t.enc (2 * t.ht + 2 + 2) := sh_tc 2 t fun e he => h.dp e (by rw [Tc.exs]; exact List.mem_append_left _ he)
  have hht := h.ht
  rw [Tc.hts] at hht
  have e := oEq_nil true (shs_cons hsh (shs_nil _)) (by omega) S
  have hp : (0 : Int) < ((fr.length : Nat) : Int) + 1 := by omega
  rw [prog_succ]
  show fnM 1 1 true (m_takes_turn_frames (prog k)) [_] S = _
  refine fnM_same (env := [some (.d (fx k_NEXT (dk (t :: r) :: fr) s o))]) rfl ?_
  cases t <;> (simp only [Tc.enc] at e; simp (decide := true) [m_takes_turn_frames, envOf, fx, dk, blkE, Tc.encs, Tc.enc, cutL_1, e, hp, Cf.tt])
theorem ds_nil (k : Nat) : prog (k + 1) .f_deed_state [.d (blkE []), .d (.tup fr), .d (stE s), .d (tolE o)] S = some (.ok (.d (fx k_NEXT fr s o)), S) := by
  rw [prog_succ]
  show fnM 4 6 true (m_deed_state (prog k)) [_, _, _, _] S = _
  refine fnM_same (env := [some (.d (blkE [])), some (.d (.tup fr)), some (.d (stE s)), some (.d (tolE o)), none, none]) rfl ?_
  simp (decide := true) [m_deed_state, envOf, blkE, Tc.encs, fx]
/-- the frame of a deed -/
def dfr : Tc → D
  | .set i e => .tup [.str "set", .int i] | .tell e => .tup [.str "tell"] | .ite e a b => (Tc.ite e a b).enc | .whl e a => (Tc.whl e a).enc
def dex : Tc → Ec
  | .set i e => e | .tell e => e | .ite e a b => e | .whl e a => e
theorem ds_ok (k : Nat) (t : Tc) (r : List Tc) (hl : fr.length ≤ 100000) : prog (k + 1) .f_deed_state [.d (blkE (t :: r)), .d (.tup fr), .d (stE s), .d (tolE o)] S = some (.ok (.d (fx (evN (dex t)) (dfr t :: dk r :: fr) s o)), S) := by
  have hne : ¬ (((Tc.encs r).length : Nat) : Int) + 1 = 0 := by omega
  have p1 := fr_plus (dk r) fr S (by omega)
  have p2 := fr_plus (dfr t) (dk r :: fr) S (by rw [List.length_cons]; omega)
  rw [prog_succ]
  show fnM 4 6 true (m_deed_state (prog k)) [_, _, _, _] S = _
  refine fnM_same (env := [some (.d (blkE (t :: r))), some (.d (.tup fr)), some (.d (stE s)), some (.d (tolE o)), some (.d t.enc), some (.d (.tup (dk r :: fr)))]) rfl ?_
  simp only [dk, blkE] at p1
  cases t <;> (simp only [dfr, dk, Tc.enc, blkE] at p2; simp (decide := true) [m_deed_state, envOf, blkE, Tc.encs, Tc.enc, fx, hne, p1, p2, dex, dfr, dk])
theorem gs_set (k : Nat) (hs : okS s) {i v : Int} {e : Ec} (h0 : 0 ≤ i) (h1 : i < 4) : prog (k + 2) .f_give_state [.d (.int v), .d (.tup (dfr (.set i e) :: fr)), .d (stE s), .d (tolE o)] S = some (.ok (.d (fx k_NEXT fr (s.set i.toNat v) o)), S) := by
  have v1 := with_ok k (v := v) hs h0 h1 S
  rw [show k + 2 = k + 1 + 1 from rfl, prog_succ]
  show fnM 4 7 true (m_give_state (prog (k + 1))) [_, _, _, _] S = _
  generalize prog (k + 1) = c at v1
  refine fnM_same (env := [some (.d (.int v)), some (.d (.tup (dfr (.set i e) :: fr))), some (.d (stE s)), some (.d (tolE o)), some (.d (dfr (.set i e))), some (.d (.tup fr)), none]) rfl ?_
  simp (decide := true) [m_give_state, envOf, fx, dfr, v1]
theorem gs_tell (k : Nat) {v : Int} {e : Ec} (ho : o.length ≤ 1000) : prog (k + 1) .f_give_state [.d (.int v), .d (.tup (dfr (.tell e) :: fr)), .d (stE s), .d (tolE o)] S = some (.ok (.d (fx k_NEXT fr s (o ++ [v]))), S) := by
  have v1 := oPlus_tol o v S ho
  rw [prog_succ]
  show fnM 4 7 true (m_give_state (prog k)) [_, _, _, _] S = _
  refine fnM_same (env := [some (.d (.int v)), some (.d (.tup (dfr (.tell e) :: fr))), some (.d (stE s)), some (.d (tolE o)), some (.d (dfr (.tell e))), some (.d (.tup fr)), none]) rfl ?_
  simp (decide := true) [m_give_state, envOf, fx, dfr, v1]
theorem gs_ite (k : Nat) {v : Int} {e : Ec} {a b : List Tc} (hl : fr.length ≤ 100000) : prog (k + 1) .f_give_state [.d (.int v), .d (.tup (dfr (.ite e a b) :: fr)), .d (stE s), .d (tolE o)] S = some (.ok (.d (fx k_NEXT (dk (if v = 0 then b else a) :: fr) s o)), S) := by
  have p1 := fr_plus (dk a) fr S (by omega)
  have p2 := fr_plus (dk b) fr S (by omega)
  rw [prog_succ]
  show fnM 4 7 true (m_give_state (prog k)) [_, _, _, _] S = _
  refine fnM_same (env := [some (.d (.int v)), some (.d (.tup (dfr (.ite e a b) :: fr))), some (.d (stE s)), some (.d (tolE o)), some (.d (dfr (.ite e a b))), some (.d (.tup fr)), none]) rfl ?_
  simp only [dk, blkE] at p1 p2
  by_cases z : v = 0
  · simp (decide := true) [m_give_state, envOf, fx, dfr, Tc.enc, z, p1, p2, dk, blkE]
  · simp (decide := true) [m_give_state, envOf, fx, dfr, Tc.enc, z, p1, p2, dk, blkE]
theorem gs_whl (k : Nat) {v : Int} {e : Ec} {a : List Tc} (hl : fr.length ≤ 100000) : prog (k + 1) .f_give_state [.d (.int v), .d (.tup (dfr (.whl e a) :: fr)), .d (stE s), .d (tolE o)] S = some (.ok (.d (fx k_NEXT (if v = 0 then fr else dk a :: dk [.whl e a] :: fr) s o)), S) := by
  have p1 : oPlus (.d (.tup [dk a, dk [.whl e a]])) (.d (.tup fr)) S = some (.ok (.d (.tup (dk a :: dk [.whl e a] :: fr))), S) := by
    rw [oPlus_tup _ _ _ (sl (by simp; omega))]; rfl
  have p2 : oPlus (.d (.tup [])) (.d (.tup fr)) S = some (.ok (.d (.tup fr)), S) := by
    rw [oPlus_tup _ _ _ (sl (by simp; omega))]; rfl
  rw [prog_succ]
  show fnM 4 7 true (m_give_state (prog k)) [_, _, _, _] S = _
  simp only [dk, blkE, Tc.encs, Tc.enc] at p1
  by_cases z : v = 0
  · refine fnM_same (env := [some (.d (.int v)), some (.d (.tup (dfr (.whl e a) :: fr))), some (.d (stE s)), some (.d (tolE o)), some (.d (dfr (.whl e a))), some (.d (.tup fr)), some (.d (.tup []))]) rfl ?_
    simp (decide := true) [m_give_state, envOf, fx, dfr, Tc.enc, z, p1, p2]
  · refine fnM_same (env := [some (.d (.int v)), some (.d (.tup (dfr (.whl e a) :: fr))), some (.d (stE s)), some (.d (tolE o)), some (.d (dfr (.whl e a))), some (.d (.tup fr)), some (.d (.tup [dk a, dk [.whl e a]]))]) rfl ?_
    simp (decide := true) [m_give_state, envOf, fx, dfr, Tc.enc, z, p1, p2, dk, blkE, Tc.encs]
end
/-- what the loop comes to -/
def FrEnd (k n : Nat) (x : Cf) (bs : List (List Tc)) : Prop := ∀ (e0 e1 : Option Val) (S : Store), ∃ y env', lastC n x = some y ∧
  sWhile (FrC k) (FrB k) [e0, e1, some (.d (.int (n : Nat))), some (.d (fx k_NEXT (bs.map dk) x.s x.o))] S = some (if y.b = [] then .nx else .rt (.d (.tup [.str "going", tolE y.o])), env', S) ∧ (y.b = [] → env'[3]? = some (some (.d (fx k_NEXT [] y.s y.o))))
theorem fr_strip (k n : Nat) (x : Cf) (bs : List (List Tc)) (h : FrEnd k n x bs) : FrEnd k n x ([] :: bs) := by
  intro e0 e1 S
  obtain ⟨y, env', h1, h2, h3⟩ := h e0 e1 S
  refine ⟨y, env', h1, ?_, h3⟩
  rw [List.map_cons]
  exact fr_it (by rw [done_n (k + 5)]; rfl) (takes_n0 (k + 5)) (step_nx (k + 4) (ds_nil (k + 4))) h2
theorem fr_end (k : Nat) : ∀ n x, Gd n x → ∀ bs : List (List Tc), bs.flatten = x.b → bs.length + 3 * (Tc.dcs x.b + 25 * n) ≤ 10000 → FrEnd k n x bs := by
  refine cf_ind ?_ ?_ ?_ ?_
  · intro n x h hb bs
    induction bs with
    | nil =>
      intro _ _ e0 e1 S
      refine ⟨x, [e0, e1, some (.d (.int (n : Nat))), some (.d (fx k_NEXT [] x.s x.o))], by unfold lastC; rw [T_end hb]; rfl, ?_, fun _ => rfl⟩
      rw [if_pos hb]
      refine sWhile_f ?_
      have hd := done_n (k + 5) (fr := []) (s := x.s) (o := x.o) (S := S)
      unfold FrC
      replace hd : prog (k + 6) .f_is_done [.d (fx k_NEXT [] x.s x.o)] S = some (.ok (.d (.bl true)), S) := hd
      generalize prog (k + 6) = c at hd ⊢
      simp [hd]
    | cons b bs ih =>
      intro hf hl
      rw [hb] at hf
      rw [List.flatten_cons, List.append_eq_nil_iff] at hf
      obtain ⟨rfl, hf⟩ := hf
      rw [List.length_cons] at hl
      exact fr_strip k n x bs (ih (by rw [hf, hb]) (by omega))
  · intro x h ht bs
    induction bs with
    | nil => intro hf; exact absurd hf.symm (tt_ne ht)
    | cons b bs ih =>
      intro hf hl
      rw [List.length_cons] at hl
      cases b with
      | nil => exact fr_strip k 0 x bs (ih (by rw [List.flatten_cons, List.nil_append] at hf; exact hf) (by omega))
      | cons t r =>
        intro e0 e1 S
        rw [List.flatten_cons, List.cons_append] at hf
        have hd := h.d
        rw [← hf] at hd
        have tk := takes_n (k + 5) (fr := bs.map dk) (s := x.s) (o := x.o) (S := S) (n := 300) (t := t) (r := r) (by
          have := okD.app (okK_hd (r := r ++ bs.flatten) hd).1 (a := [t]) (b := []) (m := 0) ⟨trivial, by simp [Tc.hts], by simp [Tc.exs], by simp, by simp [Tc.dcs]⟩
          exact ⟨by have w := hd.wf; rw [Tc.wfs, wfs_app] at w; rw [Tc.wfs]; exact ⟨w.1, w.2.1⟩, by have w := hd.ht; rw [Tc.hts, hts_app] at w; rw [Tc.hts]; omega, fun e he => hd.dp e (by rw [Tc.exs, exs_app]; rw [Tc.exs] at he; rcases List.mem_append.mp he with q | q; exact List.mem_append_left _ q; exact List.mem_append_right _ (List.mem_append_left _ q)), fun y hy => hd.dc y (by rcases List.mem_cons.mp hy with rfl | q; exact List.mem_cons_self; exact List.mem_cons_of_mem _ (List.mem_append_left _ q)), by have w := hd.bud; rw [Tc.dcs, dcs_app] at w; rw [Tc.dcs]; omega⟩)
        have htt : (Cf.mk (t :: r) x.s x.o).tt = true := by
          unfold Cf.tt at ht ⊢
          rw [← hf] at ht
          cases t <;> first | rfl | cases ht
        rw [htt] at tk
        refine ⟨x, [e0, e1, some (.d (.int (0 : Nat))), some (.d (fx k_NEXT (dk (t :: r) :: bs.map dk) x.s x.o))], by unfold lastC; rw [T_stop ht]; rfl, ?_, fun e => absurd e (tt_ne ht)⟩
        rw [if_neg (tt_ne ht), List.map_cons]
        have hd2 := done_n (k + 5) (fr := dk (t :: r) :: bs.map dk) (s := x.s) (o := x.o) (S := S)
        replace hd2 : prog (k + 6) .f_is_done [.d (fx k_NEXT (dk (t :: r) :: bs.map dk) x.s x.o)] S = some (.ok (.d (.bl false)), S) := hd2
        replace tk : prog (k + 6) .f_takes_turn_frames [.d (fx k_NEXT (dk (t :: r) :: bs.map dk) x.s x.o)] S = some (.ok (.d (.bl true)), S) := tk
        refine sWhile_r (S1 := S) ?_ ?_
        · unfold FrC; generalize prog (k + 6) = c at hd2 ⊢; simp [hd2]
        · unfold FrB; generalize prog (k + 6) = c at tk ⊢; simp only [fx] at tk ⊢; simp (decide := true) [b_run_frames_1, tk]
  · intro m x h ht g ih bs
    induction bs with
    | nil => intro hf; exact absurd hf.symm (tt_ne ht)
    | cons b bs ih2 =>
      intro hf hl
      rw [List.length_cons] at hl
      cases b with
      | nil => exact fr_strip k (m + 1) x bs (ih2 (by rw [List.flatten_cons, List.nil_append] at hf; exact hf) (by omega))
      | cons t r =>
        intro e0 e1 S
        rw [List.flatten_cons, List.cons_append] at hf
        have hd := h.d
        obtain ⟨_, hlt⟩ := nx_turn h ht
        rw [← hf] at hd
        have hdr : okD 300 (t :: r) := ⟨by have w := hd.wf; rw [Tc.wfs, wfs_app] at w; rw [Tc.wfs]; exact ⟨w.1, w.2.1⟩, by have w := hd.ht; rw [Tc.hts, hts_app] at w; rw [Tc.hts]; omega, fun e he => hd.dp e (by rw [Tc.exs, exs_app]; rw [Tc.exs] at he; rcases List.mem_append.mp he with q | q; exact List.mem_append_left _ q; exact List.mem_append_right _ (List.mem_append_left _ q)), fun y hy => hd.dc y (by rcases List.mem_cons.mp hy with rfl | q; exact List.mem_cons_self; exact List.mem_cons_of_mem _ (List.mem_append_left _ q)), by have w := hd.bud; rw [Tc.dcs, dcs_app] at w; rw [Tc.dcs]; omega⟩
        have tk := takes_n (k + 5) (fr := bs.map dk) (s := x.s) (o := x.o) (S := S) hdr
        have hlast : lastC (m + 1) x = lastC m x.nx := by unfold lastC; rw [T_turn h ht, last_cons (T_ne _ _)]
        have hx : x = ⟨t :: (r ++ bs.flatten), x.s, x.o⟩ := by cases x; simp only at hf; rw [← hf]
        cases t with
        | whl e a =>
          have hw := okD.e hd (e := e) rfl
          have hnx : x.nx = ⟨if e.val x.s = 0 then r ++ bs.flatten else a ++ .whl e a :: (r ++ bs.flatten), x.s, x.o⟩ := by rw [hx]; rfl
          by_cases z : e.val x.s = 0
          · rw [if_pos z] at hnx
            obtain ⟨y, env', h1, h2, h3⟩ := ih (r :: bs) (by rw [hnx]; rfl) (by rw [List.length_cons]; omega) e0 e1 S
            refine ⟨y, env', by rw [hlast]; exact h1, ?_, h3⟩
            rw [hnx, List.map_cons] at h2
            rw [List.map_cons]
            refine fr_tn (done_n (k + 5)) tk (step_nx (k + 4) (ds_ok (k + 4) _ _ (by rw [List.length_map]; omega))) ?_
            refine fr_eval k e0 e1 m S x.o h.s e _ _ hw.1 (by omega) (by simp; omega) ?_
            refine fr_it (done_2 (k + 5) sk_give (sh_int _ 0) (by omega)) (takes_2 (k + 5) sk_give (sh_int _ 0) (by omega)) (step_gv (k + 4) (gs_whl (k + 4) (by simp; omega))) ?_
            rw [if_pos z]
            exact h2
          · rw [if_neg z] at hnx
            obtain ⟨y, env', h1, h2, h3⟩ := ih (a :: [.whl e a] :: r :: bs) (by rw [hnx]; simp) (by simp only [List.length_cons]; omega) e0 e1 S
            refine ⟨y, env', by rw [hlast]; exact h1, ?_, h3⟩
            rw [hnx, List.map_cons, List.map_cons, List.map_cons] at h2
            rw [List.map_cons]
            refine fr_tn (done_n (k + 5)) tk (step_nx (k + 4) (ds_ok (k + 4) _ _ (by rw [List.length_map]; omega))) ?_
            refine fr_eval k e0 e1 m S x.o h.s e _ _ hw.1 (by omega) (by simp; omega) ?_
            refine fr_it (done_2 (k + 5) sk_give (sh_int _ 0) (by omega)) (takes_2 (k + 5) sk_give (sh_int _ 0) (by omega)) (step_gv (k + 4) (gs_whl (k + 4) (by simp; omega))) ?_
            rw [if_neg z]
            exact h2
        | _ => rw [hx] at ht; cases ht
  · intro n x h hb ht g ih bs
    induction bs with
    | nil => intro hf; exact absurd hf.symm hb
    | cons b bs ih2 =>
      intro hf hl
      rw [List.length_cons] at hl
      cases b with
      | nil => exact fr_strip k n x bs (ih2 (by rw [List.flatten_cons, List.nil_append] at hf; exact hf) (by omega))
      | cons t r =>
        intro e0 e1 S
        rw [List.flatten_cons, List.cons_append] at hf
        have hd := h.d
        have hbud := h.bud
        obtain ⟨_, hlt⟩ := nx_go h hb ht
        rw [← hf] at hd
        have hdr : okD 300 (t :: r) := ⟨by have w := hd.wf; rw [Tc.wfs, wfs_app] at w; rw [Tc.wfs]; exact ⟨w.1, w.2.1⟩, by have w := hd.ht; rw [Tc.hts, hts_app] at w; rw [Tc.hts]; omega, fun e he => hd.dp e (by rw [Tc.exs, exs_app]; rw [Tc.exs] at he; rcases List.mem_append.mp he with q | q; exact List.mem_append_left _ q; exact List.mem_append_right _ (List.mem_append_left _ q)), fun y hy => hd.dc y (by rcases List.mem_cons.mp hy with rfl | q; exact List.mem_cons_self; exact List.mem_cons_of_mem _ (List.mem_append_left _ q)), by have w := hd.bud; rw [Tc.dcs, dcs_app] at w; rw [Tc.dcs]; omega⟩
        have tk := takes_n (k + 5) (fr := bs.map dk) (s := x.s) (o := x.o) (S := S) hdr
        have hlast : lastC n x = lastC n x.nx := by unfold lastC; rw [T_go h hb ht, last_cons (T_ne _ _)]
        have hx : x = ⟨t :: (r ++ bs.flatten), x.s, x.o⟩ := by cases x; simp only at hf; rw [← hf]
        cases t with
        | whl e a => rw [hx] at ht; cases ht
        | set i e =>
          have hw := okD.e hd (e := e) rfl
          have w3 := hd.wf
          rw [Tc.wfs, Tc.wf] at w3
          have hnx : x.nx = ⟨r ++ bs.flatten, x.s.set i.toNat (e.val x.s), x.o⟩ := by rw [hx]; rfl
          obtain ⟨y, env', h1, h2, h3⟩ := ih (r :: bs) (by rw [hnx]; rfl) (by rw [List.length_cons]; omega) e0 e1 S
          refine ⟨y, env', by rw [hlast]; exact h1, ?_, h3⟩
          rw [hnx, List.map_cons] at h2
          rw [List.map_cons]
          refine fr_it (done_n (k + 5)) tk (step_nx (k + 4) (ds_ok (k + 4) _ _ (by rw [List.length_map]; omega))) ?_
          refine fr_eval k e0 e1 n S x.o h.s e _ _ hw.1 (by omega) (by simp; omega) ?_
          exact fr_it (done_2 (k + 5) sk_give (sh_int _ 0) (by omega)) (takes_2 (k + 5) sk_give (sh_int _ 0) (by omega)) (step_gv (k + 4) (gs_set (k + 3) h.s w3.1.1.1 w3.1.1.2)) h2
        | tell e =>
          have hw := okD.e hd (e := e) rfl
          have hnx : x.nx = ⟨r ++ bs.flatten, x.s, x.o ++ [e.val x.s]⟩ := by rw [hx]; rfl
          obtain ⟨y, env', h1, h2, h3⟩ := ih (r :: bs) (by rw [hnx]; rfl) (by rw [List.length_cons]; omega) e0 e1 S
          refine ⟨y, env', by rw [hlast]; exact h1, ?_, h3⟩
          rw [hnx, List.map_cons] at h2
          rw [List.map_cons]
          refine fr_it (done_n (k + 5)) tk (step_nx (k + 4) (ds_ok (k + 4) _ _ (by rw [List.length_map]; omega))) ?_
          refine fr_eval k e0 e1 n S x.o h.s e _ _ hw.1 (by omega) (by simp; omega) ?_
          exact fr_it (done_2 (k + 5) sk_give (sh_int _ 0) (by omega)) (takes_2 (k + 5) sk_give (sh_int _ 0) (by omega)) (step_gv (k + 4) (gs_tell (k + 4) (by omega))) h2
        | ite e p q =>
          have hw := okD.e hd (e := e) rfl
          have hnx : x.nx = ⟨(if e.val x.s = 0 then q else p) ++ (r ++ bs.flatten), x.s, x.o⟩ := by rw [hx]; rfl
          obtain ⟨y, env', h1, h2, h3⟩ := ih ((if e.val x.s = 0 then q else p) :: r :: bs) (by rw [hnx]; simp) (by simp only [List.length_cons]; omega) e0 e1 S
          refine ⟨y, env', by rw [hlast]; exact h1, ?_, h3⟩
          rw [hnx, List.map_cons, List.map_cons] at h2
          rw [List.map_cons]
          refine fr_it (done_n (k + 5)) tk (step_nx (k + 4) (ds_ok (k + 4) _ _ (by rw [List.length_map]; omega))) ?_
          refine fr_eval k e0 e1 n S x.o h.s e _ _ hw.1 (by omega) (by simp; omega) ?_
          exact fr_it (done_2 (k + 5) sk_give (sh_int _ 0) (by omega)) (takes_2 (k + 5) sk_give (sh_int _ 0) (by omega)) (step_gv (k + 4) (gs_ite (k + 4) (by simp; omega))) h2
theorem frames_ok (k : Nat) {n : Nat} {b : List Tc} {s : List Int} (h : Gd n ⟨b, s, []⟩) {y : Cf} (hy : lastC n ⟨b, s, []⟩ = some y) (S : Store) : prog (k + 7) .f_run_frames [.d (blkE b), .d (stE s), .d (.int (n : Nat))] S = some (.ok (.d (resE y)), S) := by
  have hb := h.bud
  simp only at hb
  obtain ⟨y', env', h1, h2, h3⟩ := fr_end k n _ h [b] (by simp) (by simp only [List.length_cons, List.length_nil] at *; omega) (some (.d (blkE b))) (some (.d (stE s))) S
  rw [hy] at h1
  cases h1
  have st : prog (k + 6) .f_start [.d (blkE b), .d (stE s)] S = some (.ok (.d (fx k_NEXT [dk b] s [])), S) := by
    rw [show k + 6 = k + 5 + 1 from rfl, prog_succ]
    show fnM 2 2 true (m_start (prog (k + 5))) [_, _] S = _
    refine fnM_same (env := [some (.d (blkE b)), some (.d (stE s))]) rfl ?_
    simp [m_start, envOf, fx, dk, tolE]
  rw [show k + 7 = k + 6 + 1 from rfl, prog_succ]
  show fnM 3 4 true (m_run_frames (prog (k + 6))) [_, _, _] S = _
  refine fnM_same (env := env') rfl ?_
  unfold m_run_frames
  refine sSeq_nx (env' := [some (.d (blkE b)), some (.d (stE s)), some (.d (.int (n : Nat))), some (.d (fx k_NEXT [dk b] s []))]) (S' := S) (by simp [envOf, st]) ?_
  unfold resE
  by_cases z : y.b = []
  · rw [if_pos z] at h2 ⊢
    have e3 := h3 z
    refine sSeq_nx h2 ?_
    simp only [fx] at e3
    simp [e3]
  · rw [if_neg z] at h2 ⊢
    exact sSeq_rt h2
end Y

set_option Elab.async false
set_option linter.all false
set_option maxRecDepth 100000
set_option maxHeartbeats 4000000
namespace Y
open PySem PySem.Spec L2
/-! ### equal to itself -/
theorem eqD_self {d : D} {n : Nat} (h : Sh d n) (hn : n ≤ 64) : eqD d d = some true := by
  obtain ⟨p, a, b, c⟩ := h
  unfold eqD
  rw [a]
  dsimp only
  have s1 : SeqAt.shaped p = true := by
    unfold SeqAt.shaped
    rw [b]
    simp; omega
  rw [s1, if_pos (by rfl), PySem.SeqAt.eqv_refl p b]
theorem oEq_self (neg : Bool) {d : D} {n : Nat} (h : Sh d n) (hn : n ≤ 64) (S : Store) : oEq neg (.d d) (.d d) S = some (.ok (.d (.bl (true != neg))), S) := oEq_of neg (eqD_self h hn) S
theorem shs_ints : ∀ (l : List Int) (n : Nat), Shs (l.map D.int) n
  | [], n => shs_nil n
  | i :: r, n => shs_cons (sh_int i n) (shs_ints r n)
theorem sh_st (s : List Int) : Sh (stE s) 1 := sh_tup (shs_ints s 0) (by omega)
theorem sh_tol (s : List Int) : Sh (tolE s) 1 := sh_tup (shs_ints s 0) (by omega)
theorem sh_blk {n : Nat} {b : List Tc} (h : okD n b) : Sh (blkE b) 11 := sh_tup (sh_tcs 2 b h.dp) (by have := h.ht; omega)
theorem sh_cf {n : Nat} {x : Cf} (h : Gd n x) : Sh x.enc 12 := sh_tup (n := 11) (shs_cons (sh_blk h.d) (shs_cons (sh_mono (sh_st _) (by omega)) (shs_cons (sh_mono (sh_tol _) (by omega)) (shs_nil _)))) (by omega)
/-! ### law_same of itself -/
def Pl : Nat → D → Prop
  | _, .non => True
  | _, .bl _ => True
  | _, .int _ => True
  | _, .str z => PyData.strOk z = true
  | n + 1, .tup ds => ds.length ≤ 1000000 ∧ ∀ d ∈ ds, Pl n d
  | n + 1, .lst ds => ds.length ≤ 1000000 ∧ ∀ d ∈ ds, Pl n d
  | _, _ => False
@[simp] theorem ty_str (z : Str) (S : Store) : tyD (.d (.str z)) S = some "str" := rfl
@[simp] theorem ty_bl (b : Bool) (S : Store) : tyD (.d (.bl b)) S = some "bool" := rfl
@[simp] theorem ty_non (S : Store) : tyD (.d .non) S = some "NoneType" := rfl
@[simp] theorem isa_st : isaT "str" "tuple" = some false := by decide
@[simp] theorem isa_sl : isaT "str" "list" = some false := by decide
@[simp] theorem isa_sb : isaT "str" "bool" = some false := by decide
@[simp] theorem isa_si : isaT "str" "int" = some false := by decide
@[simp] theorem isa_ss : isaT "str" "str" = some true := by decide
@[simp] theorem isa_bt : isaT "bool" "tuple" = some false := by decide
@[simp] theorem isa_bl : isaT "bool" "list" = some false := by decide
@[simp] theorem isa_bb : isaT "bool" "bool" = some true := by decide
@[simp] theorem isa_nt : isaT "NoneType" "tuple" = some false := by decide
@[simp] theorem isa_nl : isaT "NoneType" "list" = some false := by decide
@[simp] theorem isa_is : isaT "int" "str" = some false := by decide
@[simp] theorem isN_str (z : Str) : isNon (.d (.str z)) = some false := rfl
@[simp] theorem isN_bl (z : Bool) : isNon (.d (.bl z)) = some false := rfl
theorem same_a2 (ds : List D) (S : Store) (g : FS) (r : SO) (h : g [some (.d (.tup ds)), some (.d (.tup ds)), none] S = r) : sIf (gOr (fT (fIsa "tuple" (fVar 1))) (fT (fIsa "list" (fVar 1)))) g sNil [some (.d (.tup ds)), some (.d (.tup ds)), none] S = r := by
  simp [h]
theorem same_b2 (ds : List D) (S : Store) (g : FS) (r : SO) (h : g [some (.d (.tup ds)), some (.d (.tup ds)), none] S = r) : sSeq (sIf (gOr (fT (fBin (oEq true) (fIsa "tuple" (fVar 1)) (fIsa "tuple" (fVar 0)))) (gOr (fT (fBin (oEq true) (fIsa "list" (fVar 1)) (fIsa "list" (fVar 0)))) (fT (fBin (oEq true) (fCall oLen (fCons (fVar 0) (fNil))) (fCall oLen (fCons (fVar 1) (fNil))))))) (sSeq (sRet (fC (.bl false))) (sNil)) (sNil)) g [some (.d (.tup ds)), some (.d (.tup ds)), none] S = r := by
  simp [h]
theorem same_lc2 (c : Fnm → Fn) (X : D) (ds : List D) (hX : X = .tup ds ∨ X = .lst ds) (hc : ∀ d ∈ ds, ∀ (S : Store), c .f_law_same [.d d, .d d] S = some (.ok (.d (.bl true)), S)) (S : Store) (h : ds.length ≤ 1000000) :
    fLc (fCall rng1 (fCons (fCall oLen (fCons (fVar 1) (fNil))) (fNil))) (gN 2) (gNot (fT (fCall (ck 2 (c .f_law_same)) (fCons (fBin oIx (fVar 0) (fVar 2)) (fCons (fBin oIx (fVar 1) (fVar 2)) (fNil)))))) (fVar 2) [2] [some (.d X), some (.d X), none] S = some (.ok [], S) := by
  have hr := rng1_nat ds.length S h
  have hlen : oLen [.d X] S = some (.ok (.d (.int (ds.length : Nat))), S) := by rcases hX with rfl | rfl; exact oLen_tup ds S; exact oLen_lst ds S
  have hix : ∀ i : Nat, oIx (.d X) (.d (.int (i : Nat))) S = (atI (ds.map Val.d) (i : Nat)).map fun x => (.ok x, S) := fun i => by rcases hX with rfl | rfl <;> rfl
  have hr2 : fCall rng1 (fCons (fCall oLen (fCons (fVar 1) fNil)) fNil) [some (.d X), some (.d X), none] S = some (.ok (((List.range ds.length).map fun (i : Nat) => D.int i).map Val.d), S) := by
    have e : fCons (fCall oLen (fCons (fVar 1) fNil)) fNil [some (.d X), some (.d X), none] S = some (.ok [.d (.int (ds.length : Nat))], S) := by simp [hlen]
    rw [fCall_def, bnd_def, e]
    exact hr
  rw [fLc_pure (fun (i : Nat) => D.int i) (fun (i : Nat) => D.int i) (fun _ => false) (List.range ds.length) hr2 (by rw [List.length_range]; exact sl (by omega)) (fun i hi => ⟨_, rfl, by
    have hi2 := List.mem_range.mp hi
    have hm : c .f_law_same [.d ds[i], .d ds[i]] S = some (.ok (.d (.bl true)), S) := hc _ (List.getElem_mem hi2) S
    have e1 : oIx (.d X) (.d (.int (i : Nat))) S = some (.ok (.d ds[i]), S) := by rw [hix, atI_nat]; simp [List.getElem?_eq_getElem hi2]
    simp [e1, hm], fun h => by cases h⟩)]
  rw [List.filter_eq_nil_iff.mpr (by intro a _; decide)]
  rfl
theorem same_pl : ∀ (n k : Nat) (x : D) (S : Store), Pl n x → prog (k + n + 1) .f_law_same [.d x, .d x] S = some (.ok (.d (.bl true)), S) := by
  have base : ∀ (k : Nat) (x : D) (S : Store), (x = .non ∨ (∃ b, x = .bl b) ∨ (∃ i, x = .int i) ∨ ∃ z, x = .str z ∧ PyData.strOk z = true) → prog (k + 1) .f_law_same [.d x, .d x] S = some (.ok (.d (.bl true)), S) := by
    intro k x S h
    rcases h with rfl | ⟨b, rfl⟩ | ⟨i, rfl⟩ | ⟨z, rfl, hz⟩
    · rw [prog_succ]
      show fnM 2 3 true (m__law_same (prog k)) [_, _] S = _
      refine fnM_same (env := [some (.d .non), some (.d .non), none]) rfl ?_
      simp (decide := true) [m__law_same, envOf]
    · rw [prog_succ]
      show fnM 2 3 true (m__law_same (prog k)) [_, _] S = _
      refine fnM_same (env := [some (.d (.bl b)), some (.d (.bl b)), none]) rfl ?_
      simp (decide := true) [m__law_same, envOf]
    · exact same_int k i S
    · rw [prog_succ]
      show fnM 2 3 true (m__law_same (prog k)) [_, _] S = _
      refine fnM_same (env := [some (.d (.str z)), some (.d (.str z)), none]) rfl ?_
      simp (decide := true) [m__law_same, envOf, hz]
  intro n
  induction n with
  | zero =>
    intro k x S h
    cases x with
    | non => exact base k _ S (.inl rfl)
    | bl b => exact base k _ S (.inr (.inl ⟨b, rfl⟩))
    | int i => exact base k _ S (.inr (.inr (.inl ⟨i, rfl⟩)))
    | str z => exact base k _ S (.inr (.inr (.inr ⟨z, rfl, h⟩)))
    | _ => exact absurd h (by simp [Pl])
  | succ n ih =>
    intro k x S h
    cases x with
    | non => exact base (k + (n + 1)) _ S (.inl rfl)
    | bl b => exact base (k + (n + 1)) _ S (.inr (.inl ⟨b, rfl⟩))
    | int i => exact base (k + (n + 1)) _ S (.inr (.inr (.inl ⟨i, rfl⟩)))
    | str z => exact base (k + (n + 1)) _ S (.inr (.inr (.inr ⟨z, rfl, h⟩)))
    | tup ds =>
      obtain ⟨h1, h2⟩ : ds.length ≤ 1000000 ∧ ∀ d ∈ ds, Pl n d := h
      rw [prog_succ]
      generalize hc : prog (k + (n + 1)) = c
      show fnM 2 3 true (m__law_same c) [_, _] S = _
      refine fnM_same (env := [some (.d (.tup ds)), some (.d (.tup ds)), none]) rfl ?_
      unfold m__law_same
      exact sSeq_rt (same_a2 _ S _ _ (same_b2 _ S _ _ (same_c _ S _ (same_lc2 c (.tup ds) ds (.inl rfl) (fun d hd S => by rw [← hc]; exact ih k d S (h2 d hd)) S h1))))
    | lst ds =>
      obtain ⟨h1, h2⟩ : ds.length ≤ 1000000 ∧ ∀ d ∈ ds, Pl n d := h
      rw [prog_succ]
      generalize hc : prog (k + (n + 1)) = c
      show fnM 2 3 true (m__law_same c) [_, _] S = _
      refine fnM_same (env := [some (.d (.lst ds)), some (.d (.lst ds)), none]) rfl ?_
      unfold m__law_same
      exact sSeq_rt (same_a _ S _ _ (same_b _ S _ _ (same_c _ S _ (same_lc2 c (.lst ds) ds (.inr rfl) (fun d hd S => by rw [← hc]; exact ih k d S (h2 d hd)) S h1))))
    | _ => exact absurd h (by simp [Pl])
theorem pl_mono : ∀ {n m : Nat} {x : D}, Pl n x → n ≤ m → Pl m x := by
  intro n
  induction n with
  | zero =>
    intro m x h l
    cases x with
    | tup ds => exact absurd h (by simp [Pl])
    | lst ds => exact absurd h (by simp [Pl])
    | str z => cases m <;> exact h
    | non => cases m <;> exact h
    | bl b => cases m <;> exact h
    | int b => cases m <;> exact h
    | _ => exact absurd h (by simp [Pl])
  | succ n ih =>
    intro m x h l
    obtain ⟨m, rfl⟩ : ∃ j, m = j + 1 := ⟨m - 1, by omega⟩
    cases x with
    | tup ds => exact ⟨h.1, fun d hd => ih (h.2 d hd) (by omega)⟩
    | lst ds => exact ⟨h.1, fun d hd => ih (h.2 d hd) (by omega)⟩
    | _ => exact h
theorem pl_int (n : Nat) (i : Int) : Pl n (.int i) := by cases n <;> trivial
theorem pl_str {z : Str} (h : PyData.strOk z = true) (n : Nat) : Pl n (.str z) := by cases n <;> exact h
theorem pl_ec : ∀ e : Ec, Pl (e.dp + 1) e.enc
  | .num i => ⟨by simp, by simp [Ec.dp]; exact ⟨pl_str sk_number 0, pl_int 0 i⟩⟩
  | .nam i => ⟨by simp, by simp [Ec.dp]; exact ⟨pl_str sk_name 0, pl_int 0 i⟩⟩
  | .un a => ⟨by simp, by simp [Ec.dp]; exact ⟨pl_str sk_not _, pl_ec a⟩⟩
  | .bin w a b => ⟨by simp, by simp [Ec.dp]; exact ⟨pl_str w.ok _, pl_mono (pl_ec a) (by omega), pl_mono (pl_ec b) (by omega)⟩⟩
mutual
theorem pl_tc : ∀ t : Tc, (∀ e ∈ t.ex, Ec.dp e ≤ 2) → t.dc ≤ 1000000 → Pl (2 * t.ht + 4) t.enc
  | .set n e, h, _ => by
    rw [Tc.enc]
    exact ⟨by simp, by simp; exact ⟨pl_str sk_set _, pl_int _ _, pl_mono (pl_ec e) (by have := h e (by simp [Tc.ex]); omega)⟩⟩
  | .tell e, h, _ => by
    rw [Tc.enc]
    exact ⟨by simp, by simp; exact ⟨pl_str sk_tell _, pl_mono (pl_ec e) (by have := h e (by simp [Tc.ex]); omega)⟩⟩
  | .ite e a b, h, hd => by
    rw [Tc.dc] at hd
    have ha := pl_tcs a (fun x hx => h x (by simp [Tc.ex, hx])) (by omega)
    have hb := pl_tcs b (fun x hx => h x (by simp [Tc.ex, hx])) (by omega)
    have he := h e (by simp [Tc.ex])
    have la := len_dcs a
    have lb := len_dcs b
    have hh : (Tc.ite e a b).ht = 1 + max (Tc.hts a) (Tc.hts b) := by rw [Tc.ht]
    rw [Tc.enc]
    refine ⟨by simp, ?_⟩
    have q1 : Pl (2 * (Tc.ite e a b).ht + 3) (.tup (Tc.encs a)) := pl_mono (n := 2 * Tc.hts a + 5) ⟨by rw [encs_map, List.length_map]; omega, ha⟩ (by omega)
    have q2 : Pl (2 * (Tc.ite e a b).ht + 3) (.tup (Tc.encs b)) := pl_mono (n := 2 * Tc.hts b + 5) ⟨by rw [encs_map, List.length_map]; omega, hb⟩ (by omega)
    simp
    exact ⟨pl_str sk_if _, pl_mono (pl_ec e) (by omega), q1, q2⟩
  | .whl e a, h, hd => by
    rw [Tc.dc] at hd
    have ha := pl_tcs a (fun x hx => h x (by simp [Tc.ex, hx])) (by omega)
    have he := h e (by simp [Tc.ex])
    have la := len_dcs a
    have hh : (Tc.whl e a).ht = 1 + Tc.hts a := by rw [Tc.ht]
    rw [Tc.enc]
    refine ⟨by simp, ?_⟩
    have q1 : Pl (2 * (Tc.whl e a).ht + 3) (.tup (Tc.encs a)) := pl_mono (n := 2 * Tc.hts a + 5) ⟨by rw [encs_map, List.length_map]; omega, ha⟩ (by omega)
    simp
    exact ⟨pl_str sk_while _, pl_mono (pl_ec e) (by omega), q1⟩
theorem pl_tcs : ∀ ts : List Tc, (∀ e ∈ Tc.exs ts, Ec.dp e ≤ 2) → Tc.dcs ts ≤ 1000000 → ∀ d ∈ Tc.encs ts, Pl (2 * Tc.hts ts + 4) d
  | [], _, _ => by rw [Tc.encs]; intro d hd; cases hd
  | t :: r, h, hd => by
    rw [Tc.dcs] at hd
    have h1 := pl_tc t (fun x hx => h x (by simp [Tc.exs, hx])) (by omega)
    have h2 := pl_tcs r (fun x hx => h x (by simp [Tc.exs, hx])) (by omega)
    have hh : Tc.hts (t :: r) = max t.ht (Tc.hts r) := by rw [Tc.hts]
    rw [Tc.encs]
    intro d hd
    rcases List.mem_cons.mp hd with rfl | hd
    · exact pl_mono h1 (by omega)
    · exact pl_mono (h2 d hd) (by omega)
end
theorem pl_ints {l : List Int} (h : l.length ≤ 1000000) : Pl 1 (.tup (l.map D.int)) := ⟨by simpa using h, fun d hd => by
  obtain ⟨i, _, rfl⟩ := List.mem_map.mp hd
  exact pl_int 0 i⟩
theorem pl_blk {n : Nat} {b : List Tc} (h : okD n b) (hn : n ≤ 1000000) : Pl 11 (blkE b) := by
  have hb := h.bud
  have hl := len_dcs b
  have hh := h.ht
  exact pl_mono (n := 2 * Tc.hts b + 5) ⟨by rw [encs_map, List.length_map]; omega, pl_tcs b h.dp (by omega)⟩ (by omega)
theorem pl_cf {n : Nat} {x : Cf} (h : Gd n x) : Pl 12 x.enc := by
  have hb := h.bud
  refine ⟨by simp, ?_⟩
  simp
  exact ⟨pl_blk h.d (by omega), pl_mono (pl_ints (by have := h.s.len; omega)) (by omega), pl_mono (pl_ints (by omega)) (by omega)⟩
end Y

set_option Elab.async false
set_option linter.all false
set_option maxRecDepth 100000
set_option maxHeartbeats 4000000
namespace Y
open PySem PySem.Spec L2
/-! ### the checks say yes -/
@[simp] theorem fNot_def (fa : FE) (env : Env) (S : Store) : fNot fa env S = bnd (fT fa env) (fun k => ret (.d (.bl (!k)))) S := rfl
@[simp] theorem fChain_def (o o' : Val → Val → M Val) (fa fb fc : FE) (env : Env) (S : Store) : fChain o o' fa fb fc env S = bnd (fa env) (fun x => bnd (fb env) fun y => bnd (bnd (o x y) asB) fun k => if k = true then bnd (fc env) fun z => o' y z else ret (.d (.bl false))) S := rfl
theorem whole_ok (k : Nat) (i : Int) (S : Store) : prog (k + 1) .f_is_whole [.d (.int i)] S = some (.ok (.d (.bl true)), S) := by
  rw [prog_succ]
  show fnM 1 1 true (m_is_whole (prog k)) [_] S = _
  refine fnM_same (env := [some (.d (.int i))]) rfl ?_
  simp [m_is_whole, envOf]
theorem from_ok (k : Nat) {v lo hi : Int} (h : lo ≤ v) (h2 : v ≤ hi) (S : Store) : prog (k + 2) .f_is_from [.d (.int v), .d (.int lo), .d (.int hi)] S = some (.ok (.d (.bl true)), S) := by
  have w := whole_ok k v S
  rw [show k + 2 = k + 1 + 1 from rfl, prog_succ]
  show fnM 3 3 true (m_is_from (prog (k + 1))) [_, _, _] S = _
  generalize prog (k + 1) = c at w
  refine fnM_same (env := [some (.d (.int v)), some (.d (.int lo)), some (.d (.int hi))]) rfl ?_
  simp [m_is_from, envOf, w, h, h2]
theorem mapM_true {α : Type} (l : List α) : ((l.map fun _ => D.bl true).map Val.d).mapM asBl = some (l.map fun _ => true) := by
  induction l with
  | nil => rfl
  | cons x r ih => rw [List.map_cons, List.map_cons, List.mapM_cons, ih]; rfl
theorem oAll_true {α : Type} (l : List α) (S : Store) : oAll [.d (.lst (l.map fun _ => D.bl true))] S = some (.ok (.d (.bl true)), S) := by
  refine (c1_ok (a := l.map fun _ => true) (mapM_true l)).trans ?_
  have : (l.map fun _ => true).all id = true := by simp
  rw [this]; rfl
theorem all_lc {α : Type} {fi : FA} {gt : Val → Env → Option Env} {f : FE} {vs : List Nat} {env : Env} {S : Store} (g : α → D) (xs : List α) (hi : fi env S = some (.ok ((xs.map g).map Val.d), S)) (hl : xs.length ≤ sizeLine)
    (H : ∀ x ∈ xs, ∃ env1, gt (.d (g x)) (wipeE env vs) = some env1 ∧ f env1 S = some (.ok (.d (.bl true)), S)) :
    fCall oAll (fCons (fFrz (fLc fi gt gYes f vs)) fNil) env S = some (.ok (.d (.bl true)), S) := by
  rw [fCall_def, bnd_def, fCons_def, bnd_def, fFrz_def, bnd_def, fLc_all g (fun _ => D.bl true) xs hi hl H]
  dsimp only
  rw [frz_map]
  exact oAll_true xs S
theorem isstore_ok (k : Nat) {s : List Int} (h : okS s) (S : Store) : prog (k + 3) .f_is_store [.d (stE s)] S = some (.ok (.d (.bl true)), S) := by
  have w := fun {v : Int} (hv : Rg v) => from_ok k (lo := 0) (hi := 999) hv.1 (by have := hv.2; omega) S
  rw [show k + 3 = k + 2 + 1 from rfl, prog_succ]
  show fnM 1 2 true (m_is_store (prog (k + 2))) [_] S = _
  generalize prog (k + 2) = c at w
  refine fnM_same (env := [some (.d (stE s)), none]) rfl ?_
  have e := all_lc (fi := fSeq (fVar 0)) (gt := gN 1) (f := fCall (ck 3 (c .f_is_from)) (fCons (fVar 1) (fCons (fC (.int 0)) (fCons (fBin oSub (fC k_SIZE) (fC (.int 1))) (fNil))))) (vs := [1]) (env := [some (.d (stE s)), none]) (S := S) D.int s (by simp [stE]) (sl (by rw [h.len]; decide)) (fun v hv => ⟨_, rfl, by simp (decide := true) [k_SIZE, w (h.rg v hv)]⟩)
  unfold m_is_store
  generalize fCall oAll (fCons (fFrz (fLc (fSeq (fVar 0)) (gN 1) (gYes) (fCall (ck 3 (c .f_is_from)) (fCons (fVar 1) (fCons (fC (.int 0)) (fCons (fBin oSub (fC k_SIZE) (fC (.int 1))) (fNil))))) [1])) (fNil)) = F at e ⊢
  have hl := h.len
  simp (decide := true) [envOf, k_NAMES, stE, hl, e] at e ⊢
theorem istold_ok (k : Nat) {v : Int} (h : Rg v) (S : Store) : prog (k + 4) .f_is_told [.d (.int v)] S = some (.ok (.d (.bl true)), S) := by
  have w := isstore_ok k (s := [v, 0, 0, 0]) ⟨rfl, fun x hx => by simp at hx; rcases hx with rfl | rfl | rfl | rfl <;> first | exact h | exact ⟨by decide, by decide⟩⟩ S
  rw [show k + 4 = k + 3 + 1 from rfl, prog_succ]
  show fnM 1 1 true (m_is_told (prog (k + 3))) [_] S = _
  generalize prog (k + 3) = c at w
  refine fnM_same (env := [some (.d (.int v))]) rfl ?_
  simp only [stE, List.map_cons, List.map_nil] at w
  simp [m_is_told, envOf, w]
theorem tagged_ok (k : Nat) (z kd : Str) (r : List D) (n : Int) (hz : PyData.strOk z = true) (hk : PyData.strOk kd = true) (S : Store) : prog (k + 1) .f_is_tagged [.d (.tup (.str z :: r)), .d (.str kd), .d (.int n)] S = some (.ok (.d (.bl (decide (((r.length : Nat) : Int) + 1 = n) && decide (z = kd)))), S) := by
  rw [prog_succ]
  show fnM 3 3 true (m_is_tagged (prog k)) [_, _, _] S = _
  refine fnM_same (env := [some (.d (.tup (.str z :: r))), some (.d (.str kd)), some (.d (.int n))]) rfl ?_
  by_cases h : ((r.length : Nat) : Int) + 1 = n <;> simp [m_is_tagged, envOf, h, hz, hk]
theorem shape_ok : ∀ (e : Ec) (k : Nat) (deep : Int) (S : Store), e.wf → (e.dp : Int) < deep → e.dp + 3 ≤ k → prog k .f_has_shape [.d e.enc, .d (.int 4), .d (.int deep)] S = some (.ok (.d (.bl true)), S)
  | .num i, k + 3, deep, S, h, hd, _ => by
    have w := from_ok k (v := i) (lo := 0) (hi := 999) (by have := h.1; omega) (by have := h.2; omega) S
    have hd0 : ¬ deep = 0 := by simp [Ec.dp] at hd; omega
    rw [show k + 3 = k + 2 + 1 from rfl, prog_succ]
    show fnM 3 3 true (m_has_shape (prog (k + 2))) [_, _, _] S = _
    generalize prog (k + 2) = c at w
    refine fnM_same (env := [some (.d (Ec.num i).enc), some (.d (.int 4)), some (.d (.int deep))]) rfl ?_
    simp (decide := true) [m_has_shape, envOf, Ec.enc, hd0, k_SIZE, w]
  | .nam i, k + 3, deep, S, h, hd, _ => by
    have w := from_ok k (v := i) (lo := 0) (hi := 3) (by have := h.1; omega) (by have := h.2; omega) S
    have hd0 : ¬ deep = 0 := by simp [Ec.dp] at hd; omega
    rw [show k + 3 = k + 2 + 1 from rfl, prog_succ]
    show fnM 3 3 true (m_has_shape (prog (k + 2))) [_, _, _] S = _
    generalize prog (k + 2) = c at w
    refine fnM_same (env := [some (.d (Ec.nam i).enc), some (.d (.int 4)), some (.d (.int deep))]) rfl ?_
    simp (decide := true) [m_has_shape, envOf, Ec.enc, hd0, k_SIZE, w]
  | .un a, k + 1, deep, S, h, hd, hk => by
    simp only [Ec.dp] at hd hk
    have w := shape_ok a k (deep - 1) S h (by omega) (by omega)
    have hd0 : ¬ deep = 0 := by omega
    rw [prog_succ]
    show fnM 3 3 true (m_has_shape (prog k)) [_, _, _] S = _
    generalize prog k = c at w
    refine fnM_same (env := [some (.d (Ec.un a).enc), some (.d (.int 4)), some (.d (.int deep))]) rfl ?_
    simp (decide := true) [m_has_shape, envOf, Ec.enc, hd0, w]
  | .bin w a b, k + 1, deep, S, h, hd, hk => by
    simp only [Ec.dp] at hd hk
    have w1 := shape_ok a k (deep - 1) S h.1 (by omega) (by omega)
    have w2 := shape_ok b k (deep - 1) S h.2 (by omega) (by omega)
    have hd0 : ¬ deep = 0 := by omega
    rw [prog_succ]
    show fnM 3 3 true (m_has_shape (prog k)) [_, _, _] S = _
    generalize prog k = c at w1 w2
    refine fnM_same (env := [some (.d (Ec.bin w a b).enc), some (.d (.int 4)), some (.d (.int deep))]) rfl ?_
    cases w <;> simp (decide := true) [m_has_shape, envOf, Ec.enc, W.s, hd0, k_PAIRS, w1, w2]
theorem isexpr_ok (k : Nat) {e : Ec} (h : e.wf) (hd : e.dp ≤ 2) (S : Store) : prog (k + 6) .f_is_expression [.d e.enc] S = some (.ok (.d (.bl true)), S) := by
  have w := shape_ok e (k + 5) 60 S h (by omega) (by omega)
  rw [show k + 6 = k + 5 + 1 from rfl, prog_succ]
  show fnM 1 1 true (m_is_expression (prog (k + 5))) [_] S = _
  generalize prog (k + 5) = c at w
  refine fnM_same (env := [some (.d e.enc)]) rfl ?_
  simp [m_is_expression, envOf, k_NAMES, k_DEEPEST_expressions, w]
theorem okD.mem {n : Nat} {b : List Tc} {t : Tc} (h : okD n b) (m : t ∈ b) : okD n [t] := by
  obtain ⟨p, q, rfl⟩ := List.append_of_mem m
  have h1 := wf_mem h.wf m
  have h2 := h.ht
  have h3 := h.bud
  rw [hts_app, Tc.hts] at h2
  rw [dcs_app, Tc.dcs] at h3
  refine ⟨by rw [Tc.wfs, Tc.wfs]; exact ⟨h1, trivial⟩, by rw [hts_one]; omega, fun e he => h.dp e ?_, fun x hx => h.dc x (by rw [List.mem_singleton.mp hx]; exact m), by rw [dcs_one]; omega⟩
  rw [exs_one] at he
  rw [exs_app, Tc.exs]
  simp [he]
theorem isblock_ok : ∀ (n k : Nat) (b : List Tc) (deep : Int) (S : Store), okD 300 b → Tc.hts b < n → (Tc.hts b : Int) ≤ deep → prog (k + 2 * n + 8) .f_is_block [.d (blkE b), .d (.int deep)] S = some (.ok (.d (.bl true)), S)
  | n + 1, k, b, deep, S, h, hn, hd => by
    have hdeed : ∀ t ∈ b, prog (k + 2 * n + 9) .f_is_deed [.d t.enc, .d (.int deep)] S = some (.ok (.d (.bl true)), S) := by
      intro t ht
      have hm := h.mem ht
      have hh := hts_mem ht
      have ih : ∀ a ∈ t.sub, prog (k + 2 * n + 8) .f_is_block [.d (.tup (Tc.encs a)), .d (.int (deep - 1))] S = some (.ok (.d (.bl true)), S) := fun a ha => by
        obtain ⟨g1, _, _⟩ := hm.sub ha
        have := sub_ht ha
        exact isblock_ok n k a (deep - 1) S ⟨g1.wf, g1.ht, g1.dp, g1.dc, by have := g1.bud; omega⟩ (by omega) (by omega)
      have he : ∀ e, t.ex.head? = some e → prog (k + 2 * n + 8) .f_is_expression [.d e.enc] S = some (.ok (.d (.bl true)), S) := fun e he => by
        obtain ⟨w1, w2⟩ := hm.e he
        exact isexpr_ok (k + 2 * n + 2) w1 w2 S
      have hT := fun z kd r (n1 : Int) hz hk => tagged_ok (k + 2 * n + 7) z kd r n1 hz hk S
      have hF := fun {v lo hi : Int} (h : lo ≤ v) (h2 : v ≤ hi) => from_ok (k + 2 * n + 6) h h2 S
      have hw := hm.wf
      rw [show k + 2 * n + 9 = k + 2 * n + 8 + 1 from rfl, prog_succ]
      show fnM 2 2 true (m_is_deed (prog (k + 2 * n + 8))) [_, _] S = _
      replace hT : ∀ z kd r (n1 : Int), PyData.strOk z = true → PyData.strOk kd = true → prog (k + 2 * n + 8) .f_is_tagged [.d (.tup (.str z :: r)), .d (.str kd), .d (.int n1)] S = some (.ok (.d (.bl (decide (((r.length : Nat) : Int) + 1 = n1) && decide (z = kd)))), S) := hT
      replace hF : ∀ {v lo hi : Int}, lo ≤ v → v ≤ hi → prog (k + 2 * n + 8) .f_is_from [.d (.int v), .d (.int lo), .d (.int hi)] S = some (.ok (.d (.bl true)), S) := hF
      generalize prog (k + 2 * n + 8) = c at ih he hT hF
      refine fnM_same (env := [some (.d t.enc), some (.d (.int deep))]) rfl ?_
      rw [Tc.wfs] at hw
      cases t with
      | set i e =>
        have e1 := he e rfl
        have hw1 := hw.1
        rw [Tc.wf] at hw1
        have f1 := hF (v := i) (lo := 0) (hi := 3) hw1.1.1 (by have := hw1.1.2; omega)
        simp (decide := true) [m_is_deed, envOf, Tc.enc, hT, k_NAMES, f1, e1]
      | tell e =>
        have e1 := he e rfl
        simp (decide := true) [m_is_deed, envOf, Tc.enc, hT, e1]
      | ite e p q =>
        have e1 := he e rfl
        have i1 := ih p (by simp [Tc.sub])
        have i2 := ih q (by simp [Tc.sub])
        simp (decide := true) [m_is_deed, envOf, Tc.enc, hT, e1, i1, i2]
      | whl e p =>
        have e1 := he e rfl
        have i1 := ih p (by simp [Tc.sub])
        simp (decide := true) [m_is_deed, envOf, Tc.enc, hT, e1, i1]
    rw [show k + 2 * (n + 1) + 8 = k + 2 * n + 9 + 1 by omega, prog_succ]
    show fnM 2 3 true (m_is_block (prog (k + 2 * n + 9))) [_, _] S = _
    generalize prog (k + 2 * n + 9) = c at hdeed
    refine fnM_same (env := [some (.d (blkE b)), some (.d (.int deep)), none]) rfl ?_
    have hl := len_dcs b
    have hb := h.bud
    have e := all_lc (fi := fSeq (fVar 0)) (gt := gN 2) (f := fCall (ck 2 (c .f_is_deed)) (fCons (fVar 2) (fCons (fVar 1) (fNil)))) (vs := [2]) (env := [some (.d (blkE b)), some (.d (.int deep)), none]) (S := S) Tc.enc b (by simp [blkE, encs_map]) (sl (by omega)) (fun t ht => ⟨_, rfl, by simp [hdeed t ht]⟩)
    unfold m_is_block
    generalize fCall oAll (fCons (fFrz (fLc (fSeq (fVar 0)) (gN 2) (gYes) (fCall (ck 2 (c .f_is_deed)) (fCons (fVar 2) (fCons (fVar 1) (fNil)))) [2])) (fNil)) = F at e ⊢
    have h1 : ¬ (100000 : Int) < ((Tc.encs b).length : Nat) := by rw [encs_map, List.length_map]; omega
    have h2 : ¬ deep < 0 := by omega
    simp only [blkE] at e ⊢
    simp (decide := true) [envOf, k_MOST_basics, h1, h2, e]
theorem faults_ok (k : Nat) {b : List Tc} (h : okD 300 b) (S : Store) : prog (k + 17) .f_fault_trees [.d (blkE b)] S = some (.ok (.d .non), S) := by
  have w := isblock_ok 4 k b 30 S h (by have := h.ht; omega) (by have := h.ht; omega)
  rw [show k + 17 = k + 16 + 1 from rfl, prog_succ]
  show fnM 1 1 true (m_fault_trees (prog (k + 16))) [_] S = _
  replace w : prog (k + 16) .f_is_block [.d (blkE b), .d (.int 30)] S = some (.ok (.d (.bl true)), S) := w
  generalize prog (k + 16) = c at w
  refine fnM_same (env := [some (.d (blkE b))]) rfl ?_
  simp [m_fault_trees, envOf, k_DEEPEST_trees, w]
theorem isstate_ok (k : Nat) {n : Nat} {x : Cf} (h : Gd n x) (S : Store) : prog (k + 17) .f_is_state [.d x.enc] S = some (.ok (.d (.bl true)), S) := by
  have w := isblock_ok 4 k x.b 31 S h.d (by have := h.d.ht; omega) (by have := h.d.ht; omega)
  have w2 := isstore_ok (k + 13) h.s S
  have w3 : ∀ v ∈ x.o, prog (k + 16) .f_is_told [.d (.int v)] S = some (.ok (.d (.bl true)), S) := fun v hv => istold_ok (k + 12) (h.o v hv) S
  have hb := h.bud
  obtain ⟨b, s, o⟩ := x
  rw [show k + 17 = k + 16 + 1 from rfl, prog_succ]
  show fnM 1 2 true (m_is_state (prog (k + 16))) [_] S = _
  replace w : prog (k + 16) .f_is_block [.d (blkE b), .d (.int 31)] S = some (.ok (.d (.bl true)), S) := w
  replace w2 : prog (k + 16) .f_is_store [.d (stE s)] S = some (.ok (.d (.bl true)), S) := w2
  generalize prog (k + 16) = c at w w2 w3
  refine fnM_same (env := [some (.d (Cf.enc ⟨b, s, o⟩)), none]) rfl ?_
  have e := all_lc (fi := fSeq (fBin oIx (fVar 0) (fC (.int 2)))) (gt := gN 1) (f := fCall (ck 1 (c .f_is_told)) (fCons (fVar 1) (fNil))) (vs := [1]) (env := [some (.d (Cf.enc ⟨b, s, o⟩)), none]) (S := S) D.int o (by simp [Cf.enc, tolE]) (sl (by simp only at hb; omega)) (fun v hv => ⟨_, rfl, by simp [w3 v hv]⟩)
  unfold m_is_state
  generalize fCall oAll (fCons (fFrz (fLc (fSeq (fBin oIx (fVar 0) (fC (.int 2)))) (gN 1) (gYes) (fCall (ck 1 (c .f_is_told)) (fCons (fVar 1) (fNil))) [1])) (fNil)) = F at e ⊢
  simp only [Cf.enc] at e ⊢
  generalize blkE b = B at *
  generalize hs2 : stE s = B2 at *
  simp (decide := true) [envOf, k_DEEPEST_steps, w, w2, e, tolE]
  simp [tolE] at e
  simp [e]
end Y

set_option Elab.async false
set_option linter.all false
set_option maxRecDepth 100000
set_option maxHeartbeats 4000000
namespace Y
open PySem PySem.Spec L2
/-! ### a store drawn -/
theorem lcL_poolG {β : Type} (enc : β → D) {gt : Val → Env → Option Env} {f : FE} {env0 : Env} (Q : β → Prop) : ∀ (xs : List Val) (acc : List Val) {S : Store}, Pool S → acc.length + xs.length ≤ 1000000 →
    (∀ x ∈ xs, ∀ S, Pool S → ∃ env1 S' t, gt x env0 = some env1 ∧ Pool S' ∧ Q t ∧ f env1 S = some (.ok (.d (enc t)), S')) →
    ∃ (S' : Store) (ts : List β), Pool S' ∧ ts.length = xs.length ∧ (∀ t ∈ ts, Q t) ∧ lcL gt gYes f env0 xs acc S = some (.ok (acc ++ (ts.map enc).map Val.d), S')
  | [], acc, S, hS, _, _ => ⟨S, [], hS, rfl, by simp, by show some (Ex.ok acc, S) = _; simp⟩
  | x :: xs, acc, S, hS, hl, H => by
    obtain ⟨env1, S1, t, h1, h2, h3, h4⟩ := H x List.mem_cons_self S hS
    rw [List.length_cons] at hl
    obtain ⟨S2, ts, g1, g2, g3, g4⟩ := lcL_poolG enc Q xs (acc ++ [.d (enc t)]) h2 (by rw [List.length_append, List.length_singleton]; omega) fun y hy => H y (List.mem_cons_of_mem _ hy)
    refine ⟨S2, t :: ts, g1, by simp [g2], by simpa using ⟨h3, g3⟩, ?_⟩
    show (match gt x env0 with | none => none | some env1 => _) = _
    rw [h1]
    dsimp only
    rw [bnd_def, gYes_def]
    dsimp only
    rw [if_pos rfl, bnd_def, h4]
    dsimp only
    rw [if_pos (sl' (by omega)), g4]
    simp
@[simp] theorem mkTup_6 (a b c d e f : D) (S : Store) : mkTup [.d a, .d b, .d c, .d d, .d e, .d f] S = some (.ok (.d (.tup [a, b, c, d, e, f])), S) := mkTup_map [a, b, c, d, e, f] S (by show 6 ≤ sizeLine; decide)
theorem six_ok (n : Int) (h : 0 ≤ n) (h2 : n < 6) (S : Store) : ∃ v, Rg v ∧ oIx (.d (.tup [.int 0, .int 0, .int 1, .int 2, .int 5, .int 998])) (.d (.int n)) S = some (.ok (.d (.int v)), S) := by
  have : n = 0 ∨ n = 1 ∨ n = 2 ∨ n = 3 ∨ n = 4 ∨ n = 5 := by omega
  rcases this with rfl | rfl | rfl | rfl | rfl | rfl
  · exact ⟨0, ⟨by decide, by decide⟩, rfl⟩
  · exact ⟨0, ⟨by decide, by decide⟩, rfl⟩
  · exact ⟨1, ⟨by decide, by decide⟩, rfl⟩
  · exact ⟨2, ⟨by decide, by decide⟩, rfl⟩
  · exact ⟨5, ⟨by decide, by decide⟩, rfl⟩
  · exact ⟨998, ⟨by decide, by decide⟩, rfl⟩
theorem store_ok (k : Nat) {S : Store} (hS : Pool S) : ∃ S' s, Pool S' ∧ okS s ∧ prog (k + 3) .f_law_store [.r 0] S = some (.ok (.d (stE s)), S') := by
  have hdr : ∀ {S : Store}, Pool S → ∃ S' v, Pool S' ∧ 0 ≤ v ∧ v < 6 ∧ prog (k + 2) .f_law_draw [.r 0, .d (.int 6)] S = some (.ok (.d (.int v)), S') := fun {S} hS => draw_ok k hS 6 (by decide) (by decide)
  rw [show k + 3 = k + 2 + 1 from rfl, prog_succ]
  generalize prog (k + 2) = c at hdr
  have hr := rng1_nat 4 S (by decide)
  obtain ⟨S2, ts, h2, hlen, h3, e2⟩ := lcL_poolG D.int (gt := gN 1) (f := fBin oIx (fTup (fCons (fC (.int 0)) (fCons (fC (.int 0)) (fCons (fC (.int 1)) (fCons (fC (.int 2)) (fCons (fC (.int 5)) (fCons (fC (.int 998)) (fNil)))))))) (fCall (ck 2 (c .f_law_draw)) (fCons (fVar 0) (fCons (fC (.int 6)) (fNil))))) (env0 := [some (.r 0), none]) Rg (((List.range 4).map fun (i : Nat) => D.int i).map Val.d) [] hS (by decide) (by
    intro x hx S hS
    obtain ⟨S', n, g1, g2, g3, g4⟩ := hdr hS
    obtain ⟨v, g5, g6⟩ := six_ok n g2 g3 S'
    exact ⟨_, S', v, rfl, g1, g5, by
      simp only [fBin_def, bnd_def, fTup_def, fCons_def, fC_def, fNil_def, ret_def, mkTup_6, fCall_def, fVar_def, List.set_cons_zero, List.set_cons_succ, List.getElem?_cons_zero, Option.join_some, lift_some, ck_def, List.length_cons, List.length_nil, if_true, g4, g6, Nat.zero_add, Nat.reduceAdd]⟩)
  refine ⟨S2, ts, h2, ⟨by rw [hlen]; rfl, h3⟩, ?_⟩
  show fnM 1 2 true (m__law_store c) [_] S = _
  refine fnM_poolS hS h2 (env := [some (.r 0), none]) rfl ?_
  have e4 : fFrz (fLc (fCall rng1 (fCons (fC (.int 4)) (fNil))) (gN 1) (gYes) (fBin oIx (fTup (fCons (fC (.int 0)) (fCons (fC (.int 0)) (fCons (fC (.int 1)) (fCons (fC (.int 2)) (fCons (fC (.int 5)) (fCons (fC (.int 998)) (fNil)))))))) (fCall (ck 2 (c .f_law_draw)) (fCons (fVar 0) (fCons (fC (.int 6)) (fNil))))) [1]) [some (.r 0), none] S = some (.ok (.d (.lst (ts.map D.int))), S2) := by
    rw [fFrz_def, bnd_def]
    have : fLc (fCall rng1 (fCons (fC (.int 4)) (fNil))) (gN 1) (gYes) (fBin oIx (fTup (fCons (fC (.int 0)) (fCons (fC (.int 0)) (fCons (fC (.int 1)) (fCons (fC (.int 2)) (fCons (fC (.int 5)) (fCons (fC (.int 998)) (fNil)))))))) (fCall (ck 2 (c .f_law_draw)) (fCons (fVar 0) (fCons (fC (.int 6)) (fNil))))) [1] [some (.r 0), none] S = some (.ok ((ts.map D.int).map Val.d), S2) := by
      show bnd _ _ S = _
      have e3 : fCall rng1 (fCons (fC (.int 4)) (fNil)) [some (.r 0), none] S = some (.ok (((List.range 4).map fun (i : Nat) => D.int i).map Val.d), S) := hr
      rw [bnd_def, e3]
      exact noX_ok e2
    rw [this]
    exact frz_map _ _
  unfold m__law_store
  generalize fFrz (fLc (fCall rng1 (fCons (fC (.int 4)) (fNil))) (gN 1) (gYes) (fBin oIx (fTup (fCons (fC (.int 0)) (fCons (fC (.int 0)) (fCons (fC (.int 1)) (fCons (fC (.int 2)) (fCons (fC (.int 5)) (fCons (fC (.int 998)) (fNil)))))))) (fCall (ck 2 (c .f_law_draw)) (fCons (fVar 0) (fCons (fC (.int 6)) (fNil))))) [1]) = F at e4 ⊢
  simp [envOf, e4, stE]
/-! ### lists of states -/
def pre (p : List Int) (x : Cf) : Cf := ⟨x.b, x.s, p ++ x.o⟩
theorem pre_nx (p : List Int) (x : Cf) : (pre p x).nx = pre p x.nx := by
  obtain ⟨b, s, o⟩ := x
  cases b with
  | nil => rfl
  | cons t r => cases t <;> simp [pre, Cf.nx]
theorem pre_tt (p : List Int) (x : Cf) : (pre p x).tt = x.tt := rfl
theorem tr_pre (p : List Int) : ∀ g n x, tr g n (pre p x) = (tr g n x).map (pre p)
  | 0, n, x => rfl
  | g + 1, n, x => by
    rw [tr_s, tr_s]
    show (if x.b = [] then [pre p x] else if x.tt = true then _ else _) = _
    by_cases hb : x.b = []
    · rw [if_pos hb, if_pos hb]; rfl
    · rw [if_neg hb, if_neg hb]
      by_cases ht : x.tt = true
      · rw [if_pos ht, if_pos ht]
        cases n with
        | zero => rfl
        | succ m => rw [pre_nx]; show pre p x :: tr g m (pre p x.nx) = _; rw [tr_pre p g m x.nx]; rfl
      · rw [if_neg ht, if_neg ht, pre_nx, tr_pre p g n x.nx]; rfl
theorem T_pre (p : List Int) (n : Nat) (x : Cf) : T n (pre p x) = (T n x).map (pre p) := tr_pre p _ n x
theorem T_0 (n : Nat) (x : Cf) : ∃ l, T n x = x :: l := by
  unfold T
  rw [show (300 : Nat) = 299 + 1 from rfl, tr_s]
  split
  · exact ⟨_, rfl⟩
  · split
    · cases n <;> exact ⟨_, rfl⟩
    · exact ⟨_, rfl⟩
def cnt (l : List Cf) : Nat := (l.filter Cf.tt).length
theorem cnt_t {x : Cf} {l : List Cf} (h : x.tt = true) : cnt (x :: l) = cnt l + 1 := by unfold cnt; rw [List.filter_cons_of_pos h]; rfl
theorem cnt_f {x : Cf} {l : List Cf} (h : x.tt = false) : cnt (x :: l) = cnt l := by unfold cnt; rw [List.filter_cons_of_neg (by rw [h]; decide)]
theorem T_drop : ∀ n x, Gd n x → ∀ j, j < (T n x).length → ∃ y m, (T n x)[j]? = some y ∧ n = m + cnt ((T n x).take j) ∧ Gd m y ∧ (T n x).drop j = T m y := by
  have z : ∀ n x, Gd n x → ∃ y m, (T n x)[0]? = some y ∧ n = m + cnt ((T n x).take 0) ∧ Gd m y ∧ (T n x).drop 0 = T m y := fun n x h => by
    obtain ⟨l, e⟩ := T_0 n x
    exact ⟨x, n, by rw [e]; rfl, rfl, h, rfl⟩
  refine cf_ind ?_ ?_ ?_ ?_
  · intro n x h hb j hj
    rw [T_end hb] at hj
    obtain rfl : j = 0 := by simp at hj; omega
    exact z n x h
  · intro x h ht j hj
    rw [T_stop ht] at hj
    obtain rfl : j = 0 := by simp at hj; omega
    exact z 0 x h
  · intro m x h ht g ih j hj
    cases j with
    | zero => exact z _ x h
    | succ j =>
      rw [T_turn h ht] at hj ⊢
      obtain ⟨y, m', a, b, c, d⟩ := ih j (by simpa using hj)
      exact ⟨y, m', by simpa using a, by rw [List.take_succ_cons, cnt_t ht]; omega, c, by simpa using d⟩
  · intro n x h hb ht g ih j hj
    cases j with
    | zero => exact z _ x h
    | succ j =>
      rw [T_go h hb ht] at hj ⊢
      obtain ⟨y, m', a, b, c, d⟩ := ih j (by simpa using hj)
      exact ⟨y, m', by simpa using a, by rw [List.take_succ_cons, cnt_f ht]; omega, c, by simpa using d⟩
theorem T_step {n : Nat} {x : Cf} (h : Gd n x) (hl : 1 < (T n x).length) : x.b ≠ [] ∧ (T n x)[1]? = some x.nx := by
  by_cases hb : x.b = []
  · rw [T_end hb] at hl; simp at hl
  · refine ⟨hb, ?_⟩
    cases ht : x.tt with
    | true =>
      cases n with
      | zero => rw [T_stop ht] at hl; simp at hl
      | succ m =>
        obtain ⟨l, e⟩ := T_0 m x.nx
        rw [T_turn h ht, e]; rfl
    | false =>
      obtain ⟨l, e⟩ := T_0 n x.nx
      rw [T_go h hb ht, e]; rfl
theorem T_next {n : Nat} {x : Cf} (h : Gd n x) {i : Nat} (hi : i + 1 < (T n x).length) : ∃ y m, (T n x)[i]? = some y ∧ Gd m y ∧ y.b ≠ [] ∧ (T n x)[i + 1]? = some y.nx := by
  obtain ⟨y, m, a, b, c, d⟩ := T_drop n x h i (by omega)
  have hl : 1 < (T m y).length := by rw [← d, List.length_drop]; omega
  obtain ⟨e1, e2⟩ := T_step c hl
  refine ⟨y, m, a, c, e1, ?_⟩
  rw [← d, List.getElem?_drop] at e2
  exact e2
theorem T_last : ∀ n x, Gd n x → ∃ y m, lastC n x = some y ∧ n = m + cnt ((T n x).dropLast) ∧ Gd m y ∧ (y.b = [] ∨ (y.tt = true ∧ m = 0)) := by
  intro n x h
  obtain ⟨l, e⟩ := T_0 n x
  have hp : 0 < (T n x).length := by rw [e]; simp
  obtain ⟨y, m, a, b, c, d⟩ := T_drop n x h ((T n x).length - 1) (by omega)
  refine ⟨y, m, ?_, ?_, c, ?_⟩
  · unfold lastC; rw [List.getLast?_eq_getElem?]; exact a
  · rw [List.dropLast_eq_take]; exact b
  · have h1 : (T m y).length = 1 := by rw [← d, List.length_drop]; omega
    by_cases hb : y.b = []
    · exact .inl hb
    · refine .inr ?_
      cases ht : y.tt with
      | true =>
        cases m with
        | zero => exact ⟨rfl, rfl⟩
        | succ m =>
          obtain ⟨l, e⟩ := T_0 m y.nx
          rw [T_turn c ht, e] at h1; simp at h1
      | false =>
        obtain ⟨l, e⟩ := T_0 m y.nx
        rw [T_go c hb ht, e] at h1; simp at h1
theorem lastC_drop {n m : Nat} {x y : Cf} {j : Nat} (hj : j < (T n x).length) (d : (T n x).drop j = T m y) : lastC m y = lastC n x := by
  unfold lastC
  rw [← d, List.getLast?_drop]
  rw [if_neg (by omega)]
end Y

set_option Elab.async false
set_option linter.all false
set_option maxRecDepth 100000
set_option maxHeartbeats 4000000
namespace Y
open PySem PySem.Spec L2
/-! ### the registry of ways -/
theorem fTab_def (n : Nat) (tab : List (Str × Fn)) (fb : FE) (fs : FA) (env : Env) (S : Store) : fTab n tab fb fs env S = bnd (fb env) (fun z => bnd (lift ((asS z).bind fun z => tab.lookup z)) fun F => bnd (fs env) (ck n F)) S := rfl
theorem ways_ok (k : Nat) (S : Store) : prog (k + 1) .f_ways [] S = some (.ok (.d (.lst [.str "frames", .str "steps", .str "trees"])), S) := by
  rw [prog_succ]
  show fnM 0 0 true (m_ways (prog k)) [] S = _
  refine fnM_same (env := []) rfl ?_
  have e : fFrz (fStrs ["frames", "steps", "trees"]) [] S = some (.ok (.d (.lst [.str "frames", .str "steps", .str "trees"])), S) := rfl
  unfold m_ways
  generalize fFrz (fStrs ["frames", "steps", "trees"]) = F at e ⊢
  simp [envOf, e]
theorem way_of (k : Nat) (z : Str) (a b d v : D) (S : Store) (F : Fn) (h : tk_WAYS.lookup z = some true) (h2 : (tab_WAYS (prog k)).lookup z = some F) (h3 : F [.d a, .d b, .d d] S = some (.ok (.d v), S)) : prog (k + 1) .f_run_way [.d (.str z), .d a, .d b, .d d] S = some (.ok (.d v), S) := by
  rw [prog_succ]
  show fnM 4 4 true (m_run_way (prog k)) [_, _, _, _] S = _
  refine fnM_same (env := [some (.d (.str z)), some (.d a), some (.d b), some (.d d)]) rfl ?_
  have e : fInTab true tk_WAYS (fVar 0) [some (.d (.str z)), some (.d a), some (.d b), some (.d d)] S = some (.ok (.d (.bl false)), S) := by
    show lift (((some z).bind fun z => tk_WAYS.lookup z).map fun k => Val.d (.bl (k != true))) S = _
    rw [Option.bind_some, h]; rfl
  have e2 : fTab 3 (tab_WAYS (prog k)) (fVar 0) (fCons (fVar 1) (fCons (fVar 2) (fCons (fVar 3) (fNil)))) [some (.d (.str z)), some (.d a), some (.d b), some (.d d)] S = some (.ok (.d v), S) := by
    rw [fTab_def]
    show bnd (lift ((some z).bind fun z => (tab_WAYS (prog k)).lookup z)) (fun F => ck 3 F [.d a, .d b, .d d]) S = _
    rw [Option.bind_some, h2, bnd_def, lift_some]
    dsimp only
    rw [ck_def, if_pos (show [Val.d a, Val.d b, Val.d d].length = 3 from rfl), h3]
  unfold m_run_way
  generalize fTab 3 (tab_WAYS (prog k)) (fVar 0) (fCons (fVar 1) (fCons (fVar 2) (fCons (fVar 3) (fNil)))) = F2 at e2 ⊢
  simp [envOf, e, e2]
theorem way_ok (k : Nat) (z : Str) (hz : z = "frames" ∨ z = "steps" ∨ z = "trees") {n : Nat} {b : List Tc} {s : List Int} (h : Gd n ⟨b, s, []⟩) {y : Cf} (hy : lastC n ⟨b, s, []⟩ = some y) (S : Store) : prog (k + 21) .f_run_way [.d (.str z), .d (blkE b), .d (stE s), .d (.int (n : Nat))] S = some (.ok (.d (resE y)), S) := by
  rcases hz with rfl | rfl | rfl
  · exact way_of (k + 20) _ _ _ _ _ S (prog (k + 20) .f_run_frames) (by decide) (by rfl) (frames_ok (k + 13) h hy S)
  · exact way_of (k + 20) _ _ _ _ _ S (prog (k + 20) .f_run_steps) (by decide) (by rfl) (steps_ok (k + 13) h hy S)
  · exact way_of (k + 20) _ _ _ _ _ S (prog (k + 20) .f_run_trees) (by decide) (by rfl) (trees_ok k h hy S)
/-! ### no fault in the states -/
def cfsE (l : List Cf) : D := .tup (l.map Cf.enc)
def cfsL (l : List Cf) : D := .lst (l.map Cf.enc)
theorem ix_cfs {l : List Cf} {i : Nat} {y : Cf} (h : l[i]? = some y) (S : Store) : oIx (.d (cfsE l)) (.d (.int (i : Nat))) S = some (.ok (.d y.enc), S) := by
  rw [cfsE, oIx_tup, atI_nat, List.getElem?_map, List.getElem?_map, h]; rfl
theorem ix_cfl {l : List Cf} {i : Nat} {y : Cf} (h : l[i]? = some y) (S : Store) : oIx (.d (cfsL l)) (.d (.int (i : Nat))) S = some (.ok (.d y.enc), S) := by
  rw [cfsL, oIx_lst, atI_nat, List.getElem?_map, List.getElem?_map, h]; rfl
theorem fsteps_ok (k : Nat) {n : Nat} {b : List Tc} {s : List Int} (h : Gd n ⟨b, s, []⟩) (S : Store) : prog (k + 18) .f_fault_steps [.d (blkE b), .d (stE s), .d (cfsE (T n ⟨b, s, []⟩))] S = some (.ok (.d .non), S) := by
  obtain ⟨l0, hL⟩ := T_0 n ⟨b, s, []⟩
  have hlen := T_len 0 n _ h
  have hb := h.bud
  simp only at hlen hb
  have hst : ∀ x ∈ T n ⟨b, s, []⟩, prog (k + 17) .f_is_state [.d x.enc] S = some (.ok (.d (.bl true)), S) := fun x hx => by
    obtain ⟨m, _, g⟩ := T_gd n _ h x hx
    exact isstate_ok k g S
  have hnx : ∀ i, i + 1 < (T n ⟨b, s, []⟩).length → ∃ y, (T n ⟨b, s, []⟩)[i]? = some y ∧ (T n ⟨b, s, []⟩)[i + 1]? = some y.nx ∧ oEq true (.d y.nx.enc) (.d y.nx.enc) S = some (.ok (.d (.bl false)), S) ∧ prog (k + 17) .f_step_steps [.d y.enc] S = some (.ok (.d y.nx.enc), S) := fun i hi => by
    obtain ⟨y, m, a, g, e, f⟩ := T_next h hi
    obtain ⟨m', _, g'⟩ := T_gd n _ h y.nx (List.mem_of_getElem? f)
    exact ⟨y, a, f, oEq_self true (sh_cf g') (by omega) S, step_ok (k + 12) g e S⟩
  have h0 : oEq true (.d (Cf.enc ⟨b, s, []⟩)) (.d (Cf.enc ⟨b, s, []⟩)) S = some (.ok (.d (.bl false)), S) := oEq_self true (sh_cf h) (by omega) S
  have hi0 : oIx (.d (cfsE (T n ⟨b, s, []⟩))) (.d (.int 0)) S = some (.ok (.d (Cf.enc ⟨b, s, []⟩)), S) := ix_cfs (i := 0) (by rw [hL]; rfl) S
  rw [show k + 18 = k + 17 + 1 from rfl, prog_succ]
  show fnM 3 5 true (m_fault_steps (prog (k + 17))) [_, _, _] S = _
  generalize prog (k + 17) = c at hst hnx
  have hp : (T n ⟨b, s, []⟩).length = l0.length + 1 := by rw [hL]; rfl
  generalize T n ⟨b, s, []⟩ = L at *
  have hln : oLen [.d (cfsE L)] S = some (.ok (.d (.int (L.length : Nat))), S) := by rw [cfsE, oLen_tup, List.length_map]
  obtain ⟨env', S', g1, g2⟩ := forL_run (gt := gN 3) (body := b_fault_steps_1 c) (fun (i : Nat) => D.int i) (fun done env S' => S' = S ∧ ∃ j, env = [some (.d (blkE b)), some (.d (stE s)), some (.d (cfsE L)), j, none]) (List.range l0.length)
    (by
      rintro done x rest env S' he ⟨rfl, j, rfl⟩
      have hx : x < l0.length := by
        have : x ∈ List.range l0.length := by rw [← he]; simp
        exact List.mem_range.mp this
      obtain ⟨y, i1, i2, i3, i4⟩ := hnx x (by omega)
      have j1 := ix_cfs i1 S'
      have j2 := ix_cfs i2 S'
      rw [show ((x + 1 : Nat) : Int) = (x : Int) + 1 by omega] at j2
      refine ⟨_, [some (.d (blkE b)), some (.d (stE s)), some (.d (cfsE L)), some (.d (.int (x : Nat))), none], S', rfl, ?_, rfl, _, rfl⟩
      simp [b_fault_steps_1, j1, j2, i3, i4]) (List.range l0.length) [] [some (.d (blkE b)), some (.d (stE s)), some (.d (cfsE L)), none, none] S rfl ⟨rfl, none, rfl⟩
  obtain ⟨rfl, j, rfl⟩ := g2
  refine fnM_same (env := [some (.d (blkE b)), some (.d (stE s)), some (.d (cfsE L)), j, none]) rfl ?_
  have e := all_lc (fi := fSeq (fVar 2)) (gt := gN 4) (f := fCall (ck 1 (c .f_is_state)) (fCons (fVar 4) (fNil))) (vs := [4]) (env := [some (.d (blkE b)), some (.d (stE s)), some (.d (cfsE L)), none, none]) (S := S') Cf.enc L (by simp [cfsE]) (sl (by omega)) (fun x hx => ⟨_, rfl, by simp [hst x hx]⟩)
  have e3 : fCall rng1 (fCons (fBin oSub (fCall oLen (fCons (fVar 2) (fNil))) (fC (.int 1))) (fNil)) [some (.d (blkE b)), some (.d (stE s)), some (.d (cfsE L)), none, none] S' = some (.ok (((List.range l0.length).map fun (i : Nat) => D.int i).map Val.d), S') := by
    have e : fCons (fBin oSub (fCall oLen (fCons (fVar 2) (fNil))) (fC (.int 1))) (fNil) [some (.d (blkE b)), some (.d (stE s)), some (.d (cfsE L)), none, none] S' = some (.ok [.d (.int (l0.length : Nat))], S') := by
      have : ((L.length : Nat) : Int) - 1 = (l0.length : Nat) := by omega
      simp [hln, this]
    rw [fCall_def, bnd_def, e]
    exact rng1_nat _ _ (by omega)
  have hne : ¬ (((L.length : Nat) : Int) = 0) := by omega
  have hne2 : ¬ L = [] := by rw [hL]; simp
  unfold m_fault_steps
  generalize fCall oAll (fCons (fFrz (fLc (fSeq (fVar 2)) (gN 4) (gYes) (fCall (ck 1 (c .f_is_state)) (fCons (fVar 4) (fNil))) [4])) (fNil)) = F at e ⊢
  have hty : tyD (.d (cfsE L)) S' = some "tuple" := rfl
  refine sSeq_nx (env' := [some (.d (blkE b)), some (.d (stE s)), some (.d (cfsE L)), none, none]) (S' := S') ?_ ?_
  · refine sIf_f (S1 := S') ?_ rfl
    generalize cfsE L = V at *
    simp [envOf, hty, hln, hne2, e]
  refine sSeq_nx (env' := [some (.d (blkE b)), some (.d (stE s)), some (.d (cfsE L)), none, none]) (S' := S') ?_ ?_
  · refine sIf_f (S1 := S') ?_ rfl
    simp only [Cf.enc, tolE, List.map_nil] at h0 hi0
    generalize cfsE L = V at *
    generalize blkE b = B at *
    generalize stE s = B2 at *
    simp [hi0, h0]
  refine sSeq_nx (env' := [some (.d (blkE b)), some (.d (stE s)), some (.d (cfsE L)), j, none]) (S' := S') ?_ ?_
  · rw [sFor_def, e3]
    exact g1
  · simp
end Y

set_option Elab.async false
set_option linter.all false
set_option maxRecDepth 100000
set_option maxHeartbeats 4000000
namespace Y
open PySem PySem.Spec L2
/-! ### class Debugger -/
@[simp] theorem fExt_def (fa fb : FE) (env : Env) (S : Store) : fExt fa fb env S = bnd (fa env) (fun x => bnd (isL x) fun _ => bnd (fb env) fun y => oExt x y) S := rfl
def dbO (i : Nat) : Ob := .ins "Debugger" ["_states"] [.r (i + 1)]
def DB (S : Store) (l : List Cf) : Store := S ++ [dbO S.length, .lst (cfV l)]
section
variable {S : Store} {l m : List Cf} {T : Store}
theorem db_0 : (S ++ dbO S.length :: T)[S.length]? = some (dbO S.length) := by simp
theorem db_1 {o : Ob} : (S ++ dbO S.length :: o :: T)[S.length + 1]? = some o := by
  rw [List.getElem?_append_right (by omega)]; simp
theorem db_2 {o o2 : Ob} : (S ++ dbO S.length :: o :: o2 :: T)[S.length + 2]? = some o2 := by
  rw [List.getElem?_append_right (by omega)]; simp
theorem db_fld : oFld "Debugger" "_states" (.r S.length) (S ++ dbO S.length :: T) = some (.ok (.r (S.length + 1)), S ++ dbO S.length :: T) := by
  unfold oFld; rw [insV_at db_0]; rfl
theorem db_is (h : Str) (hm : ¬ h ∈ (["_states"] : List Str)) : isI "Debugger" h (.r S.length) (S ++ dbO S.length :: T) = some (.ok (), S ++ dbO S.length :: T) := by
  unfold isI; rw [insV_at db_0]; dsimp only; rw [if_neg hm]
theorem db_lst : lstV (.r (S.length + 1)) (S ++ dbO S.length :: .lst (cfV l) :: T) = some (cfV l) := by
  unfold lstV
  show (match (S ++ dbO S.length :: .lst (cfV l) :: T)[S.length + 1]? with | some (.lst xs) => _ | _ => _) = _
  rw [db_1]
theorem db_last {x : Cf} (h : l.getLast? = some x) : oIx (.r (S.length + 1)) (.d (.int (-1))) (S ++ dbO S.length :: .lst (cfV l) :: T) = some (.ok (.d x.enc), S ++ dbO S.length :: .lst (cfV l) :: T) := by
  show (match seqV (.r (S.length + 1)) (S ++ dbO S.length :: .lst (cfV l) :: T) with | none => none | some xs => (atI xs (-1)).map fun x => (Ex.ok x, S ++ dbO S.length :: .lst (cfV l) :: T)) = _
  rw [show seqV (.r (S.length + 1)) (S ++ dbO S.length :: .lst (cfV l) :: T) = some (cfV l) from db_lst]
  dsimp only
  rw [atI_last, cfV, List.getLast?_map, List.getLast?_map, h]; rfl
theorem db_sl (lo hi : Option Int) : oSl (.r (S.length + 1)) lo hi (S ++ dbO S.length :: .lst (cfV l) :: T) = some (.ok (.d (cfsL (cutL l lo hi))), S ++ dbO S.length :: .lst (cfV l) :: T) := by
  unfold oSl
  rw [show tupV (.r (S.length + 1)) = none from rfl]
  dsimp only
  rw [show listV (.r (S.length + 1)) (S ++ dbO S.length :: .lst (cfV l) :: T) = some (cfV l) from db_lst]
  dsimp only
  rw [cfV, cutL_map, cutL_map]
  exact frz_map _ _
theorem dbmk_ok (k : Nat) {b : List Tc} (h : okD 300 b) (s : List Int) (S : Store) : oMake "Debugger" 3 (prog (k + 18) .f_Debugger___init__) [.d (blkE b), .d (stE s)] S = some (.ok (.r S.length), DB S [⟨b, s, []⟩]) := by
  have w := faults_ok k h (S ++ [.ins "Debugger" [] []])
  have i0 : prog (k + 18) .f_Debugger___init__ [.r S.length, .d (blkE b), .d (stE s)] (S ++ [.ins "Debugger" [] []]) = some (.ok (.d .non), DB S [⟨b, s, []⟩]) := by
    rw [show k + 18 = k + 17 + 1 from rfl, prog_succ]
    show fnM 3 3 false (m_Debugger___init__ (prog (k + 17))) [_, _, _] _ = _
    generalize prog (k + 17) = c at w
    have f1 : oFldPut "Debugger" "_states" (.r S.length) (.r (S.length + 1)) (S ++ [.ins "Debugger" [] [], .lst (cfV [⟨b, s, []⟩])]) = some (.ok (), DB S [⟨b, s, []⟩]) := by
      have hx : (S ++ [.ins "Debugger" [] [], .lst (cfV [⟨b, s, []⟩])])[S.length]? = some (.ins "Debugger" [] []) := by simp
      unfold oFldPut; rw [insV_at hx]; dsimp only; rw [if_pos (by decide)]
      unfold DB dbO
      rw [List.set_append_right _ _ (by omega)]
      simp
      exact ⟨rfl, rfl⟩
    have hb : m_Debugger___init__ c (envOf 3 [.r S.length, .d (blkE b), .d (stE s)]) (S ++ [.ins "Debugger" [] []]) = some (.nx, [some (.r S.length), some (.d (blkE b)), some (.d (stE s))], DB S [⟨b, s, []⟩]) := by
      have hlen : (S ++ [Ob.ins "Debugger" [] []]).length = S.length + 1 := by simp
      have happ : (S ++ [Ob.ins "Debugger" [] []]) ++ [.lst [.d (.tup [blkE b, stE s, .tup []])]] = S ++ [.ins "Debugger" [] [], .lst (cfV [⟨b, s, []⟩])] := by simp [cfV, Cf.enc, tolE]
      simp (decide := true) only [m_Debugger___init__, envOf, sSeq_def, sIf_def, fT_def, fIsN_def, fCall_def, fCons_def, fNil_def, fVar_def, bnd_def, ret_def, lift_some, List.getElem?_cons_zero, List.getElem?_cons_succ, Option.join_some, List.map_cons, List.map_nil, List.cons_append, List.nil_append, List.length_cons, List.length_nil, List.replicate_zero, Nat.reduceSub, Nat.reduceAdd, ck_def, if_true, w, isNon_non, Option.map_some, asB_def, bS_ok, Bool.bne_true, Bool.not_true, Bool.false_eq_true, if_false, sNil_def, sFldPut_def, fNew_def, fLst_def, fTup_def, fC_def, mkTup_0, mkTup_3, okL_1, new_def, hlen, happ, f1]
    unfold fnM
    rw [if_pos (by rfl), hb]
    show cutF false _ (.ok (.d .non)) (DB S _) = _
    unfold cutF
    rw [if_neg (by decide)]
  unfold oMake
  rw [bnd_def, ck_def, if_pos (by rfl), i0]
  simp [isNo]
theorem dbstate_ok (k : Nat) {x : Cf} (h : l.getLast? = some x) : prog (k + 1) .f_Debugger_state [.r S.length] (DB S l) = some (.ok (.d x.enc), DB S l) := by
  rw [prog_succ]
  show fnM 1 1 true (m_Debugger_state (prog k)) [_] _ = _
  refine fnM_same (env := [some (.r S.length)]) rfl ?_
  unfold DB
  simp [m_Debugger_state, envOf, db_fld, db_last h]
theorem dblen_ok (k : Nat) : prog (k + 1) .f_Debugger___len__ [.r S.length] (DB S l) = some (.ok (.d (.int ((l.drop 1).length : Nat))), DB S l) := by
  rw [prog_succ]
  show fnM 1 1 true (m_Debugger___len__ (prog k)) [_] _ = _
  refine fnM_same (env := [some (.r S.length)]) rfl ?_
  have e : cutL l (some 1) none = l.drop 1 := cutL_fr l 1
  unfold DB
  simp only [m_Debugger___len__, envOf, sSeq_def, sRet_def, fCall_def, fCons_def, fSl_def, fFld_def, fVar_def, fPart_def, fC_def, fNo_def, fNil_def, bnd_def, ret_def, lift_some, asI_int, Option.map_some, List.getElem?_cons_zero, Option.join_some, List.map_cons, List.map_nil, List.cons_append, List.nil_append, List.length_cons, List.length_nil, List.replicate_zero, Nat.reduceSub, Nat.reduceAdd, db_fld, db_sl, e, cfsL, oLen_lst, List.length_map, bS_ok]
theorem dbturns_ok (k : Nat) (hl : l.length ≤ 1000000) : prog (k + 2) .f_Debugger_turns [.r S.length] (DB S l) = some (.ok (.d (.int (cnt l.dropLast : Nat))), DB S l) := by
  have ht := fun x => takes_ok k x (DB S l)
  rw [show k + 2 = k + 1 + 1 from rfl, prog_succ]
  show fnM 1 2 true (m_Debugger_turns (prog (k + 1))) [_] _ = _
  generalize prog (k + 1) = c at ht
  refine fnM_same (env := [some (.r S.length), none]) rfl ?_
  have e := fLc_pure (fi := fSeq (fSl (fFld "Debugger" "_states" (fVar 0)) (fNo) (fPart (fNeg (fC (.int 1)))))) (gt := gN 1) (gc := fT (fCall (ck 1 (c .f_takes_turn_steps)) (fCons (fVar 1) (fNil)))) (f := fVar 1) (vs := [1]) (env := [some (.r S.length), none]) (S := DB S l) Cf.enc Cf.enc Cf.tt l.dropLast (by
    unfold DB
    simp [db_fld, db_sl, cfsL]) (sl (by simp; omega)) (fun x hx => ⟨_, rfl, by simp [ht x], fun _ => by simp⟩)
  have e2 : fCall oLen (fCons (fFrz (fLc (fSeq (fSl (fFld "Debugger" "_states" (fVar 0)) (fNo) (fPart (fNeg (fC (.int 1)))))) (gN 1) (fT (fCall (ck 1 (c .f_takes_turn_steps)) (fCons (fVar 1) (fNil)))) (fVar 1) [1])) (fNil)) [some (.r S.length), none] (DB S l) = some (.ok (.d (.int (cnt l.dropLast : Nat))), DB S l) := by
    rw [fCall_def, bnd_def, fCons_def, bnd_def, fFrz_def, bnd_def, e]
    dsimp only
    rw [frz_map]
    simp [cnt]
  unfold m_Debugger_turns
  generalize fCall oLen (fCons (fFrz (fLc (fSeq (fSl (fFld "Debugger" "_states" (fVar 0)) (fNo) (fPart (fNeg (fC (.int 1)))))) (gN 1) (fT (fCall (ck 1 (c .f_takes_turn_steps)) (fCons (fVar 1) (fNil)))) (fVar 1) [1])) (fNil)) = F at e2 ⊢
  simp [envOf, e2]
end
theorem DB_app (S : Store) (l : List Cf) (T : Store) : DB S l ++ T = S ++ dbO S.length :: .lst (cfV l) :: T := by unfold DB; simp
theorem DB_len (S : Store) (l : List Cf) : (DB S l).length = S.length + 2 := by unfold DB; simp
theorem dbforth_ok (k : Nat) {n : Nat} {b : List Tc} {s : List Int} (h : Gd n ⟨b, s, []⟩) (at_ : Nat) (ha : at_ < (T n ⟨b, s, []⟩).length) (S : Store) : prog (k + 6) .f_Debugger_forth [.r S.length, .d (.int (at_ : Nat))] (DB S [⟨b, s, []⟩]) = some (.ok (.d .non), DB S ((T n ⟨b, s, []⟩).take (at_ + 1))) := by
  obtain ⟨l0, hL⟩ := T_0 n ⟨b, s, []⟩
  have hlen := T_len 0 n _ h
  have hbud := h.bud
  simp only at hlen hbud
  have w := from_ok (k + 3) (v := (at_ : Nat)) (lo := 0) (hi := 100000) (by omega) (by omega) (DB S [⟨b, s, []⟩])
  replace w : prog (k + 5) .f_is_from [.d (.int (at_ : Nat)), .d (.int 0), .d (.int 100000)] (DB S [⟨b, s, []⟩]) = some (.ok (.d (.bl true)), DB S [⟨b, s, []⟩]) := w
  have hnx : ∀ i, i + 1 < (T n ⟨b, s, []⟩).length → ∃ y, (T n ⟨b, s, []⟩)[i]? = some y ∧ (T n ⟨b, s, []⟩)[i + 1]? = some y.nx ∧ ∀ S, prog (k + 5) .f_step_steps [.d y.enc] S = some (.ok (.d y.nx.enc), S) := fun i hi => by
    obtain ⟨y, m, a, g, e, f⟩ := T_next h hi
    exact ⟨y, a, f, fun S => step_ok k g e S⟩
  rw [show k + 6 = k + 5 + 1 from rfl, prog_succ]
  show fnM 2 5 true (m_Debugger_forth (prog (k + 5))) [_, _] _ = _
  generalize prog (k + 5) = c at w hnx
  generalize hLL : T n ⟨b, s, []⟩ = L at *
  -- the loop
  obtain ⟨env', S', g1, g2⟩ := forL_run (gt := gN 4) (body := b_Debugger_forth_1 c) (fun (i : Nat) => D.int i) (fun done env S' => S' = DB S [⟨b, s, []⟩] ++ [.lst (cfV ((L.drop 1).take done.length))] ∧ ∃ y j, L[done.length]? = some y ∧ env = [some (.r S.length), some (.d (.int (at_ : Nat))), some (.r (S.length + 2)), some (.d y.enc), j]) (List.range at_)
    (by
      rintro done x rest env S' he ⟨rfl, y, j, hy, rfl⟩
      have hx : done.length < at_ := by
        have := congrArg List.length he
        simp at this; omega
      obtain ⟨y', i1, i2, i3⟩ := hnx done.length (by omega)
      rw [hy] at i1
      cases i1
      have hd : (L.drop 1).take (done ++ [x]).length = (L.drop 1).take done.length ++ [y.nx] := by
        rw [List.length_append, List.length_singleton, List.take_add_one, List.getElem?_drop, Nat.add_comm 1, i2]; rfl
      have q1 : oApp (.r (S.length + 2)) (.d y.nx.enc) (DB S [⟨b, s, []⟩] ++ [.lst (cfV ((L.drop 1).take done.length))]) = some (.ok (.d .non), DB S [⟨b, s, []⟩] ++ [.lst (cfV ((L.drop 1).take (done ++ [x]).length))]) := by
        have := cf_app (S := DB S [⟨b, s, []⟩]) (l := (L.drop 1).take done.length) (x := y.nx) (by simp; omega)
        rw [DB_len] at this
        rw [hd]; exact this
      have q2 : isL (.r (S.length + 2)) (DB S [⟨b, s, []⟩] ++ [.lst (cfV ((L.drop 1).take done.length))]) = some (.ok (), DB S [⟨b, s, []⟩] ++ [.lst (cfV ((L.drop 1).take done.length))]) := by
        have := cf_isL (S := DB S [⟨b, s, []⟩]) (l := (L.drop 1).take done.length)
        rw [DB_len] at this
        exact this
      refine ⟨_, [some (.r S.length), some (.d (.int (at_ : Nat))), some (.r (S.length + 2)), some (.d y.nx.enc), some (.d (.int (x : Nat)))], _, rfl, ?_, rfl, y.nx, _, by rw [List.length_append, List.length_singleton]; exact i2, rfl⟩
      simp (decide := true) only [b_Debugger_forth_1, sSeq_def, sSet_def, sIf_def, sDo_def, sNil_def, fT_def, fIsN_def, fCall_def, fCons_def, fNil_def, fVar_def, fApp_def, bnd_def, ret_def, lift_some, List.set_cons_zero, List.set_cons_succ, List.getElem?_cons_zero, List.getElem?_cons_succ, Option.join_some, ck_def, List.length_cons, List.length_nil, if_true, i3, isNon_cf, Option.map_some, asB_def, bS_ok, Bool.bne_false, Bool.false_eq_true, if_false, q1, q2, Nat.zero_add]) (List.range at_) [] [some (.r S.length), some (.d (.int (at_ : Nat))), some (.r (S.length + 2)), some (.d (Cf.enc ⟨b, s, []⟩)), none] (DB S [⟨b, s, []⟩] ++ [.lst []]) rfl ⟨rfl, ⟨b, s, []⟩, none, by rw [hL]; rfl, rfl⟩
  obtain ⟨rfl, y, j, hy, rfl⟩ := g2
  rw [List.length_range] at g1
  have hb : m_Debugger_forth c (envOf 5 [.r S.length, .d (.int (at_ : Nat))]) (DB S [⟨b, s, []⟩]) = some (.nx, [some (.r S.length), some (.d (.int (at_ : Nat))), some (.r (S.length + 2)), some (.d y.enc), j], DB S (L.take (at_ + 1)) ++ [.lst (cfV ((L.drop 1).take at_))]) := by
    unfold m_Debugger_forth
    refine sSeq_nx (env' := [some (.r S.length), some (.d (.int (at_ : Nat))), none, none, none]) (S' := DB S [⟨b, s, []⟩]) (sIf_f (S1 := DB S [⟨b, s, []⟩]) (by simp [envOf, k_MOST_debugger, w]) rfl) ?_
    refine sSeq_nx (env' := [some (.r S.length), some (.d (.int (at_ : Nat))), some (.r (S.length + 2)), none, none]) (S' := DB S [⟨b, s, []⟩] ++ [.lst []]) (by simp [DB_len]) ?_
    refine sSeq_nx (env' := [some (.r S.length), some (.d (.int (at_ : Nat))), some (.r (S.length + 2)), some (.d (Cf.enc ⟨b, s, []⟩)), none]) (S' := DB S [⟨b, s, []⟩] ++ [.lst []]) ?_ ?_
    · rw [DB_app]
      simp [db_fld, db_last (l := [⟨b, s, []⟩]) (x := ⟨b, s, []⟩) rfl]
    refine sSeq_nx (env' := [some (.r S.length), some (.d (.int (at_ : Nat))), some (.r (S.length + 2)), some (.d y.enc), j]) (S' := DB S [⟨b, s, []⟩] ++ [.lst (cfV ((L.drop 1).take at_))]) ?_ ?_
    · rw [sFor_def]
      have e3 : fCall rng1 (fCons (fVar 1) (fNil)) [some (.r S.length), some (.d (.int (at_ : Nat))), some (.r (S.length + 2)), some (.d (Cf.enc ⟨b, s, []⟩)), none] (DB S [⟨b, s, []⟩] ++ [.lst []]) = some (.ok (((List.range at_).map fun (i : Nat) => D.int i).map Val.d), DB S [⟨b, s, []⟩] ++ [.lst []]) := by
        have e : fCons (fVar 1) (fNil) [some (.r S.length), some (.d (.int (at_ : Nat))), some (.r (S.length + 2)), some (.d (Cf.enc ⟨b, s, []⟩)), none] (DB S [⟨b, s, []⟩] ++ [.lst []]) = some (.ok [.d (.int (at_ : Nat))], DB S [⟨b, s, []⟩] ++ [.lst []]) := by simp
        rw [fCall_def, bnd_def, e]
        exact rng1_nat at_ _ (by omega)
      rw [e3]
      exact g1
    have q2 : isL (.r (S.length + 1)) (S ++ dbO S.length :: .lst (cfV [⟨b, s, []⟩]) :: [.lst (cfV ((L.drop 1).take at_))]) = some (.ok (), S ++ dbO S.length :: .lst (cfV [⟨b, s, []⟩]) :: [.lst (cfV ((L.drop 1).take at_))]) := by
      unfold isL
      show (match (S ++ dbO S.length :: .lst (cfV [⟨b, s, []⟩]) :: [.lst (cfV ((L.drop 1).take at_))])[S.length + 1]? with | some (.lst _) => _ | _ => _) = _
      rw [db_1]
    have q3 : oExt (.r (S.length + 1)) (.r (S.length + 2)) (S ++ dbO S.length :: .lst (cfV [⟨b, s, []⟩]) :: [.lst (cfV ((L.drop 1).take at_))]) = some (.ok (.d .non), S ++ dbO S.length :: .lst (cfV (L.take (at_ + 1))) :: [.lst (cfV ((L.drop 1).take at_))]) := by
      have hv : lstV (.r (S.length + 2)) (S ++ dbO S.length :: .lst (cfV [⟨b, s, []⟩]) :: [.lst (cfV ((L.drop 1).take at_))]) = some (cfV ((L.drop 1).take at_)) := by
        unfold lstV
        show (match (S ++ dbO S.length :: .lst (cfV [⟨b, s, []⟩]) :: [.lst (cfV ((L.drop 1).take at_))])[S.length + 2]? with | some (.lst xs) => _ | _ => _) = _
        rw [db_2]
      have e4 : cfV [⟨b, s, []⟩] ++ cfV ((L.drop 1).take at_) = cfV (L.take (at_ + 1)) := by rw [hL]; simp [cfV]
      unfold oExt
      rw [hv]
      dsimp only
      rw [db_1]
      dsimp only
      rw [if_pos (sl (by rw [cfV_len, cfV_len, List.length_take, List.length_singleton]; omega)), e4, List.set_append_right _ _ (by omega), show S.length + 1 - S.length = 1 by omega]
      rfl
    rw [DB_app, DB_app]
    generalize cfV ((L.drop 1).take at_) = M at q2 q3 ⊢
    simp [db_fld, q2, q3]
  unfold fnM
  rw [if_pos (by rfl), hb]
  show cutF true (DB S [⟨b, s, []⟩]) (.ok (.d .non)) (DB S (L.take (at_ + 1)) ++ [.lst (cfV ((L.drop 1).take at_))]) = _
  unfold cutF
  have hc : cutOk (DB S [⟨b, s, []⟩]) (DB S (L.take (at_ + 1)) ++ [.lst (cfV ((L.drop 1).take at_))]) := ⟨by rw [List.length_append, DB_len, DB_len]; omega, fun i o hi e => by
    rw [DB_len] at hi ⊢
    rw [List.getElem?_append_left (by rw [DB_len]; exact hi)] at e
    unfold DB at e ⊢
    by_cases c1 : i < S.length
    · rw [List.getElem?_append_left c1] at e ⊢
      exact .inl e
    · rw [List.getElem?_append_right (by omega)] at e ⊢
      have : i - S.length = 0 ∨ i - S.length = 1 := by omega
      rcases this with q | q
      · rw [q] at e ⊢; exact .inl e
      · rw [q] at e
        cases e
        refine .inr ?_
        show (cfV _).all (vLt _) = true
        unfold cfV
        rw [List.all_eq_true]
        intro v hv
        obtain ⟨d, _, rfl⟩ := List.mem_map.mp hv
        rfl⟩
  rw [if_pos rfl, if_pos ⟨hc, fun r e => by cases e; rfl⟩, List.take_left' (by rw [DB_len, DB_len])]
end Y

set_option Elab.async false
set_option linter.all false
set_option maxRecDepth 100000
set_option maxHeartbeats 4000000
namespace Y
open PySem PySem.Spec L2
/-! ### the log of a run -/
def Cf.lg (x : Cf) : List (Int × Int) := match x.b with
  | .set i _ :: _ => [(i, x.s.getD i.toNat 0)]
  | _ => []
def lgP (p : Int × Int) : D := .tup [.int p.1, .int p.2]
def logE (l : List (Int × Int)) : D := .tup (l.map lgP)
def logs (n : Nat) (x : Cf) : List (Int × Int) := (T n x).dropLast.flatMap Cf.lg
theorem dl_cons {α : Type} {x : α} {l : List α} (h : l ≠ []) : (x :: l).dropLast = x :: l.dropLast := by
  cases l with
  | nil => exact absurd rfl h
  | cons y r => rfl
theorem logs_end {n : Nat} {x : Cf} (h : T n x = [x]) : logs n x = [] := by unfold logs; rw [h]; rfl
theorem logs_cons {n m : Nat} {x y : Cf} (h : T n x = x :: T m y) : logs n x = x.lg ++ logs m y := by
  unfold logs
  rw [h, dl_cons (T_ne m y), List.flatMap_cons]
theorem lg_le (x : Cf) : x.lg.length ≤ 1 := by unfold Cf.lg; split <;> simp
theorem oIadd_log (l : List (Int × Int)) (p : Int × Int) (S : Store) (h : l.length ≤ 1000) : oIadd (.d (logE l)) (.d (.tup [lgP p])) S = some (.ok (.d (logE (l ++ [p]))), S) := by
  rw [logE, oIadd_tup _ _ _ (sl (by simp; omega))]
  simp [logE]
theorem log_loop (k : Nat) (S : Store) (e0 e1 : Option Val) : ∀ n x, Gd n x → ∀ (lg : List (Int × Int)) (e5 : Option Val), lg.length + Tc.dcs x.b + 25 * n ≤ 1000 → ∃ y m e5', lastC n x = some y ∧ n = m + cnt ((T n x).dropLast) ∧
    sWhile (gAnd (fT (fBin oGt (fCall oLen (fCons (fBin oIx (fVar 3) (fC (.int 0))) (fNil))) (fC (.int 0)))) (gNot (gAnd (fT (fCall (ck 1 (prog (k + 5) .f_takes_turn_steps)) (fCons (fVar 3) (fNil)))) (fT (fBin (oEq false) (fVar 2) (fC (.int 0))))))) (b_logged_1 (prog (k + 5))) [e0, e1, some (.d (.int (n : Nat))), some (.d x.enc), some (.d (logE lg)), e5] S = some (.nx, [e0, e1, some (.d (.int (m : Nat))), some (.d y.enc), some (.d (logE (lg ++ logs n x))), e5'], S) := by
  have i0 : ∀ x : Cf, oIx (.d x.enc) (.d (.int 0)) S = some (.ok (.d (blkE x.b)), S) := fun x => rfl
  have i1 : ∀ x : Cf, oIx (.d x.enc) (.d (.int 1)) S = some (.ok (.d (stE x.s)), S) := fun x => rfl
  have hl : ∀ b : List Tc, oLen [.d (blkE b)] S = some (.ok (.d (.int (b.length : Nat))), S) := fun b => by rw [blkE, oLen_tup, encs_map, List.length_map]
  refine cf_ind ?_ ?_ ?_ ?_
  · intro n x h hb lg e5 hl'
    refine ⟨x, n, e5, by unfold lastC; rw [T_end hb]; rfl, by rw [T_end hb]; rfl, ?_⟩
    rw [logs_end (T_end hb), List.append_nil]
    refine sWhile_f ?_
    simp [i0, hl, hb]
  · intro x h ht lg e5 hl'
    have e1' := takes_ok (k + 4) x S
    rw [ht] at e1'
    refine ⟨x, 0, e5, by unfold lastC; rw [T_stop ht]; rfl, by rw [T_stop ht]; rfl, ?_⟩
    rw [logs_end (T_stop ht), List.append_nil]
    refine sWhile_f ?_
    have hp : (0 : Int) < (x.b.length : Nat) := by have := List.length_pos_iff.mpr (tt_ne ht); omega
    have z : (((0 : Nat) : Int) = 0) := rfl
    simp [i0, hl, hp, e1']
  · intro m x h ht g ih lg e5 hl'
    obtain ⟨_, hlt⟩ := nx_turn h ht
    have e1' := takes_ok (k + 4) x S
    have e2' := step_ok k h (tt_ne ht) S
    rw [ht] at e1'
    obtain ⟨t, r, e, a, hx⟩ : ∃ t r e a, x.b = t :: r ∧ t = Tc.whl e a := by
      obtain ⟨b, s, o⟩ := x
      cases b with
      | nil => cases ht
      | cons t r =>
        cases t with
        | whl e a => exact ⟨_, _, _, _, rfl, rfl⟩
        | _ => cases ht
    have hlg : x.lg = [] := by unfold Cf.lg; rw [hx.1, hx.2]
    have hp : (0 : Int) < (x.b.length : Nat) := by have := List.length_pos_iff.mpr (tt_ne ht); omega
    have hz : ¬ (((m + 1 : Nat) : Int) = 0) := by omega
    have hz2 : (((m + 1 : Nat) : Int) - 1) = (m : Nat) := by omega
    obtain ⟨y, m', e5', a1, a2, a3⟩ := ih lg (some (.d t.enc)) (by omega)
    refine ⟨y, m', e5', by unfold lastC; rw [T_turn h ht, last_cons (T_ne _ _)]; exact a1, by rw [T_turn h ht, dl_cons (T_ne _ _), cnt_t ht]; omega, ?_⟩
    rw [logs_cons (T_turn h ht), hlg, List.nil_append]
    have j0 : oIx (.d (blkE x.b)) (.d (.int 0)) S = some (.ok (.d t.enc), S) := by rw [hx.1, blkE, Tc.encs, oIx_tup, atI_0]; rfl
    have j1 : oIx (.d t.enc) (.d (.int 0)) S = some (.ok (.d (.str "while")), S) := by rw [hx.2]; rfl
    refine sWhile_t (S1 := S) (S2 := S) (env2 := [e0, e1, some (.d (.int (m : Nat))), some (.d x.nx.enc), some (.d (logE lg)), some (.d t.enc)]) ?_ ?_ a3
    · generalize ((m + 1 : Nat) : Int) = z at hz hz2 ⊢
      simp [i0, hl, tt_ne ht, e1', hz]
    · generalize ((m + 1 : Nat) : Int) = z at hz hz2 ⊢
      simp (decide := true) [b_logged_1, e1', hz2, i0, j0, j1, e2']
  · intro n x h hb ht g ih lg e5 hl'
    obtain ⟨_, hlt⟩ := nx_go h hb ht
    have e1' := takes_ok (k + 4) x S
    have e2' := step_ok k h hb S
    rw [ht] at e1'
    have hp : (0 : Int) < (x.b.length : Nat) := by have := List.length_pos_iff.mpr hb; omega
    obtain ⟨t, r, hx⟩ : ∃ t r, x.b = t :: r := by
      cases hh : x.b with
      | nil => exact absurd hh hb
      | cons t r => exact ⟨_, _, rfl⟩
    have hll := lg_le x
    obtain ⟨y, m', e5', a1, a2, a3⟩ := ih (lg ++ x.lg) (some (.d t.enc)) (by rw [List.length_append]; omega)
    refine ⟨y, m', e5', by unfold lastC; rw [T_go h hb ht, last_cons (T_ne _ _)]; exact a1, by rw [T_go h hb ht, dl_cons (T_ne _ _), cnt_f ht]; omega, ?_⟩
    rw [logs_cons (T_go h hb ht), ← List.append_assoc]
    have j0 : oIx (.d (blkE x.b)) (.d (.int 0)) S = some (.ok (.d t.enc), S) := by rw [hx, blkE, Tc.encs, oIx_tup, atI_0]; rfl
    refine sWhile_t (S1 := S) (S2 := S) (env2 := [e0, e1, some (.d (.int (n : Nat))), some (.d x.nx.enc), some (.d (logE (lg ++ x.lg))), some (.d t.enc)]) ?_ ?_ a3
    · simp [i0, hl, hb, e1']
    · cases t with
      | set i e =>
        have hw := h.d.wf
        rw [hx, Tc.wfs, Tc.wf] at hw
        have i2 := ix_st h.s hw.1.1.1 hw.1.1.2 S
        have hlg : x.lg = [(i, x.s.getD i.toNat 0)] := by unfold Cf.lg; rw [hx]
        have q := oIadd_log lg (i, x.s.getD i.toNat 0) S (by omega)
        rw [hlg]
        simp only [lgP] at q
        generalize x.s.getD i.toNat 0 = v at i2 q ⊢
        rw [Tc.enc] at j0 ⊢
        simp (decide := true) [b_logged_1, e1', i0, i1, j0, e2', i2, q]
      | whl e a =>
        obtain ⟨b, s, o⟩ := x
        simp only at hx
        subst hx
        cases ht
      | tell e =>
        have hlg : x.lg = [] := by unfold Cf.lg; rw [hx]
        rw [hlg, List.append_nil]
        rw [Tc.enc] at j0 ⊢
        simp (decide := true) [b_logged_1, e1', i0, j0, e2']
      | ite e p q =>
        have hlg : x.lg = [] := by unfold Cf.lg; rw [hx]
        rw [hlg, List.append_nil]
        rw [Tc.enc] at j0 ⊢
        simp (decide := true) [b_logged_1, e1', i0, j0, e2']
theorem logged_ok (k : Nat) {n : Nat} {b : List Tc} {s : List Int} (h : Gd n ⟨b, s, []⟩) (S : Store) : ∃ y m, lastC n ⟨b, s, []⟩ = some y ∧ n = m + cnt ((T n ⟨b, s, []⟩).dropLast) ∧ prog (k + 6) .f_logged [.d (blkE b), .d (stE s), .d (.int (n : Nat))] S = some (.ok (.d (.tup [y.enc, logE (logs n ⟨b, s, []⟩), .int (m : Nat)])), S) := by
  have hb := h.bud
  simp only at hb
  obtain ⟨y, m, e5', a1, a2, a3⟩ := log_loop k S (some (.d (blkE b))) (some (.d (stE s))) n _ h [] none (by simp only [List.length_nil]; omega)
  refine ⟨y, m, a1, a2, ?_⟩
  rw [show k + 6 = k + 5 + 1 from rfl, prog_succ]
  show fnM 3 6 true (m_logged (prog (k + 5))) [_, _, _] S = _
  refine fnM_same (env := [some (.d (blkE b)), some (.d (stE s)), some (.d (.int (m : Nat))), some (.d y.enc), some (.d (logE ([] ++ logs n ⟨b, s, []⟩))), e5']) rfl ?_
  unfold m_logged
  refine sSeq_nx (env' := [some (.d (blkE b)), some (.d (stE s)), some (.d (.int (n : Nat))), some (.d (Cf.enc ⟨b, s, []⟩)), none, none]) (S' := S) (by simp [envOf, Cf.enc, tolE]) ?_
  refine sSeq_nx (env' := [some (.d (blkE b)), some (.d (stE s)), some (.d (.int (n : Nat))), some (.d (Cf.enc ⟨b, s, []⟩)), some (.d (logE [])), none]) (S' := S) (by simp [logE]) ?_
  refine sSeq_nx a3 ?_
  rw [List.nil_append]
  simp
/-! ### taken back -/
def back (lg : List (Int × Int)) (s : List Int) : List Int := lg.foldr (fun p s => s.set p.1.toNat p.2) s
def okP (p : Int × Int) : Prop := (0 ≤ p.1 ∧ p.1 < 4) ∧ Rg p.2
theorem islog_ok (k : Nat) {lg : List (Int × Int)} (h : ∀ p ∈ lg, okP p) (hl : lg.length ≤ 1000) (S : Store) : prog (k + 3) .f_is_log [.d (logE lg)] S = some (.ok (.d (.bl true)), S) := by
  have w := fun {v lo hi : Int} (a : lo ≤ v) (b : v ≤ hi) => from_ok k a b S
  rw [show k + 3 = k + 2 + 1 from rfl, prog_succ]
  show fnM 1 4 true (m_is_log (prog (k + 2))) [_] S = _
  generalize prog (k + 2) = c at w
  refine fnM_same (env := [some (.d (logE lg)), none, none, none]) rfl ?_
  have e := all_lc (fi := fSeq (fVar 0)) (gt := gN 1) (f := fAnd (fIsa "tuple" (fVar 1)) (fBin (oEq false) (fCall oLen (fCons (fVar 1) (fNil))) (fC (.int 2)))) (vs := [1]) (env := [some (.d (logE lg)), none, none, none]) (S := S) lgP lg (by simp [logE]) (sl (by omega)) (fun p hp => ⟨_, rfl, by simp [lgP]⟩)
  have e2 := all_lc (fi := fSeq (fVar 0)) (gt := gT [2, 3]) (f := fAnd (fCall (ck 3 (c .f_is_from)) (fCons (fVar 2) (fCons (fC (.int 0)) (fCons (fC (.int 3)) (fNil))))) (fCall (ck 3 (c .f_is_from)) (fCons (fVar 3) (fCons (fC (.int 0)) (fCons (fBin oSub (fC k_SIZE) (fC (.int 1))) (fNil)))))) (vs := [2, 3]) (env := [some (.d (logE lg)), none, none, none]) (S := S) lgP lg (by simp [logE]) (sl (by omega)) (fun p hp => by
    obtain ⟨⟨h1, h2⟩, h3, h4⟩ := h p hp
    have w1 := w (v := p.1) (lo := 0) (hi := 3) h1 (by omega)
    have w2 := w (v := p.2) (lo := 0) (hi := 999) h3 (by omega)
    exact ⟨_, rfl, by simp (decide := true) [k_SIZE, w1, w2]⟩)
  unfold m_is_log
  generalize fCall oAll (fCons (fFrz (fLc (fSeq (fVar 0)) (gN 1) (gYes) (fAnd (fIsa "tuple" (fVar 1)) (fBin (oEq false) (fCall oLen (fCons (fVar 1) (fNil))) (fC (.int 2)))) [1])) (fNil)) = F at e ⊢
  generalize fCall oAll (fCons (fFrz (fLc (fSeq (fVar 0)) (gT [2, 3]) (gYes) (fAnd (fCall (ck 3 (c .f_is_from)) (fCons (fVar 2) (fCons (fC (.int 0)) (fCons (fC (.int 3)) (fNil))))) (fCall (ck 3 (c .f_is_from)) (fCons (fVar 3) (fCons (fC (.int 0)) (fCons (fBin oSub (fC k_SIZE) (fC (.int 1))) (fNil)))))) [2, 3])) (fNil)) = F2 at e2 ⊢
  have hty : tyD (.d (logE lg)) S = some "tuple" := rfl
  generalize logE lg = V at *
  simp [envOf, hty, e, e2]
theorem back_loop (k : Nat) {lg : List (Int × Int)} (h : ∀ p ∈ lg, okP p) {s0 s : List Int} (hs : okS s) (S : Store) (e1 e2 e3 e4 : Option Val) : ∃ e3' e4', forL (gT [3, 4]) (b_taken_back_1 (prog (k + 1))) ((lg.map lgP).map Val.d) [some (.d (stE s)), e1, e2, e3, e4] S = some (.nx, [some (.d (stE (lg.foldl (fun s p => s.set p.1.toNat p.2) s))), e1, e2, e3', e4'], S) := by
  obtain ⟨env', S', g1, g2⟩ := forL_run (gt := gT [3, 4]) (body := b_taken_back_1 (prog (k + 1))) lgP (fun done env S' => S' = S ∧ ∃ s1 e3 e4, s1 = done.foldl (fun s p => s.set p.1.toNat p.2) s ∧ okS s1 ∧ env = [some (.d (stE s1)), e1, e2, e3, e4]) lg
    (by
      rintro done p rest env S' he ⟨rfl, s1, e3, e4, hs1, ok1, rfl⟩
      have hp : okP p := h p (by rw [← he]; simp)
      have w := with_ok k ok1 (i := p.1) (v := p.2) hp.1.1 hp.1.2 S'
      refine ⟨_, [some (.d (stE (s1.set p.1.toNat p.2))), e1, e2, some (.d (.int p.1)), some (.d (.int p.2))], S', rfl, ?_, rfl, s1.set p.1.toNat p.2, _, _, by rw [List.foldl_append, ← hs1]; rfl, ok1.set hp.2 _, rfl⟩
      simp [b_taken_back_1, w]) lg [] [some (.d (stE s)), e1, e2, e3, e4] S rfl ⟨rfl, s, e3, e4, rfl, hs, rfl⟩
  obtain ⟨rfl, s1, e3', e4', rfl, _, rfl⟩ := g2
  exact ⟨e3', e4', g1⟩
theorem back_ok (k : Nat) {lg : List (Int × Int)} (h : ∀ p ∈ lg, okP p) (hl : lg.length ≤ 1000) {s : List Int} (hs : okS s) {q : Nat} (hq : q ≤ lg.length) (S : Store) : prog (k + 4) .f_taken_back [.d (stE s), .d (logE lg), .d (.int (q : Nat))] S = some (.ok (.d (stE (back (lg.drop (lg.length - q)) s))), S) := by
  have w1 := isstore_ok k hs S
  have w2 := islog_ok k h hl S
  have w3 := from_ok (k + 1) (v := (q : Nat)) (lo := 0) (hi := (lg.length : Nat)) (by omega) (by omega) S
  replace w3 : prog (k + 3) .f_is_from [.d (.int (q : Nat)), .d (.int 0), .d (.int (lg.length : Nat))] S = some (.ok (.d (.bl true)), S) := w3
  obtain ⟨e3', e4', g⟩ := back_loop (k + 2) (lg := (lg.drop (lg.length - q)).reverse) (fun p hp => h p (List.mem_of_mem_drop (List.mem_reverse.mp hp))) (s0 := s) hs S (some (.d (logE lg))) (some (.d (.int (q : Nat)))) none none
  replace g : forL (gT [3, 4]) (b_taken_back_1 (prog (k + 3))) (((lg.drop (lg.length - q)).reverse.map lgP).map Val.d) [some (.d (stE s)), some (.d (logE lg)), some (.d (.int (q : Nat))), none, none] S = _ := g
  rw [List.foldl_reverse] at g
  rw [show k + 4 = k + 3 + 1 from rfl, prog_succ]
  show fnM 3 5 true (m_taken_back (prog (k + 3))) [_, _, _] S = _
  generalize prog (k + 3) = c at w1 w2 w3 g
  refine fnM_same (env := [some (.d (stE (back (lg.drop (lg.length - q)) s))), some (.d (logE lg)), some (.d (.int (q : Nat))), e3', e4']) rfl ?_
  have hln : oLen [.d (logE lg)] S = some (.ok (.d (.int (lg.length : Nat))), S) := by rw [logE, oLen_tup, List.length_map]
  unfold m_taken_back
  refine sSeq_nx (env' := [some (.d (stE s)), some (.d (logE lg)), some (.d (.int (q : Nat))), none, none]) (S' := S) ?_ ?_
  · refine sIf_f (S1 := S) ?_ rfl
    simp [envOf, w1, w2, w3, hln]
  refine sSeq_nx (env' := [some (.d (stE (back (lg.drop (lg.length - q)) s))), some (.d (logE lg)), some (.d (.int (q : Nat))), e3', e4']) (S' := S) ?_ (by simp)
  rw [sFor_def]
  have e : fSeq (fRev (fSl (fVar 1) (fPart (fBin oSub (fCall oLen (fCons (fVar 1) (fNil))) (fVar 2))) (fNo))) [some (.d (stE s)), some (.d (logE lg)), some (.d (.int (q : Nat))), none, none] S = some (.ok (((lg.drop (lg.length - q)).reverse.map lgP).map Val.d), S) := by
    have e1 : fSl (fVar 1) (fPart (fBin oSub (fCall oLen (fCons (fVar 1) (fNil))) (fVar 2))) (fNo) [some (.d (stE s)), some (.d (logE lg)), some (.d (.int (q : Nat))), none, none] S = some (.ok (.d (.tup ((lg.drop (lg.length - q)).map lgP))), S) := by
      have hc : ((lg.length : Nat) : Int) - (q : Nat) = ((lg.length - q : Nat) : Int) := by omega
      have hsl : oSl (.d (logE lg)) (some ((lg.length - q : Nat) : Int)) none S = some (.ok (.d (.tup ((lg.drop (lg.length - q)).map lgP))), S) := by
        rw [logE, oSl_tup, cutL_map, cutL_fr]
      simp [hln, hc, hsl]
    have e2 : fRev (fSl (fVar 1) (fPart (fBin oSub (fCall oLen (fCons (fVar 1) (fNil))) (fVar 2))) (fNo)) [some (.d (stE s)), some (.d (logE lg)), some (.d (.int (q : Nat))), none, none] S = some (.ok (.d (.tup ((lg.drop (lg.length - q)).map lgP).reverse)), S) := by
      show bnd _ _ S = _
      rw [bnd_def, e1]; rfl
    rw [fSeq_def, bnd_def, e2, ← List.map_reverse]
    rfl
  rw [e]
  exact g
theorem back_app (a b : List (Int × Int)) (s : List Int) : back (a ++ b) s = back a (back b s) := by unfold back; rw [List.foldr_append]
theorem lg_back {n : Nat} {x : Cf} (h : Gd n x) : back x.lg x.nx.s = x.s := by
  obtain ⟨b, s, o⟩ := x
  cases b with
  | nil => rfl
  | cons t r =>
    cases t with
    | set i e =>
      show (s.set i.toNat (e.val s)).set i.toNat (s.getD i.toNat 0) = s
      rw [List.set_set]
      have hw := h.d.wf
      simp only [Tc.wfs, Tc.wf] at hw
      have hl : i.toNat < s.length := by rw [h.s.len]; have := hw.1.1.1; have := hw.1.1.2; omega
      rw [List.getD_eq_getElem?_getD, List.getElem?_eq_getElem hl, Option.getD_some, List.set_getElem_self]
    | tell e => rfl
    | ite e p q => rfl
    | whl e p => rfl
theorem logs_back : ∀ n x, Gd n x → ∀ y, lastC n x = some y → back (logs n x) y.s = x.s := by
  refine cf_ind ?_ ?_ ?_ ?_
  · intro n x h hb y hy
    unfold lastC at hy
    rw [T_end hb] at hy; cases hy
    rw [logs_end (T_end hb)]; rfl
  · intro x h ht y hy
    unfold lastC at hy
    rw [T_stop ht] at hy; cases hy
    rw [logs_end (T_stop ht)]; rfl
  · intro m x h ht g ih y hy
    unfold lastC at hy
    rw [T_turn h ht, last_cons (T_ne _ _)] at hy
    rw [logs_cons (T_turn h ht), back_app, ih y hy, lg_back h]
  · intro n x h hb ht g ih y hy
    unfold lastC at hy
    rw [T_go h hb ht, last_cons (T_ne _ _)] at hy
    rw [logs_cons (T_go h hb ht), back_app, ih y hy, lg_back h]
theorem lg_ok {n : Nat} {x : Cf} (h : Gd n x) : ∀ p ∈ x.lg, okP p := by
  intro p hp
  obtain ⟨b, s, o⟩ := x
  cases b with
  | nil => cases hp
  | cons t r =>
    cases t with
    | set i e =>
      have hw := h.d.wf
      simp only [Tc.wfs, Tc.wf] at hw
      rw [List.mem_singleton.mp hp]
      obtain ⟨_, _, _, h3⟩ := h.s.at hw.1.1.1 hw.1.1.2
      exact ⟨hw.1.1, h3⟩
    | tell e => cases hp
    | ite e p q => cases hp
    | whl e p => cases hp
theorem logs_ok {n : Nat} {x : Cf} (h : Gd n x) : ∀ p ∈ logs n x, okP p := by
  intro p hp
  obtain ⟨y, hy, hp⟩ := List.mem_flatMap.mp hp
  obtain ⟨m, _, g⟩ := T_gd n x h y (List.dropLast_subset _ hy)
  exact lg_ok g p hp
theorem fm_len (l : List Cf) : (l.flatMap Cf.lg).length ≤ l.length := by
  induction l with
  | nil => simp
  | cons x r ih => have := lg_le x; rw [List.flatMap_cons, List.length_append, List.length_cons]; omega
def Cf.isS (x : Cf) : Bool := match x.b with
  | .set _ _ :: _ => true
  | _ => false
theorem fm_isS (l : List Cf) : (l.flatMap Cf.lg).length = (l.filter Cf.isS).length := by
  induction l with
  | nil => rfl
  | cons x r ih =>
    rw [List.flatMap_cons, List.length_append, ih]
    obtain ⟨b, s, o⟩ := x
    cases b with
    | nil => rw [List.filter_cons_of_neg (by simp [Cf.isS])]; simp [Cf.lg]
    | cons t q =>
      cases t with
      | set i e => rw [List.filter_cons_of_pos (by rfl)]; simp [Cf.lg]; omega
      | tell e => rw [List.filter_cons_of_neg (by simp [Cf.isS])]; simp [Cf.lg]
      | ite e p q => rw [List.filter_cons_of_neg (by simp [Cf.isS])]; simp [Cf.lg]
      | whl e p => rw [List.filter_cons_of_neg (by simp [Cf.isS])]; simp [Cf.lg]
theorem dl_split {α : Type} {l : List α} {j : Nat} (h : j < l.length) : l.dropLast = l.take j ++ (l.drop j).dropLast := by
  have e : l.drop j ≠ [] := by intro e; have := congrArg List.length e; simp at this; omega
  conv => lhs; rw [← List.take_append_drop j l]
  rw [List.dropLast_append_of_ne_nil e]
/-- the suffix of the log -/
theorem logs_drop {n m : Nat} {x y : Cf} {j : Nat} (hj : j < (T n x).length) (d : (T n x).drop j = T m y) : (logs n x).drop (((T n x).take j).filter Cf.isS).length = logs m y ∧ (((T n x).take j).filter Cf.isS).length ≤ (logs n x).length := by
  have e : logs n x = ((T n x).take j).flatMap Cf.lg ++ logs m y := by
    unfold logs
    rw [dl_split hj, List.flatMap_append, d]
  rw [← fm_isS, e, List.drop_left, List.length_append]
  exact ⟨rfl, by omega⟩
end Y

set_option Elab.async false
set_option linter.all false
set_option maxRecDepth 100000
set_option maxHeartbeats 4000000
namespace Y
open PySem PySem.Spec L2
/-! ### parts of the law -/
@[simp] theorem sPar3_def (i j l : Nat) (fs : FA) (env : Env) (S : Store) : sPar3 i j l fs env S = bS (fs env S) env fun xs S' => match xs with
  | [x, y, z] => some (.nx, ((env.set i (some x)).set j (some y)).set l (some z), S')
  | _ => none := rfl
@[simp] theorem sk_end : PyData.strOk ("end" : Str) = true := by decide +kernel
@[simp] theorem sk_going : PyData.strOk ("going" : Str) = true := by decide +kernel
theorem filt_ok {fi : FA} {gc : FB} {v : Nat} {env : Env} {S : Store} (L : List Cf) (p : Cf → Bool) (hi : fi env S = some (.ok ((L.map Cf.enc).map Val.d), S)) (hl : L.length ≤ 1000000) (hv : v < env.length)
    (H : ∀ x ∈ L, gc ((env.set v none).set v (some (.d x.enc))) S = some (.ok (p x), S)) : fCall oLen (fCons (fFrz (fLc fi (gN v) gc (fVar v) [v])) fNil) env S = some (.ok (.d (.int ((L.filter p).length : Nat))), S) := by
  rw [fCall_def, bnd_def, fCons_def, bnd_def, fFrz_def, bnd_def, fLc_pure (gt := gN v) (gc := gc) (f := fVar v) (vs := [v]) Cf.enc Cf.enc p L hi (sl (by omega)) (fun x hx => ⟨_, rfl, H x hx, fun _ => by
    rw [fVar_def, List.getElem?_set_self (by simpa using hv)]; rfl⟩)]
  dsimp only
  rw [frz_map]
  simp
theorem sl_to (L : List Cf) (j : Nat) (S : Store) : oSl (.d (cfsL L)) none (some (j : Int)) S = some (.ok (.d (cfsL (L.take j))), S) := by
  show frz (cutL ((L.map Cf.enc).map Val.d) none (some (j : Int))) S = _
  rw [cutL_map, cutL_map, cutL_to]
  exact frz_map _ _
theorem sl_fr (L : List Cf) (j : Nat) (S : Store) : oSl (.d (cfsL L)) (some (j : Int)) none S = some (.ok (.d (cfsL (L.drop j))), S) := by
  show frz (cutL ((L.map Cf.enc).map Val.d) (some (j : Int)) none) S = _
  rw [cutL_map, cutL_map, cutL_fr]
  exact frz_map _ _
theorem sl_dl (L : List Cf) (S : Store) : oSl (.d (cfsL L)) none (some (-1)) S = some (.ok (.d (cfsL L.dropLast)), S) := by
  show frz (cutL ((L.map Cf.enc).map Val.d) none (some (-1))) S = _
  rw [cutL_map, cutL_map, cutL_toLast]
  exact frz_map _ _
theorem fz_cfl (L : List Cf) : fzV (.d (cfsL L)) = some ((L.map Cf.enc).map Val.d) := rfl
theorem len_cfl (L : List Cf) (S : Store) : oLen [.d (cfsL L)] S = some (.ok (.d (.int (L.length : Nat))), S) := by rw [cfsL, oLen_lst, List.length_map]
theorem tup_cfl (L : List Cf) (S : Store) : oTuple [.d (cfsL L)] S = some (.ok (.d (cfsE L)), S) := oTuple_lst _ S
theorem ix_last {L : List Cf} {y : Cf} (h : L.getLast? = some y) (S : Store) : oIx (.d (cfsL L)) (.d (.int (-1))) S = some (.ok (.d y.enc), S) := by
  rw [cfsL, oIx_lst, atI_last, List.getLast?_map, List.getLast?_map, h]; rfl
theorem len_tol (o : List Int) (S : Store) : oLen [.d (tolE o)] S = some (.ok (.d (.int (o.length : Nat))), S) := by rw [tolE, oLen_tup, List.length_map]
theorem sl_tol (o : List Int) (j : Nat) (S : Store) : oSl (.d (tolE o)) (some (j : Int)) none S = some (.ok (.d (tolE (o.drop j))), S) := by
  rw [tolE, oSl_tup, cutL_map, cutL_fr]; rfl
theorem len_log (l : List (Int × Int)) (S : Store) : oLen [.d (logE l)] S = some (.ok (.d (.int (l.length : Nat))), S) := by rw [logE, oLen_tup, List.length_map]
theorem pl_tol {n : Nat} {x : Cf} (h : Gd n x) : Pl 1 (tolE x.o) := pl_ints (by have := h.bud; omega)
theorem pl_st {n : Nat} {x : Cf} (h : Gd n x) : Pl 1 (stE x.s) := pl_ints (by have := h.s.len; omega)
theorem pl_res {n : Nat} {x : Cf} (h : Gd n x) : Pl 2 (resE x) := by
  unfold resE
  split
  · refine ⟨by simp, ?_⟩
    simp
    exact ⟨pl_str sk_end 1, pl_st h, pl_tol h⟩
  · refine ⟨by simp, ?_⟩
    simp
    exact ⟨pl_str sk_going 1, pl_tol h⟩
theorem pl_cfl {n : Nat} {x : Cf} (h : Gd n x) : Pl 13 (cfsL (T n x)) := by
  have hl := T_len 0 n x h
  have hb := h.bud
  refine ⟨by rw [List.length_map]; omega, fun d hd => ?_⟩
  obtain ⟨y, hy, rfl⟩ := List.mem_map.mp hd
  obtain ⟨m, _, g⟩ := T_gd n x h y hy
  exact pl_cf g
/-- what the law says is due -/
theorem due_ok {m : Nat} {z y : Cf} (h : Gd m z) (hy : lastC m z = some y) : ∃ y0, lastC m ⟨z.b, z.s, []⟩ = some y0 ∧ Gd m ⟨z.b, z.s, []⟩ ∧ y.b = y0.b ∧ y.s = y0.s ∧ y.o.drop z.o.length = y0.o ∧ T m z = (T m ⟨z.b, z.s, []⟩).map (pre z.o) := by
  have ez : z = pre z.o ⟨z.b, z.s, []⟩ := by unfold pre; simp
  have eT := T_pre z.o m ⟨z.b, z.s, []⟩
  rw [← ez] at eT
  have g : Gd m ⟨z.b, z.s, []⟩ := ⟨h.d, h.s, fun v hv => (by cases hv), by have := h.bud; simp only [List.length_nil]; omega⟩
  obtain ⟨y0, _, hy0, _⟩ := T_last m _ g
  have e2 : lastC m z = some (pre z.o y0) := by
    unfold lastC at hy0 ⊢
    rw [eT, List.getLast?_map, hy0]; rfl
  rw [hy] at e2
  cases e2
  exact ⟨y0, hy0, g, rfl, rfl, by unfold pre; simp, eT⟩
theorem cnt_take (L : List Cf) : ∀ j, j < L.length → (L.take (j + 1)).dropLast = L.take j ∧ ((L.take (j + 1)).drop 1).length = j ∧ (L.take (j + 1)).getLast? = L[j]? := by
  intro j hj
  refine ⟨?_, ?_, ?_⟩
  · rw [List.dropLast_eq_take, List.length_take, List.take_take]; congr 1; omega
  · rw [List.length_drop, List.length_take]; omega
  · rw [List.getLast?_eq_getElem?, List.length_take, List.getElem?_take, if_pos (by omega)]; congr 1; omega
theorem take_ne {n : Nat} {x : Cf} (h : Gd n x) {j : Nat} (hj : j < (T n x).length) : ∀ y ∈ (T n x).take j, y.b ≠ [] := by
  intro y hy
  obtain ⟨i, hi, rfl⟩ := List.mem_iff_getElem.mp hy
  rw [List.length_take] at hi
  obtain ⟨y', m, a, g, e, f⟩ := T_next (i := i) h (by omega)
  rw [List.getElem_take]
  rw [List.getElem?_eq_getElem (by omega)] at a
  cases a
  exact e
theorem head_tag {x : Cf} (h : x.b ≠ []) (S : Store) : ∃ (t : D) (w : Str), PyData.strOk w = true ∧ oIx (.d x.enc) (.d (.int 0)) S = some (.ok (.d (blkE x.b)), S) ∧ oIx (.d (blkE x.b)) (.d (.int 0)) S = some (.ok (.d t), S) ∧ oIx (.d t) (.d (.int 0)) S = some (.ok (.d (.str w)), S) ∧ decide (w = ("set" : Str)) = x.isS := by
  obtain ⟨b, s, o⟩ := x
  cases b with
  | nil => exact absurd rfl h
  | cons t r =>
    have j0 : oIx (.d (blkE (t :: r))) (.d (.int 0)) S = some (.ok (.d t.enc), S) := by rw [blkE, Tc.encs, oIx_tup, atI_0]; rfl
    cases t with
    | set i e => exact ⟨_, "set", sk_set, rfl, j0, by rw [Tc.enc]; rfl, by simp [Cf.isS]⟩
    | tell e => exact ⟨_, "tell", sk_tell, rfl, j0, by rw [Tc.enc]; rfl, by simp (decide := true) [Cf.isS]⟩
    | ite e p q => exact ⟨_, "if", sk_if, rfl, j0, by rw [Tc.enc]; rfl, by simp (decide := true) [Cf.isS]⟩
    | whl e p => exact ⟨_, "while", sk_while, rfl, j0, by rw [Tc.enc]; rfl, by simp (decide := true) [Cf.isS]⟩
end Y

set_option Elab.async false
set_option linter.all false
set_option maxRecDepth 100000
set_option maxHeartbeats 8000000
namespace Y
open PySem PySem.Spec L2
theorem lawok : ∀ ns : List Int, ns.length ≤ 63 → ∃ S, prog (114 + 1) .f_law [.d (.ro ns)] [] = some (.ok (.d (.bl true)), S) := by
  intro ns _
  obtain ⟨S1, h1, e1⟩ := pool_ok 113 ns
  obtain ⟨S2, ts, h2, t0, t1, t2, e2⟩ := program_ok 96 h1
  obtain ⟨S3, s, h3, t3, e3⟩ := store_ok 111 h2
  obtain ⟨S4, v, h4, v1, v2, e4⟩ := draw_ok 112 h3 10 (by decide) (by decide)
  obtain ⟨n, rfl⟩ := Int.eq_ofNat_of_zero_le v1
  replace e1 : prog 114 .f_law_pool [.d (.ro ns)] [] = some (.ok (.r 0), S1) := e1
  replace e2 : prog 114 .f_law_program [.r 0] S1 = some (.ok (.d (blkE ts)), S2) := e2
  replace e3 : prog 114 .f_law_store [.r 0] S2 = some (.ok (.d (stE s)), S3) := e3
  replace e4 : prog 114 .f_law_draw [.r 0, .d (.int 10)] S3 = some (.ok (.d (.int (n : Nat))), S4) := e4
  have okd : okD 300 ts := ⟨t1.2.2, t1.1, t1.2.1, fun t ht => by have := dc_mem ht; omega, by omega⟩
  have h : Gd n ⟨ts, s, []⟩ := ⟨okd, t3, fun v hv => (by cases hv), by simp only [List.length_nil]; omega⟩
  have hlen := T_len 0 n _ h
  simp only at hlen
  have hpos : 0 < (T n ⟨ts, s, []⟩).length := by obtain ⟨l, e⟩ := T_0 n ⟨ts, s, []⟩; rw [e]; simp
  obtain ⟨y, mm, hy, hmm, gy, hlast⟩ := T_last n _ h
  obtain ⟨S5, v, h5, u1, u2, e5⟩ := draw_ok 112 h4 (((T n ⟨ts, s, []⟩).length : Nat) : Int) (by omega) (by omega)
  obtain ⟨j, rfl⟩ := Int.eq_ofNat_of_zero_le u1
  replace e5 : prog 114 .f_law_draw [.r 0, .d (.int ((T n ⟨ts, s, []⟩).length : Nat))] S4 = some (.ok (.d (.int (j : Nat))), S5) := e5
  have hj : j < (T n ⟨ts, s, []⟩).length := by omega
  obtain ⟨z, m, hz, hnm, gz, hdrop⟩ := T_drop n _ h j hj
  have hyz : lastC m z = some y := by rw [lastC_drop hj hdrop]; exact hy
  obtain ⟨y0, hy0, g0, d1, d2, d3, d4⟩ := due_ok gz hyz
  obtain ⟨_, _, gy0⟩ := last_gd g0 hy0
  obtain ⟨k1, k2, k3⟩ := cnt_take (T n ⟨ts, s, []⟩) j hj
  obtain ⟨q1, q2⟩ := logs_drop hj hdrop
  have q3 := logs_back n _ h y hy
  have q4 := logs_back m z gz y hyz
  have q5 := fm_len (T n ⟨ts, s, []⟩).dropLast
  have q6 : (logs n ⟨ts, s, []⟩).length ≤ 1000 := by
    rw [List.length_dropLast] at q5
    unfold logs
    omega
  have f5 : prog 114 .f_trace [.d (blkE ts), .d (stE s), .d (.int (n : Nat))] S4 = some (.ok (.d (cfsL (T n ⟨ts, s, []⟩))), S4) := trace_ok 108 h S4
  have f6 : prog 114 .f_law_run [.d (blkE ts), .d (stE s), .d (.int (n : Nat))] S4 = some (.ok (.d (resE y)), S4) := lawrun_ok 94 h hy S4
  have f7 : prog 114 .f_fault_steps [.d (blkE ts), .d (stE s), .d (cfsE (T n ⟨ts, s, []⟩))] S4 = some (.ok (.d .non), S4) := fsteps_ok 96 h S4
  have ft : ∀ (x : Cf) (S : Store), prog 114 .f_takes_turn_steps [.d x.enc] S = some (.ok (.d (.bl x.tt)), S) := fun x S => takes_ok 113 x S
  have fw : prog 114 .f_ways [] S5 = some (.ok (.d (.lst [.str "frames", .str "steps", .str "trees"])), S5) := ways_ok 113 S5
  have fr : ∀ w : Str, w = "frames" ∨ w = "steps" ∨ w = "trees" → prog 114 .f_run_way [.d (.str w), .d (blkE z.b), .d (stE z.s), .d (.int (m : Nat))] S5 = some (.ok (.d (resE y0)), S5) := fun w hw => way_ok 93 w hw g0 hy0 S5
  have fs : ∀ (x : D) (S : Store), Pl 14 x → prog 114 .f_law_same [.d x, .d x] S = some (.ok (.d (.bl true)), S) := fun x S hx => same_pl 14 99 x S hx
  have f14 : prog 114 .f_trace [.d (blkE z.b), .d (stE z.s), .d (.int (m : Nat))] S5 = some (.ok (.d (cfsL (T m ⟨z.b, z.s, []⟩))), S5) := trace_ok 108 g0 S5
  have f15 : oMake "Debugger" 3 (prog 114 .f_Debugger___init__) [.d (blkE ts), .d (stE s)] S5 = some (.ok (.r S5.length), DB S5 [⟨ts, s, []⟩]) := dbmk_ok 96 okd s S5
  have f16 : prog 114 .f_Debugger_forth [.r S5.length, .d (.int (j : Nat))] (DB S5 [⟨ts, s, []⟩]) = some (.ok (.d .non), DB S5 ((T n ⟨ts, s, []⟩).take (j + 1))) := dbforth_ok 108 h j hj S5
  have f17 : prog 114 .f_Debugger_state [.r S5.length] (DB S5 ((T n ⟨ts, s, []⟩).take (j + 1))) = some (.ok (.d z.enc), DB S5 ((T n ⟨ts, s, []⟩).take (j + 1))) := dbstate_ok 113 (k3.trans hz)
  have f18 : prog 114 .f_Debugger_turns [.r S5.length] (DB S5 ((T n ⟨ts, s, []⟩).take (j + 1))) = some (.ok (.d (.int (cnt ((T n ⟨ts, s, []⟩).take j) : Nat))), DB S5 ((T n ⟨ts, s, []⟩).take (j + 1))) := by
    have := dbturns_ok (S := S5) (l := (T n ⟨ts, s, []⟩).take (j + 1)) 112 (by rw [List.length_take]; omega)
    rw [k1] at this
    exact this
  have f19 : prog 114 .f_Debugger___len__ [.r S5.length] (DB S5 ((T n ⟨ts, s, []⟩).take (j + 1))) = some (.ok (.d (.int (j : Nat))), DB S5 ((T n ⟨ts, s, []⟩).take (j + 1))) := by
    have := dblen_ok (S := S5) (l := (T n ⟨ts, s, []⟩).take (j + 1)) 113
    rw [k2] at this
    exact this
  obtain ⟨SD, hSD⟩ : ∃ SD, SD = DB S5 ((T n ⟨ts, s, []⟩).take (j + 1)) := ⟨_, rfl⟩
  have f20 : prog 114 .f_logged [.d (blkE ts), .d (stE s), .d (.int (n : Nat))] SD = some (.ok (.d (.tup [y.enc, logE (logs n ⟨ts, s, []⟩), .int (mm : Nat)])), SD) := by
    obtain ⟨y', m', a1, a2, a3⟩ := logged_ok 108 h SD
    rw [hy] at a1
    cases a1
    rw [show mm = m' by omega]
    exact a3
  have f21 : prog 114 .f_taken_back [.d (stE y.s), .d (logE (logs n ⟨ts, s, []⟩)), .d (.int (((logs n ⟨ts, s, []⟩).length - (((T n ⟨ts, s, []⟩).take j).filter Cf.isS).length : Nat)))] SD = some (.ok (.d (stE z.s)), SD) := by
    have := back_ok 110 (logs_ok h) q6 gy.s (q := (logs n ⟨ts, s, []⟩).length - (((T n ⟨ts, s, []⟩).take j).filter Cf.isS).length) (by omega) SD
    rw [show (logs n ⟨ts, s, []⟩).length - ((logs n ⟨ts, s, []⟩).length - (((T n ⟨ts, s, []⟩).take j).filter Cf.isS).length) = (((T n ⟨ts, s, []⟩).take j).filter Cf.isS).length by omega, q1, q4] at this
    exact this
  have f22 : prog 114 .f_taken_back [.d (stE y.s), .d (logE (logs n ⟨ts, s, []⟩)), .d (.int ((logs n ⟨ts, s, []⟩).length : Nat))] SD = some (.ok (.d (stE s)), SD) := by
    have := back_ok 110 (logs_ok h) q6 gy.s (q := (logs n ⟨ts, s, []⟩).length) (by omega) SD
    rw [show (logs n ⟨ts, s, []⟩).length - (logs n ⟨ts, s, []⟩).length = 0 by omega, List.drop_zero, q3] at this
    exact this
  have f23 : y.b = [] → prog 114 .f_step_steps [.d y.enc] SD = some (.ok (.d .non), SD) := fun hb => step_nil 113 hb SD
  have f24 : y.b ≠ [] → prog 114 .f_step_steps [.d y.enc] SD = some (.ok (.d y.nx.enc), SD) := fun hb => step_ok 109 gy hb SD
  have ih : isI "Debugger" "forth" (.r S5.length) (DB S5 [⟨ts, s, []⟩]) = some (.ok (), DB S5 [⟨ts, s, []⟩]) := db_is "forth" (by decide)
  have is1 : isI "Debugger" "state" (.r S5.length) SD = some (.ok (), SD) := by rw [hSD]; exact db_is "state" (by decide)
  have is2 : isI "Debugger" "turns" (.r S5.length) SD = some (.ok (), SD) := by rw [hSD]; exact db_is "turns" (by decide)
  have is3 : isI "Debugger" "__len__" (.r S5.length) SD = some (.ok (), SD) := by rw [hSD]; exact db_is "__len__" (by decide)
  rw [← hSD] at f16 f17 f18 f19
  refine ⟨[], ?_⟩
  rw [prog_succ]
  show fnM 1 24 true (m_law (prog 114)) [_] [] = _
  generalize prog 114 = c at e1 e2 e3 e4 e5 f5 f6 f7 ft fw fr fs f14 f15 f16 f17 f18 f19 f20 f21 f22 f23 f24
  have c8 : (fCall oLen (fCons (fFrz (fLc (fSeq (fSl (fVar 5) (fNo) (fPart (fVar 7)))) (gN 16) (fT (fCall (ck 1 (c .f_takes_turn_steps)) (fCons (fVar 16) (fNil)))) (fVar 16) [16])) (fNil))) [some (.d (.ro ns)), some (.r 0), some (.d (blkE ts)), some (.d (stE s)), some (.d (.int (n : Nat))), some (.d (cfsL (T n ⟨ts, s, []⟩))), some (.d (resE y)), some (.d (.int (j : Nat))), some (.d (blkE z.b)), some (.d (stE z.s)), some (.d (tolE z.o)), none, none, none, none, none, none, none, none, none, none, none, none, none] S5 = some (.ok (.d (.int (cnt ((T n ⟨ts, s, []⟩).take j) : Nat))), S5) := by
    refine filt_ok ((T n ⟨ts, s, []⟩).take j) Cf.tt ?_ (by rw [List.length_take]; omega) (by simp only [List.length_cons, List.length_nil]; omega) (fun x hx => ?_)
    · simp only [fSeq_def, fSl_def, fVar_def, fNo_def, fPart_def, bnd_def, lift_some, asI_int, Option.map_some, List.getElem?_cons_zero, List.getElem?_cons_succ, Option.join_some, sl_to, fz_cfl]
    · simp [ft x]
  have c14 : (fFrz (fLc (fSeq (fCall (ck 3 (c .f_trace)) (fCons (fVar 8) (fCons (fVar 9) (fCons (fVar 11) (fNil)))))) (gT [21, 22, 23]) (gYes) (fTup (fCons (fVar 21) (fCons (fVar 22) (fCons (fBin oPlus (fVar 10) (fVar 23)) (fNil))))) [21, 22, 23])) [some (.d (.ro ns)), some (.r 0), some (.d (blkE ts)), some (.d (stE s)), some (.d (.int (n : Nat))), some (.d (cfsL (T n ⟨ts, s, []⟩))), some (.d (resE y)), some (.d (.int (j : Nat))), some (.d (blkE z.b)), some (.d (stE z.s)), some (.d (tolE z.o)), some (.d (.int (m : Nat))), some (.d (resE y0)), some (.d (.str "trees")), none, none, none, none, none, none, none, none, none, none] S5 = some (.ok (.d (cfsL (T m z))), S5) := by
    have hfi : fSeq (fCall (ck 3 (c .f_trace)) (fCons (fVar 8) (fCons (fVar 9) (fCons (fVar 11) (fNil))))) [some (.d (.ro ns)), some (.r 0), some (.d (blkE ts)), some (.d (stE s)), some (.d (.int (n : Nat))), some (.d (cfsL (T n ⟨ts, s, []⟩))), some (.d (resE y)), some (.d (.int (j : Nat))), some (.d (blkE z.b)), some (.d (stE z.s)), some (.d (tolE z.o)), some (.d (.int (m : Nat))), some (.d (resE y0)), some (.d (.str "trees")), none, none, none, none, none, none, none, none, none, none] S5 = some (.ok (((T m ⟨z.b, z.s, []⟩).map Cf.enc).map Val.d), S5) := by
      simp [f14, fz_cfl]
    have e := fLc_all (gt := gT [21, 22, 23]) (f := fTup (fCons (fVar 21) (fCons (fVar 22) (fCons (fBin oPlus (fVar 10) (fVar 23)) (fNil))))) (vs := [21, 22, 23]) Cf.enc (fun x => (pre z.o x).enc) (T m ⟨z.b, z.s, []⟩) hfi (sl (by have := T_len 0 m _ g0; have := g0.bud; simp only at *; omega)) (fun x hx => ⟨_, rfl, by
      obtain ⟨_, _, gx⟩ := T_gd m _ g0 x hx
      have b1 := gx.bud
      have b2 := gz.bud
      have p : oPlus (.d (tolE z.o)) (.d (tolE x.o)) S5 = some (.ok (.d (tolE (z.o ++ x.o))), S5) := by
        rw [tolE, tolE, oPlus_tup _ _ _ (sl (by simp only [List.length_map]; omega)), ← List.map_append]; rfl
      simp [p, pre, Cf.enc]⟩)
    rw [fFrz_def, bnd_def]
    rw [e]
    dsimp only
    rw [frz_map]
    have : (T m ⟨z.b, z.s, []⟩).map (fun x => (pre z.o x).enc) = (T m z).map Cf.enc := by rw [d4, List.map_map]; rfl
    rw [this]; rfl
  have c19 : (fCall oLen (fCons (fFrz (fLc (fSeq (fSl (fVar 5) (fNo) (fPart (fNeg (fC (.int 1)))))) (gN 21) (fT (fCall (ck 1 (c .f_takes_turn_steps)) (fCons (fVar 21) (fNil)))) (fVar 21) [21])) (fNil))) [some (.d (.ro ns)), some (.r 0), some (.d (blkE ts)), some (.d (stE s)), some (.d (.int (n : Nat))), some (.d (cfsL (T n ⟨ts, s, []⟩))), some (.d (resE y)), some (.d (.int (j : Nat))), some (.d (blkE z.b)), some (.d (stE z.s)), some (.d (tolE z.o)), some (.d (.int (m : Nat))), some (.d (resE y0)), some (.d (.str "trees")), some (.d (cfsL (T m z))), some (.r S5.length), some (.d y.enc), some (.d (logE (logs n ⟨ts, s, []⟩))), some (.d (.int (mm : Nat))), none, none, none, none, none] SD = some (.ok (.d (.int (cnt (T n ⟨ts, s, []⟩).dropLast : Nat))), SD) := by
    refine filt_ok (T n ⟨ts, s, []⟩).dropLast Cf.tt ?_ (by rw [List.length_dropLast]; omega) (by simp only [List.length_cons, List.length_nil]; omega) (fun x hx => ?_)
    · simp only [fSeq_def, fSl_def, fVar_def, fNo_def, fPart_def, fNeg_def, fC_def, bnd_def, lift_some, asI_int, Option.map_some, List.getElem?_cons_zero, List.getElem?_cons_succ, Option.join_some, sl_dl, fz_cfl]
    · simp [ft x]
  have c20 : (fCall oLen (fCons (fFrz (fLc (fSeq (fSl (fVar 5) (fNo) (fPart (fVar 7)))) (gN 21) (fT (fBin (oEq false) (fBin oIx (fBin oIx (fBin oIx (fVar 21) (fC (.int 0))) (fC (.int 0))) (fC (.int 0))) (fC (.str "set")))) (fVar 21) [21])) (fNil))) [some (.d (.ro ns)), some (.r 0), some (.d (blkE ts)), some (.d (stE s)), some (.d (.int (n : Nat))), some (.d (cfsL (T n ⟨ts, s, []⟩))), some (.d (resE y)), some (.d (.int (j : Nat))), some (.d (blkE z.b)), some (.d (stE z.s)), some (.d (tolE z.o)), some (.d (.int (m : Nat))), some (.d (resE y0)), some (.d (.str "trees")), some (.d (cfsL (T m z))), some (.r S5.length), some (.d y.enc), some (.d (logE (logs n ⟨ts, s, []⟩))), some (.d (.int (mm : Nat))), some (.d (.int (cnt (T n ⟨ts, s, []⟩).dropLast : Nat))), none, none, none, none] SD = some (.ok (.d (.int ((((T n ⟨ts, s, []⟩).take j).filter Cf.isS).length : Nat))), SD) := by
    refine filt_ok ((T n ⟨ts, s, []⟩).take j) Cf.isS ?_ (by rw [List.length_take]; omega) (by simp only [List.length_cons, List.length_nil]; omega) (fun x hx => ?_)
    · simp only [fSeq_def, fSl_def, fVar_def, fNo_def, fPart_def, bnd_def, lift_some, asI_int, Option.map_some, List.getElem?_cons_zero, List.getElem?_cons_succ, Option.join_some, sl_to, fz_cfl]
    · obtain ⟨t, w, a1, a2, a3, a4, a5⟩ := head_tag (take_ne h hj x hx) SD
      rw [← a5]
      simp [a1, a2, a3, a4, a1]
  refine fnM_app (T := SD) (env := [some (.d (.ro ns)), some (.r 0), some (.d (blkE ts)), some (.d (stE s)), some (.d (.int (n : Nat))), some (.d (cfsL (T n ⟨ts, s, []⟩))), some (.d (resE y)), some (.d (.int (j : Nat))), some (.d (blkE z.b)), some (.d (stE z.s)), some (.d (tolE z.o)), some (.d (.int (m : Nat))), some (.d (resE y0)), some (.d (.str "trees")), some (.d (cfsL (T m z))), some (.r S5.length), some (.d y.enc), some (.d (logE (logs n ⟨ts, s, []⟩))), some (.d (.int (mm : Nat))), some (.d (.int (cnt (T n ⟨ts, s, []⟩).dropLast : Nat))), some (.d (.int ((((T n ⟨ts, s, []⟩).take j).filter Cf.isS).length : Nat))), none, none, none]) rfl ?_
  rw [List.nil_append]
  unfold m_law
  refine sSeq_nx (env' := [some (.d (.ro ns)), some (.r 0), none, none, none, none, none, none, none, none, none, none, none, none, none, none, none, none, none, none, none, none, none, none]) (S' := S1) ?_ ?_
  · simp [envOf, e1]
  refine sSeq_nx (env' := [some (.d (.ro ns)), some (.r 0), some (.d (blkE ts)), some (.d (stE s)), some (.d (.int (n : Nat))), none, none, none, none, none, none, none, none, none, none, none, none, none, none, none, none, none, none, none]) (S' := S4) ?_ ?_
  · simp [e2, e3, e4]
  refine sSeq_nx (env' := [some (.d (.ro ns)), some (.r 0), some (.d (blkE ts)), some (.d (stE s)), some (.d (.int (n : Nat))), some (.d (cfsL (T n ⟨ts, s, []⟩))), none, none, none, none, none, none, none, none, none, none, none, none, none, none, none, none, none, none]) (S' := S4) ?_ ?_
  · simp [f5]
  refine sSeq_nx (env' := [some (.d (.ro ns)), some (.r 0), some (.d (blkE ts)), some (.d (stE s)), some (.d (.int (n : Nat))), some (.d (cfsL (T n ⟨ts, s, []⟩))), some (.d (resE y)), none, none, none, none, none, none, none, none, none, none, none, none, none, none, none, none, none]) (S' := S4) ?_ ?_
  · simp [f6]
  refine sSeq_nx (env' := [some (.d (.ro ns)), some (.r 0), some (.d (blkE ts)), some (.d (stE s)), some (.d (.int (n : Nat))), some (.d (cfsL (T n ⟨ts, s, []⟩))), some (.d (resE y)), none, none, none, none, none, none, none, none, none, none, none, none, none, none, none, none, none]) (S' := S4) ?_ ?_
  · refine sIf_f (S1 := S4) ?_ rfl
    simp [tup_cfl, f7]
  refine sSeq_nx (env' := [some (.d (.ro ns)), some (.r 0), some (.d (blkE ts)), some (.d (stE s)), some (.d (.int (n : Nat))), some (.d (cfsL (T n ⟨ts, s, []⟩))), some (.d (resE y)), some (.d (.int (j : Nat))), none, none, none, none, none, none, none, none, none, none, none, none, none, none, none, none]) (S' := S5) ?_ ?_
  · simp [len_cfl, e5]
  refine sSeq_nx (env' := [some (.d (.ro ns)), some (.r 0), some (.d (blkE ts)), some (.d (stE s)), some (.d (.int (n : Nat))), some (.d (cfsL (T n ⟨ts, s, []⟩))), some (.d (resE y)), some (.d (.int (j : Nat))), some (.d (blkE z.b)), some (.d (stE z.s)), some (.d (tolE z.o)), none, none, none, none, none, none, none, none, none, none, none, none, none]) (S' := S5) ?_ ?_
  · have ix := ix_cfl hz S5
    rw [show z.enc = .tup [blkE z.b, stE z.s, tolE z.o] from rfl] at ix
    simp [ix]
  refine sSeq_nx (env' := [some (.d (.ro ns)), some (.r 0), some (.d (blkE ts)), some (.d (stE s)), some (.d (.int (n : Nat))), some (.d (cfsL (T n ⟨ts, s, []⟩))), some (.d (resE y)), some (.d (.int (j : Nat))), some (.d (blkE z.b)), some (.d (stE z.s)), some (.d (tolE z.o)), some (.d (.int (m : Nat))), none, none, none, none, none, none, none, none, none, none, none, none]) (S' := S5) ?_ ?_
  · generalize (fCall oLen (fCons (fFrz (fLc (fSeq (fSl (fVar 5) (fNo) (fPart (fVar 7)))) (gN 16) (fT (fCall (ck 1 (c .f_takes_turn_steps)) (fCons (fVar 16) (fNil)))) (fVar 16) [16])) (fNil))) = F at c8 ⊢
    have : ((n : Nat) : Int) - (cnt ((T n ⟨ts, s, []⟩).take j) : Nat) = (m : Nat) := by omega
    simp [c8, this]
  refine sSeq_nx (env' := [some (.d (.ro ns)), some (.r 0), some (.d (blkE ts)), some (.d (stE s)), some (.d (.int (n : Nat))), some (.d (cfsL (T n ⟨ts, s, []⟩))), some (.d (resE y)), some (.d (.int (j : Nat))), some (.d (blkE z.b)), some (.d (stE z.s)), some (.d (tolE z.o)), some (.d (.int (m : Nat))), some (.d (resE y0)), none, none, none, none, none, none, none, none, none, none, none]) (S' := S5) ?_ ?_
  · have l1 := len_tol z.o S5
    have l2 := sl_tol y.o z.o.length S5
    rw [d3] at l2
    by_cases hb : y.b = []
    · have r1 : resE y = .tup [.str "end", stE y.s, tolE y.o] := if_pos hb
      have r2 : resE y0 = .tup [.str "end", stE y.s, tolE y0.o] := by rw [d2]; exact if_pos (d1 ▸ hb)
      rw [r1, r2]
      simp (decide := true) [l1, l2]
    · have r1 : resE y = .tup [.str "going", tolE y.o] := if_neg hb
      have r2 : resE y0 = .tup [.str "going", tolE y0.o] := if_neg (d1 ▸ hb)
      rw [r1, r2]
      simp (decide := true) [l1, l2]
  refine sSeq_nx (env' := [some (.d (.ro ns)), some (.r 0), some (.d (blkE ts)), some (.d (stE s)), some (.d (.int (n : Nat))), some (.d (cfsL (T n ⟨ts, s, []⟩))), some (.d (resE y)), some (.d (.int (j : Nat))), some (.d (blkE z.b)), some (.d (stE z.s)), some (.d (tolE z.o)), some (.d (.int (m : Nat))), some (.d (resE y0)), some (.d (.str "trees")), none, none, none, none, none, none, none, none, none, none]) (S' := S5) ?_ ?_
  · rw [sFor_def]
    have e : fSeq (fCall (ck 0 (c .f_ways)) fNil) [some (.d (.ro ns)), some (.r 0), some (.d (blkE ts)), some (.d (stE s)), some (.d (.int (n : Nat))), some (.d (cfsL (T n ⟨ts, s, []⟩))), some (.d (resE y)), some (.d (.int (j : Nat))), some (.d (blkE z.b)), some (.d (stE z.s)), some (.d (tolE z.o)), some (.d (.int (m : Nat))), some (.d (resE y0)), none, none, none, none, none, none, none, none, none, none, none] S5 = some (.ok [.d (.str "frames"), .d (.str "steps"), .d (.str "trees")], S5) := by simp [fw]
    rw [e, bS_ok]
    have p : Pl 14 (resE y0) := pl_mono (pl_res gy0) (by decide)
    have a1 := fr "frames" (.inl rfl)
    have a2 := fr "steps" (.inr (.inl rfl))
    have a3 := fr "trees" (.inr (.inr rfl))
    have a4 := fs _ S5 p
    have b : ∀ (w : Str) (x : Option Val), c .f_run_way [.d (.str w), .d (blkE z.b), .d (stE z.s), .d (.int (m : Nat))] S5 = some (.ok (.d (resE y0)), S5) → b_law_1 c [some (.d (.ro ns)), some (.r 0), some (.d (blkE ts)), some (.d (stE s)), some (.d (.int (n : Nat))), some (.d (cfsL (T n ⟨ts, s, []⟩))), some (.d (resE y)), some (.d (.int (j : Nat))), some (.d (blkE z.b)), some (.d (stE z.s)), some (.d (tolE z.o)), some (.d (.int (m : Nat))), some (.d (resE y0)), some (.d (.str w)), none, none, none, none, none, none, none, none, none, none] S5 = some (.nx, [some (.d (.ro ns)), some (.r 0), some (.d (blkE ts)), some (.d (stE s)), some (.d (.int (n : Nat))), some (.d (cfsL (T n ⟨ts, s, []⟩))), some (.d (resE y)), some (.d (.int (j : Nat))), some (.d (blkE z.b)), some (.d (stE z.s)), some (.d (tolE z.o)), some (.d (.int (m : Nat))), some (.d (resE y0)), some (.d (.str w)), none, none, none, none, none, none, none, none, none, none], S5) := by
      intro w x hw
      simp [b_law_1, hw, a4]
    unfold forL
    rw [gN_def]
    dsimp only
    simp only [List.set_cons_succ, List.set_cons_zero]
    rw [b _ none a1]
    dsimp only
    unfold forL
    rw [gN_def]
    dsimp only
    simp only [List.set_cons_succ, List.set_cons_zero]
    rw [b _ none a2]
    dsimp only
    unfold forL
    rw [gN_def]
    dsimp only
    simp only [List.set_cons_succ, List.set_cons_zero]
    rw [b _ none a3]
    rfl
  refine sSeq_nx (env' := [some (.d (.ro ns)), some (.r 0), some (.d (blkE ts)), some (.d (stE s)), some (.d (.int (n : Nat))), some (.d (cfsL (T n ⟨ts, s, []⟩))), some (.d (resE y)), some (.d (.int (j : Nat))), some (.d (blkE z.b)), some (.d (stE z.s)), some (.d (tolE z.o)), some (.d (.int (m : Nat))), some (.d (resE y0)), some (.d (.str "trees")), some (.d (cfsL (T m z))), none, none, none, none, none, none, none, none, none]) (S' := S5) ?_ ?_
  · generalize (fFrz (fLc (fSeq (fCall (ck 3 (c .f_trace)) (fCons (fVar 8) (fCons (fVar 9) (fCons (fVar 11) (fNil)))))) (gT [21, 22, 23]) (gYes) (fTup (fCons (fVar 21) (fCons (fVar 22) (fCons (fBin oPlus (fVar 10) (fVar 23)) (fNil))))) [21, 22, 23])) = F at c14 ⊢
    simp [c14]
  refine sSeq_nx (env' := [some (.d (.ro ns)), some (.r 0), some (.d (blkE ts)), some (.d (stE s)), some (.d (.int (n : Nat))), some (.d (cfsL (T n ⟨ts, s, []⟩))), some (.d (resE y)), some (.d (.int (j : Nat))), some (.d (blkE z.b)), some (.d (stE z.s)), some (.d (tolE z.o)), some (.d (.int (m : Nat))), some (.d (resE y0)), some (.d (.str "trees")), some (.d (cfsL (T m z))), none, none, none, none, none, none, none, none, none]) (S' := S5) ?_ ?_
  · refine sIf_f (S1 := S5) ?_ rfl
    have l := sl_fr (T n ⟨ts, s, []⟩) j S5
    rw [hdrop] at l
    have a := fs _ S5 (pl_mono (pl_cfl gz) (by decide))
    simp [l, a]
  refine sSeq_nx (env' := [some (.d (.ro ns)), some (.r 0), some (.d (blkE ts)), some (.d (stE s)), some (.d (.int (n : Nat))), some (.d (cfsL (T n ⟨ts, s, []⟩))), some (.d (resE y)), some (.d (.int (j : Nat))), some (.d (blkE z.b)), some (.d (stE z.s)), some (.d (tolE z.o)), some (.d (.int (m : Nat))), some (.d (resE y0)), some (.d (.str "trees")), some (.d (cfsL (T m z))), some (.r S5.length), none, none, none, none, none, none, none, none]) (S' := DB S5 [⟨ts, s, []⟩]) ?_ ?_
  · simp [f15]
  refine sSeq_nx (env' := [some (.d (.ro ns)), some (.r 0), some (.d (blkE ts)), some (.d (stE s)), some (.d (.int (n : Nat))), some (.d (cfsL (T n ⟨ts, s, []⟩))), some (.d (resE y)), some (.d (.int (j : Nat))), some (.d (blkE z.b)), some (.d (stE z.s)), some (.d (tolE z.o)), some (.d (.int (m : Nat))), some (.d (resE y0)), some (.d (.str "trees")), some (.d (cfsL (T m z))), some (.r S5.length), none, none, none, none, none, none, none, none]) (S' := SD) ?_ ?_
  · simp [ih, f16]
  refine sSeq_nx (env' := [some (.d (.ro ns)), some (.r 0), some (.d (blkE ts)), some (.d (stE s)), some (.d (.int (n : Nat))), some (.d (cfsL (T n ⟨ts, s, []⟩))), some (.d (resE y)), some (.d (.int (j : Nat))), some (.d (blkE z.b)), some (.d (stE z.s)), some (.d (tolE z.o)), some (.d (.int (m : Nat))), some (.d (resE y0)), some (.d (.str "trees")), some (.d (cfsL (T m z))), some (.r S5.length), none, none, none, none, none, none, none, none]) (S' := SD) ?_ ?_
  · refine sIf_f (S1 := SD) ?_ rfl
    have ix := ix_cfl hz SD
    have hc : ((n : Nat) : Int) - (m : Nat) = (cnt ((T n ⟨ts, s, []⟩).take j) : Nat) := by omega
    have a := fs (.lst [z.enc, .int (cnt ((T n ⟨ts, s, []⟩).take j) : Nat), .int (j : Nat)]) SD ⟨by simp, by simp; exact ⟨pl_mono (pl_cf gz) (by decide), pl_int _ _, pl_int _ _⟩⟩
    have hpo : posI (.d (.int (j : Nat))) = some (.d (.int (j : Nat))) := by
      unfold posI
      rw [asI_int]
      dsimp only
      rw [if_pos (by omega)]
    have ol : oLenO "Debugger" (c .f_Debugger___len__) [.r S5.length] SD = some (.ok (.d (.int (j : Nat))), SD) := by
      show bnd (isI "Debugger" "__len__" (.r S5.length)) (fun _ => bnd (ck 1 (c .f_Debugger___len__) [.r S5.length]) fun y => lift (posI y)) SD = _
      rw [bnd_def, is3]
      dsimp only
      rw [bnd_def, ck_def, if_pos (show [Val.r S5.length].length = 1 from rfl), f19]
      dsimp only
      rw [hpo]; rfl
    simp [is1, is2, f17, f18, ol, ix, hc, a]
  refine sSeq_nx (env' := [some (.d (.ro ns)), some (.r 0), some (.d (blkE ts)), some (.d (stE s)), some (.d (.int (n : Nat))), some (.d (cfsL (T n ⟨ts, s, []⟩))), some (.d (resE y)), some (.d (.int (j : Nat))), some (.d (blkE z.b)), some (.d (stE z.s)), some (.d (tolE z.o)), some (.d (.int (m : Nat))), some (.d (resE y0)), some (.d (.str "trees")), some (.d (cfsL (T m z))), some (.r S5.length), some (.d y.enc), some (.d (logE (logs n ⟨ts, s, []⟩))), some (.d (.int (mm : Nat))), none, none, none, none, none]) (S' := SD) ?_ ?_
  · simp [f20]
  refine sSeq_nx (env' := [some (.d (.ro ns)), some (.r 0), some (.d (blkE ts)), some (.d (stE s)), some (.d (.int (n : Nat))), some (.d (cfsL (T n ⟨ts, s, []⟩))), some (.d (resE y)), some (.d (.int (j : Nat))), some (.d (blkE z.b)), some (.d (stE z.s)), some (.d (tolE z.o)), some (.d (.int (m : Nat))), some (.d (resE y0)), some (.d (.str "trees")), some (.d (cfsL (T m z))), some (.r S5.length), some (.d y.enc), some (.d (logE (logs n ⟨ts, s, []⟩))), some (.d (.int (mm : Nat))), some (.d (.int (cnt (T n ⟨ts, s, []⟩).dropLast : Nat))), none, none, none, none]) (S' := SD) ?_ ?_
  · generalize (fCall oLen (fCons (fFrz (fLc (fSeq (fSl (fVar 5) (fNo) (fPart (fNeg (fC (.int 1)))))) (gN 21) (fT (fCall (ck 1 (c .f_takes_turn_steps)) (fCons (fVar 21) (fNil)))) (fVar 21) [21])) (fNil))) = F at c19 ⊢
    simp [c19]
  refine sSeq_nx (env' := [some (.d (.ro ns)), some (.r 0), some (.d (blkE ts)), some (.d (stE s)), some (.d (.int (n : Nat))), some (.d (cfsL (T n ⟨ts, s, []⟩))), some (.d (resE y)), some (.d (.int (j : Nat))), some (.d (blkE z.b)), some (.d (stE z.s)), some (.d (tolE z.o)), some (.d (.int (m : Nat))), some (.d (resE y0)), some (.d (.str "trees")), some (.d (cfsL (T m z))), some (.r S5.length), some (.d y.enc), some (.d (logE (logs n ⟨ts, s, []⟩))), some (.d (.int (mm : Nat))), some (.d (.int (cnt (T n ⟨ts, s, []⟩).dropLast : Nat))), some (.d (.int ((((T n ⟨ts, s, []⟩).take j).filter Cf.isS).length : Nat))), none, none, none]) (S' := SD) ?_ ?_
  · generalize (fCall oLen (fCons (fFrz (fLc (fSeq (fSl (fVar 5) (fNo) (fPart (fVar 7)))) (gN 21) (fT (fBin (oEq false) (fBin oIx (fBin oIx (fBin oIx (fVar 21) (fC (.int 0))) (fC (.int 0))) (fC (.int 0))) (fC (.str "set")))) (fVar 21) [21])) (fNil))) = F at c20 ⊢
    simp [c20]
  refine sSeq_nx (env' := [some (.d (.ro ns)), some (.r 0), some (.d (blkE ts)), some (.d (stE s)), some (.d (.int (n : Nat))), some (.d (cfsL (T n ⟨ts, s, []⟩))), some (.d (resE y)), some (.d (.int (j : Nat))), some (.d (blkE z.b)), some (.d (stE z.s)), some (.d (tolE z.o)), some (.d (.int (m : Nat))), some (.d (resE y0)), some (.d (.str "trees")), some (.d (cfsL (T m z))), some (.r S5.length), some (.d y.enc), some (.d (logE (logs n ⟨ts, s, []⟩))), some (.d (.int (mm : Nat))), some (.d (.int (cnt (T n ⟨ts, s, []⟩).dropLast : Nat))), some (.d (.int ((((T n ⟨ts, s, []⟩).take j).filter Cf.isS).length : Nat))), none, none, none]) (S' := SD) ?_ ?_
  · refine sIf_f (S1 := SD) ?_ rfl
    have ix := ix_last (show (T n ⟨ts, s, []⟩).getLast? = some y from hy) SD
    have hc : ((n : Nat) : Int) - (cnt (T n ⟨ts, s, []⟩).dropLast : Nat) = (mm : Nat) := by omega
    have a := fs (.lst [y.enc, .int (mm : Nat)]) SD ⟨by simp, by simp; exact ⟨pl_mono (pl_cf gy) (by decide), pl_int _ _⟩⟩
    have fty := ft y SD
    by_cases hb : y.b = []
    · have f := f23 hb
      simp [ix, hc, a, f]
    · have f := f24 hb
      have ht : y.tt = true := by
        rcases hlast with q | q
        · exact absurd q hb
        · exact q.1
      rw [ht] at fty
      simp [ix, hc, a, f, fty]
  refine sSeq_rt ?_
  · have ix : oIx (.d y.enc) (.d (.int 1)) SD = some (.ok (.d (stE y.s)), SD) := rfl
    have hl := len_log (logs n ⟨ts, s, []⟩) SD
    have hc : ((((logs n ⟨ts, s, []⟩).length : Nat) : Int) - ((((T n ⟨ts, s, []⟩).take j).filter Cf.isS).length : Nat)) = (((logs n ⟨ts, s, []⟩).length - (((T n ⟨ts, s, []⟩).take j).filter Cf.isS).length : Nat) : Int) := by omega
    have a := fs (.lst [stE z.s, stE s]) SD ⟨by simp, by simp; exact ⟨pl_mono (pl_st gz) (by decide), pl_mono (pl_st h) (by decide)⟩⟩
    simp [ix, hl, hc, f21, f22, a]
end Y
theorem PySem.Challenge.cw_everymeaning_k73_whole_states_gone_on_fr_holds : PySem.Challenge.rw_everymeaning_k73_whole_states_gone_on_fr.Holds := by
  exact Y.holds_of rfl (by decide) Y.lawok
