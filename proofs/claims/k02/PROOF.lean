import PyProof.Rows.All
import Wide.All
import OpenK.AllK
import Wide.FinOn
import PySem.Challenge.RW_anymany_k02_polynomials_by_their_worths
import HandS.ForMost
import HandS.Exc
import HandS.TryOnly
import HandS.ExcOwn
import HandS.WordsExc
import HandS.Style
import HandS.IsInst
import HandS.TupAny
import HandS.TupMul
import HandS.Flow
import HandS.Wide
import HandS.Zip
import HandS.Defaults
import HandS.Deep
import KE.GoesMore
import HandS.Ends
import HandS.Head0
import HandS.Head1
import HandS.Head2
import HandS.HeadEnd
import HandS.HeadHook1
import HandS.HeadHook2
import KE.KStateDown
import Lean
set_option Elab.async false
set_option linter.all false
set_option maxRecDepth 100000
set_option maxHeartbeats 0
namespace AM
open PySem PySem.Spec PyProof.Rows L2

/-! ### values without addresses -/
inductive D where
  | und | non | bl (b : Bool) | int (i : Int) | str (x : Str) | tup (ds : List D) | ref (n : Nat) | ty (n : String)
  deriving Inhabited

inductive MO where
  | lst (ds : List D) | ro (ds : List D) | dK (lk : Bool) (kvs : List (Key × D)) | dT (lk : Bool) (kvs : List (List Key × D))
abbrev MH := List MO
def MO.isRo : MO → Bool
  | .ro _ => true
  | _ => false

inductive Res (α : Type) where
  | ok (a : α) (h : MH)
  | exc (c : Str) (fs : List (Str × D)) (h : MH)
  | fail
def Res.bind {α β : Type} (r : Res α) (f : α → MH → Res β) : Res β := match r with
  | .ok a h => f a h
  | .exc c fs h => .exc c fs h
  | .fail => .fail
theorem Res.bind_ok {α β : Type} {a : α} {h : MH} {f : α → MH → Res β} : (Res.ok a h).bind f = f a h := rfl
theorem Res.bind_fail {α β : Type} {f : α → MH → Res β} : (Res.fail : Res α).bind f = .fail := rfl
theorem Res.bind_exc {α β : Type} {c : Str} {fs : List (Str × D)} {h : MH} {f : α → MH → Res β} : (Res.exc c fs h : Res α).bind f = .exc c fs h := rfl
theorem Res.bind_assoc {α β γ : Type} (r : Res α) (f : α → MH → Res β) (g : β → MH → Res γ) : (r.bind f).bind g = r.bind fun a h => (f a h).bind g := by cases r <;> rfl

mutual
def D.bel (n : Nat) : D → Bool
  | .tup ds => D.belL n ds
  | .ref r => decide (r < n)
  | _ => true
def D.belL (n : Nat) : List D → Bool
  | [] => true
  | d :: ds => d.bel n && D.belL n ds
end
def MO.bel (n : Nat) : MO → Bool
  | .lst ds => D.belL n ds
  | .ro ds => D.belL n ds
  | .dK _ kvs => D.belL n (kvs.map (·.2))
  | .dT _ kvs => D.belL n (kvs.map (·.2))

/-! ### how they stand in the abstract heap -/
mutual
def Rep (K : PySem.W.Frag) (H : Hp) (ι : Nat → Addr) (n : Nat) : D → V → Prop
  | .und, _ => False
  | .non, v => v = .non
  | .bl b, v => v = .bl b
  | .int i, v => v = .int i
  | .str x, v => v = .str x
  | .tup ds, v => ∃ a xs, v = .ref a ∧ SqT K H a xs ∧ RepL K H ι n ds xs
  | .ref r, v => r < n ∧ v = .ref (ι r)
  | .ty t, v => v = .ty t
def RepL (K : PySem.W.Frag) (H : Hp) (ι : Nat → Addr) (n : Nat) : List D → List V → Prop
  | [], vs => vs = []
  | d :: ds, vs => ∃ v r, vs = v :: r ∧ Rep K H ι n d v ∧ RepL K H ι n ds r
end
def RoL (K : PySem.W.Frag) (H : Hp) (a : Addr) (xs : List V) : Prop :=
  (∃ o, H a = some (.frz o (.lst xs))) ∨
    ∃ (o : Obj) (its : Array Value) (n : Nat), K.lookup a = some o ∧ o.cls = .type "list" ∧ o.dict = none ∧ o.data = .seq its n ∧ its.size ≤ sizeLine ∧ Vals xs its.toList
theorem RoL.sq {K : PySem.W.Frag} {H : Hp} {a : Addr} {xs : List V} (h : RoL K H a xs) : SqL K H a xs := by
  rcases h with ⟨o, h⟩ | h
  · exact .inl (.inr ⟨o, h⟩)
  · exact .inr h
/-- a dict's pairs -/
def RepP {κ : Type} (K : PySem.W.Frag) (H : Hp) (ι : Nat → Addr) (n : Nat) : List (κ × D) → List (κ × V) → Prop
  | [], vs => vs = []
  | p :: ps, vs => ∃ v r, vs = (p.1, v) :: r ∧ Rep K H ι n p.2 v ∧ RepP K H ι n ps r
def lkd (H : Hp) (a : Addr) (lk : Bool) (u : HO) : Prop := match lk with
  | false => H a = some u
  | true => ∃ o, H a = some (.frz o u)
def MRel (K : PySem.W.Frag) (H : Hp) (ι : Nat → Addr) (n : Nat) (a : Addr) : MO → Prop
  | .lst ds => ∃ xs, H a = some (.lst xs) ∧ RepL K H ι n ds xs
  | .ro ds => ∃ xs, RoL K H a xs ∧ RepL K H ι n ds xs
  | .dK lk kvs => ∃ ws, lkd H a lk (.dK ws) ∧ RepP K H ι n kvs ws
  | .dT lk kvs => ∃ ws, lkd H a lk (.dT ws) ∧ RepP K H ι n kvs ws
structure HRel (K : PySem.W.Frag) (H : Hp) (ι : Nat → Addr) (h : MH) : Prop where
  obj : ∀ (i : Nat) (mo : MO), h[i]? = some mo → MRel K H ι h.length (ι i) mo
  inj : ∀ (i j : Nat) (mo mo' : MO), h[i]? = some mo → h[j]? = some mo' → mo.isRo = false → mo'.isRo = false → i ≠ j → ι i ≠ ι j
/-- what may happen between two states -/
structure Ext (H : Hp) (ι : Nat → Addr) (h : MH) (H' : Hp) (ι' : Nat → Addr) (h' : MH) : Prop where
  len : h.length ≤ h'.length
  agree : ∀ i, i < h.length → ι' i = ι i
  kind : ∀ (i : Nat) (mo : MO), h[i]? = some mo → ∃ mo', h'[i]? = some mo' ∧ mo'.isRo = mo.isRo
  frame : ∀ b o, H b = some o → (∀ (i : Nat) (mo : MO), h[i]? = some mo → mo.isRo = false → ι i ≠ b) → H' b = some o
  fresh : ∀ (i : Nat) (mo : MO), h.length ≤ i → h'[i]? = some mo → mo.isRo = false ∧ H (ι' i) = none
  frz : ∀ b o u, H b = some (.frz o u) → H' b = some (.frz o u)

theorem some_lt {α : Type} {h : List α} {i : Nat} {mo : α} (e : h[i]? = some mo) : i < h.length := (List.getElem?_eq_some_iff.mp e).1

section
variable {K : PySem.W.Frag} {H H1 H2 : Hp} {ι ι1 ι2 : Nat → Addr} {h h1 h2 : MH}
/-- an object that is not read-only stands in H, and is no tuple -/
theorem MRel.there {n : Nat} {a : Addr} {mo : MO} (m : MRel K H ι n a mo) (hr : mo.isRo = false) : ∃ o, H a = some o ∧ (∀ xs, o ≠ .tup xs) ∧ (∀ q xs, o ≠ .frz q (.tup xs)) := by
  cases mo with
  | lst ds => obtain ⟨xs, e, _⟩ := m; exact ⟨_, e, (fun _ z => nomatch z), fun _ _ z => nomatch z⟩
  | ro ds => cases hr
  | dK lk kvs =>
    obtain ⟨ws, e, _⟩ := m
    cases lk with
    | false => exact ⟨_, e, (fun _ z => nomatch z), fun _ _ z => nomatch z⟩
    | true => obtain ⟨o, e⟩ := e; exact ⟨_, e, (fun _ z => nomatch z), fun _ _ z => nomatch z⟩
  | dT lk kvs =>
    obtain ⟨ws, e, _⟩ := m
    cases lk with
    | false => exact ⟨_, e, (fun _ z => nomatch z), fun _ _ z => nomatch z⟩
    | true => obtain ⟨o, e⟩ := e; exact ⟨_, e, (fun _ z => nomatch z), fun _ _ z => nomatch z⟩
theorem Ext.tup (x : Ext H ι h H1 ι1 h1) (r : HRel K H ι h) {a : Addr} {xs : List V} (q : SqT K H a xs) : SqT K H1 a xs := by
  rcases q with (q | ⟨o, q⟩) | q
  · refine .inl (.inl (x.frame a _ q fun i mo e hr z => ?_))
    obtain ⟨o, e1, e2, _⟩ := (r.obj i mo e).there hr
    rw [z, q] at e1
    exact e2 _ (Option.some.inj e1).symm
  · exact .inl (.inr ⟨o, x.frz a o _ q⟩)
  · exact .inr q
mutual
theorem Rep.mono (t : ∀ a xs, SqT K H a xs → SqT K H1 a xs) {n n1 : Nat} (hn : n ≤ n1) (ag : ∀ i, i < n → ι1 i = ι i) : ∀ (d : D) (v : V), Rep K H ι n d v → Rep K H1 ι1 n1 d v
  | .und, _, q => by simp only [Rep] at q
  | .non, _, q => by simpa only [Rep] using q
  | .bl _, _, q => by simpa only [Rep] using q
  | .int _, _, q => by simpa only [Rep] using q
  | .str _, _, q => by simpa only [Rep] using q
  | .ty _, _, q => by simpa only [Rep] using q
  | .tup ds, v, q => by
    simp only [Rep] at q ⊢
    obtain ⟨a, xs, e, s, l⟩ := q
    exact ⟨a, xs, e, t _ _ s, RepL.mono t hn ag ds xs l⟩
  | .ref r, v, q => by
    simp only [Rep] at q ⊢
    exact ⟨Nat.lt_of_lt_of_le q.1 hn, by rw [ag r q.1]; exact q.2⟩
theorem RepL.mono (t : ∀ a xs, SqT K H a xs → SqT K H1 a xs) {n n1 : Nat} (hn : n ≤ n1) (ag : ∀ i, i < n → ι1 i = ι i) : ∀ (ds : List D) (vs : List V), RepL K H ι n ds vs → RepL K H1 ι1 n1 ds vs
  | [], _, q => by simpa only [RepL] using q
  | d :: ds, vs, q => by
    simp only [RepL] at q ⊢
    obtain ⟨v, r, e, q1, q2⟩ := q
    exact ⟨v, r, e, Rep.mono t hn ag d v q1, RepL.mono t hn ag ds r q2⟩
end
theorem RepP.mono {κ : Type} (t : ∀ a xs, SqT K H a xs → SqT K H1 a xs) {n n1 : Nat} (hn : n ≤ n1) (ag : ∀ i, i < n → ι1 i = ι i) : ∀ (ds : List (κ × D)) (vs : List (κ × V)), RepP K H ι n ds vs → RepP K H1 ι1 n1 ds vs
  | [], _, q => by simpa only [RepP] using q
  | d :: ds, vs, q => by
    simp only [RepP] at q ⊢
    obtain ⟨v, r, e, q1, q2⟩ := q
    exact ⟨v, r, e, Rep.mono t hn ag _ v q1, RepP.mono t hn ag ds r q2⟩
mutual
/-- a value that names no object from n on is the same below n -/
theorem Rep.cut {n m : Nat} : ∀ (d : D) (v : V), Rep K H ι m d v → d.bel n = true → Rep K H ι n d v
  | .und, _, q, _ => by simp only [Rep] at q
  | .non, _, q, _ => by simpa only [Rep] using q
  | .bl _, _, q, _ => by simpa only [Rep] using q
  | .int _, _, q, _ => by simpa only [Rep] using q
  | .str _, _, q, _ => by simpa only [Rep] using q
  | .ty _, _, q, _ => by simpa only [Rep] using q
  | .tup ds, v, q, b => by
    simp only [Rep] at q ⊢
    simp only [D.bel] at b
    obtain ⟨a, xs, e, s, l⟩ := q
    exact ⟨a, xs, e, s, RepL.cut ds xs l b⟩
  | .ref r, v, q, b => by
    simp only [Rep] at q ⊢
    simp only [D.bel, decide_eq_true_eq] at b
    exact ⟨b, q.2⟩
theorem RepL.cut {n m : Nat} : ∀ (ds : List D) (vs : List V), RepL K H ι m ds vs → D.belL n ds = true → RepL K H ι n ds vs
  | [], _, q, _ => by simpa only [RepL] using q
  | d :: ds, vs, q, b => by
    simp only [RepL] at q ⊢
    simp only [D.belL, Bool.and_eq_true] at b
    obtain ⟨v, r, e, q1, q2⟩ := q
    exact ⟨v, r, e, Rep.cut d v q1 b.1, RepL.cut ds r q2 b.2⟩
end
theorem RepP.cut {κ : Type} {n m : Nat} : ∀ (ds : List (κ × D)) (vs : List (κ × V)), RepP K H ι m ds vs → D.belL n (ds.map (·.2)) = true → RepP K H ι n ds vs
  | [], _, q, _ => by simpa only [RepP] using q
  | d :: ds, vs, q, b => by
    simp only [RepP] at q ⊢
    simp only [List.map_cons, D.belL, Bool.and_eq_true] at b
    obtain ⟨v, r, e, q1, q2⟩ := q
    exact ⟨v, r, e, Rep.cut _ v q1 b.1, RepP.cut ds r q2 b.2⟩
theorem Rep.ext (x : Ext H ι h H1 ι1 h1) (r : HRel K H ι h) {d : D} {v : V} (q : Rep K H ι h.length d v) : Rep K H1 ι1 h1.length d v :=
  Rep.mono (fun _ _ => x.tup r) x.len x.agree d v q
theorem RepL.ext (x : Ext H ι h H1 ι1 h1) (r : HRel K H ι h) {d : List D} {v : List V} (q : RepL K H ι h.length d v) : RepL K H1 ι1 h1.length d v :=
  RepL.mono (fun _ _ => x.tup r) x.len x.agree d v q
theorem Ext.refl : Ext H ι h H ι h := ⟨Nat.le_refl _, fun _ _ => rfl, fun i mo e => ⟨mo, e, rfl⟩, fun _ _ e _ => e, fun i mo a e => absurd (some_lt e) (Nat.not_lt.mpr a), fun _ _ _ e => e⟩
theorem Ext.back (x : Ext H ι h H1 ι1 h1) (r1 : HRel K H1 ι1 h1) {a : Addr} (e : H1 a = none) : H a = none := by
  cases q : H a with
  | none => rfl
  | some o =>
    have z := x.frame a o q fun i mo ei hr ez => by
      obtain ⟨mo', e', k⟩ := x.kind i mo ei
      obtain ⟨u, eu, _⟩ := (r1.obj i mo' e').there (by rw [k, hr])
      rw [x.agree i (some_lt ei), ez, e] at eu
      cases eu
    rw [e] at z; cases z
theorem Ext.trans (x : Ext H ι h H1 ι1 h1) (y : Ext H1 ι1 h1 H2 ι2 h2) (r1 : HRel K H1 ι1 h1) : Ext H ι h H2 ι2 h2 where
  len := Nat.le_trans x.len y.len
  agree := fun i hi => (y.agree i (Nat.lt_of_lt_of_le hi x.len)).trans (x.agree i hi)
  kind := fun i mo e => by
    obtain ⟨m1, e1, k1⟩ := x.kind i mo e
    obtain ⟨m2, e2, k2⟩ := y.kind i m1 e1
    exact ⟨m2, e2, k2.trans k1⟩
  frame := fun b o e n => by
    refine y.frame b o (x.frame b o e n) fun i mo ei hr ez => ?_
    by_cases hi : i < h.length
    · have ei' : h[i]? = some h[i] := List.getElem?_eq_getElem hi
      obtain ⟨m1, e1, k1⟩ := x.kind i _ ei'
      rw [ei] at e1; cases e1
      exact n i _ ei' (k1.symm.trans hr) ((x.agree i hi).symm.trans ez)
    · have z := (x.fresh i mo (Nat.le_of_not_lt hi) ei).2
      rw [ez, e] at z; cases z
  fresh := fun i mo hi e => by
    by_cases h1i : h1.length ≤ i
    · obtain ⟨a, b⟩ := y.fresh i mo h1i e
      exact ⟨a, x.back r1 b⟩
    · have h1i : i < h1.length := Nat.lt_of_not_le h1i
      have ei' : h1[i]? = some h1[i] := List.getElem?_eq_getElem h1i
      obtain ⟨m2, e2, k2⟩ := y.kind i _ ei'
      rw [e] at e2; cases e2
      obtain ⟨a, b⟩ := x.fresh i _ hi ei'
      refine ⟨k2.trans a, ?_⟩
      rw [y.agree i h1i]; exact b
  frz := fun b o u e => y.frz b o u (x.frz b o u e)
/-- the abstract heap has only grown -/
def Grow (H H' : Hp) : Prop := ∀ b o, H b = some o → H' b = some o
theorem Grow.refl : Grow H H := fun _ _ e => e
theorem Grow.trans (a : Grow H H1) (b : Grow H1 H2) : Grow H H2 := fun c o e => b c o (a c o e)
theorem Grow.upd {p : Addr} {o : HO} (e : H p = none) : Grow H (upd H p o) := fun b u q => by rw [upd_ne (ne_of_none q e)]; exact q
theorem Grow.tup (g : Grow H H1) {a : Addr} {xs : List V} (q : SqT K H a xs) : SqT K H1 a xs := by
  rcases q with (q | ⟨o, q⟩) | q
  · exact .inl (.inl (g _ _ q))
  · exact .inl (.inr ⟨o, g _ _ q⟩)
  · exact .inr q
theorem Grow.rep (g : Grow H H1) {n : Nat} {d : D} {v : V} (q : Rep K H ι n d v) : Rep K H1 ι n d v := Rep.mono (fun _ _ => g.tup) (Nat.le_refl _) (fun _ _ => rfl) d v q
theorem Grow.repL (g : Grow H H1) {n : Nat} {d : List D} {v : List V} (q : RepL K H ι n d v) : RepL K H1 ι n d v := RepL.mono (fun _ _ => g.tup) (Nat.le_refl _) (fun _ _ => rfl) d v q
theorem Grow.lkd (g : Grow H H1) {a : Addr} {lk : Bool} {u : HO} (q : lkd H a lk u) : AM.lkd H1 a lk u := by
  cases lk with
  | false => exact g _ _ q
  | true => obtain ⟨o, q⟩ := q; exact ⟨o, g _ _ q⟩
theorem MRel.mono {n n1 : Nat} {a : Addr} {mo : MO} (t : ∀ a xs, SqT K H a xs → SqT K H1 a xs) (hn : n ≤ n1) (ag : ∀ i, i < n → ι1 i = ι i) (same : ∀ o, H a = some o → H1 a = some o) (m : MRel K H ι n a mo) : MRel K H1 ι1 n1 a mo := by
  cases mo with
  | lst ds => obtain ⟨xs, e, r⟩ := m; exact ⟨xs, same _ e, RepL.mono t hn ag ds xs r⟩
  | ro ds =>
    obtain ⟨xs, e, r⟩ := m
    refine ⟨xs, ?_, RepL.mono t hn ag ds xs r⟩
    rcases e with ⟨o, e⟩ | e
    · exact .inl ⟨o, same _ e⟩
    · exact .inr e
  | dK lk kvs =>
    obtain ⟨ws, e, r⟩ := m
    refine ⟨ws, ?_, RepP.mono t hn ag kvs ws r⟩
    cases lk with
    | false => exact same _ e
    | true => obtain ⟨o, e⟩ := e; exact ⟨o, same _ e⟩
  | dT lk kvs =>
    obtain ⟨ws, e, r⟩ := m
    refine ⟨ws, ?_, RepP.mono t hn ag kvs ws r⟩
    cases lk with
    | false => exact same _ e
    | true => obtain ⟨o, e⟩ := e; exact ⟨o, same _ e⟩
theorem Grow.hrel (g : Grow H H1) (r : HRel K H ι h) : HRel K H1 ι h :=
  ⟨fun i mo e => (r.obj i mo e).mono (fun _ _ => g.tup) (Nat.le_refl _) (fun _ _ => rfl) (fun _ => g _ _), r.inj⟩
theorem Grow.ext (g : Grow H H1) : Ext H ι h H1 ι h :=
  ⟨Nat.le_refl _, fun _ _ => rfl, fun i mo e => ⟨mo, e, rfl⟩, fun _ _ e _ => g _ _ e, fun i mo a e => absurd (some_lt e) (Nat.not_lt.mpr a), fun _ _ _ e => g _ _ e⟩
/-- an address that is not read-only's own is not a fresh one -/
theorem HRel.apart (r : HRel K H ι h) {p : Addr} (e : H p = none) : ∀ (i : Nat) (mo : MO), h[i]? = some mo → mo.isRo = false → ι i ≠ p := fun i mo ei hr z => by
  obtain ⟨o, eo, _⟩ := (r.obj i mo ei).there hr
  rw [z, e] at eo; cases eo

/-! ### one more object -/
def put (ι : Nat → Addr) (n : Nat) (a : Addr) : Nat → Addr := fun i => if i = n then a else ι i
theorem put_same {n : Nat} {a : Addr} : put ι n a n = a := by unfold put; rw [if_pos rfl]
theorem put_ne {n i : Nat} {a : Addr} (e : i ≠ n) : put ι n a i = ι i := by unfold put; rw [if_neg e]
/-- a list that nobody names becomes an object -/
theorem HRel.alloc {H0 : Hp} {ι0 : Nat → Addr} {h0 : MH} (r : HRel K H ι h) (x : Ext H0 ι0 h0 H ι h) {p : Addr} {mo : MO} (hr : mo.isRo = false) (e0 : H0 p = none) (ap : ∀ (i : Nat) (m : MO), h[i]? = some m → m.isRo = false → ι i ≠ p)
    (m : MRel K H ι h.length p mo) : HRel K H (put ι h.length p) (h ++ [mo]) ∧ Ext H0 ι0 h0 H (put ι h.length p) (h ++ [mo]) := by
  have old : ∀ {i : Nat} {m : MO}, (h ++ [mo])[i]? = some m → (i < h.length ∧ h[i]? = some m) ∨ (i = h.length ∧ m = mo) := fun {i m} e => by
    by_cases hi : i < h.length
    · rw [List.getElem?_append_left hi] at e; exact .inl ⟨hi, e⟩
    · rw [List.getElem?_append_right (Nat.le_of_not_lt hi)] at e
      have hz : i - h.length = 0 := by
        have := some_lt e
        simp at this; omega
      rw [hz] at e
      exact .inr ⟨by omega, (Option.some.inj e).symm⟩
  have ag : ∀ i, i < h.length → put ι h.length p i = ι i := fun i hi => put_ne (by omega)
  have hl : (h ++ [mo]).length = h.length + 1 := by simp
  refine ⟨⟨fun i m' e => ?_, fun i j m1 m2 e1 e2 k1 k2 ne => ?_⟩, ⟨?_, fun i hi => ?_, fun i m' e => ?_, fun b o e n => x.frame b o e n, fun i m' hi e => ?_, x.frz⟩⟩
  · rcases old e with ⟨hi, e⟩ | ⟨rfl, rfl⟩
    · rw [ag i hi]
      exact (r.obj i m' e).mono (fun _ _ q => q) (by omega) ag (fun _ q => q)
    · rw [put_same]
      exact m.mono (fun _ _ q => q) (by omega) ag (fun _ q => q)
  · rcases old e1 with ⟨hi, f1⟩ | ⟨g1, g2⟩ <;> rcases old e2 with ⟨hj, f2⟩ | ⟨g3, g4⟩
    · rw [ag i hi, ag j hj]; exact r.inj i j m1 m2 f1 f2 k1 k2 ne
    · rw [ag i hi, g3, put_same]; exact ap i m1 f1 k1
    · rw [g1, put_same, ag j hj]; exact (ap j m2 f2 k2).symm
    · exact absurd (g1.trans g3.symm) ne
  · rw [hl]; exact Nat.le_succ_of_le x.len
  · rw [ag i (Nat.lt_of_lt_of_le hi x.len)]; exact x.agree i hi
  · obtain ⟨m2, e2, k2⟩ := x.kind i m' e
    exact ⟨m2, by rw [List.getElem?_append_left (some_lt e2)]; exact e2, k2⟩
  · rcases old e with ⟨h1, e⟩ | ⟨rfl, rfl⟩
    · rw [ag i h1]; exact x.fresh i m' hi e
    · rw [put_same]; exact ⟨hr, e0⟩
/-- an object that is no read-only one is written -/
theorem HRel.write {i : Nat} {mo mo' : MO} {o : HO} (r : HRel K H ι h) (e : h[i]? = some mo) (k : mo.isRo = false) (k' : mo'.isRo = false) (nf : ∀ q u, H (ι i) ≠ some (.frz q u))
    (m : (∀ a xs, SqT K H a xs → SqT K (upd H (ι i) o) a xs) → MRel K (upd H (ι i) o) ι h.length (ι i) mo') : HRel K (upd H (ι i) o) ι (h.set i mo') ∧ Ext H ι h (upd H (ι i) o) ι (h.set i mo') := by
  have hi := some_lt e
  obtain ⟨u, eu, nt, _⟩ := (r.obj i mo e).there k
  have T : ∀ a xs, SqT K H a xs → SqT K (upd H (ι i) o) a xs := fun a xs q => by
    rcases q with (q | ⟨z, q⟩) | q
    · refine .inl (.inl ?_)
      rw [upd_ne]; exact q
      rintro rfl; rw [q] at eu; exact nt _ (Option.some.inj eu).symm
    · refine .inl (.inr ⟨z, ?_⟩)
      rw [upd_ne]; exact q
      rintro rfl; exact nf _ _ q
    · exact .inr q
  have get : ∀ {j : Nat} {m1 : MO}, (h.set i mo')[j]? = some m1 → (j = i ∧ m1 = mo') ∨ (j ≠ i ∧ h[j]? = some m1) := fun {j m1} q => by
    by_cases hj : j = i
    · subst hj
      rw [List.getElem?_set_self hi] at q
      exact .inl ⟨rfl, (Option.some.inj q).symm⟩
    · rw [List.getElem?_set_ne (Ne.symm hj)] at q
      exact .inr ⟨hj, q⟩
  refine ⟨⟨fun j m1 q => ?_, fun j l m1 m2 q1 q2 k1 k2 ne => ?_⟩, ⟨by simp, fun _ _ => rfl, fun j m1 q => ?_, fun b v q n => ?_, fun j m1 hj q => ?_, fun b z v q => ?_⟩⟩
  · rw [List.length_set]
    rcases get q with ⟨rfl, rfl⟩ | ⟨hj, q⟩
    · exact m T
    · have q0 := r.obj j m1 q
      by_cases hro : m1.isRo = true
      · -- read-only: it is not the written one
        cases m1 with
        | ro ds =>
          obtain ⟨xs, ez, rr⟩ := q0
          refine ⟨xs, ?_, RepL.mono T (Nat.le_refl _) (fun _ _ => rfl) ds xs rr⟩
          rcases ez with ⟨z, ez⟩ | ez
          · refine .inl ⟨z, ?_⟩
            rw [upd_ne]; exact ez
            intro ee; rw [ee] at ez; exact nf _ _ ez
          · exact .inr ez
        | _ => cases hro
      · have hro : m1.isRo = false := by simpa using hro
        refine q0.mono T (Nat.le_refl _) (fun _ _ => rfl) fun v ev => ?_
        rw [upd_ne (r.inj j i m1 mo q e hro k hj)]; exact ev
  · rcases get q1 with ⟨g1, g2⟩ | ⟨hj, f1⟩ <;> rcases get q2 with ⟨g3, g4⟩ | ⟨hl, f2⟩
    · exact absurd (g1.trans g3.symm) ne
    · rw [g1] at ne ⊢; exact r.inj _ _ mo m2 e f2 k k2 ne
    · rw [g3] at ne ⊢; exact r.inj _ _ m1 mo f1 e k1 k ne
    · exact r.inj _ _ m1 m2 f1 f2 k1 k2 ne
  · by_cases hj : j = i
    · subst hj
      rw [e] at q; cases q
      exact ⟨mo', List.getElem?_set_self hi, k'.trans k.symm⟩
    · exact ⟨m1, by rw [List.getElem?_set_ne (Ne.symm hj)]; exact q, rfl⟩
  · rw [upd_ne (fun z => n i mo e k z.symm)]; exact q
  · have := some_lt q
    rw [List.length_set] at this
    omega
  · rw [upd_ne]; exact q
    rintro rfl; exact nf _ _ q
end
end AM

namespace AM
open PySem PySem.Spec PyProof.Rows L2

/-! ### a value, or a list that nobody names yet -/
inductive SD where
  | val (d : D) | tmp (ds : List D)
abbrev RelT (α β : Type) := Hp → Hp → (Nat → Addr) → MH → α → β → Prop
def SRep (K : PySem.W.Frag) (H : Hp) (ι : Nat → Addr) (h : MH) : SD → V → Prop
  | .val d, v => Rep K H ι h.length d v
  | .tmp ds, v => ∃ a xs, v = .ref a ∧ H a = some (.lst xs) ∧ (∀ (i : Nat) (mo : MO), h[i]? = some mo → mo.isRo = false → ι i ≠ a) ∧ RepL K H ι h.length ds xs
def SFresh (H0 : Hp) : SD → V → Prop
  | .tmp _, v => ∀ a, v = .ref a → H0 a = none
  | _, _ => True
def SRepL (K : PySem.W.Frag) (H : Hp) (ι : Nat → Addr) (h : MH) : List SD → List V → Prop
  | [], vs => vs = []
  | d :: ds, vs => ∃ v r, vs = v :: r ∧ SRep K H ι h d v ∧ SRepL K H ι h ds r
def rV (K : PySem.W.Frag) : RelT D V := fun _ H ι h d v => Rep K H ι h.length d v
def rS (K : PySem.W.Frag) : RelT SD V := fun H0 H ι h d v => SRep K H ι h d v ∧ SFresh H0 d v
def rL (K : PySem.W.Frag) : RelT (List D) (List V) := fun _ H ι h d v => RepL K H ι h.length d v
def rSL (K : PySem.W.Frag) : RelT (List SD) (List V) := fun _ H ι h d v => SRepL K H ι h d v
def rB : RelT Bool Bool := fun _ _ _ _ a b => a = b
def XRel (K : PySem.W.Frag) (mg : Str → Option Value) (H : Hp) (ι : Nat → Addr) (h : MH) (c : Str) (fs : List (Str × D)) (cls : Value) (dx : Option Addr) : Prop :=
  ∃ C d ws, cls = .ref C ∧ dx = some d ∧ mg c = some (.ref C) ∧ H d = some (.xd ws) ∧ RepP K H ι h.length fs ws
section
variable {α β γ δ : Type} {K : PySem.W.Frag} {mg : Str → Option Value} {W : WX} {H H1 H2 H0 : Hp} {ι ι1 ι2 ι0 : Nat → Addr} {h h1 h2 h0 : MH} {σ : L2.St}
theorem Ext.apart (x : Ext H ι h H1 ι1 h1) (r : HRel K H ι h) {a : Addr} {o : HO} (e : H a = some o) (ap : ∀ (i : Nat) (mo : MO), h[i]? = some mo → mo.isRo = false → ι i ≠ a) : ∀ (i : Nat) (mo : MO), h1[i]? = some mo → mo.isRo = false → ι1 i ≠ a := fun i mo ei hr ez => by
  by_cases hi : i < h.length
  · have e0 : h[i]? = some h[i] := List.getElem?_eq_getElem hi
    obtain ⟨m1, e1, k1⟩ := x.kind i _ e0
    rw [ei] at e1; cases e1
    exact ap i _ e0 (k1.symm.trans hr) ((x.agree i hi).symm.trans ez)
  · have z := (x.fresh i mo (Nat.le_of_not_lt hi) ei).2
    rw [ez, e] at z; cases z
theorem SRep.ext (x : Ext H ι h H1 ι1 h1) (r : HRel K H ι h) : ∀ {d : SD} {v : V}, SRep K H ι h d v → SRep K H1 ι1 h1 d v
  | .val d, v, q => Rep.ext (d := d) x r q
  | .tmp ds, v, q => by
    obtain ⟨a, xs, e, ea, ap, l⟩ := q
    exact ⟨a, xs, e, x.frame a _ ea ap, x.apart r ea ap, RepL.ext x r l⟩
theorem SRepL.ext (x : Ext H ι h H1 ι1 h1) (r : HRel K H ι h) : ∀ {d : List SD} {v : List V}, SRepL K H ι h d v → SRepL K H1 ι1 h1 d v
  | [], v, q => q
  | d :: ds, v, q => by
    obtain ⟨u, t, e, q1, q2⟩ := q
    exact ⟨u, t, e, q1.ext x r, SRepL.ext x r q2⟩
theorem SFresh.back (b : ∀ a, H a = none → H0 a = none) : ∀ {d : SD} {v : V}, SFresh H d v → SFresh H0 d v
  | .val _, _, _ => trivial
  | .tmp _, _, q => fun a e => b a (q a e)
/-- the source may be put back -/
def Back (rel : RelT α β) : Prop := ∀ (H0 H H1 : Hp) (ι : Nat → Addr) (h : MH) (a : α) (b : β), (∀ a, H a = none → H0 a = none) → rel H H1 ι h a b → rel H0 H1 ι h a b
theorem back_V : Back (rV K) := fun _ _ _ _ _ _ _ _ q => q
theorem back_S : Back (rS K) := fun _ _ _ _ _ _ _ b q => ⟨q.1, q.2.back b⟩
theorem back_L : Back (rL K) := fun _ _ _ _ _ _ _ _ q => q
theorem back_SL : Back (rSL K) := fun _ _ _ _ _ _ _ _ q => q
theorem back_B : Back rB := fun _ _ _ _ _ _ _ _ q => q

def Post (K : PySem.W.Frag) (mg : Str → Option Value) (W : WX) (rel : RelT α β) (σ : L2.St) (H : Hp) (ι : Nat → Addr) (h : MH) (Q : β → Hp → Prop) : Res α → Prop
  | .ok d h' => ∀ v H' ι', Ext H ι h H' ι' h' → HRel K H' ι' h' → rel H H' ι' h' d v → Q v H'
  | .exc c fs h' => ∀ cls dx H' ι', Ext H ι h H' ι' h' → HRel K H' ι' h' → XRel K mg H' ι' h' c fs cls dx → W cls dx σ H'
  | .fail => False
def SRel (K : PySem.W.Frag) (H : Hp) (ι : Nat → Addr) (n : Nat) (ρ : List (Option D)) (σ : L2.St) : Prop :=
  ρ.length = σ.length ∧ ∀ (i : Nat) (d : D), ρ[i]? = some (some d) → ∃ v, σ[i]? = some (some v) ∧ Rep K H ι n d v
theorem SRel.ext (x : Ext H ι h H1 ι1 h1) (r : HRel K H ι h) {ρ : List (Option D)} (s : SRel K H ι h.length ρ σ) : SRel K H1 ι1 h1.length ρ σ :=
  ⟨s.1, fun i d e => let ⟨v, e1, q⟩ := s.2 i d e; ⟨v, e1, Rep.ext x r q⟩⟩
theorem SRel.set {ρ : List (Option D)} (s : SRel K H ι h.length ρ σ) (i : Nat) {d : D} {v : V} (q : Rep K H ι h.length d v) : SRel K H ι h.length (ρ.set i (some d)) (σ.set i (some v)) := by
  refine ⟨by simp [s.1], fun j e ej => ?_⟩
  by_cases hj : j = i
  · subst hj
    by_cases hi : j < ρ.length
    · rw [List.getElem?_set_self hi] at ej
      cases ej
      exact ⟨v, List.getElem?_set_self (by rw [← s.1]; exact hi), q⟩
    · rw [List.getElem?_eq_none (by simpa using hi)] at ej; cases ej
  · rw [List.getElem?_set_ne (Ne.symm hj)] at ej
    rw [List.getElem?_set_ne (Ne.symm hj)]
    exact s.2 j e ej
/-- the reading of an abstract computation -/
def tM (K : PySem.W.Frag) (mg : Str → Option Value) (W : WX) (rel : RelT α β) (m : List (Option D) → MH → Res α) : L2.St → Hp → (β → Hp → Prop) → Prop := fun σ H Q =>
  ∃ ρ h ι, HRel K H ι h ∧ SRel K H ι h.length ρ σ ∧ Post K mg W rel σ H ι h Q (m ρ h)
theorem Post.rebase {rel : RelT α β} {Q : β → Hp → Prop} (b : Back rel) (x : Ext H ι h H1 ι1 h1) (r1 : HRel K H1 ι1 h1) {r : Res α} (p : Post K mg W rel σ H ι h Q r) : Post K mg W rel σ H1 ι1 h1 Q r := by
  cases r with
  | ok d h' => exact fun v H' ι' y r' q => p v H' ι' (x.trans y r1) r' (b _ _ _ _ _ _ _ (fun a e => x.back r1 e) q)
  | exc c fs h' => exact fun cls dx H' ι' y r' q => p cls dx H' ι' (x.trans y r1) r' q
  | fail => exact p
theorem Post.bind {rel : RelT α β} {rel2 : RelT γ δ} {Q : δ → Hp → Prop} (b2 : Back rel2) {r : Res α} {f : α → MH → Res γ} (p : Post K mg W rel2 σ H ι h Q (r.bind f)) :
    Post K mg W rel σ H ι h (fun v H1 => ∃ a h1 ι1, r = .ok a h1 ∧ Ext H ι h H1 ι1 h1 ∧ HRel K H1 ι1 h1 ∧ rel H H1 ι1 h1 a v ∧ Post K mg W rel2 σ H ι h Q (f a h1)) r := by
  cases r with
  | ok d h' => exact fun v H' ι' x r' q => ⟨d, h', ι', rfl, x, r', q, p⟩
  | exc c fs h' => exact p
  | fail => exact p
theorem Post.imp {rel : RelT α β} {Q Q' : β → Hp → Prop} {r : Res α} (p : Post K mg W rel σ H ι h Q r) (i : ∀ v H1, Q v H1 → Q' v H1) : Post K mg W rel σ H ι h Q' r := by
  cases r with
  | ok d h' => exact fun v H' ι' x r' q => i _ _ (p v H' ι' x r' q)
  | exc c fs h' => exact p
  | fail => exact p
end

section
variable {X : Cx} {W : WX}
theorem PE.wk {e : Expr} {t t' : TE} (p : PE X e t) (i : ∀ σ H Q, t' σ H Q → t σ H Q) : PE X e t' := ⟨fun pins s σ H Q I q => p.run pins s σ H Q I (i σ H Q q)⟩
theorem PT.wk {e : Expr} {t t' : TT} (p : PT X e t) (i : ∀ σ H Q, t' σ H Q → t σ H Q) : PT X e t' := ⟨fun pins s σ H Q I q => p.run pins s σ H Q I (i σ H Q q)⟩
theorem PW.wk {e : Expr} {t t' : TT} (p : PW X e t) (i : ∀ σ H Q, t' σ H Q → t σ H Q) : PW X e t' := ⟨fun wh pins s σ H Q I q => p.run wh pins s σ H Q I (i σ H Q q)⟩
theorem PA.wk {es : List Expr} {t t' : TA} (p : PA X es t) (i : ∀ σ H Q, t' σ H Q → t σ H Q) : PA X es t' := ⟨fun pos pins s σ H Q I q => p.run pos pins s σ H Q I (i σ H Q q)⟩
theorem PS.wk {e : Stmt} {t t' : TS} (p : PS X e t) (i : ∀ D σ H, t' D σ H → t D σ H) : PS X e t' := ⟨fun pins s σ H Q I q => p.run pins s σ H Q I (i Q σ H q)⟩
theorem PSs.wk {e : List Stmt} {t t' : TS} (p : PSs X e t) (i : ∀ D σ H, t' D σ H → t D σ H) : PSs X e t' := ⟨fun pins s σ H Q I q => p.run pins s σ H Q I (i Q σ H q)⟩
theorem PE.or {e : Expr} {t t' : TE} (p : PE X e t) (p' : PE X e t') : PE X e (fun σ H Q => t σ H Q ∨ t' σ H Q) :=
  ⟨fun pins s σ H Q I q => q.elim (p.run pins s σ H Q I) (p'.run pins s σ H Q I)⟩
end

abbrev Env' := List (Option D)
abbrev MX := Env' → MH → Res SD
abbrev MT := Env' → MH → Res Bool
abbrev MA := Env' → MH → Res (List D)
abbrev MAS := Env' → MH → Res (List SD)
/-- e gives what m says; W: what is wanted of an exception -/
def XM (X : Cx) (W : WX) (e : Expr) (m : MX) : Prop := PE X e (tM X.K X.mg W (rS X.K) m)
def TM (X : Cx) (W : WX) (e : Expr) (m : MT) : Prop := PT X e (tM X.K X.mg W rB m)
def WM (X : Cx) (W : WX) (e : Expr) (m : MT) : Prop := PW X e (tM X.K X.mg W rB m)
def AMd (X : Cx) (W : WX) (es : List Expr) (m : MA) : Prop := PA X es (tM X.K X.mg W (rL X.K) m)
def AMs (X : Cx) (W : WX) (es : List Expr) (m : MAS) : Prop := PA X es (tM X.K X.mg W (rSL X.K) m)

/-! ### names, constants -/
def xVar (i : Nat) : MX := fun ρ h => match ρ[i]? with
  | some (some d) => .ok (.val d) h
  | _ => .fail
def xC (d : D) : MX := fun _ h => .ok (.val d) h
section
variable {X : Cx} {W : WX}
theorem xm_const {e : Expr} {v : V} {d : D} (p : PE X e (tC v)) (r : ∀ H ι n, Rep X.K H ι n d v) : XM X W e (xC d) := PE.wk p fun σ H Q ⟨ρ, h, ι, hr, sr, q⟩ =>
  q v H ι Ext.refl hr ⟨r _ _ _, trivial⟩
theorem xm_var (i : Nat) {x : Str} {pos : Pos} (hN : X.N[i]? = some x := by rfl) (hv : Vis X.env.scope x := by first | exact Or.inl rfl | exact Or.inr (Or.inl rfl) | exact Or.inr (Or.inr rfl)) (hd : (x == ("__debug__" : Str)) = false := by decide)
    (hcd : (x == ("__classdict__" : Str)) = false := by decide) : XM X W (.Name x pos) (xVar i) := PE.wk (pe_var hN hv hd hcd) fun σ H Q ⟨ρ, h, ι, hr, sr, q⟩ => by
  unfold xVar at q
  cases e : ρ[i]? with
  | none => rw [e] at q; exact q.elim
  | some o =>
    cases o with
    | none => rw [e] at q; exact q.elim
    | some d =>
      rw [e] at q
      obtain ⟨v, ev, rv⟩ := sr.2 i d e
      exact ⟨v, ev, q v H ι Ext.refl hr ⟨rv, trivial⟩⟩
theorem xm_int {i : Int} {j pos} : XM X W (.Constant (.int i) j pos) (xC (.int i)) := xm_const pe_int fun _ _ _ => by simp only [Rep]
theorem xm_bl {b j pos} : XM X W (.Constant (.bool b) j pos) (xC (.bl b)) := xm_const pe_bl fun _ _ _ => by simp only [Rep]
theorem xm_non {j pos} : XM X W (.Constant .none j pos) (xC .non) := xm_const pe_non fun _ _ _ => by simp only [Rep]
theorem xm_str {x j pos} : XM X W (.Constant (.str x) j pos) (xC (.str x)) := xm_const pe_str fun _ _ _ => by simp only [Rep]
/-- a module's constant -/
structure GC (K : PySem.W.Frag) (mg : Str → Option Value) (x : Str) (d : D) : Prop where
  ex : ∃ v u, mg x = some u ∧ RelV v u ∧ ∀ H ι n, Rep K H ι n d v
theorem xm_glob {x : Str} {d : D} {pos : Pos} (g : GC X.K X.mg x d) (hg : Gl X x := by rfl) (hd : (x == ("__debug__" : Str)) = false := by decide) : XM X W (.Name x pos) (xC d) := by
  obtain ⟨v, u, hm, r, q⟩ := g.ex
  exact xm_const (pe_glob hg hm r hd) q
theorem xm_bty {x : Str} {n : String} {pos : Pos} (hm : X.mg x = none) (hv : bootBuiltins x = some (.type n)) (hg : Gl X x := by rfl) (hn : x ≠ "__name__" := by decide) (hd : (x == ("__debug__" : Str)) = false := by decide) : XM X W (.Name x pos) (xC (.ty n)) :=
  xm_const (pe_bltn (v := .ty n) hg hm hv rfl hn hd) fun _ _ _ => by simp only [Rep]
end

/-! ### binary operations -/
def xOp (o : SD → SD → MH → Option SD) (a b : MX) : MX := fun ρ h => (a ρ h).bind fun x h1 => (b ρ h1).bind fun y h2 => match o x y h2 with
  | some d => .ok d h2
  | none => .fail
def Real2 (K : PySem.W.Frag) (r : R2) (o : SD → SD → MH → Option SD) : Prop := ∀ {H : Hp} {ι : Nat → Addr} {h : MH} {x y : SD} {v u : V} {Q : VK} {d : SD}, HRel K H ι h → SRep K H ι h x v → SRep K H ι h y u → o x y h = some d →
  (∀ w H', Grow H H' → SRep K H' ι h d w → SFresh H d w → Q w H') → r v u H Q
section
variable {X : Cx} {W : WX}
/-- two expressions one after the other -/
theorem tM_two {α : Type} {β : Type} {rel : RelT α β} (b : Back rel) {K : PySem.W.Frag} {mg : Str → Option Value} {a c : MX} {f : SD → SD → MH → Res α} {σ : L2.St} {H : Hp} {Q : β → Hp → Prop}
    (q : tM K mg W rel (fun ρ h => (a ρ h).bind fun x h1 => (c ρ h1).bind fun y h2 => f x y h2) σ H Q) {R : V → V → Hp → Prop}
    (k : ∀ {ρ h ι x y h2 H2 ι2 v u}, HRel K H ι h → Ext H ι h H2 ι2 h2 → HRel K H2 ι2 h2 → SRel K H2 ι2 h2.length ρ σ → SRep K H2 ι2 h2 x v → SRep K H2 ι2 h2 y u → SFresh H x v → SFresh H y u → Post K mg W rel σ H2 ι2 h2 Q (f x y h2) → R v u H2) :
    tM K mg W (rS K) a σ H fun v H1 => tM K mg W (rS K) c σ H1 fun u H2 => R v u H2 := by
  obtain ⟨ρ, h, ι, hr, sr, q⟩ := q
  refine ⟨ρ, h, ι, hr, sr, (Post.bind (rel := rS K) b q).imp fun v H1 ⟨x, h1, ι1, e1, x1, hr1, rv, q1⟩ => ?_⟩
  refine ⟨ρ, h1, ι1, hr1, sr.ext x1 hr, ((Post.bind (rel := rS K) b (Post.rebase b x1 hr1 q1))).imp fun u H2 ⟨y, h2, ι2, e2, x2, hr2, ru, q2⟩ => ?_⟩
  exact k hr (x1.trans x2 hr1) hr2 ((sr.ext x1 hr).ext x2 hr1) (rv.1.ext x2 hr1) ru.1 rv.2 (ru.2.back fun a e => x1.back hr1 e) (Post.rebase b x2 hr2 q2)
theorem tM_one {α : Type} {β : Type} {rel : RelT α β} (b : Back rel) {K : PySem.W.Frag} {mg : Str → Option Value} {a : MX} {f : SD → MH → Res α} {σ : L2.St} {H : Hp} {Q : β → Hp → Prop}
    (q : tM K mg W rel (fun ρ h => (a ρ h).bind fun x h1 => f x h1) σ H Q) {R : V → Hp → Prop}
    (k : ∀ {ρ h ι x h2 H2 ι2 v}, HRel K H ι h → Ext H ι h H2 ι2 h2 → HRel K H2 ι2 h2 → SRel K H2 ι2 h2.length ρ σ → SRep K H2 ι2 h2 x v → SFresh H x v → Post K mg W rel σ H ι h Q (f x h2) → Post K mg W rel σ H2 ι2 h2 Q (f x h2) → R v H2) :
    tM K mg W (rS K) a σ H R := by
  obtain ⟨ρ, h, ι, hr, sr, q⟩ := q
  refine ⟨ρ, h, ι, hr, sr, (Post.bind (rel := rS K) b q).imp fun v H1 ⟨x, h1, ι1, e1, x1, hr1, rv, q1⟩ => ?_⟩
  exact k hr x1 hr1 (sr.ext x1 hr) rv.1 rv.2 q1 (Post.rebase b x1 hr1 q1)
/-- what an operation that only makes gives -/
theorem Post.made {K : PySem.W.Frag} {mg : Str → Option Value} {σ : L2.St} {H : Hp} {ι : Nat → Addr} {h : MH} {Q : VK} {d : SD} (hr : HRel K H ι h) (q : Post K mg W (rS K) σ H ι h Q (.ok d h)) : ∀ w H', Grow H H' → SRep K H' ι h d w → SFresh H d w → Q w H' :=
  fun w H' g s f => q w H' ι g.ext (g.hrel hr) ⟨s, f⟩
theorem Real2.use {K : PySem.W.Frag} {mg : Str → Option Value} {r : R2} {o : SD → SD → MH → Option SD} (hR : Real2 K r o) {σ : L2.St} {H : Hp} {ι : Nat → Addr} {h : MH} {x y : SD} {v u : V} {Q : VK} (hr : HRel K H ι h) (sx : SRep K H ι h x v) (sy : SRep K H ι h y u)
    (q : Post K mg W (rS K) σ H ι h Q (match o x y h with | some d => .ok d h | none => .fail)) : r v u H Q := by
  cases e : o x y h with
  | none => rw [e] at q; exact q.elim
  | some d => rw [e] at q; exact hR hr sx sy e (Post.made hr q)
theorem xm_op {op : Operator} {r : R2} {o : SD → SD → MH → Option SD} {a b : Expr} {ma mb : MX} {pos : Pos} (ho : OpR X (binaryOp op) r) (hR : Real2 X.K r o) (ha : XM X W a ma) (hb : XM X W b mb) : XM X W (.BinOp a op b pos) (xOp o ma mb) :=
  PE.wk (pe_op ho ha hb) fun σ H Q q => tM_two back_S q fun _ _ hr2 _ sx sy _ _ q2 => hR.use hr2 sx sy q2
theorem xm_cmp {op : CmpOp} {r : R2} {o : SD → SD → MH → Option SD} {a b : Expr} {ma mb : MX} {pos : Pos} (ho : OpR X (compareOp op) r) (hR : Real2 X.K r o) (ha : XM X W a ma) (hb : XM X W b mb) (hm : behindInMarks op b = false) : XM X W (.Compare a [op] [b] pos) (xOp o ma mb) :=
  PE.wk (pe_cmpR ho ha hb hm) fun σ H Q q => tM_two back_S q fun _ _ hr2 _ sx sy _ _ q2 => hR.use hr2 sx sy q2
theorem Real2.or {K : PySem.W.Frag} {r r' : R2} {o o' : SD → SD → MH → Option SD} (a : Real2 K r o) (b : Real2 K r' o') : Real2 K (fun x y H Q => r x y H Q ∨ r' x y H Q) (fun x y h => match o x y h with | some d => some d | none => o' x y h) := fun {H ι h x y v u Q d} hr sx sy e q => by
  cases e1 : o x y h with
  | some d' => simp only [e1] at e; exact .inl (a hr sx sy (by rw [e1]; exact e) q)
  | none => simp only [e1] at e; exact .inr (b hr sx sy e q)
end
/-- ints -/
def oI (g : Int → Int → Option D) : SD → SD → MH → Option SD
  | .val (.int i), .val (.int j), _ => (g i j).map SD.val
  | _, _, _ => none
theorem real_I {K : PySem.W.Frag} {C : Int → Int → Prop} {f : Int → Int → V} {g : Int → Int → Option D} (hg : ∀ i j d, g i j = some d → C i j ∧ ∀ H ι n, Rep K H ι n d (f i j)) : Real2 K (rI C f) (oI g) := fun {H ι h x y v u Q d} hr sx sy e q => by
  unfold oI at e
  split at e
  · rename_i _ i j
    obtain ⟨d', e1, rfl⟩ := Option.map_eq_some_iff.mp e
    obtain ⟨hc, hrep⟩ := hg i j d' e1
    simp only [SRep, Rep] at sx sy
    exact ⟨i, j, sx, sy, hc, q _ H Grow.refl (hrep _ _ _) trivial⟩
  · cases e
theorem real_I0 {K : PySem.W.Frag} {f : Int → Int → V} {g : Int → Int → D} (hg : ∀ i j H ι n, Rep K H ι n (g i j) (f i j)) : Real2 K (rI0 f) (oI fun i j => some (g i j)) := fun {H ι h x y v u Q d} hr sx sy e q => by
  unfold oI at e
  split at e
  · rename_i _ i j
    cases e
    simp only [SRep, Rep] at sx sy
    exact ⟨i, j, sx, sy, q _ H Grow.refl (hg _ _ _ _ _) trivial⟩
  · cases e
/-- the list that stands there -/
def lstOf : SD → MH → Option (List D)
  | .tmp ds, _ => some ds
  | .val (.ref r), h => match h[r]? with
    | some (.lst ds) => some ds
    | _ => none
  | _, _ => none
theorem lstOf_at {K : PySem.W.Frag} {H : Hp} {ι : Nat → Addr} {h : MH} {x : SD} {v : V} {ds : List D} (hr : HRel K H ι h) (s : SRep K H ι h x v) (e : lstOf x h = some ds) : ∃ a xs, v = .ref a ∧ H a = some (.lst xs) ∧ RepL K H ι h.length ds xs := by
  unfold lstOf at e
  split at e
  · cases e
    obtain ⟨a, xs, ev, ea, _, l⟩ := s
    exact ⟨a, xs, ev, ea, l⟩
  · rename_i _ r
    split at e
    · rename_i ds' er
      cases e
      simp only [SRep, Rep] at s
      obtain ⟨xs, ea, l⟩ := hr.obj r _ er
      exact ⟨_, xs, s.2, ea, l⟩
    · cases e
  · cases e
theorem RepL.app {K : PySem.W.Frag} {H : Hp} {ι : Nat → Addr} {n : Nat} : ∀ {ds es : List D} {xs ys : List V}, RepL K H ι n ds xs → RepL K H ι n es ys → RepL K H ι n (ds ++ es) (xs ++ ys)
  | [], _, _, _, q, r => by simp only [RepL] at q; subst q; exact r
  | d :: ds, es, xs, ys, q, r => by
    simp only [RepL] at q
    obtain ⟨v, t, e, q1, q2⟩ := q
    subst e
    show RepL K H ι n (d :: (ds ++ es)) (v :: (t ++ ys))
    simp only [RepL]
    exact ⟨v, _, rfl, q1, RepL.app q2 r⟩
theorem RepL.len {K : PySem.W.Frag} {H : Hp} {ι : Nat → Addr} {n : Nat} : ∀ {ds : List D} {xs : List V}, RepL K H ι n ds xs → ds.length = xs.length
  | [], _, q => by simp only [RepL] at q; subst q; rfl
  | d :: ds, xs, q => by
    simp only [RepL] at q
    obtain ⟨v, t, e, q1, q2⟩ := q
    subst e
    rw [List.length_cons, List.length_cons, RepL.len q2]
theorem RepL.get {K : PySem.W.Frag} {H : Hp} {ι : Nat → Addr} {n : Nat} : ∀ {ds : List D} {xs : List V} {i : Nat} {d : D}, RepL K H ι n ds xs → ds[i]? = some d → ∃ v, xs[i]? = some v ∧ Rep K H ι n d v
  | [], _, _, _, q, e => by simp at e
  | d :: ds, xs, 0, d', q, e => by
    simp only [RepL] at q
    obtain ⟨v, t, ex, q1, q2⟩ := q
    simp at e; subst e; subst ex
    exact ⟨v, rfl, q1⟩
  | d :: ds, xs, i + 1, d', q, e => by
    simp only [RepL] at q
    obtain ⟨v, t, ex, q1, q2⟩ := q
    subst ex
    exact RepL.get (i := i) q2 (by simpa using e)
theorem RepL.take {K : PySem.W.Frag} {H : Hp} {ι : Nat → Addr} {n : Nat} : ∀ {ds : List D} {xs : List V} (k : Nat), RepL K H ι n ds xs → RepL K H ι n (ds.take k) (xs.take k)
  | _, _, 0, _ => by simp [RepL]
  | [], _, k + 1, q => by simp only [RepL] at q; subst q; simp [RepL]
  | d :: ds, xs, k + 1, q => by
    simp only [RepL] at q
    obtain ⟨v, t, ex, q1, q2⟩ := q
    subst ex
    show RepL K H ι n (d :: ds.take k) (v :: t.take k)
    simp only [RepL]
    exact ⟨v, _, rfl, q1, RepL.take k q2⟩
theorem RepL.drop {K : PySem.W.Frag} {H : Hp} {ι : Nat → Addr} {n : Nat} : ∀ {ds : List D} {xs : List V} (k : Nat), RepL K H ι n ds xs → RepL K H ι n (ds.drop k) (xs.drop k)
  | _, _, 0, q => q
  | [], _, k + 1, q => by simp only [RepL] at q; subst q; simp [RepL]
  | d :: ds, xs, k + 1, q => by
    simp only [RepL] at q
    obtain ⟨v, t, ex, q1, q2⟩ := q
    subst ex
    exact RepL.drop k q2
theorem RepL.set {K : PySem.W.Frag} {H : Hp} {ι : Nat → Addr} {n : Nat} {d : D} {v : V} (r : Rep K H ι n d v) : ∀ {ds : List D} {xs : List V} (k : Nat), RepL K H ι n ds xs → RepL K H ι n (ds.set k d) (xs.set k v)
  | [], _, k, q => by simp only [RepL] at q; subst q; simp [RepL]
  | d' :: ds, xs, 0, q => by
    simp only [RepL] at q
    obtain ⟨u, t, ex, q1, q2⟩ := q
    subst ex
    show RepL K H ι n (d :: ds) (v :: t)
    simp only [RepL]
    exact ⟨v, _, rfl, r, q2⟩
  | d' :: ds, xs, k + 1, q => by
    simp only [RepL] at q
    obtain ⟨u, t, ex, q1, q2⟩ := q
    subst ex
    show RepL K H ι n (d' :: ds.set k d) (u :: t.set k v)
    simp only [RepL]
    exact ⟨u, _, rfl, q1, RepL.set r k q2⟩
theorem RepL.reverse {K : PySem.W.Frag} {H : Hp} {ι : Nat → Addr} {n : Nat} : ∀ {ds : List D} {xs : List V}, RepL K H ι n ds xs → RepL K H ι n ds.reverse xs.reverse
  | [], _, q => by simp only [RepL] at q; subst q; simp [RepL]
  | d :: ds, xs, q => by
    simp only [RepL] at q
    obtain ⟨v, t, ex, q1, q2⟩ := q
    subst ex
    rw [List.reverse_cons, List.reverse_cons]
    refine RepL.app (RepL.reverse q2) ?_
    simp only [RepL]
    exact ⟨v, [], rfl, q1, rfl⟩
theorem RepL.rep {K : PySem.W.Frag} {H : Hp} {ι : Nat → Addr} {n : Nat} {ds : List D} {xs : List V} (q : RepL K H ι n ds xs) : ∀ k : Nat, RepL K H ι n (List.replicate k ds).flatten (List.replicate k xs).flatten
  | 0 => by simp [RepL]
  | k + 1 => by rw [List.replicate_succ, List.replicate_succ, List.flatten_cons, List.flatten_cons]; exact RepL.app q (RepL.rep q k)
/-- a new list that nobody names -/
theorem SRep.new {K : PySem.W.Frag} {H : Hp} {ι : Nat → Addr} {h : MH} {ds : List D} {xs : List V} {p : Addr} (hr : HRel K H ι h) (hp : H p = none) (l : RepL K H ι h.length ds xs) :
    SRep K (upd H p (.lst xs)) ι h (.tmp ds) (.ref p) ∧ SFresh H (.tmp ds) (.ref p) :=
  ⟨⟨p, xs, rfl, upd_same, hr.apart hp, (Grow.upd hp).repL l⟩, fun a e => by cases e; exact hp⟩
theorem SRep.newT {K : PySem.W.Frag} {H : Hp} {ι : Nat → Addr} {h : MH} {ds : List D} {xs : List V} {p : Addr} (hr : HRel K H ι h) (hp : H p = none) (l : RepL K H ι h.length ds xs) :
    SRep K (upd H p (.tup xs)) ι h (.val (.tup ds)) (.ref p) := by
  simp only [SRep, Rep]
  exact ⟨p, xs, rfl, SqT.of upd_same, (Grow.upd hp).repL l⟩
end AM

namespace AM
open PySem PySem.Spec PyProof.Rows L2

/-! ### the operators -/
def mulOk (i j : Int) : Bool := decide (i.natAbs.log2 + j.natAbs.log2 < 1000000)
def divOk (i j : Int) : Bool := decide (j ≠ 0) && !Builtin.divisionGoesByPylong i j
def powOk (i j : Int) : Bool := decide (0 ≤ j) && decide (j ≤ 1000000) && decide (i.natAbs < 2 ^ 64)
section
variable {X : Cx}
theorem op_fdivA : OpR X (binaryOp .FloorDiv) (rI (fun i j => divOk i j = true) fun i j => .int (i.fdiv j)) := opI fun i j _ _ _ _ _ hc q => by
  have h := Bool.and_eq_true_iff.mp hc
  exact floordiv_int (of_decide_eq_true h.1) q (.inl (by simpa using h.2))
theorem op_powA : OpR X (binaryOp .Pow) (rI (fun i j => powOk i j = true) fun i j => .int (i ^ j.toNat)) := fun pins s σ H x y v u Q I rx ry ⟨i, j, e1, e2, hc, q⟩ => by
  have h := Bool.and_eq_true_iff.mp hc
  have h' := Bool.and_eq_true_iff.mp h.1
  exact op_pow pins s σ H x y v u Q I rx ry ⟨i, j, e1, e2, ⟨of_decide_eq_true h'.1, of_decide_eq_true h'.2, of_decide_eq_true h.2⟩, q⟩
theorem op_mulA : OpR X (binaryOp .Mult) (rI (fun i j => mulOk i j = true) fun i j => .int (i * j)) := fun pins s σ H x y v u Q I rx ry ⟨i, j, e1, e2, hc, q⟩ =>
  op_mulW pins s σ H x y v u Q I rx ry ⟨i, j, e1, e2, (show i.natAbs.log2 + j.natAbs.log2 < 1000000 from of_decide_eq_true hc), q⟩
end
def oSub := oI fun i j => some (.int (i - j))
def oFDiv := oI fun i j => if divOk i j then some (.int (i.fdiv j)) else none
def oMod := oI fun i j => if j ≠ 0 then some (.int (i.fmod j)) else none
def oPow := oI fun i j => if powOk i j then some (.int (i ^ j.toNat)) else none
def oMulI := oI fun i j => if mulOk i j then some (.int (i * j)) else none
def oLt := oI fun i j => some (.bl (decide (i < j)))
def oLe := oI fun i j => some (.bl (decide (i ≤ j)))
def oGt := oI fun i j => some (.bl (decide (j < i)))
def oGe := oI fun i j => some (.bl (decide (j ≤ i)))
theorem rp_int {K : PySem.W.Frag} {H : Hp} {ι : Nat → Addr} {n : Nat} {i : Int} : Rep K H ι n (.int i) (.int i) := by simp only [Rep]
theorem rp_bl {K : PySem.W.Frag} {H : Hp} {ι : Nat → Addr} {n : Nat} {i : Bool} : Rep K H ι n (.bl i) (.bl i) := by simp only [Rep]
theorem rp_str {K : PySem.W.Frag} {H : Hp} {ι : Nat → Addr} {n : Nat} {i : Str} : Rep K H ι n (.str i) (.str i) := by simp only [Rep]
theorem srp_int {K : PySem.W.Frag} {H : Hp} {ι : Nat → Addr} {h : MH} {i : Int} : SRep K H ι h (.val (.int i)) (.int i) := by simp only [SRep, Rep]
theorem srp_bl {K : PySem.W.Frag} {H : Hp} {ι : Nat → Addr} {h : MH} {i : Bool} : SRep K H ι h (.val (.bl i)) (.bl i) := by simp only [SRep, Rep]
theorem srp_str {K : PySem.W.Frag} {H : Hp} {ι : Nat → Addr} {h : MH} {i : Str} : SRep K H ι h (.val (.str i)) (.str i) := by simp only [SRep, Rep]
theorem rp_non {K : PySem.W.Frag} {H : Hp} {ι : Nat → Addr} {n : Nat} : Rep K H ι n .non .non := by simp only [Rep]
section
variable {K : PySem.W.Frag}
theorem real_sub : Real2 K (rI0 fun i j => .int (i - j)) oSub := real_I0 fun _ _ _ _ _ => rp_int
theorem real_fdiv : Real2 K (rI (fun i j => divOk i j = true) fun i j => .int (i.fdiv j)) oFDiv := real_I fun i j d e => by
  split at e
  · rename_i c; cases e; exact ⟨c, fun _ _ _ => rp_int⟩
  · cases e
theorem real_mod : Real2 K (rI (fun _ j => j ≠ 0) fun i j => .int (i.fmod j)) oMod := real_I fun i j d e => by
  split at e
  · rename_i c; cases e; exact ⟨c, fun _ _ _ => rp_int⟩
  · cases e
theorem real_pow : Real2 K (rI (fun i j => powOk i j = true) fun i j => .int (i ^ j.toNat)) oPow := real_I fun i j d e => by
  split at e
  · rename_i c; cases e; exact ⟨c, fun _ _ _ => rp_int⟩
  · cases e
theorem real_mulI : Real2 K (rI (fun i j => mulOk i j = true) fun i j => .int (i * j)) oMulI := real_I fun i j d e => by
  split at e
  · rename_i c; cases e; exact ⟨c, fun _ _ _ => rp_int⟩
  · cases e
theorem real_lt : Real2 K (rI0 fun i j => .bl (decide (i < j))) oLt := real_I0 fun _ _ _ _ _ => rp_bl
theorem real_le : Real2 K (rI0 fun i j => .bl (decide (i ≤ j))) oLe := real_I0 fun _ _ _ _ _ => rp_bl
theorem real_gt : Real2 K (rI0 fun i j => .bl (decide (j < i))) oGt := real_I0 fun _ _ _ _ _ => rp_bl
theorem real_ge : Real2 K (rI0 fun i j => .bl (decide (j ≤ i))) oGe := real_I0 fun _ _ _ _ _ => rp_bl
end
/-- + -/
def oAddI := oI fun i j => some (.int (i + j))
def oAddS : SD → SD → MH → Option SD
  | .val (.str a), .val (.str b), _ => if a.length + b.length ≤ sizeLine then some (.val (.str (a ++ b))) else none
  | _, _, _ => none
def oAddT : SD → SD → MH → Option SD
  | .val (.tup a), .val (.tup b), _ => if a.length + b.length ≤ sizeLine then some (.val (.tup (a ++ b))) else none
  | _, _, _ => none
def oAddL (x y : SD) (h : MH) : Option SD := match lstOf x h, lstOf y h with
  | some a, some b => if a.length + b.length ≤ sizeLine then some (.tmp (a ++ b)) else none
  | _, _ => none
def orO (o o' : SD → SD → MH → Option SD) : SD → SD → MH → Option SD := fun x y h => match o x y h with
  | some d => some d
  | none => o' x y h
def oAdd := orO oAddI (orO oAddT (orO oAddL oAddS))
section
variable {K : PySem.W.Frag}
theorem real_addI : Real2 K (rI0 fun i j => .int (i + j)) oAddI := real_I0 fun _ _ _ _ _ => rp_int
theorem real_addS : Real2 K (fun x y H Q => ∃ i j, x = .str i ∧ y = .str j ∧ i.length + j.length ≤ sizeLine ∧ Q (.str (i ++ j)) H) oAddS := fun {H ι h x y v u Q d} hr sx sy e q => by
  unfold oAddS at e
  split at e
  · rename_i _ i j
    split at e
    · rename_i c
      cases e
      simp only [SRep, Rep] at sx sy
      exact ⟨i, j, sx, sy, c, q _ H Grow.refl srp_str trivial⟩
    · cases e
  · cases e
theorem real_addT : Real2 K (rCatA K) oAddT := fun {H ι h x y v u Q d} hr sx sy e q => by
  unfold oAddT at e
  split at e
  · rename_i _ a b
    split at e
    · rename_i c
      cases e
      simp only [SRep, Rep] at sx sy
      obtain ⟨pa, xs, rfl, ha, la⟩ := sx
      obtain ⟨pb, ys, rfl, hb, lb⟩ := sy
      refine ⟨pa, pb, xs, ys, rfl, rfl, ha, hb, by rw [← la.len, ← lb.len]; exact c, fun z => ?_, fun z1 z2 => ?_, fun z1 z2 p hp => ?_⟩
      · subst z
        have : a = [] := List.eq_nil_of_length_eq_zero la.len
        subst this
        exact q _ H Grow.refl (by simp only [SRep, Rep, List.nil_append]; exact ⟨pb, ys, rfl, hb, lb⟩) trivial
      · subst z2
        have : b = [] := List.eq_nil_of_length_eq_zero lb.len
        subst this
        exact q _ H Grow.refl (by simp only [SRep, Rep, List.append_nil]; exact ⟨pa, xs, rfl, ha, la⟩) trivial
      · exact q _ _ (Grow.upd hp) (SRep.newT hr hp (la.app lb)) trivial
    · cases e
  · cases e
theorem real_addL : Real2 K rCat oAddL := fun {H ι h x y v u Q d} hr sx sy e q => by
  unfold oAddL at e
  split at e
  · rename_i a b e1 e2
    split at e
    · rename_i c
      cases e
      obtain ⟨pa, xs, rfl, ha, la⟩ := lstOf_at hr sx e1
      obtain ⟨pb, ys, rfl, hb, lb⟩ := lstOf_at hr sy e2
      refine ⟨pa, pb, xs, ys, rfl, rfl, ha, hb, by rw [← la.len, ← lb.len]; exact c, fun p hp => ?_⟩
      have := SRep.new hr hp (la.app lb)
      exact q _ _ (Grow.upd hp) this.1 this.2
    · cases e
  · cases e
end
section
variable {X : Cx} {W : WX} {a b : Expr} {ma mb : MX} {pos : Pos}
theorem xm_add (ha : XM X W a ma) (hb : XM X W b mb) : XM X W (.BinOp a .Add b pos) (xOp oAdd ma mb) :=
  xm_op (op_add.or (op_catA.or (op_cat.or op_add_str))) (real_addI.or (real_addT.or (real_addL.or real_addS))) ha hb
theorem xm_addI (ha : XM X W a ma) (hb : XM X W b mb) : XM X W (.BinOp a .Add b pos) (xOp oAddI ma mb) := xm_op op_add real_addI ha hb
theorem xm_sub (ha : XM X W a ma) (hb : XM X W b mb) : XM X W (.BinOp a .Sub b pos) (xOp oSub ma mb) := xm_op op_sub real_sub ha hb
theorem xm_fdiv (ha : XM X W a ma) (hb : XM X W b mb) : XM X W (.BinOp a .FloorDiv b pos) (xOp oFDiv ma mb) := xm_op op_fdivA real_fdiv ha hb
theorem xm_mod (ha : XM X W a ma) (hb : XM X W b mb) : XM X W (.BinOp a .Mod b pos) (xOp oMod ma mb) := xm_op op_modN real_mod ha hb
theorem xm_pow (ha : XM X W a ma) (hb : XM X W b mb) : XM X W (.BinOp a .Pow b pos) (xOp oPow ma mb) := xm_op op_powA real_pow ha hb
theorem xm_mulI (ha : XM X W a ma) (hb : XM X W b mb) : XM X W (.BinOp a .Mult b pos) (xOp oMulI ma mb) := xm_op op_mulA real_mulI ha hb
theorem xm_lt (ha : XM X W a ma) (hb : XM X W b mb) : XM X W (.Compare a [.Lt] [b] pos) (xOp oLt ma mb) := xm_cmp op_lt real_lt ha hb (nomark _)
theorem xm_le (ha : XM X W a ma) (hb : XM X W b mb) : XM X W (.Compare a [.LtE] [b] pos) (xOp oLe ma mb) := xm_cmp op_le real_le ha hb (nomark _)
theorem xm_gt (ha : XM X W a ma) (hb : XM X W b mb) : XM X W (.Compare a [.Gt] [b] pos) (xOp oGt ma mb) := xm_cmp op_gt real_gt ha hb (nomark _)
theorem xm_ge (ha : XM X W a ma) (hb : XM X W b mb) : XM X W (.Compare a [.GtE] [b] pos) (xOp oGe ma mb) := xm_cmp op_ge real_ge ha hb (nomark _)
end
/-! ### * of a tuple, of a list -/
def oRepL (x y : SD) (h : MH) : Option SD := match lstOf x h, y with
  | some a, .val (.int k) => if k.natAbs < 2 ^ 62 ∧ a.length * k.toNat ≤ sizeLine then some (.tmp (List.replicate k.toNat a).flatten) else none
  | _, _ => none
theorem real_repL {K : PySem.W.Frag} : Real2 K rRep oRepL := fun {H ι h x y v u Q d} hr sx sy e q => by
  unfold oRepL at e
  split at e
  · rename_i a k e1
    split at e
    · rename_i c
      cases e
      obtain ⟨pa, xs, rfl, ha, la⟩ := lstOf_at hr sx e1
      simp only [SRep, Rep] at sy
      refine ⟨pa, k, xs, rfl, sy, ha, by omega, by omega, by rw [← la.len]; exact c.2, fun p hp => ?_⟩
      have := SRep.new hr hp (la.rep k.toNat)
      exact q _ _ (Grow.upd hp) this.1 this.2
    · cases e
  · cases e
/-! ### == -/
mutual
def pyD : D → Option PyData
  | .non => some .none
  | .bl b => some (.bool b)
  | .int i => some (.int i)
  | .str x => some (.str x)
  | .tup ds => (pyL ds).map PyData.tuple
  | _ => none
def pyL : List D → Option (List PyData)
  | [] => some []
  | d :: ds => match pyD d, pyL ds with
    | some a, some b => some (a :: b)
    | _, _ => none
end
def pyS (x : SD) (h : MH) : Option PyData := match x with
  | .tmp ds => (pyL ds).map PyData.list
  | .val (.ref r) => match h[r]? with
    | some (.lst ds) => (pyL ds).map PyData.list
    | _ => none
  | .val d => pyD d
mutual
theorem pyD_dp {K : PySem.W.Frag} {H : Hp} {ι : Nat → Addr} {n : Nat} : ∀ (d : D) (v : V) (p : PyData), Rep K H ι n d v → pyD d = some p → Dp K H v p
  | .und, _, _, q, _ => by simp only [Rep] at q
  | .non, v, p, q, e => by simp only [Rep] at q; simp only [pyD, Option.some.injEq] at e; subst q; subst e; exact .non
  | .bl b, v, p, q, e => by simp only [Rep] at q; simp only [pyD, Option.some.injEq] at e; subst q; subst e; exact .bl b
  | .int b, v, p, q, e => by simp only [Rep] at q; simp only [pyD, Option.some.injEq] at e; subst q; subst e; exact .int b
  | .str b, v, p, q, e => by simp only [Rep] at q; simp only [pyD, Option.some.injEq] at e; subst q; subst e; exact .str b
  | .tup ds, v, p, q, e => by
    simp only [Rep] at q
    obtain ⟨a, xs, rfl, s, l⟩ := q
    simp only [pyD] at e
    obtain ⟨ps, e1, rfl⟩ := Option.map_eq_some_iff.mp e
    exact .tup s (pyL_dp ds xs ps l e1)
  | .ref r, v, p, q, e => by simp only [pyD] at e; cases e
  | .ty r, v, p, q, e => by simp only [pyD] at e; cases e
theorem pyL_dp {K : PySem.W.Frag} {H : Hp} {ι : Nat → Addr} {n : Nat} : ∀ (d : List D) (v : List V) (p : List PyData), RepL K H ι n d v → pyL d = some p → DpAll K H v p
  | [], v, p, q, e => by simp only [RepL] at q; simp only [pyL, Option.some.injEq] at e; subst q; subst e; exact .nil
  | d :: ds, v, p, q, e => by
    simp only [RepL] at q
    obtain ⟨u, t, rfl, q1, q2⟩ := q
    simp only [pyL] at e
    split at e
    · rename_i a b ea eb
      cases e
      exact .cons (pyD_dp d u a q1 ea) (pyL_dp ds t b q2 eb)
    · cases e
end
theorem pyS_dp {K : PySem.W.Frag} {H : Hp} {ι : Nat → Addr} {h : MH} {x : SD} {v : V} {p : PyData} (hr : HRel K H ι h) (s : SRep K H ι h x v) (e : pyS x h = some p) : Dp K H v p := by
  unfold pyS at e
  split at e
  · rename_i ds
    obtain ⟨ps, e1, rfl⟩ := Option.map_eq_some_iff.mp e
    obtain ⟨a, xs, rfl, ea, _, l⟩ := s
    exact .lst (SqL.of ea) (pyL_dp _ _ _ l e1)
  · rename_i r
    split at e
    · rename_i ds er
      obtain ⟨ps, e1, rfl⟩ := Option.map_eq_some_iff.mp e
      simp only [SRep, Rep] at s
      obtain ⟨xs, ea, l⟩ := hr.obj r _ er
      rw [s.2]
      exact .lst (SqL.of ea) (pyL_dp _ _ _ l e1)
    · cases e
  · exact pyD_dp _ _ _ s e
def oEqB (f : Bool → Bool) (x y : SD) (h : MH) : Option SD := match pyS x h, pyS y h with
  | some a, some b => if SeqAt.shaped a && SeqAt.shaped b then some (.val (.bl (f (PyData.eqv a b)))) else none
  | _, _ => none
def oEq := oEqB id
def oNe := oEqB not
section
variable {K : PySem.W.Frag}
theorem real_eq : Real2 K (rEqD K) oEq := fun {H ι h x y v u Q d} hr sx sy e q => by
  unfold oEq oEqB at e
  split at e
  · rename_i a b e1 e2
    split at e
    · rename_i c
      cases e
      have c := Bool.and_eq_true_iff.mp c
      exact ⟨a, b, pyS_dp hr sx e1, pyS_dp hr sy e2, c.1, c.2, q _ H Grow.refl srp_bl trivial⟩
    · cases e
  · cases e
theorem real_ne : Real2 K (rNeD K) oNe := fun {H ι h x y v u Q d} hr sx sy e q => by
  unfold oNe oEqB at e
  split at e
  · rename_i a b e1 e2
    split at e
    · rename_i c
      cases e
      have c := Bool.and_eq_true_iff.mp c
      exact ⟨a, b, pyS_dp hr sx e1, pyS_dp hr sy e2, c.1, c.2, q _ H Grow.refl srp_bl trivial⟩
    · cases e
  · cases e
end
section
variable {X : Cx} {W : WX} {a b : Expr} {ma mb : MX} {pos : Pos}
theorem xm_eq {k : Nat} (hr : Room k X.A) (ha : XM X W a ma) (hb : XM X W b mb) : XM X W (.Compare a [.Eq] [b] pos) (xOp oEq ma mb) := xm_cmp (op_eqD hr.units) real_eq ha hb (nomark _)
theorem xm_ne {k : Nat} (hr : Room k X.A) (ha : XM X W a ma) (hb : XM X W b mb) : XM X W (.Compare a [.NotEq] [b] pos) (xOp oNe ma mb) := xm_cmp (op_neD hr.units) real_ne ha hb (nomark _)
theorem xm_repL (ha : XM X W a ma) (hb : XM X W b mb) : XM X W (.BinOp a .Mult b pos) (xOp oRepL ma mb) := xm_op op_rep real_repL ha hb
end
/-! ### is -/
def oIsB (f : Bool → Bool) : SD → SD → MH → Option SD
  | .val (.bl a), .val (.bl b), _ => some (.val (.bl (f (decide (a = b)))))
  | _, _, _ => none
def isNone : D → Bool
  | .non => true
  | _ => false
def oIsN (f : Bool → Bool) : SD → SD → MH → Option SD
  | .val d, .val .non, _ => some (.val (.bl (f (isNone d))))
  | _, _, _ => none
section
variable {K : PySem.W.Frag}
theorem real_isB : Real2 K rIsB (oIsB id) := fun {H ι h x y v u Q d} hr sx sy e q => by
  unfold oIsB at e
  split at e
  · rename_i _ i j
    cases e
    simp only [SRep, Rep] at sx sy
    exact ⟨i, j, sx, sy, q _ H Grow.refl srp_bl trivial⟩
  · cases e
theorem real_notB : Real2 K rNotB (oIsB not) := fun {H ι h x y v u Q d} hr sx sy e q => by
  unfold oIsB at e
  split at e
  · rename_i _ i j
    cases e
    simp only [SRep, Rep] at sx sy
    exact ⟨i, j, sx, sy, q _ H Grow.refl srp_bl trivial⟩
  · cases e
theorem isNone_eq {H : Hp} {ι : Nat → Addr} {n : Nat} {d : D} {v : V} (r : Rep K H ι n d v) : isNone d = decide (v = .non) := by
  cases d <;> simp only [Rep] at r <;> simp only [isNone]
  · subst r; rfl
  · subst r; rfl
  · subst r; rfl
  · subst r; rfl
  · obtain ⟨a, xs, rfl, _⟩ := r; rfl
  · obtain ⟨_, rfl⟩ := r; rfl
  · subst r; rfl
theorem real_isN : Real2 K (fun x y H Q => y = .non ∧ Q (.bl (decide (x = .non))) H) (oIsN id) := fun {H ι h x y v u Q d} hr sx sy e q => by
  unfold oIsN at e
  split at e
  · rename_i _ d'
    cases e
    simp only [SRep] at sx
    simp only [SRep, Rep] at sy
    exact ⟨sy, q _ H Grow.refl (by rw [isNone_eq sx]; exact srp_bl) trivial⟩
  · cases e
theorem real_notN : Real2 K (fun x y H Q => y = .non ∧ Q (.bl (!decide (x = .non))) H) (oIsN not) := fun {H ι h x y v u Q d} hr sx sy e q => by
  unfold oIsN at e
  split at e
  · rename_i _ d'
    cases e
    simp only [SRep] at sx
    simp only [SRep, Rep] at sy
    exact ⟨sy, q _ H Grow.refl (by rw [isNone_eq sx]; exact srp_bl) trivial⟩
  · cases e
end
section
variable {X : Cx} {W : WX} {a b : Expr} {ma mb : MX} {pos : Pos}
def oIs := orO (oIsB id) (oIsN id)
def oIsNot := orO (oIsB not) (oIsN not)
theorem xm_is (ha : XM X W a ma) (hb : XM X W b mb) : XM X W (.Compare a [.Is] [b] pos) (xOp oIs ma mb) := xm_cmp (op_isBl.or op_isN) (real_isB.or real_isN) ha hb (nomark _)
theorem xm_isnot (ha : XM X W a ma) (hb : XM X W b mb) : XM X W (.Compare a [.IsNot] [b] pos) (xOp oIsNot ma mb) := xm_cmp (op_notBl.or op_notN) (real_notB.or real_notN) ha hb (nomark _)
end
/-! ### one operand -/
def xUn (o : SD → MH → Option SD) (a : MX) : MX := fun ρ h => (a ρ h).bind fun x h1 => match o x h1 with
  | some d => .ok d h1
  | none => .fail
def Real1 (K : PySem.W.Frag) (r : V → Hp → VK → Prop) (o : SD → MH → Option SD) : Prop := ∀ {H : Hp} {ι : Nat → Addr} {h : MH} {x : SD} {v : V} {Q : VK} {d : SD}, HRel K H ι h → SRep K H ι h x v → o x h = some d →
  (∀ w H', Grow H H' → SRep K H' ι h d w → SFresh H d w → Q w H') → r v H Q
theorem Real1.use {K : PySem.W.Frag} {mg : Str → Option Value} {W : WX} {r : V → Hp → VK → Prop} {o : SD → MH → Option SD} (hR : Real1 K r o) {σ : L2.St} {H : Hp} {ι : Nat → Addr} {h : MH} {x : SD} {v : V} {Q : VK} (hr : HRel K H ι h) (sx : SRep K H ι h x v)
    (q : Post K mg W (rS K) σ H ι h Q (match o x h with | some d => .ok d h | none => .fail)) : r v H Q := by
  cases e : o x h with
  | none => rw [e] at q; exact q.elim
  | some d => rw [e] at q; exact hR hr sx e (Post.made hr q)
def oNeg : SD → MH → Option SD
  | .val (.int i), _ => some (.val (.int (-i)))
  | _, _ => none
section
variable {X : Cx} {W : WX} {a b : Expr} {ma mb : MX} {pos : Pos}
theorem real_neg {K : PySem.W.Frag} : Real1 K (rU fun i => .int (-i)) oNeg := fun {H ι h x v Q d} hr sx e q => by
  unfold oNeg at e
  split at e
  · rename_i _ i
    cases e
    simp only [SRep, Rep] at sx
    exact ⟨i, sx, q _ H Grow.refl srp_int trivial⟩
  · cases e
theorem xm_un {op : UnaryOp} {r : V → Hp → VK → Prop} {o : SD → MH → Option SD} (ho : UnR X (unaryOp op) r) (hR : Real1 X.K r o) (ha : XM X W a ma) : XM X W (.UnaryOp op a pos) (xUn o ma) := PE.wk (pe_un ho ha) fun σ H Q q => tM_one back_S q fun _ _ hr2 _ sx _ _ q2 => hR.use hr2 sx q2
theorem xm_neg (ha : XM X W a ma) : XM X W (.UnaryOp .USub a pos) (xUn oNeg ma) := xm_un un_neg real_neg ha
/-! ### subscripts -/
end
def oIxT : SD → SD → MH → Option SD
  | .val (.tup ds), .val (.int i), _ => (atI ds i).map SD.val
  | _, _, _ => none
def oIxL (x y : SD) (h : MH) : Option SD := match lstOf x h, y with
  | some ds, .val (.int i) => (atI ds i).map SD.val
  | _, _ => none
def oIxS : SD → SD → MH → Option SD
  | .val (.str z), .val (.int i), _ => if z.length ≤ sizeLine then (atI z.cps.toList i).map fun c => .val (.str ⟨#[c]⟩) else none
  | _, _, _ => none
theorem RepL.atI {K : PySem.W.Frag} {H : Hp} {ι : Nat → Addr} {n : Nat} {ds : List D} {xs : List V} {i : Int} {d : D} (l : RepL K H ι n ds xs) (e : L2.atI ds i = some d) : ∃ v, L2.atI xs i = some v ∧ Rep K H ι n d v := by
  unfold L2.atI at e ⊢
  rw [← l.len]
  cases q : ixN ds.length i with
  | none => rw [q] at e; cases e
  | some j =>
    rw [q] at e
    exact l.get (by simpa using e)
section
variable {K : PySem.W.Frag}
theorem real_ixT : Real2 K (rIxT K) oIxT := fun {H ι h x y v u Q d} hr sx sy e q => by
  unfold oIxT at e
  split at e
  · rename_i _ ds i
    obtain ⟨d', e1, rfl⟩ := Option.map_eq_some_iff.mp e
    simp only [SRep, Rep] at sx sy
    obtain ⟨a, xs, rfl, s, l⟩ := sx
    obtain ⟨w, ew, rw'⟩ := l.atI e1
    exact ⟨a, xs, i, w, rfl, sy, s, ew, q w H Grow.refl rw' trivial⟩
  · cases e
theorem real_ixL : Real2 K (rIxL K) oIxL := fun {H ι h x y v u Q d} hr sx sy e q => by
  unfold oIxL at e
  split at e
  · rename_i _ ds i e0
    obtain ⟨d', e1, rfl⟩ := Option.map_eq_some_iff.mp e
    obtain ⟨a, xs, rfl, s, l⟩ := lstOf_at hr sx e0
    simp only [SRep, Rep] at sy
    obtain ⟨w, ew, rw'⟩ := l.atI e1
    exact ⟨a, xs, _, w, rfl, sy, SqL.of s, ew, q w H Grow.refl rw' trivial⟩
  · cases e
theorem real_ixS : Real2 K rIxS oIxS := fun {H ι h x y v u Q d} hr sx sy e q => by
  unfold oIxS at e
  split at e
  · rename_i _ z i
    split at e
    · rename_i c
      obtain ⟨d', e1, rfl⟩ := Option.map_eq_some_iff.mp e
      simp only [SRep, Rep] at sx sy
      exact ⟨z, i, d', sx, sy, c, e1, q _ H Grow.refl srp_str trivial⟩
    · cases e
  · cases e
end
def oIx := orO oIxT (orO oIxL oIxS)
theorem real_ix {K : PySem.W.Frag} : Real2 K (fun x y H Q => rIxT K x y H Q ∨ rIxL K x y H Q ∨ rIxS x y H Q) oIx := real_ixT.or (real_ixL.or real_ixS)
theorem xm_ix {X : Cx} {W : WX} {a b : Expr} {ma mb : MX} {pos : Pos} (ha : XM X W a ma) (hb : XM X W b mb) (hs : PlainIx b := by exact fun _ _ => rfl) : XM X W (.Subscript a b pos) (xOp oIx ma mb) :=
  PE.wk (pe_ix (ix_tup.or (ix_list.or ix_str)) ha hb hs) fun σ H Q q => tM_two back_S q fun _ _ hr2 _ sx sy _ _ q2 => Real2.use real_ix hr2 sx sy q2
end AM

namespace L2
open PySem PySem.Spec PyProof.Rows HT
/-! ### tuple * 1, tuple * 0 -/
theorem tuple_mulW1 (l : Addr) (items : Array Value) (n : Nat) (dd : Option Addr) (sl : Array (Option Value)) (x : Int) (u : Tok) (c0 : (decide (x < -(2 ^ 63)) || decide (x ≥ 2 ^ 63)) = false) (c1 : (items.isEmpty || x == 1) = true) :
    Meets (Builtin.«tuple.__mul__» ⟨[.ref l, .int x u], []⟩) (fun _ R s => s.heap.get? l = some { cls := .type "tuple", dict := dd, data := .seq items n, slots := sl } ∧ R (.ok (.ret (Value.ref l))) s) :=
  .of_wp fun prog w A R s h => by
    obtain ⟨hp, g, d, tk, os⟩ := s
    obtain ⟨hl, h⟩ := h
    have f1 := AutoSeq1.idx_int
    wp_walk using wpAny_loadPart' hl
    repeat (first
      | (refine wpAny_ite_false (decide_eq_false (by rw [c0]; exact Bool.false_ne_true)) ?_; wp_walk using wpAny_loadPart' hl)
      | (refine wpAny_ite_true (decide_eq_true c1) ?_; wp_walk using wpAny_loadPart' hl))
    exact ⟨_, rfl, h⟩
theorem tuple_mulW0 (l : Addr) (items : Array Value) (n : Nat) (dd : Option Addr) (sl : Array (Option Value)) (x : Int) (u : Tok) (c0 : (decide (x < -(2 ^ 63)) || decide (x ≥ 2 ^ 63)) = false) (c1 : (items.isEmpty || x == 1) = false) (c2 : (decide (x ≤ 0) || items.isEmpty) = true) :
    Meets (Builtin.«tuple.__mul__» ⟨[.ref l, .int x u], []⟩) (fun _ R s => s.heap.get? l = some { cls := .type "tuple", dict := dd, data := .seq items n, slots := sl } ∧
      R (.ok (.ret (Value.ref s.heap.objs.size))) { s with heap := s.heap.push { cls := Value.type "tuple", data := Data.seq #[] } }) :=
  .of_wp fun prog w A R s h => by
    obtain ⟨hp, g, d, tk, os⟩ := s
    obtain ⟨hl, h⟩ := h
    have f1 := AutoSeq1.idx_int
    wp_walk using wpAny_loadPart' hl
    repeat (first
      | (refine wpAny_ite_false (decide_eq_false (by rw [c0]; exact Bool.false_ne_true)) ?_; wp_walk using wpAny_loadPart' hl)
      | (refine wpAny_ite_false (decide_eq_false (by rw [c1]; exact Bool.false_ne_true)) ?_; wp_walk using wpAny_loadPart' hl)
      | (refine wpAny_ite_true (decide_eq_true c2) ?_; wp_walk using wpAny_loadPart' hl))
    exact ⟨_, rfl, h⟩
def rRepT1 (K : PySem.W.Frag) : R2 := fun x y H Q => ∃ l k xs, x = .ref l ∧ y = .int k ∧ SqT K H l xs ∧ (xs = [] ∨ k = 1) ∧ -(2 ^ 63) ≤ k ∧ k < 2 ^ 63 ∧ Q (.ref l) H
def rRepT0 (K : PySem.W.Frag) : R2 := fun x y H Q => ∃ l k xs, x = .ref l ∧ y = .int k ∧ SqT K H l xs ∧ xs ≠ [] ∧ k ≤ 0 ∧ -(2 ^ 63) ≤ k ∧ ∀ p, H p = none → Q (.ref p) (upd H p (.tup []))
section
variable {X : Cx}
theorem op_repT1 : OpR X (binaryOp .Mult) (rRepT1 X.K) := by
  intro pins s σ H x y v u Q I rx ry h
  obtain ⟨l, k, xs, rfl, rfl, hT, hne, h1, h2, q⟩ := h
  cases rx
  obtain ⟨t, rfl⟩ := ry
  obtain ⟨its, r, ⟨⟨cls, dd, data, sl⟩, ho, hc, n, hd⟩, hs⟩ := I.tuple hT
  simp only at hc hd
  subst hc hd
  have hle : its.length = xs.length := r.length.symm
  have c0 : (decide (k < -(2 ^ 63)) || decide (k ≥ 2 ^ 63)) = false := by
    rw [decide_eq_false (by omega), decide_eq_false (by omega)] <;> rfl
  have c1 : (its.toArray.isEmpty || k == 1) = true := by
    rcases hne with e | e
    · have : its = [] := List.eq_nil_of_length_eq_zero (by rw [hle, e]; rfl)
      subst this; rfl
    · subst e; simp
  refine wpAny_binaryOp_repeat_ref (T := "tuple") (U := "int") (by decide) ⟨_, ho, rfl⟩ (fun s' => typeIs_int s' k t) noFill_tuple_mul F.fills_int_mul F.slot_int_rmul repeat_tuple F.slot_int_index.lookup
    (call_meets F.slot_int_rmul (typeIs_int s k t) F.entry_int_rmul (F.args_int_rmul_2 _ _) (int_rmul_tuple k t l its.toArray n dd sl)
      ⟨ho, rfl, ⟨_, ho, rfl⟩, call_meets F.slot_tuple_mul ⟨_, ho, rfl⟩ F.entry_tuple_mul (F.args_tuple_mul_2 _ _) (tuple_mulW1 l its.toArray n dd sl k t c0 c1) ⟨ho, ?_⟩⟩)
  exact ⟨.ref l, H, I, rfl, q⟩
theorem op_repT0 : OpR X (binaryOp .Mult) (rRepT0 X.K) := by
  intro pins s σ H x y v u Q I rx ry h
  obtain ⟨l, k, xs, rfl, rfl, hT, hne, h1, h2, q⟩ := h
  cases rx
  obtain ⟨t, rfl⟩ := ry
  obtain ⟨its, r, ⟨⟨cls, dd, data, sl⟩, ho, hc, n, hd⟩, hs⟩ := I.tuple hT
  simp only at hc hd
  subst hc hd
  have hle : its.length = xs.length := r.length.symm
  have c0 : (decide (k < -(2 ^ 63)) || decide (k ≥ 2 ^ 63)) = false := by
    rw [decide_eq_false (by omega), decide_eq_false (by omega)] <;> rfl
  have hi : its.toArray.isEmpty = false := by
    cases its with
    | nil => exact absurd (List.eq_nil_of_length_eq_zero (by rw [← hle]; rfl)) hne
    | cons a b => rfl
  have c1 : (its.toArray.isEmpty || k == 1) = false := by
    rw [hi, Bool.false_or]
    exact beq_eq_false_iff_ne.mpr (by omega)
  have c2 : (decide (k ≤ 0) || its.toArray.isEmpty) = true := by
    rw [decide_eq_true (by omega)] <;> rfl
  refine wpAny_binaryOp_repeat_ref (T := "tuple") (U := "int") (by decide) ⟨_, ho, rfl⟩ (fun s' => typeIs_int s' k t) noFill_tuple_mul F.fills_int_mul F.slot_int_rmul repeat_tuple F.slot_int_index.lookup
    (call_meets F.slot_int_rmul (typeIs_int s k t) F.entry_int_rmul (F.args_int_rmul_2 _ _) (int_rmul_tuple k t l its.toArray n dd sl)
      ⟨ho, rfl, ⟨_, ho, rfl⟩, call_meets F.slot_tuple_mul ⟨_, ho, rfl⟩ F.entry_tuple_mul (F.args_tuple_mul_2 _ _) (tuple_mulW0 l its.toArray n dd sl k t c0 c1 c2) ⟨ho, ?_⟩⟩)
  refine ⟨.ref s.heap.objs.size, _, I.laid (t' := s.toks) (o := .tup []) (fun b ob q => Heap.get?_push_of_some _ q) (Nat.le_refl _) ?_, rfl, q _ (I.hok.fresh (Nat.le_refl _))⟩
  exact ⟨Nat.zero_le _, [], .nil, IsTup.new _ _⟩
end
/-! ### tuple[::-1] -/
section
variable {prog : Program} {w : World} {A : Around} {E : Value → Shared → Prop} {s : Shared}
theorem sliceApplied_rev {sl : Addr} {vs : Value} {n : Nat} {Q : Int × Int × Nat → Shared → Prop} (hs : s.heap.IsSliceOf sl .none .none vs) (ps : IsPart vs (some (-1)))
    (h : Q ((n : Int) - 1, -1, n) s) : wpAny (model prog w) A (Builtin.Slice.sliceApplied (.ref sl) (pure (n : Int))) Q E s := by
  obtain ⟨os, hos, hcs, hds⟩ := id hs
  unfold Builtin.Slice.sliceApplied Builtin.Slice.sliceFields
  refine wpAny_bind (wpAny_bind (wpAny_field hos hds (x := .none) rfl (wpAny_bind (wpAny_field hos hds (x := .none) rfl (wpAny_bind (wpAny_field hos hds (x := vs) rfl (wpAny_pure ?_)))))))
  refine wpAny_bind (slicePart_ ps ?_)
  show wpAny _ _ (if ((-1 : Int) == 0) = true then _ else _) _ _ s
  rw [if_neg (by decide)]
  refine wpAny_bind (slicePart_ .none (wpAny_bind (slicePart_ .none (wpAny_bind (wpAny_pure ?_)))))
  show wpAny _ _ (match Builtin.Slice.sliceAdjust none none (-1) (n : Int) with | (lo, hi) => pure (lo, (-1 : Int), Builtin.Slice.slicePlaces lo hi (-1))) _ _ s
  have e : Builtin.Slice.sliceAdjust none none (-1) (n : Int) = ((n : Int) - 1, -1) := by
    unfold Builtin.Slice.sliceAdjust
    simp
  rw [e]
  show wpAny _ _ (pure ((n : Int) - 1, (-1 : Int), Builtin.Slice.slicePlaces ((n : Int) - 1) (-1) (-1))) _ _ s
  have e2 : Builtin.Slice.slicePlaces ((n : Int) - 1) (-1) (-1) = n := by
    unfold Builtin.Slice.slicePlaces
    have h1 : ¬ ((-1 : Int) > 0) := by decide
    simp only [h1, if_false]
    split
    · simp
    · omega
  rw [e2]
  exact wpAny_pure h
theorem pick_rev (xs : Array Value) : ((List.range xs.size).filterMap fun (m : Nat) => xs[(((xs.size : Int) - 1) + (m : Int) * (-1)).toNat]?).toArray = xs.toList.reverse.toArray := by
  rw [← PySem.W.krv_all xs, ← List.filterMap_reverse, ← PySem.W.krv_range xs.size, List.filterMap_map]
  have e : (fun (m : Nat) => xs[(((xs.size : Int) - 1) + (m : Int) * (-1)).toNat]?) = ((fun x => xs[x]?) ∘ fun k => xs.size - 1 - k) := by
    funext m
    have : (((xs.size : Int) - 1) + (m : Int) * (-1)).toNat = xs.size - 1 - m := by omega
    rw [this]; rfl
  rw [e]
theorem getItem_tuple_rev {t sl : Addr} {items : Array Value} {vs : Value} {Q : Value → Shared → Prop} (ht : IsTup s.heap t items) (hs : s.heap.IsSliceOf sl .none .none vs) (ps : IsPart vs (some (-1)))
    (h : Q (.ref s.heap.objs.size) { s with heap := s.heap.push { cls := .type "tuple", data := .seq items.toList.reverse.toArray } })
    (hsz : items.size ≤ sizeLine) : wpAny (model prog w) A (getItem (.ref t) (.ref sl)) Q E s := by
  have htake : sizeOk (.seq items.toList.reverse.toArray) := by
    show items.toList.reverse.toArray.size ≤ sizeLine
    rw [List.size_toArray, List.length_reverse, Array.length_toList]
    exact hsz
  obtain ⟨os, hos, hcs, hds⟩ := id hs
  have hTs : s.TypeIs (.ref sl) "slice" := ⟨os, hos, hcs⟩
  unfold getItem
  try with_reducible refine wpAny_holding ?_
  first | refine wpAny_bind (wpAny_pure ?_) | skip
  refine wpAny_bind (wpAny_sequenceKey ht.typeIs (by decide) ?_)
  refine wpAny_bind (wpAny_callSpecial?_slot (name := Str.ofString "__getitem__") ht.typeIs PyProof.Rows.slot_tuple_getitem
    (wpAny_call_entry PyProof.Rows.slot_tuple_getitem ht.typeIs entry_tuple_getitem ?_ (args_tuple_getitem _ _)))
  show wpAny _ _ (Builtin.Tuple.tupleItemsOf (.ref t) >>= _) _ _ s
  refine wpAny_bind (tupleItemsOf_ ht ?_)
  refine wpAny_bind (wpAny_typeOf hTs ?_)
  rw [if_pos (by decide)]
  refine wpAny_bind (sliceApplied_rev hs ps ?_)
  have hno : ¬ (((((items.size : Nat) : Int) - 1) == 0 && (-1 : Int) == 1 && items.size == items.size) = true) := by
    intro q
    rw [Bool.and_eq_true, Bool.and_eq_true] at q
    exact absurd (eq_of_beq q.1.2) (by decide)
  show wpAny _ _ (if ((((items.size : Nat) : Int) - 1) == 0 && (-1 : Int) == 1 && items.size == items.size) = true then _ else _) _ _ s
  rw [if_neg hno, pick_rev]
  first
    | exact wpAny_bind (m := Builtin.Tuple.tupleExact _) (wpAny_newObj_type (wpAny_pure ⟨_, rfl, wpAny_pure h⟩) htake)
    | exact wpAny_bind (m := Builtin.Tuple.tupleExact _) (wpAny_newObj_type (wpAny_bind (wpAny_pure (wpAny_pure ⟨_, rfl, wpAny_pure h⟩))) htake)
    | exact wpAny_bind (wpAny_bind (m := Builtin.Tuple.tupleExact _) (wpAny_newObj_type (wpAny_pure (wpAny_pure ⟨_, rfl, wpAny_pure h⟩)) htake))
    | exact wpAny_bind (wpAny_bind (m := Builtin.Tuple.tupleExact _) (wpAny_newObj_type (wpAny_pure ⟨_, rfl, wpAny_pure h⟩) htake))
end
def tRevT (K : PySem.W.Frag) (te : TE) : TE := fun σ H Q => te σ H fun x H1 => ∃ a xs, x = .ref a ∧ SqT K H1 a xs ∧ ∀ p, H1 p = none → Q (.ref p) (upd H1 p (.tup xs.reverse))
theorem pe_revT {X : Cx} {e : Expr} {te : TE} {k : Nat} {p1 p2 p3 pos : Pos} (he : PE X e te) : PE X (.Subscript e (.Slice none none (some (.UnaryOp .USub (.Constant (.int 1) k p1) p2)) p3) pos) (tRevT X.K te) := by
  refine ⟨fun pins s σ H Q I h => ?_⟩
  refine Subscript_ (thn (he.run pins s σ H _ I h) fun v s1 ⟨x, H1, I1, r1, q1⟩ => ?_)
  obtain ⟨a, xs, ex, hx, q⟩ := q1
  subst ex
  cases r1
  have hst : PO X (some (.UnaryOp .USub (.Constant (.int 1) k p1) p2)) (tPart (tUn (rU fun i => .int (-i)) (tC (.int 1)))) := po_some (pe_un un_neg pe_int)
  refine wpAny_Slice (thn (po_none.run pins s1 σ H1 (fun o H2 => o = none ∧ H2 = H1) I1 ⟨rfl, rfl⟩) fun vl s2 ⟨l, H2, I2, pl, el, e2⟩ => ?_)
  subst el e2
  refine thn (po_none.run pins s2 σ H2 (fun o H3 => o = none ∧ H3 = H2) I2 ⟨rfl, rfl⟩) fun vu s3 ⟨u, H3, I3, pu, eu, e3⟩ => ?_
  subst eu e3
  refine thn (hst.run pins s3 σ H3 (fun o H4 => o = some (-1) ∧ H4 = H3) I3 ⟨1, rfl, -1, rfl, rfl, rfl⟩) fun vs s4 ⟨o, H4, I4, ps, eo, e4⟩ => ?_
  subst eo e4
  have I5 : Inv X pins σ H4 { s4 with heap := s4.heap.push { cls := .type "slice", data := .fields #[vl, vu, vs] } } := I4.kept (t' := s4.toks) fun b ob q => Heap.get?_push_of_some _ q
  obtain ⟨its, r, ht, hz⟩ := I5.tuple hx
  have hlen := r.length
  have evl : vl = .none := by cases pl; rfl
  have evu : vu = .none := by cases pu; rfl
  subst evl evu
  show wpAny (model X.prog X.w) X.A (subscriptTail e (.Slice none none (some (.UnaryOp .USub (.Constant (.int 1) k p1) p2)) p3) (.ref a) (.ref s4.heap.objs.size)) (EP X pins σ Q) X.xe { s4 with heap := s4.heap.push { cls := .type "slice", data := .fields #[.none, .none, vs] } }
  refine tail_any (ops := [.ref a, .ref s4.heap.objs.size]) (ht.typeIs) (PyProof.Rows.slot_tuple_getitem.lookup) ?_ (by with_unfolding_all rfl)
  refine getItem_tuple_rev ht (Heap.IsSliceOf.new _ .none .none vs) ps ?_ (by rw [List.size_toArray]; omega)
  refine ⟨.ref _, _, I5.laid (t' := s4.toks) (o := .tup xs.reverse) (fun b ob q => Heap.get?_push_of_some _ q) (Nat.le_refl _) ?_, rfl, q _ (I5.hok.fresh (Nat.le_refl _))⟩
  exact ⟨by rw [List.length_reverse]; exact hz, _, r.reverse, IsTup.new _ _⟩
end L2

namespace AM
open PySem PySem.Spec PyProof.Rows L2

/-! ### * -/
def oRepT : SD → SD → MH → Option SD
  | .val (.tup a), .val (.int k), _ => if a.isEmpty || decide (k = 1) then (if k.natAbs < 2 ^ 62 then some (.val (.tup a)) else none) else if k ≤ 0 then (if k.natAbs < 2 ^ 62 then some (.val (.tup [])) else none)
      else if k.natAbs ≤ 1000 ∧ a.length ≤ 1000 then some (.val (.tup (List.replicate k.toNat a).flatten)) else none
  | _, _, _ => none
theorem real_repT {K : PySem.W.Frag} : Real2 K (fun x y H Q => rRepT1 K x y H Q ∨ rRepT0 K x y H Q ∨ rRepT K x y H Q) oRepT := fun {H ι h x y v u Q d} hr sx sy e q => by
  unfold oRepT at e
  split at e
  · rename_i _ a k
    simp only [SRep, Rep] at sx sy
    obtain ⟨pa, xs, rfl, ha, la⟩ := sx
    have ll := la.len
    split at e
    · rename_i c
      split at e
      · rename_i c2
        cases e
        refine .inl ⟨pa, k, xs, rfl, sy, ha, ?_, by omega, by omega, q _ H Grow.refl (by simp only [SRep, Rep]; exact ⟨pa, xs, rfl, ha, la⟩) trivial⟩
        rcases Bool.or_eq_true_iff.mp c with z | z
        · left
          have : a = [] := by simpa using z
          subst this
          exact List.eq_nil_of_length_eq_zero ll.symm
        · right; exact of_decide_eq_true z
      · cases e
    · rename_i c
      have c' : a ≠ [] ∧ k ≠ 1 := by
        constructor
        · intro z; subst z; simp at c
        · intro z; subst z; simp at c
      have hxs : xs ≠ [] := by
        intro z; subst z
        exact c'.1 (List.eq_nil_of_length_eq_zero ll)
      split at e
      · rename_i c2
        split at e
        · rename_i c3
          cases e
          exact .inr (.inl ⟨pa, k, xs, rfl, sy, ha, hxs, c2, by omega, fun p hp => q _ _ (Grow.upd hp) (SRep.newT hr hp (by simp [RepL])) trivial⟩)
        · cases e
      · rename_i c2
        split at e
        · rename_i c3
          cases e
          exact .inr (.inr ⟨pa, k, xs, rfl, sy, ha, hxs, by omega, by omega, by omega, fun p hp => q _ _ (Grow.upd hp) (SRep.newT hr hp (la.rep k.toNat)) trivial⟩)
        · cases e
  · cases e
def oMul := orO oMulI (orO oRepT oRepL)
section
variable {X : Cx} {W : WX} {a b c : Expr} {ma mb mc : MX} {pos : Pos}
theorem xm_mul (ha : XM X W a ma) (hb : XM X W b mb) : XM X W (.BinOp a .Mult b pos) (xOp oMul ma mb) :=
  xm_op (op_mulA.or ((op_repT1.or (op_repT0.or op_repT)).or op_rep)) (real_mulI.or (real_repT.or real_repL)) ha hb
end
/-! ### a list gets a name -/
def holdD : SD → MH → D
  | .val d, _ => d
  | .tmp _, h => .ref h.length
def holdH : SD → MH → MH
  | .val _, h => h
  | .tmp ds, h => h ++ [.lst ds]
section
variable {α β : Type} {K : PySem.W.Frag} {mg : Str → Option Value} {W : WX}
theorem hold_ok {H0 H : Hp} {ι0 ι : Nat → Addr} {h0 h : MH} {x : SD} {v : V} (hr : HRel K H ι h) (e : Ext H0 ι0 h0 H ι h) (s : SRep K H ι h x v) (f : SFresh H0 x v) :
    ∃ ι', HRel K H ι' (holdH x h) ∧ Ext H0 ι0 h0 H ι' (holdH x h) ∧ Rep K H ι' (holdH x h).length (holdD x h) v := by
  cases x with
  | val d => exact ⟨ι, hr, e, s⟩
  | tmp ds =>
    obtain ⟨a, xs, rfl, ea, ap, l⟩ := s
    obtain ⟨r1, x1⟩ := HRel.alloc (mo := .lst ds) hr e rfl (f a rfl) ap ⟨xs, ea, l⟩
    refine ⟨put ι h.length a, r1, x1, ?_⟩
    simp only [holdD, holdH, Rep, List.length_append, List.length_singleton]
    exact ⟨by omega, by rw [put_same]⟩
theorem tM_hold {rel : RelT α β} (b : Back rel) {a : MX} {f : Env' → D → MH → Res α} {σ : L2.St} {H : Hp} {Q : β → Hp → Prop}
    (q : tM K mg W rel (fun ρ h => (a ρ h).bind fun x h1 => f ρ (holdD x h1) (holdH x h1)) σ H Q) {R : V → Hp → Prop}
    (k : ∀ {ρ d h1 H1 ι1 v}, HRel K H1 ι1 h1 → SRel K H1 ι1 h1.length ρ σ → Rep K H1 ι1 h1.length d v → Post K mg W rel σ H1 ι1 h1 Q (f ρ d h1) → R v H1) : tM K mg W (rS K) a σ H R := by
  obtain ⟨ρ, h, ι, hr, sr, q⟩ := q
  refine ⟨ρ, h, ι, hr, sr, (Post.bind (rel := rS K) b q).imp fun v H1 ⟨x, h1, ι1, e1, x1, hr1, rv, q1⟩ => ?_⟩
  obtain ⟨ι', r', x', rp⟩ := hold_ok hr1 x1 rv.1 rv.2
  exact k r' (sr.ext x' hr) rp (Post.rebase b x' r' q1)
end
/-! ### arguments -/
def aNil : MA := fun _ h => .ok [] h
def aCons (a : MX) (r : MA) : MA := fun ρ h => (a ρ h).bind fun x h1 => (r ρ (holdH x h1)).bind fun ds h2 => .ok (holdD x h1 :: ds) h2
section
variable {X : Cx} {W : WX} {a b c e : Expr} {es : List Expr} {ma mb mc : MX} {mr : MA} {pos : Pos}
theorem am_nil : AMd X W [] aNil := PA.wk pa_nil fun σ H Q ⟨ρ, h, ι, hr, sr, q⟩ => q [] H ι Ext.refl hr (by simp only [rL, RepL])
theorem am_cons (ha : XM X W e ma) (hr : AMd X W es mr) (hs : starEach (e :: es) X.env = (false, eval e X.env) :: starEach es X.env := by rfl) : AMd X W (e :: es) (aCons ma mr) :=
  PA.wk (pa_cons ha hr hs) fun σ H Q q => tM_hold (f := fun ρ d h1 => (mr ρ h1).bind fun ds h2 => .ok (d :: ds) h2) back_L q fun {ρ d h1 H1 ι1 v} hr1 sr1 rp p => by
    refine ⟨ρ, h1, ι1, hr1, sr1, (Post.bind (rel := rL X.K) back_L p).imp fun vs H2 ⟨ds, h2, ι2, e2, x2, hr2, rl, q2⟩ => ?_⟩
    refine Post.rebase back_L x2 hr2 q2 (v :: vs) H2 ι2 Ext.refl hr2 ?_
    simp only [rL, RepL]
    exact ⟨v, vs, rfl, rp.ext x2 hr1, rl⟩
/-- (a, b, ..) -/
def xTup (m : MA) : MX := fun ρ h => (m ρ h).bind fun ds h1 => if ds.length ≤ 1000 then .ok (.val (.tup ds)) h1 else .fail
def xLst (m : MA) : MX := fun ρ h => (m ρ h).bind fun ds h1 => if ds.length ≤ 1000 then .ok (.tmp ds) h1 else .fail
theorem tM_args {α β : Type} {rel : RelT α β} (b : Back rel) {K : PySem.W.Frag} {mg : Str → Option Value} {m : MA} {f : List D → MH → Res α} {σ : L2.St} {H : Hp} {Q : β → Hp → Prop}
    (q : tM K mg W rel (fun ρ h => (m ρ h).bind fun ds h1 => f ds h1) σ H Q) {R : List V → Hp → Prop}
    (k : ∀ {ρ h ι ds h1 H1 ι1 vs}, HRel K H ι h → Ext H ι h H1 ι1 h1 → HRel K H1 ι1 h1 → SRel K H1 ι1 h1.length ρ σ → RepL K H1 ι1 h1.length ds vs → Post K mg W rel σ H1 ι1 h1 Q (f ds h1) → R vs H1) : tM K mg W (rL K) m σ H R := by
  obtain ⟨ρ, h, ι, hr, sr, q⟩ := q
  refine ⟨ρ, h, ι, hr, sr, (Post.bind (rel := rL K) b q).imp fun v H1 ⟨x, h1, ι1, e1, x1, hr1, rv, q1⟩ => ?_⟩
  exact k hr x1 hr1 (sr.ext x1 hr) rv (Post.rebase b x1 hr1 q1)
theorem le1000 {n : Nat} (h : n ≤ 1000) : n ≤ sizeLine := Nat.le_trans h (by decide)
theorem xm_tup {x1} (h : AMd X W es mr) : XM X W (.Tuple es x1 pos) (xTup mr) := PE.wk (pe_tup h) fun σ H Q q => tM_args (f := fun ds h1 => if ds.length ≤ 1000 then .ok (.val (.tup ds)) h1 else .fail) back_S q
  fun {ρ h ι ds h1 H1 ι1 vs} hr x1 hr1 sr1 rl p => by
    split at p
    · rename_i c
      exact ⟨by rw [← rl.len]; exact le1000 c, fun a ha => Post.made hr1 p _ _ (Grow.upd ha) (SRep.newT hr1 ha rl) trivial⟩
    · exact p.elim
theorem xm_lst (h : AMd X W es mr) : XM X W (.List es pos) (xLst mr) := PE.wk (pe_lst h) fun σ H Q q => tM_args (f := fun ds h1 => if ds.length ≤ 1000 then .ok (.tmp ds) h1 else .fail) back_S q
  fun {ρ h ι ds h1 H1 ι1 vs} hr x1 hr1 sr1 rl p => by
    split at p
    · rename_i c
      exact ⟨by rw [← rl.len]; exact le1000 c, fun a ha => by have z := SRep.new hr1 ha rl; exact Post.made hr1 p _ _ (Grow.upd ha) z.1 z.2⟩
    · exact p.elim
end
/-! ### calls of the text's defs -/
abbrev MF := List D → MH → Res D
def spM (K : PySem.W.Frag) (mg : Str → Option Value) (mf : MF) : Sp := fun vs H Q E => ∃ ds h ι, HRel K H ι h ∧ RepL K H ι h.length ds vs ∧ Post K mg (fun cls d _ H' => E cls d H') (rV K) [] H ι h Q (mf ds h)
/-- the def at f does what mf says -/
structure FM (P : Program) (w : World) (K : PySem.W.Frag) (mg : Str → Option Value) (base : Heap) (k : Nat) (x : Str) (ps : List Str) (mf : MF) : Prop where
  ex : ∃ f fd, mg x = some (.ref f) ∧ PySem.W.keepIn K (.ref f) = true ∧ Binds K fd ps [] ∧ FnOk P w K mg base (L2.CX P w) k f fd ps (spM K mg mf)
theorem FM.mono {P : Program} {w : World} {K : PySem.W.Frag} {mg : Str → Option Value} {base : Heap} {j k : Nat} {x : Str} {ps : List Str} {mf : MF} (h : FM P w K mg base j x ps mf) (le : j ≤ k) : FM P w K mg base k x ps mf := by
  obtain ⟨f, fd, a, b, c, d⟩ := h.ex
  exact ⟨f, fd, a, b, c, d.mono le⟩
def xCall (mf : MF) (m : MA) : MX := fun ρ h => (m ρ h).bind fun ds h1 => (mf ds h1).bind fun d h2 => .ok (.val d) h2
section
variable {X : Cx} {W : WX} {a b c e : Expr} {es : List Expr} {ma mb mc : MX} {mr : MA} {pos p : Pos} {k : Nat} {x : Str} {ps : List Str} {mf : MF}
theorem xm_call (F : FM X.prog X.w X.K X.mg X.base k x ps mf) (hr : Room k X.A) (tk : Takes X W) (ha : AMd X W (e :: es) mr) (hg : Gl X x := by rfl) (hdb : (x == ("__debug__" : Str)) = false := by decide)
    (he : starEach (e :: es) X.env = (false, eval e X.env) :: starEach es X.env := by rfl) (hpl : (backTo pos (starEach es X.env)).any (·.1) = false := by rfl) : XM X W (.Call (.Name x p) (e :: es) [] pos) (xCall mf mr) := by
  obtain ⟨f, fd, hm, hk, hb, F⟩ := F.ex
  refine PE.wk (pe_callS (E := WE W) F hr hg hm hk hb (fun σ => passAt tk σ) ha hdb he hpl) fun σ H Q q => ?_
  refine tM_args (f := fun ds h1 => (mf ds h1).bind fun d h2 => .ok (.val d) h2) back_S q fun {ρ h ι ds h1 H1 ι1 vs} hr x1 hr1 sr1 rl p => ⟨ds, h1, ι1, hr1, rl, ?_⟩
  cases e : mf ds h1 with
  | ok d h2 =>
    rw [e] at p
    exact fun v H' ι' y r' rv => p v H' ι' y r' ⟨rv, trivial⟩
  | exc c fs h2 => rw [e] at p; exact p
  | fail => rw [e] at p; exact p.elim
end
/-! ### built-ins of one argument -/
section
variable {X : Cx} {W : WX} {a b c e : Expr} {es : List Expr} {ma mb mc : MX} {mr : MA} {pos p : Pos} {k : Nat} {x : Str} {id T : String} {r : List V → Hp → VK → Prop}
def RealC (K : PySem.W.Frag) (r : List V → Hp → VK → Prop) (o : SD → MH → Option SD) : Prop := Real1 K (fun v H Q => r [v] H Q) o
def RealC2 (K : PySem.W.Frag) (r : List V → Hp → VK → Prop) (o : SD → SD → MH → Option SD) : Prop := Real2 K (fun v u H Q => r [v, u] H Q) o
theorem xm_b1 {o : SD → MH → Option SD} (hc : CallR X (.builtin id) r) (hR : RealC X.K r o) (hm : X.mg x = none) (hv : bootBuiltins x = some (.builtin id)) (ha : XM X W e ma) (hg : Gl X x := by rfl) (hn : x ≠ "__name__" := by decide) (hdb : (x == ("__debug__" : Str)) = false := by decide)
    (he : starEach [e] X.env = (false, eval e X.env) :: starEach [] X.env := by rfl) (hpl : (backTo pos (starEach [] X.env)).any (·.1) = false := by rfl) : XM X W (.Call (.Name x p) [e] [] pos) (xUn o ma) :=
  PE.wk (pe_callB hc hg hm hv (pa_cons ha pa_nil he) hn hdb he hpl) fun σ H Q q => tM_one back_S q fun _ _ hr2 _ sx _ _ q2 => hR.use hr2 sx q2
theorem xm_t1 {o : SD → MH → Option SD} (hc : CallR X (.type T) r) (hR : RealC X.K r o) (hm : X.mg x = none) (hv : bootBuiltins x = some (.type T)) (ha : XM X W e ma) (hg : Gl X x := by rfl) (hn : x ≠ "__name__" := by decide) (hdb : (x == ("__debug__" : Str)) = false := by decide)
    (he : starEach [e] X.env = (false, eval e X.env) :: starEach [] X.env := by rfl) (hpl : (backTo pos (starEach [] X.env)).any (·.1) = false := by rfl) : XM X W (.Call (.Name x p) [e] [] pos) (xUn o ma) :=
  PE.wk (pe_callTy hc hg hm hv (pa_cons ha pa_nil he) hn hdb he hpl) fun σ H Q q => tM_one back_S q fun _ _ hr2 _ sx _ _ q2 => hR.use hr2 sx q2
theorem xm_b2 {o : SD → SD → MH → Option SD} (hc : CallR X (.builtin id) r) (hR : RealC2 X.K r o) (hm : X.mg x = none) (hv : bootBuiltins x = some (.builtin id)) (ha : XM X W e ma) (hb : XM X W b mb) (hg : Gl X x := by rfl) (hn : x ≠ "__name__" := by decide) (hdb : (x == ("__debug__" : Str)) = false := by decide)
    (he : starEach [e, b] X.env = (false, eval e X.env) :: starEach [b] X.env := by rfl) (he2 : starEach [b] X.env = (false, eval b X.env) :: starEach [] X.env := by rfl) (hpl : (backTo pos (starEach [b] X.env)).any (·.1) = false := by rfl) : XM X W (.Call (.Name x p) [e, b] [] pos) (xOp o ma mb) :=
  PE.wk (pe_callB hc hg hm hv (pa_cons ha (pa_cons hb pa_nil he2) he) hn hdb he hpl) fun σ H Q q => tM_two back_S q fun _ _ hr2 _ sx sy _ _ q2 => Real2.use hR hr2 sx sy q2
/-- the items of a list or a tuple -/
def seqOf (x : SD) (h : MH) : Option (List D) := match x with
  | .val (.tup ds) => some ds
  | x => lstOf x h
theorem seqOf_at {K : PySem.W.Frag} {H : Hp} {ι : Nat → Addr} {h : MH} {x : SD} {v : V} {ds : List D} (hr : HRel K H ι h) (s : SRep K H ι h x v) (e : seqOf x h = some ds) : ∃ a xs, v = .ref a ∧ (SqL K H a xs ∨ SqT K H a xs) ∧ RepL K H ι h.length ds xs := by
  unfold seqOf at e
  split at e
  · cases e
    simp only [SRep, Rep] at s
    obtain ⟨a, xs, rfl, q, l⟩ := s
    exact ⟨a, xs, rfl, .inr q, l⟩
  · obtain ⟨a, xs, rfl, q, l⟩ := lstOf_at hr s e
    exact ⟨a, xs, rfl, .inl (SqL.of q), l⟩
/-- len -/
def oLen (x : SD) (h : MH) : Option SD := match x with
  | .val (.str z) => if z.length ≤ sizeLine then some (.val (.int z.length)) else none
  | x => (seqOf x h).map fun ds => .val (.int ds.length)
theorem real_len {K : PySem.W.Frag} : RealC K (fun xs H Q => ∃ x n, xs = [x] ∧ LenV K x H n ∧ Q (.int n) H) oLen := fun {H ι h x v Q d} hr sx e q => by
  unfold oLen at e
  split at e
  · rename_i z
    split at e
    · rename_i c
      cases e
      simp only [SRep, Rep] at sx
      subst sx
      exact ⟨_, z.length, rfl, ⟨c, rfl⟩, q _ H Grow.refl srp_int trivial⟩
    · cases e
  · obtain ⟨ds, e1, rfl⟩ := Option.map_eq_some_iff.mp e
    obtain ⟨a, xs, rfl, s, l⟩ := seqOf_at hr sx e1
    refine ⟨_, xs.length, rfl, ?_, by rw [← l.len]; exact q _ H Grow.refl srp_int trivial⟩
    rcases s with s | s
    · exact .inl ⟨xs, s, rfl⟩
    · exact .inr ⟨xs, s, rfl⟩
theorem xm_len (hm : X.mg "len" = none) (ha : XM X W e ma) (hg : Gl X "len" := by rfl) (he : starEach [e] X.env = (false, eval e X.env) :: starEach [] X.env := by rfl) (hpl : (backTo pos (starEach [] X.env)).any (·.1) = false := by rfl) :
    XM X W (.Call (.Name "len" p) [e] [] pos) (xUn oLen ma) := xm_b1 call_len real_len hm PySem.boot_len ha hg (by decide) (by decide) he hpl
/-- abs -/
def oAbs : SD → MH → Option SD
  | .val (.int i), _ => some (.val (.int (if i < 0 then -i else i)))
  | _, _ => none
theorem real_abs {K : PySem.W.Frag} : RealC K (fun xs H Q => ∃ i, xs = [.int i] ∧ Q (.int (if i < 0 then -i else i)) H) oAbs := fun {H ι h x v Q d} hr sx e q => by
  unfold oAbs at e
  split at e
  · cases e
    simp only [SRep, Rep] at sx
    subst sx
    exact ⟨_, rfl, q _ H Grow.refl srp_int trivial⟩
  · cases e
theorem xm_abs (hm : X.mg "abs" = none) (ha : XM X W e ma) (hg : Gl X "abs" := by rfl) (he : starEach [e] X.env = (false, eval e X.env) :: starEach [] X.env := by rfl) (hpl : (backTo pos (starEach [] X.env)).any (·.1) = false := by rfl) :
    XM X W (.Call (.Name "abs" p) [e] [] pos) (xUn oAbs ma) := xm_b1 call_abs real_abs hm (by decide +kernel) ha hg (by decide) (by decide) he hpl
/-- int of an int, a bool -/
def oInt : SD → MH → Option SD
  | .val (.int i), _ => some (.val (.int i))
  | .val (.bl b), _ => some (.val (.int (if b then 1 else 0)))
  | _, _ => none
theorem real_int {K : PySem.W.Frag} : RealC K (fun xs H Q => (∃ i, xs = [.int i] ∧ Q (.int i) H) ∨ ∃ k, xs = [.bl k] ∧ Q (.int (if k then 1 else 0)) H) oInt := fun {H ι h x v Q d} hr sx e q => by
  unfold oInt at e
  split at e
  · cases e
    simp only [SRep, Rep] at sx
    subst sx
    exact .inl ⟨_, rfl, q _ H Grow.refl srp_int trivial⟩
  · cases e
    simp only [SRep, Rep] at sx
    subst sx
    exact .inr ⟨_, rfl, q _ H Grow.refl srp_int trivial⟩
  · cases e
theorem xm_intc (hm : X.mg "int" = none) (ha : XM X W e ma) (hg : Gl X "int" := by rfl) (he : starEach [e] X.env = (false, eval e X.env) :: starEach [] X.env := by rfl) (hpl : (backTo pos (starEach [] X.env)).any (·.1) = false := by rfl) :
    XM X W (.Call (.Name "int" p) [e] [] pos) (xUn oInt ma) := xm_t1 call_int1 real_int hm (by decide +kernel) ha hg (by decide) (by decide) he hpl
/-- tuple(..), list(..) -/
def oTuple (x : SD) (h : MH) : Option SD := (seqOf x h).map fun ds => .val (.tup ds)
theorem real_tuple {K : PySem.W.Frag} : RealC K (fun xs H Q => ∃ p ys, xs = [.ref p] ∧ ((SqL K H p ys ∧ ∀ l, H l = none → Q (.ref l) (upd H l (.tup ys))) ∨ (SqT K H p ys ∧ Q (.ref p) H))) oTuple := fun {H ι h x v Q d} hr sx e q => by
  unfold oTuple at e
  obtain ⟨ds, e1, rfl⟩ := Option.map_eq_some_iff.mp e
  obtain ⟨a, xs, rfl, s, l⟩ := seqOf_at hr sx e1
  refine ⟨a, xs, rfl, ?_⟩
  rcases s with s | s
  · exact .inl ⟨s, fun p hp => q _ _ (Grow.upd hp) (SRep.newT hr hp l) trivial⟩
  · exact .inr ⟨s, q _ H Grow.refl (by simp only [SRep, Rep]; exact ⟨a, xs, rfl, s, l⟩) trivial⟩
theorem xm_tuple (hm : X.mg "tuple" = none) (ha : XM X W e ma) (hg : Gl X "tuple" := by rfl) (he : starEach [e] X.env = (false, eval e X.env) :: starEach [] X.env := by rfl) (hpl : (backTo pos (starEach [] X.env)).any (·.1) = false := by rfl) :
    XM X W (.Call (.Name "tuple" p) [e] [] pos) (xUn oTuple ma) := xm_t1 call_tuple_of real_tuple hm (by decide +kernel) ha hg (by decide) (by decide) he hpl
/-- the items of a list (the script too) or a tuple -/
def seqRo (x : SD) (h : MH) : Option (List D) := match x with
  | .val (.ref r) => match h[r]? with
    | some (.lst ds) => some ds
    | some (.ro ds) => some ds
    | _ => none
  | .tmp ds => some ds
  | .val (.tup ds) => some ds
  | _ => none
theorem seqRo_at {K : PySem.W.Frag} {H : Hp} {ι : Nat → Addr} {h : MH} {x : SD} {v : V} {ds : List D} (hr : HRel K H ι h) (s : SRep K H ι h x v) (e : seqRo x h = some ds) : ∃ a xs, v = .ref a ∧ (SqL K H a xs ∨ SqT K H a xs) ∧ RepL K H ι h.length ds xs := by
  unfold seqRo at e
  split at e
  · rename_i r
    simp only [SRep, Rep] at s
    split at e
    · rename_i ds' er
      cases e
      obtain ⟨xs, ea, l⟩ := hr.obj r _ er
      exact ⟨_, xs, s.2, .inl (SqL.of ea), l⟩
    · rename_i ds' er
      cases e
      obtain ⟨xs, ea, l⟩ := hr.obj r _ er
      exact ⟨_, xs, s.2, .inl ea.sq, l⟩
    · cases e
  · cases e
    obtain ⟨a, xs, rfl, ea, _, l⟩ := s
    exact ⟨a, xs, rfl, .inl (SqL.of ea), l⟩
  · cases e
    simp only [SRep, Rep] at s
    obtain ⟨a, xs, rfl, q, l⟩ := s
    exact ⟨a, xs, rfl, .inr q, l⟩
  · cases e
def oList (x : SD) (h : MH) : Option SD := (seqRo x h).map SD.tmp
theorem real_list {K : PySem.W.Frag} : RealC K (fun xs H Q => ∃ p ys, xs = [.ref p] ∧ (SqL K H p ys ∨ SqT K H p ys) ∧ ∀ l, H l = none → Q (.ref l) (upd H l (.lst ys))) oList := fun {H ι h x v Q d} hr sx e q => by
  unfold oList at e
  obtain ⟨ds, e1, rfl⟩ := Option.map_eq_some_iff.mp e
  obtain ⟨a, xs, rfl, s, l⟩ := seqRo_at hr sx e1
  exact ⟨a, xs, rfl, s, fun p hp => by have z := SRep.new hr hp l; exact q _ _ (Grow.upd hp) z.1 z.2⟩
theorem xm_list (hm : X.mg "list" = none) (ha : XM X W e ma) (hg : Gl X "list" := by rfl) (he : starEach [e] X.env = (false, eval e X.env) :: starEach [] X.env := by rfl) (hpl : (backTo pos (starEach [] X.env)).any (·.1) = false := by rfl) :
    XM X W (.Call (.Name "list" p) [e] [] pos) (xUn oList ma) := xm_t1 call_list_of real_list hm (by decide +kernel) ha hg (by decide) (by decide) he hpl
/-- all(..), any(..), sum(..) of a list -/
def blsOf : List D → Option (List Bool)
  | [] => some []
  | .bl b :: r => (blsOf r).map (b :: ·)
  | _ :: _ => none
def intsOf : List D → Option (List Int)
  | [] => some []
  | .int b :: r => (intsOf r).map (b :: ·)
  | _ :: _ => none
theorem blsOf_at {K : PySem.W.Frag} {H : Hp} {ι : Nat → Addr} {n : Nat} : ∀ {ds : List D} {xs : List V} {bs : List Bool}, RepL K H ι n ds xs → blsOf ds = some bs → xs = bs.map V.bl
  | [], xs, bs, l, e => by simp only [RepL] at l; simp only [blsOf, Option.some.injEq] at e; subst l; subst e; rfl
  | d :: ds, xs, bs, l, e => by
    simp only [RepL] at l
    obtain ⟨v, t, rfl, l1, l2⟩ := l
    cases d with
    | bl b =>
      simp only [blsOf] at e
      obtain ⟨cs, e1, rfl⟩ := Option.map_eq_some_iff.mp e
      simp only [Rep] at l1
      rw [l1, blsOf_at l2 e1]; rfl
    | _ => simp only [blsOf] at e; cases e
theorem intsOf_at {K : PySem.W.Frag} {H : Hp} {ι : Nat → Addr} {n : Nat} : ∀ {ds : List D} {xs : List V} {bs : List Int}, RepL K H ι n ds xs → intsOf ds = some bs → xs = bs.map V.int
  | [], xs, bs, l, e => by simp only [RepL] at l; simp only [intsOf, Option.some.injEq] at e; subst l; subst e; rfl
  | d :: ds, xs, bs, l, e => by
    simp only [RepL] at l
    obtain ⟨v, t, rfl, l1, l2⟩ := l
    cases d with
    | int b =>
      simp only [intsOf] at e
      obtain ⟨cs, e1, rfl⟩ := Option.map_eq_some_iff.mp e
      simp only [Rep] at l1
      rw [l1, intsOf_at l2 e1]; rfl
    | _ => simp only [intsOf] at e; cases e
def oAll (x : SD) (h : MH) : Option SD := (lstOf x h).bind fun ds => (blsOf ds).map fun bs => .val (.bl (bs.all _root_.id))
def oAny (x : SD) (h : MH) : Option SD := (lstOf x h).bind fun ds => (blsOf ds).map fun bs => .val (.bl (bs.any _root_.id))
def oSum (x : SD) (h : MH) : Option SD := (lstOf x h).bind fun ds => (intsOf ds).map fun bs => .val (.int bs.sum)
theorem real_all {K : PySem.W.Frag} : RealC K (rAll K) oAll := fun {H ι h x v Q d} hr sx e q => by
  unfold oAll at e
  obtain ⟨ds, e0, e⟩ := Option.bind_eq_some_iff.mp e
  obtain ⟨bs, e1, rfl⟩ := Option.map_eq_some_iff.mp e
  obtain ⟨a, xs, rfl, s, l⟩ := lstOf_at hr sx e0
  exact ⟨a, bs, rfl, by rw [← blsOf_at l e1]; exact SqL.of s, q _ H Grow.refl srp_bl trivial⟩
theorem real_any {K : PySem.W.Frag} : RealC K (rAny K) oAny := fun {H ι h x v Q d} hr sx e q => by
  unfold oAny at e
  obtain ⟨ds, e0, e⟩ := Option.bind_eq_some_iff.mp e
  obtain ⟨bs, e1, rfl⟩ := Option.map_eq_some_iff.mp e
  obtain ⟨a, xs, rfl, s, l⟩ := lstOf_at hr sx e0
  exact ⟨a, bs, rfl, by rw [← blsOf_at l e1]; exact SqL.of s, q _ H Grow.refl srp_bl trivial⟩
theorem real_sum {K : PySem.W.Frag} : RealC K (rSum K) oSum := fun {H ι h x v Q d} hr sx e q => by
  unfold oSum at e
  obtain ⟨ds, e0, e⟩ := Option.bind_eq_some_iff.mp e
  obtain ⟨bs, e1, rfl⟩ := Option.map_eq_some_iff.mp e
  obtain ⟨a, xs, rfl, s, l⟩ := lstOf_at hr sx e0
  exact ⟨a, bs, rfl, by rw [← intsOf_at l e1]; exact SqL.of s, q _ H Grow.refl srp_int trivial⟩
theorem xm_all (hm : X.mg "all" = none) (hc : X.calm = true) (ha : XM X W e ma) (hg : Gl X "all" := by rfl) (he : starEach [e] X.env = (false, eval e X.env) :: starEach [] X.env := by rfl) (hpl : (backTo pos (starEach [] X.env)).any (·.1) = false := by rfl) :
    XM X W (.Call (.Name "all" p) [e] [] pos) (xUn oAll ma) := xm_b1 (cr_all hc) real_all hm (by decide +kernel) ha hg (by decide) (by decide) he hpl
theorem xm_any (hm : X.mg "any" = none) (hc : X.calm = true) (ha : XM X W e ma) (hg : Gl X "any" := by rfl) (he : starEach [e] X.env = (false, eval e X.env) :: starEach [] X.env := by rfl) (hpl : (backTo pos (starEach [] X.env)).any (·.1) = false := by rfl) :
    XM X W (.Call (.Name "any" p) [e] [] pos) (xUn oAny ma) := xm_b1 (cr_any hc) real_any hm (by decide +kernel) ha hg (by decide) (by decide) he hpl
theorem xm_sum (hm : X.mg "sum" = none) (hc : X.calm = true) (ha : XM X W e ma) (hg : Gl X "sum" := by rfl) (he : starEach [e] X.env = (false, eval e X.env) :: starEach [] X.env := by rfl) (hpl : (backTo pos (starEach [] X.env)).any (·.1) = false := by rfl) :
    XM X W (.Call (.Name "sum" p) [e] [] pos) (xUn oSum ma) := xm_b1 (cr_sum hc) real_sum hm (by decide +kernel) ha hg (by decide) (by decide) he hpl
/-- max, min of two ints -/
def oMax2 := oI fun i j => some (.int (if j > i then j else i))
def oMin2 := oI fun i j => some (.int (if j < i then j else i))
theorem real_max2 {K : PySem.W.Frag} : RealC2 K (fun xs H Q => ∃ i j, xs = [.int i, .int j] ∧ Q (.int (if j > i then j else i)) H) oMax2 := fun {H ι h x y v u Q d} hr sx sy e q => by
  unfold oMax2 oI at e
  split at e
  · cases e
    simp only [SRep, Rep] at sx sy
    subst sx sy
    exact ⟨_, _, rfl, q _ H Grow.refl srp_int trivial⟩
  · cases e
theorem real_min2 {K : PySem.W.Frag} : RealC2 K (fun xs H Q => ∃ i j, xs = [.int i, .int j] ∧ Q (.int (if j < i then j else i)) H) oMin2 := fun {H ι h x y v u Q d} hr sx sy e q => by
  unfold oMin2 oI at e
  split at e
  · cases e
    simp only [SRep, Rep] at sx sy
    subst sx sy
    exact ⟨_, _, rfl, q _ H Grow.refl srp_int trivial⟩
  · cases e
theorem xm_max2 (hm : X.mg "max" = none) (hc : X.calm = true) (ha : XM X W e ma) (hb : XM X W b mb) (hg : Gl X "max" := by rfl)
    (he : starEach [e, b] X.env = (false, eval e X.env) :: starEach [b] X.env := by rfl) (he2 : starEach [b] X.env = (false, eval b X.env) :: starEach [] X.env := by rfl) (hpl : (backTo pos (starEach [b] X.env)).any (·.1) = false := by rfl) :
    XM X W (.Call (.Name "max" p) [e, b] [] pos) (xOp oMax2 ma mb) := xm_b2 (call_max2 hc) real_max2 hm (by decide +kernel) ha hb hg (by decide) (by decide) he he2 hpl
theorem xm_min2 (hm : X.mg "min" = none) (hc : X.calm = true) (ha : XM X W e ma) (hb : XM X W b mb) (hg : Gl X "min" := by rfl)
    (he : starEach [e, b] X.env = (false, eval e X.env) :: starEach [b] X.env := by rfl) (he2 : starEach [b] X.env = (false, eval b X.env) :: starEach [] X.env := by rfl) (hpl : (backTo pos (starEach [b] X.env)).any (·.1) = false := by rfl) :
    XM X W (.Call (.Name "min" p) [e, b] [] pos) (xOp oMin2 ma mb) := xm_b2 (call_min2 hc) real_min2 hm (by decide +kernel) ha hb hg (by decide) (by decide) he he2 hpl
/-- isinstance -/
def tyN (x : SD) (h : MH) : Option String := match x with
  | .val .non => some "NoneType"
  | .val (.bl _) => some "bool"
  | .val (.int _) => some "int"
  | .val (.str _) => some "str"
  | .val (.tup _) => some "tuple"
  | .tmp _ => some "list"
  | .val (.ref r) => match h[r]? with
    | some (.lst _) => some "list"
    | some (.ro _) => none
    | some (.dK false _) => some "dict"
    | some (.dT false _) => some "dict"
    | _ => none
  | _ => none
def oIsi : SD → SD → MH → Option SD
  | x, .val (.ty n), h => (tyN x h).bind fun t => (kitB t n).map fun b => .val (.bl b)
  | _, _, _ => none
theorem sqT_tyX {K : PySem.W.Frag} {H : Hp} {a : Addr} {xs : List V} (q : SqT K H a xs) : TyX K H (.ref a) (.type "tuple") := by
  rcases q with (q | ⟨o, q⟩) | ⟨o, its, n, q, c, _⟩
  · exact .base (.tup q)
  · exact .fTuple q
  · exact .kTuple q c
theorem tyN_at {K : PySem.W.Frag} {H : Hp} {ι : Nat → Addr} {h : MH} {x : SD} {v : V} {t : String} (hr : HRel K H ι h) (s : SRep K H ι h x v) (e : tyN x h = some t) : TyX K H v (.type t) := by
  unfold tyN at e
  split at e
  · cases e; simp only [SRep, Rep] at s; subst s; exact .base .non
  · cases e; simp only [SRep, Rep] at s; subst s; exact .base (.bl _)
  · cases e; simp only [SRep, Rep] at s; subst s; exact .base (.int _)
  · cases e; simp only [SRep, Rep] at s; subst s; exact .base (.str _)
  · cases e; simp only [SRep, Rep] at s; obtain ⟨a, xs, rfl, q, _⟩ := s; exact sqT_tyX q
  · cases e; obtain ⟨a, xs, rfl, q, _⟩ := s; exact .base (.lst q)
  · rename_i r
    simp only [SRep, Rep] at s
    obtain ⟨_, rfl⟩ := s
    split at e
    · rename_i er; cases e; obtain ⟨xs, q, _⟩ := hr.obj r _ er; exact .base (.lst q)
    · cases e
    · rename_i er; cases e; obtain ⟨xs, q, _⟩ := hr.obj r _ er; exact .base (.dK q)
    · rename_i er; cases e; obtain ⟨xs, q, _⟩ := hr.obj r _ er; exact .base (.dT q)
    · cases e
  · cases e
theorem real_isi {K : PySem.W.Frag} : RealC2 K (rIsi K) oIsi := fun {H ι h x y v u Q d} hr sx sy e q => by
  unfold oIsi at e
  split at e
  · rename_i n
    obtain ⟨t, e0, e⟩ := Option.bind_eq_some_iff.mp e
    obtain ⟨b, e1, rfl⟩ := Option.map_eq_some_iff.mp e
    simp only [SRep, Rep] at sy
    subst sy
    exact ⟨v, .ty n, .type t, .type n, b, rfl, .ty n, tyN_at hr sx e0, kit_ty e1, q _ H Grow.refl srp_bl trivial⟩
  · cases e
theorem xm_isi (hm : X.mg "isinstance" = none) (ha : XM X W e ma) (hb : XM X W b mb) (hg : Gl X "isinstance" := by rfl)
    (he : starEach [e, b] X.env = (false, eval e X.env) :: starEach [b] X.env := by rfl) (he2 : starEach [b] X.env = (false, eval b X.env) :: starEach [] X.env := by rfl) (hpl : (backTo pos (starEach [b] X.env)).any (·.1) = false := by rfl) :
    XM X W (.Call (.Name "isinstance" p) [e, b] [] pos) (xOp oIsi ma mb) := xm_b2 call_isi real_isi hm (by decide +kernel) ha hb hg (by decide) (by decide) he he2 hpl
end
theorem kit1 : kitB "int" "int" = some true := by decide +kernel
theorem kit2 : kitB "bool" "int" = some true := by decide +kernel
theorem kit3 : kitB "str" "int" = some false := by decide +kernel
theorem kit4 : kitB "tuple" "int" = some false := by decide +kernel
theorem kit5 : kitB "list" "int" = some false := by decide +kernel
theorem kit6 : kitB "NoneType" "int" = some false := by decide +kernel
theorem kit7 : kitB "int" "bool" = some false := by decide +kernel
theorem kit8 : kitB "bool" "bool" = some true := by decide +kernel
theorem kit9 : kitB "str" "bool" = some false := by decide +kernel
theorem kit10 : kitB "tuple" "bool" = some false := by decide +kernel
theorem kit11 : kitB "list" "bool" = some false := by decide +kernel
theorem kit12 : kitB "int" "tuple" = some false := by decide +kernel
theorem kit13 : kitB "bool" "tuple" = some false := by decide +kernel
theorem kit14 : kitB "str" "tuple" = some false := by decide +kernel
theorem kit15 : kitB "tuple" "tuple" = some true := by decide +kernel
theorem kit16 : kitB "list" "tuple" = some false := by decide +kernel
theorem kit17 : kitB "NoneType" "tuple" = some false := by decide +kernel
theorem kit18 : kitB "int" "str" = some false := by decide +kernel
theorem kit19 : kitB "bool" "str" = some false := by decide +kernel
theorem kit20 : kitB "str" "str" = some true := by decide +kernel
theorem kit21 : kitB "tuple" "str" = some false := by decide +kernel
theorem kit22 : kitB "list" "str" = some false := by decide +kernel
theorem kit23 : kitB "NoneType" "str" = some false := by decide +kernel
theorem kit24 : kitB "NoneType" "bool" = some false := by decide +kernel
end AM

namespace AM
open PySem PySem.Spec PyProof.Rows L2

/-! ### slices -/
def cutD (xs : List D) (lo hi : Option Int) : List D := (xs.drop (HT.sIx xs.length 0 lo)).take (HT.sIx xs.length xs.length hi - HT.sIx xs.length 0 lo)
theorem RepL.cutV {K : PySem.W.Frag} {H : Hp} {ι : Nat → Addr} {n : Nat} {ds : List D} {xs : List V} (l : RepL K H ι n ds xs) (lo hi : Option Int) : RepL K H ι n (cutD ds lo hi) (L2.cutV xs lo hi) := by
  unfold cutD L2.cutV
  rw [l.len]
  exact RepL.take _ (RepL.drop _ l)
abbrev MP := Env' → MH → Res (Option Int)
def rO : RelT (Option Int) (Option Int) := fun _ _ _ _ a b => a = b
theorem back_O : Back rO := fun _ _ _ _ _ _ _ _ q => q
def PMd (X : Cx) (W : WX) (e : Option Expr) (m : MP) : Prop := PO X e (tM X.K X.mg W rO m)
def pNone : MP := fun _ h => .ok none h
def pSome (a : MX) : MP := fun ρ h => (a ρ h).bind fun x h1 => match x with
  | .val (.int i) => .ok (some i) h1
  | _ => .fail
def oSl (x : SD) (lo hi : Option Int) (h : MH) : Option SD := match x with
  | .val (.tup ds) => some (.val (.tup (cutD ds lo hi)))
  | .val (.str z) => if z.length ≤ sizeLine then some (.val (.str (cutS z lo hi))) else none
  | x => (lstOf x h).map fun ds => .tmp (cutD ds lo hi)
def xSl (a : MX) (lo hi : MP) : MX := fun ρ h => (a ρ h).bind fun x h1 => (lo ρ h1).bind fun l h2 => (hi ρ h2).bind fun u h3 => match oSl x l u h3 with
  | some d => .ok d h3
  | none => .fail
section
variable {X : Cx} {W : WX} {a b c e : Expr} {ma mb mc : MX} {pos p : Pos}
theorem PO.wk {e : Option Expr} {t t' : TO} (p : PO X e t) (i : ∀ σ H Q, t' σ H Q → t σ H Q) : PO X e t' := ⟨fun pins s σ H Q I q => p.run pins s σ H Q I (i σ H Q q)⟩
theorem pm_none : PMd X W none pNone := PO.wk po_none fun σ H Q ⟨ρ, h, ι, hr, sr, q⟩ => q none H ι Ext.refl hr rfl
theorem pm_some (ha : XM X W a ma) : PMd X W (some a) (pSome ma) := PO.wk (po_some ha) fun σ H Q q => tM_one back_O q fun {ρ h ι x h2 H2 ι2 v} _ x1 hr2 _ sx _ _ q2 => by
  split at q2
  · rename_i i _ _
    simp only [SRep, Rep] at sx
    exact ⟨i, sx, q2 (some i) H2 ι2 Ext.refl hr2 rfl⟩
  · exact q2.elim
theorem SlR.or {r r' : V → Option Int → Option Int → Hp → VK → Prop} (a : SlR X r) (b : SlR X r') : SlR X (fun x l u H Q => r x l u H Q ∨ r' x l u H Q) := by
  intro pins s σ H x v vl vu lo hi sl Q I rx hs pl pu q
  rcases q with q | q
  · exact a pins s σ H x v vl vu lo hi sl Q I rx hs pl pu q
  · exact b pins s σ H x v vl vu lo hi sl Q I rx hs pl pu q
theorem real_sl {K : PySem.W.Frag} {H : Hp} {ι : Nat → Addr} {h : MH} {x : SD} {v : V} {Q : VK} {d : SD} {lo hi : Option Int} (hr : HRel K H ι h) (sx : SRep K H ι h x v) (e : oSl x lo hi h = some d)
    (q : ∀ w H', Grow H H' → SRep K H' ι h d w → SFresh H d w → Q w H') : rSlA K v lo hi H Q ∨ rSlL K v lo hi H Q ∨ rSlS v lo hi H Q := by
  unfold oSl at e
  split at e
  · rename_i ds
    cases e
    simp only [SRep, Rep] at sx
    obtain ⟨a, xs, rfl, s, l⟩ := sx
    refine .inl ⟨a, xs, rfl, s, fun z => ?_, fun z p hp => q _ _ (Grow.upd hp) (SRep.newT hr hp (l.cutV lo hi)) trivial⟩
    refine q _ H Grow.refl ?_ trivial
    have e1 : cutD ds lo hi = ds := by
      unfold cutD
      rw [l.len, z.1, z.2, ← l.len]
      simp
    rw [e1]
    simp only [SRep, Rep]
    exact ⟨a, xs, rfl, s, l⟩
  · rename_i z
    split at e
    · rename_i c
      cases e
      simp only [SRep, Rep] at sx
      exact .inr (.inr ⟨z, sx, c, q _ H Grow.refl srp_str trivial⟩)
    · cases e
  · obtain ⟨ds, e1, rfl⟩ := Option.map_eq_some_iff.mp e
    obtain ⟨a, xs, rfl, s, l⟩ := lstOf_at hr sx e1
    exact .inr (.inl ⟨a, xs, rfl, SqL.of s, fun p hp => by have z := SRep.new hr hp (l.cutV lo hi); exact q _ _ (Grow.upd hp) z.1 z.2⟩)
theorem xm_sl {lo hi : Option Expr} {ml mh : MP} {p2 : Pos} (ha : XM X W a ma) (hl : PMd X W lo ml) (hh : PMd X W hi mh) : XM X W (.Subscript a (.Slice lo hi none p2) pos) (xSl ma ml mh) :=
  PE.wk (pe_slice (sl_tupA.or (sl_list.or sl_str)) ha hl hh) fun σ H Q q => by
    obtain ⟨ρ, h, ι, hr, sr, q⟩ := q
    refine ⟨ρ, h, ι, hr, sr, (Post.bind (rel := rS X.K) back_S q).imp fun v H1 ⟨x, h1, ι1, e1, x1, hr1, rv, q1⟩ => ?_⟩
    refine ⟨ρ, h1, ι1, hr1, sr.ext x1 hr, ((Post.bind (rel := rO) back_S (Post.rebase back_S x1 hr1 q1))).imp fun l H2 ⟨l', h2, ι2, e2, x2, hr2, rl, q2⟩ => ?_⟩
    have rl : l' = l := rl
    subst rl
    refine ⟨ρ, h2, ι2, hr2, (sr.ext x1 hr).ext x2 hr1, ((Post.bind (rel := rO) back_S (Post.rebase back_S x2 hr2 q2))).imp fun u H3 ⟨u', h3, ι3, e3, x3, hr3, ru, q3⟩ => ?_⟩
    have ru : u' = u := ru
    subst ru
    have q4 := Post.rebase back_S x3 hr3 q3
    cases eo : oSl x l' u' h3 with
    | none => rw [eo] at q4; exact q4.elim
    | some d =>
      rw [eo] at q4
      exact real_sl hr3 ((rv.1.ext x2 hr1).ext x3 hr2) eo (Post.made hr3 q4)
/-- xs[::-1] -/
def oRev (x : SD) (h : MH) : Option SD := match x with
  | .val (.tup ds) => some (.val (.tup ds.reverse))
  | x => (lstOf x h).map fun ds => .tmp ds.reverse
theorem xm_rev {k : Nat} {p1 p2 p3 pos : Pos} (ha : XM X W a ma) : XM X W (.Subscript a (.Slice none none (some (.UnaryOp .USub (.Constant (.int 1) k p1) p2)) p3) pos) (xUn oRev ma) :=
  PE.wk (PE.or (pe_revT ha) (pe_revL ha)) fun σ H Q q => by
    obtain ⟨ρ, h, ι, hr, sr, q⟩ := q
    cases em : ma ρ h with
    | fail => unfold xUn at q; rw [em] at q; exact q.elim
    | exc c fs h1 =>
      left
      refine ⟨ρ, h, ι, hr, sr, ?_⟩
      unfold xUn at q
      rw [em] at q ⊢
      exact q
    | ok x h1 =>
      unfold xUn at q
      rw [em] at q
      simp only [Res.bind_ok] at q
      unfold oRev at q
      split at q
      · rename_i d heq
        split at heq
        · rename_i ds
          cases heq
          left
          refine ⟨ρ, h, ι, hr, sr, ?_⟩
          rw [em]
          refine fun v H1 ι1 x1 hr1 rv => ?_
          obtain ⟨rv, _⟩ := rv
          simp only [SRep, Rep] at rv
          obtain ⟨a, xs, rfl, s, l⟩ := rv
          have q' := Post.rebase back_S x1 hr1 (show Post X.K X.mg W (rS X.K) σ H ι h Q (.ok (.val (.tup ds.reverse)) h1) from q)
          exact ⟨a, xs, rfl, s, fun p hp => Post.made hr1 q' _ _ (Grow.upd hp) (SRep.newT hr1 hp l.reverse) trivial⟩
        · rename_i hne
          obtain ⟨ds, e1, rfl⟩ := Option.map_eq_some_iff.mp heq
          right
          refine ⟨ρ, h, ι, hr, sr, ?_⟩
          rw [em]
          refine fun v H1 ι1 x1 hr1 rv => ?_
          obtain ⟨rv, _⟩ := rv
          obtain ⟨a, xs, rfl, s, l⟩ := lstOf_at hr1 rv e1
          have q' := Post.rebase back_S x1 hr1 (show Post X.K X.mg W (rS X.K) σ H ι h Q (.ok (.tmp ds.reverse) h1) from q)
          exact ⟨a, xs, rfl, SqL.of s, fun p hp => by have z := SRep.new hr1 hp l.reverse; exact Post.made hr1 q' _ _ (Grow.upd hp) z.1 z.2⟩
      · exact q.elim
end
/-! ### tests -/
def asB (a : MX) : MT := fun ρ h => (a ρ h).bind fun x h1 => match x with
  | .val (.bl b) => .ok b h1
  | _ => .fail
def truth (x : SD) (h : MH) : Option Bool := match x with
  | .val .non => some false
  | .val (.bl b) => some b
  | .val (.int i) => some (i != 0)
  | .val (.str z) => if z.length ≤ sizeLine then some ((z.length : Int) != 0) else none
  | .val (.tup ds) => some (!ds.isEmpty)
  | .tmp ds => some (!ds.isEmpty)
  | .val (.ref r) => match h[r]? with
    | some (.lst ds) => some (!ds.isEmpty)
    | some (.dK false kvs) => some (!kvs.isEmpty)
    | _ => none
  | _ => none
def tTru (a : MX) : MT := fun ρ h => (a ρ h).bind fun x h1 => match truth x h1 with
  | some b => .ok b h1
  | none => .fail
theorem RepL.empty {K : PySem.W.Frag} {H : Hp} {ι : Nat → Addr} {n : Nat} {ds : List D} {xs : List V} (l : RepL K H ι n ds xs) : ds.isEmpty = xs.isEmpty := by
  have := l.len
  cases ds <;> cases xs <;> simp at this <;> rfl
theorem RepP.len {κ : Type} {K : PySem.W.Frag} {H : Hp} {ι : Nat → Addr} {n : Nat} : ∀ {ds : List (κ × D)} {xs : List (κ × V)}, RepP K H ι n ds xs → ds.length = xs.length
  | [], _, q => by simp only [RepP] at q; subst q; rfl
  | d :: ds, xs, q => by
    simp only [RepP] at q
    obtain ⟨v, t, e, q1, q2⟩ := q
    subst e
    rw [List.length_cons, List.length_cons, RepP.len q2]
theorem RepP.empty {κ : Type} {K : PySem.W.Frag} {H : Hp} {ι : Nat → Addr} {n : Nat} {ds : List (κ × D)} {xs : List (κ × V)} (l : RepP K H ι n ds xs) : ds.isEmpty = xs.isEmpty := by
  have := l.len
  cases ds <;> cases xs <;> simp at this <;> rfl
theorem truth_at {K : PySem.W.Frag} {H : Hp} {ι : Nat → Addr} {h : MH} {x : SD} {v : V} {b : Bool} (hr : HRel K H ι h) (s : SRep K H ι h x v) (e : truth x h = some b) : TruV K v H b := by
  unfold truth at e
  split at e
  · cases e; simp only [SRep, Rep] at s; subst s; rfl
  · cases e; simp only [SRep, Rep] at s; subst s; rfl
  · cases e; simp only [SRep, Rep] at s; subst s; rfl
  · split at e
    · rename_i c; cases e; simp only [SRep, Rep] at s; subst s; exact ⟨c, rfl⟩
    · cases e
  · cases e
    simp only [SRep, Rep] at s
    obtain ⟨a, xs, rfl, q, l⟩ := s
    exact .inr (.inl ⟨xs, q, by rw [l.empty]⟩)
  · cases e
    obtain ⟨a, xs, rfl, q, _, l⟩ := s
    exact .inl ⟨xs, SqL.of q, by rw [l.empty]⟩
  · rename_i r
    simp only [SRep, Rep] at s
    obtain ⟨_, rfl⟩ := s
    split at e
    · rename_i er; cases e; obtain ⟨xs, q, l⟩ := hr.obj r _ er; exact .inl ⟨xs, SqL.of q, by rw [l.empty]⟩
    · rename_i er; cases e; obtain ⟨xs, q, l⟩ := hr.obj r _ er; exact .inr (.inr ⟨xs, q, by rw [l.empty]⟩)
    · cases e
  · cases e
section
variable {X : Cx} {W : WX} {a b c e : Expr} {es : List Expr} {ma mb mc : MX} {ta tb tc : MT} {pos p : Pos}
theorem tm_tru (ha : XM X W a ma) (he : ∀ whole, isTrue a X.env whole = (do let v ← whole; standAt a.pos; holding [v] (truthy v)) := by intro _; rfl) : TM X W a (tTru ma) :=
  PT.wk (pt_truth ha he) fun σ H Q q => tM_one back_B q fun {ρ h ι x h2 H2 ι2 v} _ x1 hr2 _ sx _ _ q2 => by
    split at q2
    · rename_i k ek
      exact ⟨k, truth_at hr2 sx ek, q2 k H2 ι2 Ext.refl hr2 rfl⟩
    · exact q2.elim
theorem tm_cmp {op : CmpOp} {r : R2} {o : SD → SD → MH → Option SD} (ho : OpR X (compareOp op) r) (hR : Real2 X.K r o) (ha : XM X W a ma) (hb : XM X W b mb) (hm : behindInMarks op b = false) : TM X W (.Compare a [op] [b] pos) (asB (xOp o ma mb)) :=
  PT.wk (pt_cmpR ho ha hb hm) fun σ H Q q => by
    have q' : tM X.K X.mg W rB (fun ρ h => (ma ρ h).bind fun x h1 => (mb ρ h1).bind fun y h2 => (match o x y h2 with | some d => Res.ok d h2 | none => Res.fail).bind fun x h1 => match x with
      | .val (.bl b) => .ok b h1
      | _ => .fail) σ H Q := by
      obtain ⟨ρ, h, ι, hr, sr, q⟩ := q
      refine ⟨ρ, h, ι, hr, sr, ?_⟩
      unfold asB xOp at q
      simp only [Res.bind_assoc] at q
      exact q
    refine tM_two (f := fun x y h2 => (match o x y h2 with | some d => Res.ok d h2 | none => Res.fail).bind fun x h1 => match x with
      | .val (.bl b) => .ok b h1
      | _ => .fail) back_B q' fun {ρ h ι x y h2 H2 ι2 v u} _ x1 hr2 _ sx sy _ _ q2 => ?_
    cases eo : o x y h2 with
    | none => rw [eo] at q2; exact q2.elim
    | some d =>
      rw [eo] at q2
      refine hR hr2 sx sy eo fun w H' g s f => ?_
      simp only [Res.bind_ok] at q2
      split at q2
      · rename_i k
        simp only [SRep, Rep] at s
        exact ⟨k, s, q2 k H' ι2 g.ext (g.hrel hr2) rfl⟩
      · exact q2.elim
theorem tm_lt (ha : XM X W a ma) (hb : XM X W b mb) : TM X W (.Compare a [.Lt] [b] pos) (asB (xOp oLt ma mb)) := tm_cmp op_lt real_lt ha hb (nomark _)
theorem tm_le (ha : XM X W a ma) (hb : XM X W b mb) : TM X W (.Compare a [.LtE] [b] pos) (asB (xOp oLe ma mb)) := tm_cmp op_le real_le ha hb (nomark _)
theorem tm_gt (ha : XM X W a ma) (hb : XM X W b mb) : TM X W (.Compare a [.Gt] [b] pos) (asB (xOp oGt ma mb)) := tm_cmp op_gt real_gt ha hb (nomark _)
theorem tm_ge (ha : XM X W a ma) (hb : XM X W b mb) : TM X W (.Compare a [.GtE] [b] pos) (asB (xOp oGe ma mb)) := tm_cmp op_ge real_ge ha hb (nomark _)
theorem tm_eq {k : Nat} (hr : Room k X.A) (ha : XM X W a ma) (hb : XM X W b mb) : TM X W (.Compare a [.Eq] [b] pos) (asB (xOp oEq ma mb)) := tm_cmp (op_eqD hr.units) real_eq ha hb (nomark _)
theorem tm_ne {k : Nat} (hr : Room k X.A) (ha : XM X W a ma) (hb : XM X W b mb) : TM X W (.Compare a [.NotEq] [b] pos) (asB (xOp oNe ma mb)) := tm_cmp (op_neD hr.units) real_ne ha hb (nomark _)
theorem tm_is (ha : XM X W a ma) (hb : XM X W b mb) : TM X W (.Compare a [.Is] [b] pos) (asB (xOp oIs ma mb)) := tm_cmp (op_isBl.or op_isN) (real_isB.or real_isN) ha hb (nomark _)
theorem tm_isnot (ha : XM X W a ma) (hb : XM X W b mb) : TM X W (.Compare a [.IsNot] [b] pos) (asB (xOp oIsNot ma mb)) := tm_cmp (op_notBl.or op_notN) (real_notB.or real_notN) ha hb (nomark _)
/-- not, and, or -/
def tNotM (t : MT) : MT := fun ρ h => (t ρ h).bind fun k h1 => .ok (!k) h1
def tAndM (t u : MT) : MT := fun ρ h => (t ρ h).bind fun k h1 => if k = true then u ρ h1 else .ok false h1
def tOrM (t u : MT) : MT := fun ρ h => (t ρ h).bind fun k h1 => if k = true then .ok true h1 else u ρ h1
theorem tM_b {α β : Type} {rel : RelT α β} (b : Back rel) {K : PySem.W.Frag} {mg : Str → Option Value} {t : MT} {f : Env' → Bool → MH → Res α} {σ : L2.St} {H : Hp} {Q : β → Hp → Prop}
    (q : tM K mg W rel (fun ρ h => (t ρ h).bind fun x h1 => f ρ x h1) σ H Q) {R : Bool → Hp → Prop}
    (k : ∀ {ρ x h2 H2 ι2}, HRel K H2 ι2 h2 → SRel K H2 ι2 h2.length ρ σ → Post K mg W rel σ H2 ι2 h2 Q (f ρ x h2) → R x H2) : tM K mg W rB t σ H R := by
  obtain ⟨ρ, h, ι, hr, sr, q⟩ := q
  refine ⟨ρ, h, ι, hr, sr, (Post.bind (rel := rB) b q).imp fun v H1 ⟨x, h1, ι1, e1, x1, hr1, rv, q1⟩ => ?_⟩
  have rv : x = v := rv
  subst rv
  exact k hr1 (sr.ext x1 hr) (Post.rebase b x1 hr1 q1)
theorem tm_not (ha : TM X W a ta) : TM X W (.UnaryOp .Not a pos) (tNotM ta) := PT.wk (pt_not ha) fun σ H Q q => tM_b (f := fun _ k h1 => .ok (!k) h1) back_B q fun hr sr p => p _ _ _ Ext.refl hr rfl
theorem wm_and1 (ha : TM X W a ta) : WM X W (.BoolOp .And [a] pos) ta := pw_and1 ha
theorem wm_or1 (ha : TM X W a ta) : WM X W (.BoolOp .Or [a] pos) ta := pw_or1 ha
theorem wm_and (ha : TM X W a ta) (hb : WM X W (.BoolOp .And (b :: es) pos) tb) : WM X W (.BoolOp .And (a :: b :: es) pos) (tAndM ta tb) := PW.wk (pw_and ha hb) fun σ H Q q => tM_b (f := fun ρ k h1 => if k = true then tb ρ h1 else .ok false h1) back_B q fun {ρ x h2 H2 ι2} hr sr p => by
  cases x with
  | true => rw [if_pos rfl] at p ⊢; exact ⟨ρ, h2, ι2, hr, sr, p⟩
  | false => rw [if_neg Bool.false_ne_true] at p ⊢; exact p _ _ _ Ext.refl hr rfl
theorem wm_or (ha : TM X W a ta) (hb : WM X W (.BoolOp .Or (b :: es) pos) tb) : WM X W (.BoolOp .Or (a :: b :: es) pos) (tOrM ta tb) := PW.wk (pw_or ha hb) fun σ H Q q => tM_b (f := fun ρ k h1 => if k = true then .ok true h1 else tb ρ h1) back_B q fun {ρ x h2 H2 ι2} hr sr p => by
  cases x with
  | true => rw [if_pos rfl] at p ⊢; exact p _ _ _ Ext.refl hr rfl
  | false => rw [if_neg Bool.false_ne_true] at p ⊢; exact ⟨ρ, h2, ι2, hr, sr, p⟩
theorem WM.tm (h : WM X W a ta) : TM X W a ta := PW.pt h
/-- as values -/
def xAnd (a b : MX) : MX := fun ρ h => (a ρ h).bind fun x h1 => match x with
  | .val (.bl k) => if k = true then b ρ h1 else .ok (.val (.bl false)) h1
  | _ => .fail
def xOr (a b : MX) : MX := fun ρ h => (a ρ h).bind fun x h1 => match x with
  | .val (.bl k) => if k = true then .ok (.val (.bl true)) h1 else b ρ h1
  | _ => .fail
theorem xm_one {op} (h : XM X W a ma) : XM X W (.BoolOp op [a] pos) ma := pe_one h
theorem tM_x {α β : Type} {rel : RelT α β} (b : Back rel) {K : PySem.W.Frag} {mg : Str → Option Value} {t : MX} {f : Env' → SD → MH → Res α} {σ : L2.St} {H : Hp} {Q : β → Hp → Prop}
    (q : tM K mg W rel (fun ρ h => (t ρ h).bind fun x h1 => f ρ x h1) σ H Q) {R : V → Hp → Prop}
    (k : ∀ {ρ x h2 H2 ι2 v}, HRel K H2 ι2 h2 → SRel K H2 ι2 h2.length ρ σ → SRep K H2 ι2 h2 x v → Post K mg W rel σ H2 ι2 h2 Q (f ρ x h2) → R v H2) : tM K mg W (rS K) t σ H R := by
  obtain ⟨ρ, h, ι, hr, sr, q⟩ := q
  refine ⟨ρ, h, ι, hr, sr, (Post.bind (rel := rS K) b q).imp fun v H1 ⟨x, h1, ι1, e1, x1, hr1, rv, q1⟩ => ?_⟩
  exact k hr1 (sr.ext x1 hr) rv.1 (Post.rebase b x1 hr1 q1)
theorem xm_and (ha : XM X W a ma) (hb : XM X W (.BoolOp .And (b :: es) pos) mb) : XM X W (.BoolOp .And (a :: b :: es) pos) (xAnd ma mb) := PE.wk (pe_and ha hb) fun σ H Q q => tM_x (f := fun ρ x h1 => match x with
  | .val (.bl k) => if k = true then mb ρ h1 else .ok (.val (.bl false)) h1
  | _ => .fail) back_S q fun {ρ x h2 H2 ι2 v} hr sr sx p => by
    split at p
    · rename_i k
      simp only [SRep, Rep] at sx
      refine ⟨k, sx, ?_⟩
      cases k with
      | true => rw [if_pos rfl] at p ⊢; exact ⟨ρ, h2, ι2, hr, sr, p⟩
      | false => rw [if_neg Bool.false_ne_true] at p ⊢; exact p _ _ _ Ext.refl hr ⟨srp_bl, trivial⟩
    · exact p.elim
theorem xm_or (ha : XM X W a ma) (hb : XM X W (.BoolOp .Or (b :: es) pos) mb) : XM X W (.BoolOp .Or (a :: b :: es) pos) (xOr ma mb) := PE.wk (pe_or ha hb) fun σ H Q q => tM_x (f := fun ρ x h1 => match x with
  | .val (.bl k) => if k = true then .ok (.val (.bl true)) h1 else mb ρ h1
  | _ => .fail) back_S q fun {ρ x h2 H2 ι2 v} hr sr sx p => by
    split at p
    · rename_i k
      simp only [SRep, Rep] at sx
      refine ⟨k, sx, ?_⟩
      cases k with
      | true => rw [if_pos rfl] at p ⊢; exact p _ _ _ Ext.refl hr ⟨srp_bl, trivial⟩
      | false => rw [if_neg Bool.false_ne_true] at p ⊢; exact ⟨ρ, h2, ι2, hr, sr, p⟩
    · exact p.elim
def oNot (x : SD) (h : MH) : Option SD := (truth x h).map fun b => .val (.bl (!b))
theorem xm_not (ha : XM X W a ma) : XM X W (.UnaryOp .Not a pos) (xUn oNot ma) := PE.wk (pe_notT ha) fun σ H Q q => tM_one back_S q fun {ρ h ι x h2 H2 ι2 v} _ x1 hr2 _ sx _ _ q2 => by
  split at q2
  · rename_i d ed
    unfold oNot at ed
    obtain ⟨b, eb, rfl⟩ := Option.map_eq_some_iff.mp ed
    exact ⟨b, truth_at hr2 sx eb, Post.made hr2 q2 _ _ Grow.refl srp_bl trivial⟩
  · exact q2.elim
/-- a if t else b -/
def xIf (t : MT) (a b : MX) : MX := fun ρ h => (t ρ h).bind fun k h1 => if k = true then a ρ h1 else b ρ h1
theorem xm_if (hc : TM X W c tc) (ha : XM X W a ma) (hb : XM X W b mb) : XM X W (.IfExp c a b pos) (xIf tc ma mb) := PE.wk (pe_ifExp hc ha hb) fun σ H Q q => tM_b (f := fun ρ k h1 => if k = true then ma ρ h1 else mb ρ h1) back_S q fun {ρ x h2 H2 ι2} hr sr p => by
  cases x with
  | true => rw [if_pos rfl] at p ⊢; exact ⟨ρ, h2, ι2, hr, sr, p⟩
  | false => rw [if_neg Bool.false_ne_true] at p ⊢; exact ⟨ρ, h2, ι2, hr, sr, p⟩
/-- a < b <= c -/
def xChain (o o' : SD → SD → MH → Option SD) (a b c : MX) : MX := fun ρ h => (a ρ h).bind fun x h1 => (b ρ h1).bind fun y h2 => match o x y h2 with
  | some (.val (.bl k)) => if k = true then (c ρ h2).bind fun z h3 => match o' y z h3 with
    | some d => .ok d h3
    | none => .fail
    else .ok (.val (.bl false)) h2
  | _ => .fail
end
end AM

namespace AM
open PySem PySem.Spec PyProof.Rows L2

/-! ### statements -/
inductive RS where
  | next (ρ : Env') (h : MH) | ret (d : D) (h : MH) | brk (ρ : Env') (h : MH) | cont (ρ : Env') (h : MH)
  | exc (c : Str) (fs : List (Str × D)) (ρ : Env') (h : MH) | fail
abbrev MS := Env' → MH → RS
def sBind {α : Type} (r : Res α) (ρ : Env') (f : α → MH → RS) : RS := match r with
  | .ok a h => f a h
  | .exc c fs h => .exc c fs ρ h
  | .fail => .fail
theorem sBind_ok {α : Type} {a : α} {h : MH} {ρ : Env'} {f : α → MH → RS} : sBind (.ok a h) ρ f = f a h := rfl
theorem sBind_fail {α : Type} {ρ : Env'} {f : α → MH → RS} : sBind (.fail : Res α) ρ f = .fail := rfl
def PostS (K : PySem.W.Frag) (mg : Str → Option Value) (W : WX) (H : Hp) (ι : Nat → Addr) (h : MH) (D : Ends) : RS → Prop
  | .next ρ' h' => ∀ σ' H' ι', Ext H ι h H' ι' h' → HRel K H' ι' h' → SRel K H' ι' h'.length ρ' σ' → D.nx σ' H'
  | .brk ρ' h' => ∀ σ' H' ι', Ext H ι h H' ι' h' → HRel K H' ι' h' → SRel K H' ι' h'.length ρ' σ' → D.bk σ' H'
  | .cont ρ' h' => ∀ σ' H' ι', Ext H ι h H' ι' h' → HRel K H' ι' h' → SRel K H' ι' h'.length ρ' σ' → D.ct σ' H'
  | .ret d h' => ∀ v H' ι', Ext H ι h H' ι' h' → HRel K H' ι' h' → Rep K H' ι' h'.length d v → D.rt v H'
  | .exc c fs ρ' h' => ∀ cls dx H' ι' σ', Ext H ι h H' ι' h' → HRel K H' ι' h' → SRel K H' ι' h'.length ρ' σ' → XRel K mg H' ι' h' c fs cls dx → W cls dx σ' H'
  | .fail => False
def tSt (K : PySem.W.Frag) (mg : Str → Option Value) (W : WX) (m : MS) : TS := fun D σ H => ∃ ρ h ι, HRel K H ι h ∧ SRel K H ι h.length ρ σ ∧ PostS K mg W H ι h D (m ρ h)
def SM (X : Cx) (W : WX) (s : Stmt) (m : MS) : Prop := PS X s (tSt X.K X.mg W m)
def SMs (X : Cx) (W : WX) (s : List Stmt) (m : MS) : Prop := PSs X s (tSt X.K X.mg W m)
section
variable {α β : Type} {K : PySem.W.Frag} {mg : Str → Option Value} {W : WX} {H H1 : Hp} {ι ι1 : Nat → Addr} {h h1 : MH} {σ : L2.St} {D D' : Ends} {ρ : Env'}
theorem PostS.rebase (x : Ext H ι h H1 ι1 h1) (r1 : HRel K H1 ι1 h1) {r : RS} (p : PostS K mg W H ι h D r) : PostS K mg W H1 ι1 h1 D r := by
  cases r with
  | next ρ' h' => exact fun σ' H' ι' y r' s => p σ' H' ι' (x.trans y r1) r' s
  | brk ρ' h' => exact fun σ' H' ι' y r' s => p σ' H' ι' (x.trans y r1) r' s
  | cont ρ' h' => exact fun σ' H' ι' y r' s => p σ' H' ι' (x.trans y r1) r' s
  | ret d h' => exact fun v H' ι' y r' s => p v H' ι' (x.trans y r1) r' s
  | exc c fs ρ' h' => exact fun cls dx H' ι' σ' y r' s q => p cls dx H' ι' σ' (x.trans y r1) r' s q
  | fail => exact p
theorem PostS.bind {rel : RelT α β} {r : Res α} {f : α → MH → RS} (hr : HRel K H ι h) (sr : SRel K H ι h.length ρ σ) (p : PostS K mg W H ι h D (sBind r ρ f)) :
    Post K mg W rel σ H ι h (fun v H1 => ∃ a h1 ι1, r = .ok a h1 ∧ Ext H ι h H1 ι1 h1 ∧ HRel K H1 ι1 h1 ∧ rel H H1 ι1 h1 a v ∧ PostS K mg W H ι h D (f a h1)) r := by
  cases r with
  | ok d h' => exact fun v H' ι' x r' q => ⟨d, h', ι', rfl, x, r', q, p⟩
  | exc c fs h' => exact fun cls dx H' ι' x r' q => p cls dx H' ι' σ x r' (sr.ext x hr) q
  | fail => exact p
end
section
variable {X : Cx} {W : WX} {a b c e : Expr} {es : List Expr} {st : Stmt} {sts rest : List Stmt} {ma mb mc : MX} {ta tb tc : MT} {m1 m2 : MS} {pos p : Pos}
def sNext : MS := fun ρ h => .next ρ h
def sSeq (m1 m2 : MS) : MS := fun ρ h => match m1 ρ h with
  | .next ρ1 h1 => m2 ρ1 h1
  | r => r
theorem sm_nil : SMs X W [] sNext := PSs.wk pss_nil fun D σ H ⟨ρ, h, ι, hr, sr, q⟩ => q σ H ι Ext.refl hr sr
theorem sm_cons (h1 : SM X W st m1) (h2 : SMs X W rest m2) : SMs X W (st :: rest) (sSeq m1 m2) := PSs.wk (pss_cons h1 h2) fun D σ H ⟨ρ, h, ι, hr, sr, q⟩ => by
  refine ⟨ρ, h, ι, hr, sr, ?_⟩
  unfold sSeq at q
  cases e : m1 ρ h with
  | next ρ1 h1 =>
    rw [e] at q
    exact fun σ' H' ι' x r' s => ⟨ρ1, h1, ι', r', s, PostS.rebase x r' q⟩
  | brk ρ' h' => rw [e] at q; exact q
  | cont ρ' h' => rw [e] at q; exact q
  | ret d h' => rw [e] at q; exact q
  | exc c fs ρ' h' => rw [e] at q; exact q
  | fail => rw [e] at q; exact q.elim
theorem sm_one (h1 : SM X W st m1) : SMs X W [st] m1 := pss_one h1
def sBrk : MS := fun ρ h => .brk ρ h
def sCont : MS := fun ρ h => .cont ρ h
theorem sm_pass : SM X W (.Pass pos) sNext := PS.wk ps_pass fun D σ H ⟨ρ, h, ι, hr, sr, q⟩ => q σ H ι Ext.refl hr sr
theorem sm_break : SM X W (.Break pos) sBrk := PS.wk ps_break fun D σ H ⟨ρ, h, ι, hr, sr, q⟩ => q σ H ι Ext.refl hr sr
theorem sm_continue : SM X W (.Continue pos) sCont := PS.wk ps_continue fun D σ H ⟨ρ, h, ι, hr, sr, q⟩ => q σ H ι Ext.refl hr sr
def sFail : MS := fun _ _ => .fail
theorem sm_never : SM X W st sFail := PS.wk ps_never fun D σ H ⟨ρ, h, ι, hr, sr, q⟩ => q
theorem sm_doc {x j pos pos'} : SM X W (.Expr (.Constant (.str x) j pos) pos') sNext := PS.wk ps_doc fun D σ H ⟨ρ, h, ι, hr, sr, q⟩ => q σ H ι Ext.refl hr sr
def sExpr (m : MX) : MS := fun ρ h => sBind (m ρ h) ρ fun _ h1 => .next ρ h1
theorem sm_expr (ha : XM X W e ma) (hs : swapsWith e none pos.line X.env = pure false := by rfl) : SM X W (.Expr e pos) (sExpr ma) := PS.wk (ps_expr ha hs) fun D σ H ⟨ρ, h, ι, hr, sr, q⟩ =>
  ⟨ρ, h, ι, hr, sr, (PostS.bind (rel := rS X.K) hr sr q).imp fun v H1 ⟨x, h1, ι1, e1, x1, hr1, rv, q1⟩ => q1 σ H1 ι1 x1 hr1 (sr.ext x1 hr)⟩
theorem tM_holdS {K : PySem.W.Frag} {mg : Str → Option Value} {f : Env' → D → MH → RS} {σ : L2.St} {H : Hp} {D : Ends}
    (q : ∃ ρ h ι, HRel K H ι h ∧ SRel K H ι h.length ρ σ ∧ PostS K mg W H ι h D (sBind (ma ρ h) ρ fun x h1 => f ρ (holdD x h1) (holdH x h1))) {R : V → Hp → Prop}
    (k : ∀ {ρ d h1 H1 ι1 v}, HRel K H1 ι1 h1 → SRel K H1 ι1 h1.length ρ σ → Rep K H1 ι1 h1.length d v → PostS K mg W H1 ι1 h1 D (f ρ d h1) → R v H1) : tM K mg W (rS K) ma σ H R := by
  obtain ⟨ρ, h, ι, hr, sr, q⟩ := q
  refine ⟨ρ, h, ι, hr, sr, (PostS.bind (rel := rS K) hr sr q).imp fun v H1 ⟨x, h1, ι1, e1, x1, hr1, rv, q1⟩ => ?_⟩
  obtain ⟨ι', r', x', rp⟩ := hold_ok hr1 x1 rv.1 rv.2
  exact k r' (sr.ext x' hr) rp (PostS.rebase x' r' q1)
def sRet (m : MX) : MS := fun ρ h => sBind (m ρ h) ρ fun x h1 => .ret (holdD x h1) (holdH x h1)
theorem sm_ret (ha : XM X W e ma) : SM X W (.Return (some e) pos) (sRet ma) := PS.wk (ps_ret ha) fun D σ H q => tM_holdS (f := fun _ d h1 => .ret d h1) q fun hr sr rp q => q _ _ _ Ext.refl hr rp
def sRetN : MS := fun _ h => .ret .non h
theorem sm_retN : SM X W (.Return none pos) sRetN := PS.wk ps_retN fun D σ H ⟨ρ, h, ι, hr, sr, q⟩ => q .non H ι Ext.refl hr rp_non
/-- name = e -/
def sSet (i : Nat) (m : MX) : MS := fun ρ h => sBind (m ρ h) ρ fun x h1 => .next (ρ.set i (some (holdD x h1))) (holdH x h1)
theorem sm_set (i : Nat) {x : Str} {pos' : Pos} (hN : X.N.Nodup) (ha : XM X W e ma) (hi : X.N[i]? = some x := by rfl) (hx : Loc X.env.scope x := by first | exact Or.inl rfl | exact Or.inr rfl) (hs : swapsWith e (some (.Name x pos')) pos.line X.env = pure false := by rfl)
    (hf : X.fn x = true ∨ X.env.scope.names.lookup x = some .local := by first | exact .inl rfl | exact .inr rfl | assumption) : SM X W (.Assign [.Name x pos'] e pos) (sSet i ma) :=
  PS.wk (ps_set hN hi hx ha hs hf) fun D σ H q => tM_holdS (f := fun ρ d h1 => .next (ρ.set i (some d)) h1) q fun hr sr rp q => q _ _ _ Ext.refl hr (sr.set i rp)
/-- if -/
def sIf (t : MT) (a b : MS) : MS := fun ρ h => sBind (t ρ h) ρ fun k h1 => if k = true then a ρ h1 else b ρ h1
theorem tS_b {K : PySem.W.Frag} {mg : Str → Option Value} {f : Env' → Bool → MH → RS} {σ : L2.St} {H : Hp} {D : Ends}
    (q : ∃ ρ h ι, HRel K H ι h ∧ SRel K H ι h.length ρ σ ∧ PostS K mg W H ι h D (sBind (ta ρ h) ρ fun x h1 => f ρ x h1)) {R : Bool → Hp → Prop}
    (k : ∀ {ρ x h1 H1 ι1}, HRel K H1 ι1 h1 → SRel K H1 ι1 h1.length ρ σ → PostS K mg W H1 ι1 h1 D (f ρ x h1) → R x H1) : tM K mg W rB ta σ H R := by
  obtain ⟨ρ, h, ι, hr, sr, q⟩ := q
  refine ⟨ρ, h, ι, hr, sr, (PostS.bind (rel := rB) hr sr q).imp fun v H1 ⟨x, h1, ι1, e1, x1, hr1, rv, q1⟩ => ?_⟩
  have rv : x = v := rv
  subst rv
  exact k hr1 (sr.ext x1 hr) (PostS.rebase x1 hr1 q1)
theorem sm_if {sa sb : List Stmt} (hc : TM X W c tc) (ha : SMs X W sa m1) (hb : SMs X W sb m2) : SM X W (.If c sa sb pos) (sIf tc m1 m2) := PS.wk (ps_if hc ha hb) fun D σ H q => tS_b (f := fun ρ k h1 => if k = true then m1 ρ h1 else m2 ρ h1) q fun {ρ x h1 H1 ι1} hr sr p => by
  cases x with
  | true => rw [if_pos rfl] at p ⊢; exact ⟨ρ, h1, ι1, hr, sr, p⟩
  | false => rw [if_neg Bool.false_ne_true] at p ⊢; exact ⟨ρ, h1, ι1, hr, sr, p⟩
end
/-! ### targets -/
abbrev MB := D → Env' → Option Env'
abbrev MBs := List D → Env' → Option Env'
def Covers (vs own : List Nat) : Prop := ∀ i ∈ vs, i ∈ own
def RealG (K : PySem.W.Frag) (g : TG) (b : MB) (vs : List Nat) : Prop := ∀ {x : V} {d : D} {σ : L2.St} {H : Hp} {ι : Nat → Addr} {n : Nat} {ρ ρ' : Env'} {Q : L2.St → Hp → Prop}, SRel K H ι n ρ σ → Rep K H ι n d x → b d ρ = some ρ' →
  (∀ σ', SRel K H ι n ρ' σ' → (∀ own, Covers vs own → wipe σ' own = wipe σ own) → Q σ' H) → g x σ H Q
def RealGs (K : PySem.W.Frag) (g : TGs) (b : MBs) (vs : List Nat) : Prop := ∀ {x : List V} {d : List D} {σ : L2.St} {H : Hp} {ι : Nat → Addr} {n : Nat} {ρ ρ' : Env'} {Q : L2.St → Hp → Prop}, SRel K H ι n ρ σ → RepL K H ι n d x → b d ρ = some ρ' →
  (∀ σ', SRel K H ι n ρ' σ' → (∀ own, Covers vs own → wipe σ' own = wipe σ own) → Q σ' H) → g x σ H Q
structure GM (X : Cx) (tg : Expr) (g : TG) (b : MB) (vs : List Nat) : Prop where
  pg : PG X tg g
  re : RealG X.K g b vs
structure GMs (X : Cx) (tg : List Expr) (g : TGs) (b : MBs) (vs : List Nat) : Prop where
  pg : PGs X tg g
  re : RealGs X.K g b vs
theorem wipe_get (σ : L2.St) : ∀ (own : List Nat) (j : Nat), (wipe σ own)[j]? = if j ∈ own then (σ[j]?).map (fun _ => none) else σ[j]?
  | [], j => by simp [wipe]
  | v :: vs, j => by
    unfold wipe
    by_cases hj : j = v
    · subst hj
      by_cases hl : j < (wipe σ vs).length
      · rw [List.getElem?_set_self hl]
        have hl' : j < σ.length := by rw [← wipe_length σ vs]; exact hl
        simp [List.getElem?_eq_getElem hl']
      · rw [List.getElem?_eq_none (by simpa using hl)]
        have hl' : ¬ j < σ.length := by rw [← wipe_length σ vs]; exact hl
        simp [List.getElem?_eq_none (Nat.le_of_not_lt hl')]
    · rw [List.getElem?_set_ne (Ne.symm hj), wipe_get σ vs j]
      simp [hj]
theorem wipe_set {σ : L2.St} {own : List Nat} {i : Nat} {v : Option V} (hi : i ∈ own) : wipe (σ.set i v) own = wipe σ own := by
  apply List.ext_getElem?
  intro j
  rw [wipe_get, wipe_get]
  by_cases hj : j ∈ own
  · rw [if_pos hj, if_pos hj]
    by_cases e : j = i
    · subst e
      by_cases hl : j < σ.length
      · rw [List.getElem?_set_self hl, List.getElem?_eq_getElem hl]; rfl
      · rw [List.getElem?_eq_none (by simpa using hl), List.getElem?_eq_none (by simpa using hl)]
    · rw [List.getElem?_set_ne (Ne.symm e)]
  · rw [if_neg hj, if_neg hj, List.getElem?_set_ne (by rintro rfl; exact hj hi)]
def bName (i : Nat) : MB := fun d ρ => some (ρ.set i (some d))
def bNil : MBs := fun ds ρ => match ds with
  | [] => some ρ
  | _ => none
def bCons (b : MB) (r : MBs) : MBs := fun ds ρ => match ds with
  | d :: ds => (b d ρ).bind fun ρ1 => r ds ρ1
  | [] => none
def bTup (r : MBs) : MB := fun d ρ => match d with
  | .tup ds => r ds ρ
  | _ => none
section
variable {X : Cx} {pos : Pos}
theorem gm_name (i : Nat) {x : Str} (hN : X.N.Nodup) (hi : X.N[i]? = some x := by rfl) (hx : Loc X.env.scope x := by first | exact Or.inl rfl | exact Or.inr rfl) (hf : X.fn x = true ∨ X.env.scope.names.lookup x = some .local := by first | exact .inl rfl | exact .inr rfl | assumption) :
    GM X (.Name x pos) (gName i) (bName i) [i] :=
  ⟨pg_name hN hi hx hf, fun {x d σ H ι n ρ ρ' Q} sr rp e q => by
    cases e
    exact q _ (SRel.set (h := List.replicate n (.ro [])) (by simpa using sr) i (by simpa using rp) |> fun z => by simpa using z) fun own c => wipe_set (c i (by simp))⟩
theorem gms_nil : GMs X [] gNil bNil [] := ⟨pgs_nil, fun {x d σ H ι n ρ ρ' Q} sr rp e q => by
  unfold bNil at e
  split at e
  · cases e
    simp only [RepL] at rp
    exact ⟨rp, q _ sr fun _ _ => rfl⟩
  · cases e⟩
theorem gms_cons {e : Expr} {es : List Expr} {g : TG} {gs : TGs} {b : MB} {bs : MBs} {v1 v2 : List Nat} (h1 : GM X e g b v1) (h2 : GMs X es gs bs v2)
    (hs : (assignEach (e :: es) X.env).map (·.2) = assign e X.env :: (assignEach es X.env).map (·.2) := by rfl) : GMs X (e :: es) (gCons g gs) (bCons b bs) (v1 ++ v2) :=
  ⟨pgs_cons h1.pg h2.pg hs, fun {x d σ H ι n ρ ρ' Q} sr rp e q => by
    unfold bCons at e
    split at e
    · rename_i d' ds'
      obtain ⟨ρ1, e1, e2⟩ := Option.bind_eq_some_iff.mp e
      simp only [RepL] at rp
      obtain ⟨v, r, ex, r1, r2⟩ := rp
      refine ⟨v, r, ex, h1.re sr r1 e1 fun σ' s' w' => h2.re s' r2 e2 fun σ'' s'' w'' => q σ'' s'' fun own c => ?_⟩
      rw [w'' own fun i hi => c i (List.mem_append_right _ hi), w' own fun i hi => c i (List.mem_append_left _ hi)]
    · cases e⟩
theorem gm_tup {es : List Expr} {k : Nat} {gs : TGs} {bs : MBs} {vs : List Nat} {n : Nat} {K : PySem.W.Frag} (hK : X.K = K) (hc : X.calm = true) (h : GMs X es gs bs vs) (hl : ∀ ds ρ ρ', bs ds ρ = some ρ' → ds.length = n) (hn : (assignEach es X.env).length = n)
    (hst : (assignEach es X.env).findIdx? (·.1) = none := by rfl) : GM X (.Tuple es k pos) (gTup K n gs) (bTup bs) vs := by
  subst hK
  exact ⟨pg_tup hc h.pg hn hst, fun {x d σ H ι n ρ ρ' Q} sr rp e q => by
    unfold bTup at e
    split at e
    · rename_i ds'
      simp only [Rep] at rp
      obtain ⟨a, xs, rfl, s, l⟩ := rp
      exact ⟨a, xs, rfl, s, by rw [← l.len]; exact hl _ _ _ e, h.re sr l e q⟩
    · cases e⟩
theorem bl2 {b1 b2 : MB} (ds : List D) (ρ ρ' : Env') (e : bCons b1 (bCons b2 bNil) ds ρ = some ρ') : ds.length = 2 := by
  match ds, e with
  | [_, _], _ => rfl
  | [], e => simp [bCons] at e
  | [_], e => simp [bCons] at e
  | _ :: _ :: _ :: _, e => simp [bCons, bNil] at e
theorem bl3 {b1 b2 b3 : MB} (ds : List D) (ρ ρ' : Env') (e : bCons b1 (bCons b2 (bCons b3 bNil)) ds ρ = some ρ') : ds.length = 3 := by
  match ds, e with
  | [_, _, _], _ => rfl
  | [], e => simp [bCons] at e
  | [_], e => simp [bCons] at e
  | [_, _], e => simp [bCons] at e
  | _ :: _ :: _ :: _ :: _, e => simp [bCons, bNil] at e
theorem bl4 {b1 b2 b3 b4 : MB} (ds : List D) (ρ ρ' : Env') (e : bCons b1 (bCons b2 (bCons b3 (bCons b4 bNil))) ds ρ = some ρ') : ds.length = 4 := by
  match ds, e with
  | [_, _, _, _], _ => rfl
  | [], e => simp [bCons] at e
  | [_], e => simp [bCons] at e
  | [_, _], e => simp [bCons] at e
  | [_, _, _], e => simp [bCons] at e
  | _ :: _ :: _ :: _ :: _ :: _, e => simp [bCons, bNil] at e
theorem gm_tup2 {e1 e2 : Expr} {k : Nat} {g1 g2 : TG} {b1 b2 : MB} {v1 v2 : List Nat} {K : PySem.W.Frag} (hK : X.K = K) (hc : X.calm = true) (h1 : GM X e1 g1 b1 v1) (h2 : GM X e2 g2 b2 v2) (hs : (assignEach [e1, e2] X.env).map (·.2) = assign e1 X.env :: (assignEach [e2] X.env).map (·.2) := by rfl) (hs2 : (assignEach [e2] X.env).map (·.2) = assign e2 X.env :: (assignEach [] X.env).map (·.2) := by rfl)
    (hn : (assignEach [e1, e2] X.env).length = 2 := by rfl) (hst : (assignEach [e1, e2] X.env).findIdx? (·.1) = none := by rfl) : GM X (.Tuple [e1, e2] k pos) (gTup K 2 (gCons g1 (gCons g2 gNil))) (bTup (bCons b1 (bCons b2 bNil))) (v1 ++ (v2 ++ [])) :=
  gm_tup hK hc (gms_cons h1 (gms_cons h2 gms_nil hs2) hs) (fun ds ρ ρ' e => bl2 ds ρ ρ' e) hn hst
theorem gm_tup3 {e1 e2 e3 : Expr} {k : Nat} {g1 g2 g3 : TG} {b1 b2 b3 : MB} {v1 v2 v3 : List Nat} {K : PySem.W.Frag} (hK : X.K = K) (hc : X.calm = true) (h1 : GM X e1 g1 b1 v1) (h2 : GM X e2 g2 b2 v2) (h3 : GM X e3 g3 b3 v3) (hs : (assignEach [e1, e2, e3] X.env).map (·.2) = assign e1 X.env :: (assignEach [e2, e3] X.env).map (·.2) := by rfl)
    (hs2 : (assignEach [e2, e3] X.env).map (·.2) = assign e2 X.env :: (assignEach [e3] X.env).map (·.2) := by rfl) (hs3 : (assignEach [e3] X.env).map (·.2) = assign e3 X.env :: (assignEach [] X.env).map (·.2) := by rfl)
    (hn : (assignEach [e1, e2, e3] X.env).length = 3 := by rfl) (hst : (assignEach [e1, e2, e3] X.env).findIdx? (·.1) = none := by rfl) : GM X (.Tuple [e1, e2, e3] k pos) (gTup K 3 (gCons g1 (gCons g2 (gCons g3 gNil)))) (bTup (bCons b1 (bCons b2 (bCons b3 bNil)))) (v1 ++ (v2 ++ (v3 ++ []))) :=
  gm_tup hK hc (gms_cons h1 (gms_cons h2 (gms_cons h3 gms_nil hs3) hs2) hs) (fun ds ρ ρ' e => bl3 ds ρ ρ' e) hn hst
end
/-! ### target = e by the target's rule; a, b = x, y -/
section
variable {X : Cx} {W : WX} {a b c e tg : Expr} {ma mb mc : MX} {mr : MA} {pos p : Pos}
def sAsg (m : MX) (b : MB) : MS := fun ρ h => sBind (m ρ h) ρ fun x h1 => match b (holdD x h1) ρ with
  | some ρ1 => .next ρ1 (holdH x h1)
  | none => .fail
theorem sm_asg {g : TG} {bb : MB} {vs : List Nat} (ha : XM X W e ma) (hg : GM X tg g bb vs) (hs : swapsWithSole [tg] e pos.line X.env = pure false := by rfl) (hw : swappedStores [tg] e X.env = pure none := by rfl)
    (h1 : (assignEach [tg] X.env).map (·.2) = [assign tg X.env] := by rfl) : SM X W (.Assign [tg] e pos) (sAsg ma bb) :=
  PS.wk (ps_asg ha hg.pg hs hw h1) fun D σ H q => tM_holdS (f := fun ρ d h1 => match bb d ρ with
    | some ρ1 => .next ρ1 h1
    | none => .fail) q fun {ρ d h1 H1 ι1 v} hr sr rp q => by
      cases eb : bb d ρ with
      | none => rw [eb] at q; exact q.elim
      | some ρ1 => rw [eb] at q; exact hg.re sr rp eb fun σ' s' _ => q σ' H1 ι1 Ext.refl hr s'
def sPar (i j : Nat) (m : MA) : MS := fun ρ h => sBind (m ρ h) ρ fun ds h1 => match ds with
  | [x, y] => .next ((ρ.set i (some x)).set j (some y)) h1
  | _ => .fail
theorem tM_argsS {K : PySem.W.Frag} {mg : Str → Option Value} {f : Env' → List D → MH → RS} {σ : L2.St} {H : Hp} {D : Ends}
    (q : ∃ ρ h ι, HRel K H ι h ∧ SRel K H ι h.length ρ σ ∧ PostS K mg W H ι h D (sBind (mr ρ h) ρ fun x h1 => f ρ x h1)) {R : List V → Hp → Prop}
    (k : ∀ {ρ ds h1 H1 ι1 vs}, HRel K H1 ι1 h1 → SRel K H1 ι1 h1.length ρ σ → RepL K H1 ι1 h1.length ds vs → PostS K mg W H1 ι1 h1 D (f ρ ds h1) → R vs H1) : tM K mg W (rL K) mr σ H R := by
  obtain ⟨ρ, h, ι, hr, sr, q⟩ := q
  refine ⟨ρ, h, ι, hr, sr, (PostS.bind (rel := rL K) hr sr q).imp fun v H1 ⟨x, h1, ι1, e1, x1, hr1, rv, q1⟩ => ?_⟩
  exact k hr1 (sr.ext x1 hr) rv (PostS.rebase x1 hr1 q1)
theorem sm_par (i j : Nat) {x y : Str} {px py pt : Pos} {kt k2 pt2} (hc : X.calm = true) (hN : X.N.Nodup) (ha : AMd X W [a, b] mr) (hij : i ≠ j) (hi : X.N[i]? = some x := by rfl) (hj : X.N[j]? = some y := by rfl)
    (hx : X.env.scope.names.lookup x = some .local := by rfl) (hy : X.env.scope.names.lookup y = some .local := by rfl)
    (hw : swappedStores [.Tuple [.Name x px, .Name y py] kt pt] (.Tuple [a, b] k2 pt2) X.env = pure (some [x, y]) := by rfl)
    (hs : swapsWithSole [.Tuple [.Name x px, .Name y py] kt pt] (.Tuple [a, b] k2 pt2) pos.line X.env = pure false := by rfl) :
    SM X W (.Assign [.Tuple [.Name x px, .Name y py] kt pt] (.Tuple [a, b] k2 pt2) pos) (sPar i j mr) :=
  PS.wk (ps_par hc hN hi hj hij hx hy ha hw hs) fun D σ H q => tM_argsS (f := fun ρ ds h1 => match ds with
  | [x, y] => .next ((ρ.set i (some x)).set j (some y)) h1
  | _ => .fail) q fun {ρ ds h1 H1 ι1 vs} hr sr rl q => by
    split at q
    · simp only [RepL] at rl
      obtain ⟨v, r, rfl, r1, w, t, rfl, r2, rfl⟩ := rl
      exact ⟨v, w, rfl, q _ _ _ Ext.refl hr ((sr.set i r1).set j r2)⟩
    · exact q.elim
def sPar3 (i j l : Nat) (m : MA) : MS := fun ρ h => sBind (m ρ h) ρ fun ds h1 => match ds with
  | [x, y, z] => .next (((ρ.set i (some x)).set j (some y)).set l (some z)) h1
  | _ => .fail
theorem sm_par3 (i j l : Nat) {x y z : Str} {px py pz pt : Pos} {kt k2 pt2} (hc : X.calm = true) (hN : X.N.Nodup) (ha : AMd X W [a, b, c] mr) (hij : i ≠ j) (hil : i ≠ l) (hjl : j ≠ l) (hi : X.N[i]? = some x := by rfl) (hj : X.N[j]? = some y := by rfl) (hl : X.N[l]? = some z := by rfl)
    (hx : X.env.scope.names.lookup x = some .local := by rfl) (hy : X.env.scope.names.lookup y = some .local := by rfl) (hz : X.env.scope.names.lookup z = some .local := by rfl)
    (hw : swappedStores [.Tuple [.Name x px, .Name y py, .Name z pz] kt pt] (.Tuple [a, b, c] k2 pt2) X.env = pure (some [x, y, z]) := by rfl)
    (hs : swapsWithSole [.Tuple [.Name x px, .Name y py, .Name z pz] kt pt] (.Tuple [a, b, c] k2 pt2) pos.line X.env = pure false := by rfl) :
    SM X W (.Assign [.Tuple [.Name x px, .Name y py, .Name z pz] kt pt] (.Tuple [a, b, c] k2 pt2) pos) (sPar3 i j l mr) :=
  PS.wk (ps_par3 hc hN hi hj hl hij hil hjl hx hy hz ha hw hs) fun D σ H q => tM_argsS (f := fun ρ ds h1 => match ds with
  | [x, y, z] => .next (((ρ.set i (some x)).set j (some y)).set l (some z)) h1
  | _ => .fail) q fun {ρ ds h1 H1 ι1 vs} hr sr rl q => by
    split at q
    · simp only [RepL] at rl
      obtain ⟨v, r, rfl, r1, w, t, rfl, r2, u, t', rfl, r3, rfl⟩ := rl
      exact ⟨v, w, u, rfl, q _ _ _ Ext.refl hr (((sr.set i r1).set j r2).set l r3)⟩
    · exact q.elim
end
/-! ### name op= e -/
section
variable {X : Cx} {W : WX} {a b c e tg : Expr} {ma mb mc : MX} {pos p : Pos}
def sAug (i : Nat) (o : SD → SD → MH → Option SD) (m : MX) : MS := fun ρ h => match ρ[i]? with
  | some (some d) => sBind (m ρ h) ρ fun y h1 => match o (.val d) y h1 with
    | some z => .next (ρ.set i (some (holdD z h1))) (holdH z h1)
    | none => .fail
  | _ => .fail
theorem sm_aug (i : Nat) {x : Str} {op : Operator} {r : R2} {o : SD → SD → MH → Option SD} {pos' : Pos} (hN : X.N.Nodup) (ho : OpR X (inplaceOp op) r) (hR : Real2 X.K r o) (ha : XM X W e ma) (hi : X.N[i]? = some x := by rfl) (hx : Loc X.env.scope x := by first | exact Or.inl rfl | exact Or.inr rfl)
    (hf : X.fn x = true ∨ X.env.scope.names.lookup x = some .local := by first | exact .inl rfl | exact .inr rfl | assumption) : SM X W (.AugAssign (.Name x pos') op e pos) (sAug i o ma) :=
  PS.wk (ps_aug hN hi hx ha (ti := r) ho hf) fun D σ H ⟨ρ, h, ι, hr, sr, q⟩ => by
    unfold sAug at q
    cases e : ρ[i]? with
    | none => rw [e] at q; exact q.elim
    | some o' =>
      cases o' with
      | none => rw [e] at q; exact q.elim
      | some d =>
        rw [e] at q
        obtain ⟨v, ev, rv⟩ := sr.2 i d e
        refine ⟨v, ev, ρ, h, ι, hr, sr, (PostS.bind (rel := rS X.K) hr sr q).imp fun u H1 ⟨y, h1, ι1, e1, x1, hr1, ru, q1⟩ => ?_⟩
        cases eo : o (.val d) y h1 with
        | none => rw [eo] at q1; exact q1.elim
        | some z =>
          rw [eo] at q1
          refine hR hr1 (show SRep X.K H1 ι1 h1 (.val d) v from rv.ext x1 hr) ru.1 eo fun w H' g s f => ?_
          have hx' : HRel X.K H' ι1 h1 := g.hrel hr1
          have x' : Ext H ι h H' ι1 h1 := x1.trans g.ext hr1
          have f' : SFresh H z w := SFresh.back (fun a ea => x1.back hr1 ea) f
          obtain ⟨ι2, r2, x2, rp⟩ := hold_ok hx' x' s f'
          exact q1 _ _ _ x2 r2 ((sr.ext x2 hr).set i rp)
theorem sm_augAddI (i : Nat) {x : Str} {pos' : Pos} (hN : X.N.Nodup) (ha : XM X W e ma) (hi : X.N[i]? = some x := by rfl) (hx : Loc X.env.scope x := by first | exact Or.inl rfl | exact Or.inr rfl)
    (hf : X.fn x = true ∨ X.env.scope.names.lookup x = some .local := by first | exact .inl rfl | exact .inr rfl | assumption) : SM X W (.AugAssign (.Name x pos') .Add e pos) (sAug i oAddI ma) := sm_aug i hN iop_add real_addI ha hi hx hf
theorem sm_augSub (i : Nat) {x : Str} {pos' : Pos} (hN : X.N.Nodup) (ha : XM X W e ma) (hi : X.N[i]? = some x := by rfl) (hx : Loc X.env.scope x := by first | exact Or.inl rfl | exact Or.inr rfl)
    (hf : X.fn x = true ∨ X.env.scope.names.lookup x = some .local := by first | exact .inl rfl | exact .inr rfl | assumption) : SM X W (.AugAssign (.Name x pos') .Sub e pos) (sAug i oSub ma) := sm_aug i hN iop_sub real_sub ha hi hx hf
/-! ### xs[i] = e -/
def sIxSet (v o i : MX) : MS := fun ρ h => sBind (v ρ h) ρ fun x h1 => sBind (o ρ (holdH x h1)) ρ fun y h2 => sBind (i ρ h2) ρ fun z h3 => match y, z with
  | .val (.ref r), .val (.int k) => match h3[r]? with
    | some (.lst ds) => match ixN ds.length k with
      | some j => .next ρ (h3.set r (.lst (ds.set j (holdD x h1))))
      | none => .fail
    | _ => .fail
  | _, _ => .fail
theorem sm_ixset {o i : Expr} {mo mi : MX} {tpos : Pos} (ha : XM X W e ma) (ho : XM X W o mo) (hi : XM X W i mi)
    (hst : ∀ v, assign (.Subscript o i tpos) X.env v = (do
      let ov ← holding [v] (eval o X.env)
      let iv ← holding [v, ov] (eval i X.env)
      standAt tpos
      holding [v, ov, iv] (setItem ov iv v)
      release [v, ov, iv] []) := by intro _; rfl)
    (hs : swapsWithSole [.Subscript o i tpos] e pos.line X.env = pure false := by rfl) (hw : swappedStores [.Subscript o i tpos] e X.env = pure none := by rfl)
    (h1 : (assignEach [.Subscript o i tpos] X.env).map (·.2) = [assign (.Subscript o i tpos) X.env] := by rfl) : SM X W (.Assign [.Subscript o i tpos] e pos) (sIxSet ma mo mi) :=
  PS.wk (ps_asg ha (pg_sub ho hi set_list hst) hs hw h1) fun D σ H q => by
    obtain ⟨ρ, h, ι, hr, sr, q⟩ := q
    refine ⟨ρ, h, ι, hr, sr, (PostS.bind (rel := rS X.K) hr sr q).imp fun v H1 ⟨x, h1, ι1, e1, x1, hr1, rv, q1⟩ => ?_⟩
    obtain ⟨ι', r', x', rp⟩ := hold_ok hr1 x1 rv.1 rv.2
    have s' := sr.ext x' hr
    have q1 := PostS.rebase x' r' q1
    refine ⟨ρ, _, ι', r', s', (PostS.bind (rel := rS X.K) r' s' q1).imp fun w H2 ⟨y, h2, ι2, e2, x2, hr2, rw2, q2⟩ => ?_⟩
    have s2 := s'.ext x2 r'
    have q2 := PostS.rebase x2 hr2 q2
    refine ⟨ρ, h2, ι2, hr2, s2, (PostS.bind (rel := rS X.K) hr2 s2 q2).imp fun u H3 ⟨z, h3, ι3, e3, x3, hr3, ru, q3⟩ => ?_⟩
    have q3 := PostS.rebase x3 hr3 q3
    have sy := rw2.1.ext x3 hr2
    have rp3 := (rp.ext x2 r').ext x3 hr2
    split at q3
    · rename_i r k _ _ _
      simp only [SRep, Rep] at sy
      have ru := ru.1
      simp only [SRep, Rep] at ru
      obtain ⟨hlt, rfl⟩ := sy
      subst ru
      split at q3
      · rename_i ds er
        split at q3
        · rename_i j ej
          obtain ⟨xs, ea, l⟩ := hr3.obj r _ er
          refine ⟨ι3 r, xs, k, j, rfl, rfl, ea, by rw [← l.len]; exact ej, ?_⟩
          have wr := HRel.write (mo' := .lst (ds.set j (holdD x h1))) (o := .lst (xs.set j v)) hr3 er rfl rfl (fun q u z => by rw [ea] at z; cases z) fun T => ⟨_, upd_same, RepL.set (rp3.mono T (Nat.le_refl _) (fun _ _ => rfl) |> fun z => z) j (RepL.mono T (Nat.le_refl _) (fun _ _ => rfl) _ _ l)⟩
          refine q3 σ _ ι3 wr.2 wr.1 ?_
          have s3 := s2.ext x3 hr2
          exact s3.ext wr.2 hr3
        · exact q3.elim
      · exact q3.elim
    · exact q3.elim
end
end AM

namespace PySem
open Sem (wp)
open AutoSeq1 (wpAny_loadPart')
theorem am_enum_newT {v : Value} {o : Obj} {H : Heap → Prop} (B : Begins v o H) :
    Meets (Builtin.«enumerate.__new__» ⟨[.type "enumerate", v], []⟩) (fun _ R s => H s.heap ∧
      R (.ok (.ret (.ref (s.heap.push o).objs.size))) { s with heap := (s.heap.push o).push { cls := .type "enumerate", data := .fields #[.none, .bool false, .ref s.heap.objs.size, rawInt 0, .none, .none] } }) :=
  .of_wp fun prog w A R s h => by
    obtain ⟨hp, g, d, tk, os⟩ := s; obtain ⟨h1, h⟩ := h
    have hsub := sub_enumerate
    have q1 : ∀ {A' : Around} {E : Value → Shared → Prop} {Q : Value → Shared → Prop}, Q (.ref hp.objs.size) ⟨hp.push o, g, d, tk, os⟩ → wpAny (model prog w) A' (pyIter v) Q E ⟨hp, g, d, tk, os⟩ :=
      fun q => B.iter prog w _ _ ⟨hp, g, d, tk, os⟩ _ h1 q
    wp_walk using q1
    refine wpAny_stack_any fun st => wpAny_pure ?_
    split
    · rename_i c _ _ _ _ _
      cases (c == Value.type "enumerate")
      · wp_walk using q1
        exact ⟨_, rfl, h⟩
      · wp_walk using q1
        exact ⟨_, rfl, h⟩
    · wp_walk using q1
      exact ⟨_, rfl, h⟩
theorem am_call_enumT {prog : Program} {w : World} {A : Around} {E : Value → Shared → Prop} {s : Shared} {l : Addr} {items : Array Value} {Q : Value → Shared → Prop} (hL : s.heap.IsTuple l items)
    (h : ∀ h', IsEnum h' (s.heap.objs.size + 1) s.heap.objs.size 0 .none → h'.IsTupleIter s.heap.objs.size l 0 → h'.objs.size = s.heap.objs.size + 2 →
      (∀ b o, s.heap.get? b = some o → h'.get? b = some o) → Q (.ref (s.heap.objs.size + 1)) { s with heap := h' }) :
    wpAny (model prog w) A (call (.type "enumerate") [.ref l]) Q E s := by
  have B := begins_tuple l items
  refine callType_new F.called_enumerate (by decide) (F.typeCall_enumerate_1 _) (F.newCall_enumerate_1 _) (fun obj => F.args_object_init_2 obj _) F.entry_enumerate_new
    (am_enum_newT B) ⟨hL, ?_⟩
  have hz : (s.heap.push { cls := .type "tuple_iterator", data := .fields #[.ref l, .int 0 0] }).objs.size = s.heap.objs.size + 1 := Heap.size_push ..
  show _ ∧ _
  rw [hz]
  have he : IsEnum ((s.heap.push { cls := .type "tuple_iterator", data := .fields #[.ref l, .int 0 0] }).push { cls := .type "enumerate", data := .fields #[.none, .bool false, .ref s.heap.objs.size, rawInt 0, .none, .none] }) (s.heap.objs.size + 1) s.heap.objs.size 0 .none := by
    have := Heap.get?_push_size (s.heap.push { cls := .type "tuple_iterator", data := .fields #[.ref l, .int 0 0] }) (o := { cls := .type "enumerate", data := .fields #[.none, .bool false, .ref s.heap.objs.size, rawInt 0, .none, .none] }) rfl
    rw [hz] at this; exact this
  have hit : (((s.heap.push { cls := .type "tuple_iterator", data := .fields #[.ref l, .int 0 0] }).push { cls := .type "enumerate", data := .fields #[.none, .bool false, .ref s.heap.objs.size, rawInt 0, .none, .none] })).IsTupleIter s.heap.objs.size l 0 :=
    ⟨_, Heap.get?_push_of_some _ (Heap.get?_push_size _ rfl), rfl, rfl⟩
  refine ⟨⟨_, he, rfl⟩, h _ he hit (by rw [Heap.size_push, hz]) fun b o x => Heap.get?_push_of_some _ (Heap.get?_push_of_some _ x)⟩
end PySem
namespace L2
open PySem PySem.Spec PyProof.Rows
/-! ### enumerate(tuple) -/
def IteT (K : PySem.W.Frag) (a : Addr) : It :=
  ⟨fun i H => ∃ (xs : List V) (x : V), SqT K H a xs ∧ xs[i]? = some x, fun i H v H' => ∃ T x, v = .ref T ∧ H T = none ∧ H' = upd H T (.tup [.int (i : Nat), x]) ∧ ∀ xs, SqT K H a xs → xs[i]? = some x, fun i H => ∃ xs : List V, SqT K H a xs ∧ xs.length ≤ i⟩
theorem turn_enumT {P : Program} {w : World} {K : PySem.W.Frag} {elts : List Expr} {kk : Nat} {tpos : Pos} (a e it : Addr) :
    Turn P w K (.Tuple elts kk tpos) (IteT K a) [e, it] e (fun i h => (∃ old, IsEnum h e it ((i : Nat) : Int) old) ∧ h.IsTupleIter it a i ∧ e ≠ it) where
  mem := by simp
  obj := fun i h st b hb => by
    obtain ⟨⟨old, he⟩, ⟨o, ho, hc, hd⟩, _⟩ := st
    have e' : b = e ∨ b = it := by simpa using hb
    rcases e' with z | z
    · rw [z]; exact ⟨_, he, fun v q => nomatch q⟩
    · rw [z]; exact ⟨o, ho, fun v q => by rw [hd] at q; cases q⟩
  keep := fun i h h' st k => let ⟨⟨old, he⟩, hi, hne⟩ := st; ⟨⟨old, k e (by simp) _ he⟩, hi.at fun o q => k it (by simp) o q, hne⟩
  item := by
    intro X hP hw hK hc i pins s σ H E I hf st hg
    subst hP hw hK
    obtain ⟨⟨old, he⟩, hit, hne⟩ := st
    obtain ⟨xs, x, hq, hx⟩ := hg
    obtain ⟨its, rv, p, hz⟩ := I.tuple hq
    obtain ⟨u, hu, ru⟩ := rv.get hx
    have hel : e < s.heap.objs.size := Heap.lt_size he
    have hil : it < s.heap.objs.size := by obtain ⟨_, q, _⟩ := hit; exact Heap.lt_size q
    have p' : s.heap.IsTuple a its.toArray := p
    have hta : a ≠ it := by
      rintro rfl
      obtain ⟨o1, q1, c1, _⟩ := p'
      obtain ⟨o2, q2, c2, _⟩ := hit
      rw [q1] at q2; cases q2; rw [c1] at c2; exact absurd c2 (by decide)
    have hea : e ≠ a := by
      rintro rfl
      obtain ⟨o1, q1, c1, _⟩ := p'
      rw [he] at q1; cases q1; exact absurd (show Value.type "enumerate" = Value.type "tuple" from c1) (by decide)
    have D := Draws.tuple (prog := X.prog) (w := X.w) (A := X.A.in1) (I.ok.hd hc) it a hta its.toArray
    have hlt : i < its.toArray.size := by
      have := (List.getElem?_eq_some_iff.mp hu).1
      simpa using this
    refine wpAny_pyNext_enum_itemD D he ⟨hit, p'⟩ hlt hne (by simp [hne, hea]) fun y h' tk hy ho hst hT hsz hk => ?_
    obtain ⟨hit', _⟩ := hst
    have hyu : y = u := by
      have z : its[i]? = some y := by simpa using hy
      rw [hu] at z; exact (Option.some.inj z).symm
    subst hyu
    refine ⟨_, rfl, wpAny_letOwnedTupleGo_enum (s := { s with heap := h', toks := tk + 1 }) ho fun h'' he' sb => ?_⟩
    have hT2 : h''.get? s.heap.objs.size = some { cls := .type "tuple", data := .seq #[.int i tk, y] } := (sb.2 _ (Nat.ne_of_gt hel)).trans hT
    have new : ObjOk X.prog X.w (upd H s.heap.objs.size (.tup [.int (i : Nat), x])) h'' s.heap.objs.size (.tup [.int (i : Nat), x]) :=
      ⟨by show 2 ≤ sizeLine; decide, [.int i tk, y], .cons ⟨_, rfl⟩ (.cons ru .nil), ⟨_, hT2, rfl, _, rfl⟩⟩
    have I1 : Inv X pins σ (upd H s.heap.objs.size (.tup [.int (i : Nat), x])) { s with heap := h'', toks := tk + 1 } :=
      I.turnedNew (ch := [e, it]) (fun b ob hb q => (sb.2 b (fun z => hb (by simp [z]))).trans (hk b ob (fun z => hb (by simp [z])) (fun z => hb (by simp [z])) q)) hf (Nat.le_refl _) new
    refine ⟨.ref s.heap.objs.size, _, I1, rfl, ⟨_, x, rfl, I.hok.fresh (Nat.le_refl _), rfl, fun ys hy => by rw [I.tuple_inj hy hq]; exact hx⟩, ⟨⟨y, ?_⟩, hit'.at fun o q => (sb.2 it (Ne.symm hne)).trans q, hne⟩, fun b hb => ?_⟩
    · have e1 : ((i + 1 : Nat) : Int) = (i : Int) + 1 := by omega
      rw [e1]; exact he'
    · have hb' : b < s.heap.objs.size := by
        have e' : b = e ∨ b = it := by simpa using hb
        rcases e' with z | z
        · rw [z]; exact hel
        · rw [z]; exact hil
      rw [upd_ne (Nat.ne_of_lt hb')]
      exact (hf b hb).1
  done := by
    intro X hP hw hK hc i pins s σ H E I hf st hg
    subst hP hw hK
    obtain ⟨⟨old, he⟩, hit, hne⟩ := st
    obtain ⟨xs, hq, hx⟩ := hg
    obtain ⟨its, rv, p, hz⟩ := I.tuple hq
    obtain ⟨f0, f1, f2, f3, f4, f5⟩ := hf it (by simp)
    have hl := rv.length
    have p' : s.heap.IsTuple a its.toArray := p
    have hT : s.TypeIs (.ref e) "enumerate" := ⟨_, he, rfl⟩
    unfold pyNext
    refine wpAny_bind (wpAny_attempt (wpAny_callSpecial?_slot (name := Str.ofString "__next__") hT F.slot_enumerate_next
      (wpAny_call_entry F.slot_enumerate_next hT F.entry_enumerate_next ?_ (F.args_enumerate_next_1 _))))
    show wpAny _ _ (field (.ref e) 2 >>= _) _ _ _
    refine wpAny_bind (wpAny_field he rfl (x := .ref it) rfl ?_)
    refine wpAny_bind (wpAny_nextOf_tuple_end (I.ok.hd hc) hit p' (by simp; omega) fun h' x he' hx' => ?_)
    obtain ⟨o, ho, hc⟩ := hx'
    refine wpAny_bind (wpAny_isInstance (T := "StopIteration") (b := true) ⟨o, ho, hc⟩ isSubtype_stop ?_)
    exact wpAny_pure ⟨rfl, I.turned (t' := s.toks) (fun b o hb q => he' b o hb q) f0 f1 f3 f4 f5⟩
  self := fun A i s Q E st h => let ⟨⟨_, he⟩, _⟩ := st; wpAny_pyIter_enum he h
def iEnumT (K : PySem.W.Frag) (ta : TA) : TI := fun σ H R => ta σ H fun vs H1 => ∃ a xs, vs = [.ref a] ∧ SqT K H1 a xs ∧ R (IteT K a) H1
theorem pi_enumT {X : Cx} {e : Expr} {ta : TA} {p pos tpos : Pos} {elts : List Expr} {kk : Nat} (hg : Gl X "enumerate") (hm : X.mg "enumerate" = none) (ha : PA X [e] ta) (hs : starEach [e] X.env = [(false, eval e X.env)] := by rfl) :
    PI X (.Tuple elts kk tpos) (.Call (.Name "enumerate" p) [e] [] pos) (iEnumT X.K ta) := by
  refine ⟨fun pins s σ H R I h => ?_⟩
  refine Call_ (ld_blt I hg hm boot_enumerate (PyProof.Rows.callWith_type1 (thn (ha.run pos pins s σ H _ I h) fun us s1 ⟨vs, H1, I1, r1, q1⟩ => ?_) hs rfl))
  obtain ⟨a, xs, ex, hq, q⟩ := q1
  subst ex
  cases r1 with
  | cons r rr =>
    cases rr
    cases r
    obtain ⟨its, rv, p', hz⟩ := I1.tuple hq
    refine am_call_enumT p' fun h' he hit hsz hk => wpAny_pyIter_enum he ?_
    have I2 : Inv X pins σ H1 { s1 with heap := h' } := I1.kept (t' := s1.toks) hk
    refine ⟨s1.heap.objs.size + 1, [s1.heap.objs.size + 1, s1.heap.objs.size], _, _, H1, rfl, I2, turn_enumT a (s1.heap.objs.size + 1) s1.heap.objs.size, ⟨⟨.none, he⟩, hit, Nat.succ_ne_self _⟩, fun b hb => ?_, q⟩
    have e' : b = s1.heap.objs.size + 1 ∨ b = s1.heap.objs.size := by simpa using hb
    have hle : s1.heap.objs.size ≤ b := by
      rcases e' with z | z
      · rw [z]; exact Nat.le_add_right _ _
      · rw [z]; exact Nat.le_refl _
    exact I1.fpOk hle (I1.hok.fresh hle)
end L2

namespace AM
open PySem PySem.Spec PyProof.Rows L2

/-! ### while -/
def wloop (c : MT) (b : MS) : Nat → MS
  | 0 => sFail
  | n + 1 => fun ρ h => sBind (c ρ h) ρ fun k h1 => if k = true then (match b ρ h1 with
    | .next ρ1 h2 => wloop c b n ρ1 h2
    | .cont ρ1 h2 => wloop c b n ρ1 h2
    | .brk ρ1 h2 => .next ρ1 h2
    | r => r) else .next ρ h1
open Classical in
noncomputable def sWhile (c : MT) (b : MS) : MS := fun ρ h => if e : ∃ n, wloop c b n ρ h ≠ .fail then wloop c b (Classical.choose e) ρ h else .fail
theorem wloop_mono {c : MT} {b : MS} : ∀ (n : Nat) (ρ : Env') (h : MH), wloop c b n ρ h ≠ .fail → wloop c b (n + 1) ρ h = wloop c b n ρ h
  | 0, _, _, e => absurd rfl e
  | n + 1, ρ, h, e => by
    show sBind (c ρ h) ρ _ = sBind (c ρ h) ρ _
    have e' : sBind (c ρ h) ρ (fun k h1 => if k = true then (match b ρ h1 with
      | .next ρ1 h2 => wloop c b n ρ1 h2
      | .cont ρ1 h2 => wloop c b n ρ1 h2
      | .brk ρ1 h2 => .next ρ1 h2
      | r => r) else .next ρ h1) ≠ .fail := e
    cases ec : c ρ h with
    | fail => rfl
    | exc => rfl
    | ok k h1 =>
      rw [ec] at e'
      simp only [sBind] at e' ⊢
      cases k with
      | false => rfl
      | true =>
        simp only [if_true] at e' ⊢
        cases eb : b ρ h1 with
        | next ρ1 h2 => rw [eb] at e'; exact wloop_mono n ρ1 h2 e'
        | cont ρ1 h2 => rw [eb] at e'; exact wloop_mono n ρ1 h2 e'
        | brk ρ1 h2 => rfl
        | ret => rfl
        | exc => rfl
        | fail => rfl
theorem wloop_le {c : MT} {b : MS} {n m : Nat} {ρ : Env'} {h : MH} (e : wloop c b n ρ h ≠ .fail) (l : n ≤ m) : wloop c b m ρ h = wloop c b n ρ h := by
  induction m with
  | zero => have : n = 0 := by omega
            subst this; rfl
  | succ m ih =>
    by_cases hm : n ≤ m
    · have := ih hm
      rw [wloop_mono m ρ h (by rw [this]; exact e), this]
    · have : n = m + 1 := by omega
      subst this; rfl
theorem sWhile_of {c : MT} {b : MS} {n : Nat} {ρ : Env'} {h : MH} (e : wloop c b n ρ h ≠ .fail) : sWhile c b ρ h = wloop c b n ρ h := by
  unfold sWhile
  have ex : ∃ n, wloop c b n ρ h ≠ .fail := ⟨n, e⟩
  rw [dif_pos ex]
  have e2 := Classical.choose_spec ex
  rcases Nat.le_total (Classical.choose ex) n with l | l
  · exact (wloop_le e2 l).symm
  · exact wloop_le e l
theorem sWhile_none {c : MT} {b : MS} {ρ : Env'} {h : MH} (e : ∀ n, wloop c b n ρ h = .fail) : sWhile c b ρ h = .fail := by
  unfold sWhile
  rw [dif_neg (by rintro ⟨n, z⟩; exact z (e n))]
/-- one turn -/
theorem sWhile_eq (c : MT) (b : MS) (ρ : Env') (h : MH) : sWhile c b ρ h = sBind (c ρ h) ρ fun k h1 => if k = true then (match b ρ h1 with
    | .next ρ1 h2 => sWhile c b ρ1 h2
    | .cont ρ1 h2 => sWhile c b ρ1 h2
    | .brk ρ1 h2 => .next ρ1 h2
    | r => r) else .next ρ h1 := by
  have key : ∀ n, wloop c b (n + 1) ρ h = sBind (c ρ h) ρ fun k h1 => if k = true then (match b ρ h1 with
    | .next ρ1 h2 => wloop c b n ρ1 h2
    | .cont ρ1 h2 => wloop c b n ρ1 h2
    | .brk ρ1 h2 => .next ρ1 h2
    | r => r) else .next ρ h1 := fun _ => rfl
  cases ec : c ρ h with
  | fail => exact sWhile_none fun n => by cases n with
    | zero => rfl
    | succ n => rw [key, ec]; rfl
  | exc x fs h1 =>
    have e : wloop c b 1 ρ h = .exc x fs ρ h1 := by rw [key, ec]; rfl
    rw [sWhile_of (n := 1) (by rw [e]; exact fun z => nomatch z), e]; rfl
  | ok k h1 =>
    cases k with
    | false =>
      have e : wloop c b 1 ρ h = .next ρ h1 := by rw [key, ec]; rfl
      rw [sWhile_of (n := 1) (by rw [e]; exact fun z => nomatch z), e]; rfl
    | true =>
      have k2 : ∀ n, wloop c b (n + 1) ρ h = (match b ρ h1 with
        | .next ρ1 h2 => wloop c b n ρ1 h2
        | .cont ρ1 h2 => wloop c b n ρ1 h2
        | .brk ρ1 h2 => .next ρ1 h2
        | r => r) := fun n => by rw [key, ec]; rfl
      show sWhile c b ρ h = (match b ρ h1 with
        | .next ρ1 h2 => sWhile c b ρ1 h2
        | .cont ρ1 h2 => sWhile c b ρ1 h2
        | .brk ρ1 h2 => .next ρ1 h2
        | r => r)
      have again : ∀ ρ1 h2, (∀ n, wloop c b (n + 1) ρ h = wloop c b n ρ1 h2) → sWhile c b ρ h = sWhile c b ρ1 h2 := fun ρ1 h2 hk => by
        by_cases e : ∃ n, wloop c b n ρ1 h2 ≠ .fail
        · obtain ⟨n, e⟩ := e
          rw [sWhile_of e, sWhile_of (n := n + 1) (by rw [hk]; exact e), hk]
        · have e' : ∀ n, wloop c b n ρ1 h2 = .fail := fun n => Classical.byContradiction fun z => e ⟨n, z⟩
          rw [sWhile_none e', sWhile_none fun n => by cases n with
            | zero => rfl
            | succ n => rw [hk]; exact e' n]
      have once : ∀ r : RS, (∀ n, wloop c b (n + 1) ρ h = r) → sWhile c b ρ h = r := fun r hk => by
        by_cases e : r = .fail
        · rw [e]
          exact sWhile_none fun n => by cases n with
            | zero => rfl
            | succ n => rw [hk, e]
        · rw [sWhile_of (n := 1) (by rw [hk]; exact e), hk]
      cases eb : b ρ h1 with
      | next ρ1 h2 => exact again ρ1 h2 fun n => by rw [k2, eb]
      | cont ρ1 h2 => exact again ρ1 h2 fun n => by rw [k2, eb]
      | brk ρ1 h2 => exact once _ fun n => by rw [k2, eb]
      | ret d h2 => exact once _ fun n => by rw [k2, eb]
      | exc x fs ρ1 h2 => exact once _ fun n => by rw [k2, eb]
      | fail => exact once _ fun n => by rw [k2, eb]
section
variable {X : Cx} {W : WX} {a b c e : Expr} {es : List Expr} {sts : List Stmt} {ma mb mc : MX} {ta tb tc : MT} {m1 m2 : MS} {pos p : Pos}
theorem sm_wloop (n : Nat) (hp : PassesOwn (model X.prog X.w) X.A X.env X.xe) (hc : TM X W c tc) (hb : SMs X W sts m1) : SM X W (.While c sts [] pos) (wloop tc m1 n) :=
  PS.wk (ps_while hp hc hb) fun D σ H ⟨ρ, h, ι, hr, sr, q⟩ => by
    refine ⟨fun m σ' H' => ∃ ρ h ι, HRel X.K H' ι h ∧ SRel X.K H' ι h.length ρ σ' ∧ PostS X.K X.mg W H' ι h D (wloop tc m1 m ρ h), ⟨n, ρ, h, ι, hr, sr, q⟩, fun m σ H w => ?_⟩
    cases m with
    | zero => obtain ⟨ρ, h, ι, hr, sr, q⟩ := w; exact q.elim
    | succ m =>
      refine tS_b (f := fun ρ k h1 => if k = true then (match m1 ρ h1 with
        | .next ρ1 h2 => wloop tc m1 m ρ1 h2
        | .cont ρ1 h2 => wloop tc m1 m ρ1 h2
        | .brk ρ1 h2 => .next ρ1 h2
        | r => r) else .next ρ h1) w fun {ρ x h1 H1 ι1} hr sr p => ?_
      cases x with
      | false => rw [if_neg Bool.false_ne_true] at p ⊢; exact p _ _ _ Ext.refl hr sr
      | true =>
        rw [if_pos rfl] at p ⊢
        refine ⟨fun σ' H' => ∃ ρ h ι, HRel X.K H' ι h ∧ SRel X.K H' ι h.length ρ σ' ∧ PostS X.K X.mg W H' ι h D (wloop tc m1 m ρ h), fun σ' H' z => ⟨m, Nat.lt_succ_self _, z⟩, ρ, h1, ι1, hr, sr, ?_⟩
        cases eb : m1 ρ h1 with
        | next ρ1 h2 => rw [eb] at p; exact fun σ' H' ι' x r s => ⟨ρ1, h2, ι', r, s, PostS.rebase x r p⟩
        | cont ρ1 h2 => rw [eb] at p; exact fun σ' H' ι' x r s => ⟨ρ1, h2, ι', r, s, PostS.rebase x r p⟩
        | brk ρ1 h2 => rw [eb] at p; exact p
        | ret d h2 => rw [eb] at p; exact p
        | exc x fs ρ1 h2 => rw [eb] at p; exact p
        | fail => rw [eb] at p; exact p
theorem sm_while (hp : PassesOwn (model X.prog X.w) X.A X.env X.xe) (hc : TM X W c tc) (hb : SMs X W sts m1) : SM X W (.While c sts [] pos) (sWhile tc m1) := ⟨fun pins s σ H D I q => by
  obtain ⟨ρ, h, ι, hr, sr, q⟩ := q
  by_cases e : ∃ n, wloop tc m1 n ρ h ≠ .fail
  · obtain ⟨n, e⟩ := e
    exact (sm_wloop (pos := pos) n hp hc hb).run pins s σ H D I ⟨ρ, h, ι, hr, sr, by rw [← sWhile_of e]; exact q⟩
  · rw [sWhile_none fun n => Classical.byContradiction fun z => e ⟨n, z⟩] at q
    exact q.elim⟩
end

/-! ### what is walked -/
structure Its where
  ds : List D
  on : List (Nat × List D)
def live (its : Its) (h : MH) : Prop := ∀ p ∈ its.on, h[p.1]? = some (.lst p.2)
/-- the iterator J, standing at its start in (H, ι, h), yields the items -/
def ItOk (K : PySem.W.Frag) (H : Hp) (ι : Nat → Addr) (h : MH) (its : Its) (J : It) : Prop := ∀ (i : Nat) (H1 : Hp) (ι1 : Nat → Addr) (h1 : MH), Ext H ι h H1 ι1 h1 → HRel K H1 ι1 h1 → live its h1 →
  (i < its.ds.length → J.go i H1 ∧ ∀ x H2, J.yld i H1 x H2 → Grow H1 H2 ∧ ∃ d, its.ds[i]? = some d ∧ Rep K H2 ι1 h1.length d x) ∧ (its.ds.length ≤ i → J.stop i H1)
def rI (K : PySem.W.Frag) : RelT Its It := fun _ H ι h its J => ItOk K H ι h its J
theorem back_I {K : PySem.W.Frag} : Back (rI K) := fun _ _ _ _ _ _ _ _ q => q
abbrev MI := Env' → MH → Res Its
def IM (X : Cx) (W : WX) (tg iter : Expr) (m : MI) : Prop := PI X tg iter (tM X.K X.mg W (rI X.K) m)
section
variable {X : Cx} {W : WX} {a b c e tg iter : Expr} {es : List Expr} {sts : List Stmt} {ma mb mc : MX} {ta tb tc : MT} {m1 m2 : MS} {pos p : Pos}
theorem PI.wk {wi wi' : TI} (q : PI X tg iter wi) (i : ∀ σ H R, wi' σ H R → wi σ H R) : PI X tg iter wi' := ⟨fun pins s σ H R I w => q.run pins s σ H R I (i σ H R w)⟩
theorem PI.or {wi wi' : TI} (q : PI X tg iter wi) (q' : PI X tg iter wi') : PI X tg iter (fun σ H R => wi σ H R ∨ wi' σ H R) := ⟨fun pins s σ H R I w => w.elim (q.run pins s σ H R I) (q'.run pins s σ H R I)⟩
/-- a list, a tuple -/
def itsOf (x : SD) (h : MH) : Option Its := match x with
  | .val (.tup ds) => some ⟨ds, []⟩
  | .tmp ds => some ⟨ds, []⟩
  | .val (.ref r) => match h[r]? with
    | some (.lst ds) => some ⟨ds, [(r, ds)]⟩
    | _ => none
  | _ => none
def iSeq (m : MX) : MI := fun ρ h => (m ρ h).bind fun x h1 => match itsOf x h1 with
  | some its => .ok its h1
  | none => .fail
theorem ItOk.list {K : PySem.W.Frag} {H : Hp} {ι : Nat → Addr} {h : MH} {its : Its} {a : Addr} (hs : ∀ (H1 : Hp) (ι1 : Nat → Addr) (h1 : MH), Ext H ι h H1 ι1 h1 → HRel K H1 ι1 h1 → live its h1 → ∃ xs, SqL K H1 a xs ∧ RepL K H1 ι1 h1.length its.ds xs) : ItOk K H ι h its (Itl K a) := fun i H1 ι1 h1 x r lv => by
  obtain ⟨xs, s, l⟩ := hs H1 ι1 h1 x r lv
  refine ⟨fun hi => ?_, fun hi => ⟨xs, s, by rw [← l.len]; exact hi⟩⟩
  have ed : its.ds[i]? = some its.ds[i] := List.getElem?_eq_getElem hi
  obtain ⟨v, ev, rv⟩ := l.get ed
  refine ⟨⟨xs, v, s, ev⟩, fun w H2 ⟨e2, y⟩ => ?_⟩
  subst e2
  have := y xs s
  rw [ev] at this; cases this
  exact ⟨Grow.refl, _, ed, rv⟩
theorem ItOk.tuple {K : PySem.W.Frag} {H : Hp} {ι : Nat → Addr} {h : MH} {its : Its} {a : Addr} {xs : List V} (hr : HRel K H ι h) (s : SqT K H a xs) (l : RepL K H ι h.length its.ds xs) : ItOk K H ι h its (Itt K a) := fun i H1 ι1 h1 x r lv => by
  have s := x.tup hr s
  have l := l.ext x hr
  refine ⟨fun hi => ?_, fun hi => ⟨xs, s, by rw [← l.len]; exact hi⟩⟩
  have ed : its.ds[i]? = some its.ds[i] := List.getElem?_eq_getElem hi
  obtain ⟨v, ev, rv⟩ := l.get ed
  refine ⟨⟨xs, v, s, ev⟩, fun w H2 ⟨e2, y⟩ => ?_⟩
  subst e2
  have := y xs s
  rw [ev] at this; cases this
  exact ⟨Grow.refl, _, ed, rv⟩
/-- a list as it stands at each turn -/
theorem lst_live {K : PySem.W.Frag} {H : Hp} {ι : Nat → Addr} {h : MH} {x : SD} {v : V} {its : Its} (hr : HRel K H ι h) (s : SRep K H ι h x v) (e : itsOf x h = some its) (nt : ∀ ds, x ≠ .val (.tup ds)) :
    ∃ a, v = .ref a ∧ (∃ xs, SqL K H a xs) ∧ ∀ (H1 : Hp) (ι1 : Nat → Addr) (h1 : MH), Ext H ι h H1 ι1 h1 → HRel K H1 ι1 h1 → live its h1 → ∃ xs, SqL K H1 a xs ∧ RepL K H1 ι1 h1.length its.ds xs := by
  unfold itsOf at e
  split at e
  · rename_i ds; exact absurd rfl (nt ds)
  · cases e
    obtain ⟨a, xs, rfl, ea, ap, l⟩ := s
    exact ⟨a, rfl, ⟨xs, SqL.of ea⟩, fun H1 ι1 h1 x r _ => ⟨xs, SqL.of (x.frame a _ ea ap), l.ext x hr⟩⟩
  · rename_i r
    split at e
    · rename_i ds er
      cases e
      simp only [SRep, Rep] at s
      obtain ⟨hlt, rfl⟩ := s
      obtain ⟨xs0, e0, _⟩ := hr.obj r _ er
      refine ⟨_, rfl, ⟨xs0, SqL.of e0⟩, fun H1 ι1 h1 x r1 lv => ?_⟩
      have e1 : h1[r]? = some (.lst ds) := lv (r, ds) (by simp)
      obtain ⟨xs, ea, l⟩ := r1.obj r _ e1
      rw [x.agree r hlt] at ea
      exact ⟨xs, SqL.of ea, l⟩
    · cases e
  · cases e
theorem im_seq (ha : XM X W e ma) : IM X W tg e (iSeq ma) := PI.wk (PI.or (pi_tup ha) (pi_list ha)) fun σ H R ⟨ρ, h, ι, hr, sr, q⟩ => by
  cases em : ma ρ h with
  | fail => unfold iSeq at q; rw [em] at q; exact q.elim
  | exc c fs h1 =>
    left
    refine ⟨ρ, h, ι, hr, sr, ?_⟩
    unfold iSeq at q
    rw [em] at q ⊢
    exact q
  | ok x h1 =>
    unfold iSeq at q
    rw [em] at q
    simp only [Res.bind_ok] at q
    cases ei : itsOf x h1 with
    | none => rw [ei] at q; exact q.elim
    | some its =>
      rw [ei] at q
      by_cases nt : ∃ ds, x = .val (.tup ds)
      · obtain ⟨ds, rfl⟩ := nt
        left
        refine ⟨ρ, h, ι, hr, sr, ?_⟩
        rw [em]
        refine fun v H1 ι1 x1 hr1 rv => ?_
        obtain ⟨rv, _⟩ := rv
        simp only [SRep, Rep] at rv
        obtain ⟨a, xs, rfl, s, l⟩ := rv
        cases ei
        exact ⟨a, rfl, ⟨xs, s⟩, q _ H1 ι1 x1 hr1 (ItOk.tuple hr1 s l)⟩
      · right
        refine ⟨ρ, h, ι, hr, sr, ?_⟩
        rw [em]
        refine fun v H1 ι1 x1 hr1 rv => ?_
        obtain ⟨a, rfl, ⟨xs, s⟩, lv⟩ := lst_live hr1 rv.1 ei fun ds z => nt ⟨ds, z⟩
        exact ⟨a, rfl, ⟨xs, s⟩, q _ H1 ι1 x1 hr1 (ItOk.list lv)⟩
/-- ranges -/
def rgD (lo c : Int) (n : Nat) : List D := (List.range n).map fun k => .int (lo + (k : Nat) * c)
def iRange1 (m : MX) : MI := fun ρ h => (m ρ h).bind fun x h1 => match x with
  | .val (.int n) => if n.natAbs < 2 ^ 62 then .ok ⟨rgD 0 1 n.toNat, []⟩ h1 else .fail
  | _ => .fail
def iRange2 (a b : MX) : MI := fun ρ h => (a ρ h).bind fun x h1 => (b ρ h1).bind fun y h2 => match x, y with
  | .val (.int i), .val (.int j) => if i.natAbs < 2 ^ 62 ∧ j.natAbs < 2 ^ 62 then .ok ⟨rgD i 1 (j - i).toNat, []⟩ h2 else .fail
  | _, _ => .fail
theorem ItOk.rangeC {K : PySem.W.Frag} {H : Hp} {ι : Nat → Addr} {h : MH} {lo c : Int} {n : Nat} : ItOk K H ι h ⟨rgD lo c n, []⟩ (Itc lo c n) := fun i H1 ι1 h1 x r lv => by
  have hl : (rgD lo c n).length = n := by simp [rgD]
  refine ⟨fun hi => ?_, fun hi => by rw [hl] at hi; exact hi⟩
  rw [hl] at hi
  refine ⟨hi, fun w H2 ⟨e2, y⟩ => ?_⟩
  subst e2 y
  refine ⟨Grow.refl, .int (lo + (i : Nat) * c), by simp [rgD, hi], by simp only [Rep]⟩
theorem ItOk.range {K : PySem.W.Frag} {H : Hp} {ι : Nat → Addr} {h : MH} {lo : Int} {n : Nat} : ItOk K H ι h ⟨rgD lo 1 n, []⟩ (Itr lo n) := fun i H1 ι1 h1 x r lv => by
  have hl : (rgD lo 1 n).length = n := by simp [rgD]
  refine ⟨fun hi => ?_, fun hi => by rw [hl] at hi; exact hi⟩
  rw [hl] at hi
  refine ⟨hi, fun w H2 ⟨e2, y⟩ => ?_⟩
  subst e2 y
  refine ⟨Grow.refl, .int (lo + (i : Nat) * 1), by simp [rgD, hi], by simp only [Rep, Int.mul_one]⟩
theorem im_range1 (hm : X.mg "range" = none) (ha : XM X W a ma) (hg : Gl X "range" := by rfl) (hs : starEach [a] X.env = [(false, eval a X.env)] := by rfl) : IM X W tg (.Call (.Name "range" p) [a] [] pos) (iRange1 ma) :=
  PI.wk (pi_range1 hg hm (pa_cons ha pa_nil hs) hs) fun σ H R q => tM_one back_I q fun {ρ h ι x h2 H2 ι2 v} _ x1 hr2 _ sx _ _ q2 => by
    split at q2
    · rename_i n _ _
      split at q2
      · rename_i c
        simp only [SRep, Rep] at sx
        subst sx
        exact ⟨n, rfl, by omega, by omega, q2 _ H2 ι2 Ext.refl hr2 ItOk.range⟩
      · exact q2.elim
    · exact q2.elim
theorem im_range2 (hm : X.mg "range" = none) (ha : XM X W a ma) (hb : XM X W b mb) (hg : Gl X "range" := by rfl) (hs : starEach [a, b] X.env = [(false, eval a X.env), (false, eval b X.env)] := by rfl) (hs2 : starEach [b] X.env = [(false, eval b X.env)] := by rfl) : IM X W tg (.Call (.Name "range" p) [a, b] [] pos) (iRange2 ma mb) :=
  PI.wk (pi_range2 hg hm (pa_cons ha (pa_cons hb pa_nil hs2) (by rw [hs, hs2])) hs hs2) fun σ H R q => tM_two (f := fun x y h2 => match x, y with
  | .val (.int i), .val (.int j) => if i.natAbs < 2 ^ 62 ∧ j.natAbs < 2 ^ 62 then .ok ⟨rgD i 1 (j - i).toNat, []⟩ h2 else .fail
  | _, _ => .fail) back_I q fun {ρ h ι x y h2 H2 ι2 v u} _ x1 hr2 _ sx sy _ _ q2 => by
    split at q2
    · rename_i i j
      split at q2
      · rename_i c
        simp only [SRep, Rep] at sx sy
        subst sx sy
        exact ⟨_, _, rfl, by omega, q2 _ H2 ι2 Ext.refl hr2 ItOk.range⟩
      · exact q2.elim
    · exact q2.elim
def tM_three : Unit := ()
/-- enumerate -/
def enD (i : Nat) : List D → List D
  | [] => []
  | d :: ds => .tup [.int (i : Nat), d] :: enD (i + 1) ds
theorem enD_len : ∀ (ds : List D) (i : Nat), (enD i ds).length = ds.length
  | [], _ => rfl
  | d :: ds, i => by simp [enD, enD_len ds (i + 1)]
theorem enD_get : ∀ (ds : List D) (i j : Nat) (d : D), ds[j]? = some d → (enD i ds)[j]? = some (.tup [.int ((i + j : Nat) : Int), d])
  | [], _, _, _, e => by simp at e
  | d :: ds, i, 0, d', e => by simp at e; subst e; rfl
  | d :: ds, i, j + 1, d', e => by
    have := enD_get ds (i + 1) j d' (by simpa using e)
    have e2 : i + 1 + j = i + (j + 1) := by omega
    rw [e2] at this
    simpa [enD] using this
def iEnumM (m : MX) : MI := fun ρ h => (m ρ h).bind fun x h1 => match itsOf x h1 with
  | some its => .ok ⟨enD 0 its.ds, its.on⟩ h1
  | none => .fail
theorem rep_pair {K : PySem.W.Frag} {H : Hp} {ι : Nat → Addr} {n : Nat} {d e : D} {x y : V} {T : Addr} (hT : H T = none) (r1 : Rep K H ι n d x) (r2 : Rep K H ι n e y) : Grow H (upd H T (.tup [x, y])) ∧ Rep K (upd H T (.tup [x, y])) ι n (.tup [d, e]) (.ref T) := by
  have g := Grow.upd (o := .tup [x, y]) hT
  refine ⟨g, ?_⟩
  simp only [Rep, RepL]
  exact ⟨T, [x, y], rfl, SqT.of upd_same, x, [y], rfl, g.rep r1, y, [], rfl, g.rep r2, rfl⟩
theorem ItOk.enumL {K : PySem.W.Frag} {H : Hp} {ι : Nat → Addr} {h : MH} {its : Its} {a : Addr} (hs : ∀ (H1 : Hp) (ι1 : Nat → Addr) (h1 : MH), Ext H ι h H1 ι1 h1 → HRel K H1 ι1 h1 → live its h1 → ∃ xs, SqL K H1 a xs ∧ RepL K H1 ι1 h1.length its.ds xs) : ItOk K H ι h ⟨enD 0 its.ds, its.on⟩ (Ite K a) := fun i H1 ι1 h1 x r lv => by
  obtain ⟨xs, s, l⟩ := hs H1 ι1 h1 x r lv
  refine ⟨fun hi => ?_, fun hi => ⟨xs, s, by rw [enD_len] at hi; rw [← l.len]; exact hi⟩⟩
  have hi : i < its.ds.length := by rw [enD_len] at hi; exact hi
  have ed : its.ds[i]? = some its.ds[i] := List.getElem?_eq_getElem hi
  obtain ⟨v, ev, rv⟩ := l.get ed
  refine ⟨⟨xs, v, s, ev⟩, fun w H2 ⟨T, y, ew, hT, e2, hy⟩ => ?_⟩
  have := hy xs s
  rw [ev] at this; cases this
  subst e2 ew
  have z := rep_pair (d := .int (i : Nat)) (x := .int (i : Nat)) hT (by simp only [Rep]) rv
  have e0 := enD_get its.ds 0 i _ ed
  rw [Nat.zero_add] at e0
  exact ⟨z.1, _, e0, z.2⟩
theorem ItOk.enumT {K : PySem.W.Frag} {H : Hp} {ι : Nat → Addr} {h : MH} {ds : List D} {a : Addr} {xs : List V} (hr : HRel K H ι h) (s : SqT K H a xs) (l : RepL K H ι h.length ds xs) : ItOk K H ι h ⟨enD 0 ds, []⟩ (IteT K a) := fun i H1 ι1 h1 x r lv => by
  have s := x.tup hr s
  have l := l.ext x hr
  refine ⟨fun hi => ?_, fun hi => ⟨xs, s, by rw [enD_len] at hi; rw [← l.len]; exact hi⟩⟩
  have hi : i < ds.length := by rw [enD_len] at hi; exact hi
  have ed : ds[i]? = some ds[i] := List.getElem?_eq_getElem hi
  obtain ⟨v, ev, rv⟩ := l.get ed
  refine ⟨⟨xs, v, s, ev⟩, fun w H2 ⟨T, y, ew, hT, e2, hy⟩ => ?_⟩
  have := hy xs s
  rw [ev] at this; cases this
  subst e2 ew
  have z := rep_pair (d := .int (i : Nat)) (x := .int (i : Nat)) hT (by simp only [Rep]) rv
  have e0 := enD_get ds 0 i _ ed
  rw [Nat.zero_add] at e0
  exact ⟨z.1, _, e0, z.2⟩
theorem im_enum {elts : List Expr} {kk : Nat} {tpos : Pos} (hm : X.mg "enumerate" = none) (ha : XM X W a ma) (hg : Gl X "enumerate" := by rfl) (hs : starEach [a] X.env = [(false, eval a X.env)] := by rfl) : IM X W (.Tuple elts kk tpos) (.Call (.Name "enumerate" p) [a] [] pos) (iEnumM ma) :=
  PI.wk (PI.or (pi_enumT hg hm (pa_cons ha pa_nil hs) hs) (pi_enum hg hm (pa_cons ha pa_nil hs) hs)) fun σ H R ⟨ρ, h, ι, hr, sr, q⟩ => by
  cases em : ma ρ h with
  | fail => unfold iEnumM at q; rw [em] at q; exact q.elim
  | exc c fs h1 =>
    left
    refine ⟨ρ, h, ι, hr, sr, ?_⟩
    unfold iEnumM at q
    rw [em] at q ⊢
    exact q
  | ok x h1 =>
    unfold iEnumM at q
    rw [em] at q
    simp only [Res.bind_ok] at q
    cases ei : itsOf x h1 with
    | none => rw [ei] at q; exact q.elim
    | some its =>
      rw [ei] at q
      by_cases nt : ∃ ds, x = .val (.tup ds)
      · obtain ⟨ds, rfl⟩ := nt
        left
        refine ⟨ρ, h, ι, hr, sr, ?_⟩
        rw [em]
        refine fun v H1 ι1 x1 hr1 rv => ?_
        obtain ⟨rv, _⟩ := rv
        simp only [SRep, Rep] at rv
        obtain ⟨a, xs, rfl, s, l⟩ := rv
        cases ei
        exact ⟨a, xs, rfl, s, q _ H1 ι1 x1 hr1 (ItOk.enumT hr1 s l)⟩
      · right
        refine ⟨ρ, h, ι, hr, sr, ?_⟩
        rw [em]
        refine fun v H1 ι1 x1 hr1 rv => ?_
        obtain ⟨a, rfl, ⟨xs, s⟩, lv⟩ := lst_live hr1 rv.1 ei fun ds z => nt ⟨ds, z⟩
        exact ⟨a, xs, rfl, s, q _ H1 ι1 x1 hr1 (ItOk.enumL lv)⟩
end
end AM

namespace AM
open PySem PySem.Spec PyProof.Rows L2

section
variable {X : Cx} {W : WX} {a b c e tg iter : Expr} {es : List Expr} {sts : List Stmt} {ma mb mc : MX} {ta tb tc : MT} {m1 m2 : MS} {pos p : Pos}
/-! ### range(a, b, c) -/
def rgOk (i j c : Int) : Bool := decide (c ≠ 0) && decide (c.natAbs < 1073741824) && Builtin.Range.small i j c && decide (0 ≤ Builtin.Range.rangeSize i j c)
def iRange3 (a b c : MX) : MI := fun ρ h => (a ρ h).bind fun x h1 => (b ρ h1).bind fun y h2 => (c ρ h2).bind fun z h3 => match x, y, z with
  | .val (.int i), .val (.int j), .val (.int k) => if rgOk i j k then .ok ⟨rgD i k (Builtin.Range.rangeSize i j k).toNat, []⟩ h3 else .fail
  | _, _, _ => .fail
theorem im_range3 (hm : X.mg "range" = none) (ha : XM X W a ma) (hb : XM X W b mb) (hc : XM X W c mc) (hg : Gl X "range" := by rfl) (hs : starEach [a, b, c] X.env = (false, eval a X.env) :: starEach [b, c] X.env := by rfl) (hs1 : starEach [b, c] X.env = (false, eval b X.env) :: starEach [c] X.env := by rfl)
    (hs2 : starEach [c] X.env = (false, eval c X.env) :: starEach [] X.env := by rfl) (hpl : (backTo pos (starEach [b, c] X.env)).any (·.1) = false := by rfl) : IM X W tg (.Call (.Name "range" p) [a, b, c] [] pos) (iRange3 ma mb mc) :=
  PI.wk (pi_range3 hg hm (pa_cons ha (pa_cons hb (pa_cons hc pa_nil hs2) hs1) hs) hs hpl) fun σ H R q => by
    obtain ⟨ρ, h, ι, hr, sr, q⟩ := q
    refine ⟨ρ, h, ι, hr, sr, (Post.bind (rel := rS X.K) back_I q).imp fun v H1 ⟨x, h1, ι1, e1, x1, hr1, rv, q1⟩ => ?_⟩
    refine ⟨ρ, h1, ι1, hr1, sr.ext x1 hr, ((Post.bind (rel := rS X.K) back_I (Post.rebase back_I x1 hr1 q1))).imp fun u H2 ⟨y, h2, ι2, e2, x2, hr2, ru, q2⟩ => ?_⟩
    refine ⟨ρ, h2, ι2, hr2, (sr.ext x1 hr).ext x2 hr1, ((Post.bind (rel := rS X.K) back_I (Post.rebase back_I x2 hr2 q2))).imp fun w H3 ⟨z, h3, ι3, e3, x3, hr3, rw3, q3⟩ => ?_⟩
    have q3 := Post.rebase back_I x3 hr3 q3
    have sv := (rv.1.ext x2 hr1).ext x3 hr2
    have su := ru.1.ext x3 hr2
    have sw := rw3.1
    cases x with
    | tmp ds => exact q3.elim
    | val x =>
      cases x with
      | int i =>
        cases y with
        | tmp ds => exact q3.elim
        | val y =>
          cases y with
          | int j =>
            cases z with
            | tmp ds => exact q3.elim
            | val z =>
              cases z with
              | int k =>
                simp only [SRep, Rep] at sv su sw
                subst sv su sw
                simp only at q3
                split at q3
                · rename_i c
                  have c1 := Bool.and_eq_true_iff.mp c
                  have c2 := Bool.and_eq_true_iff.mp c1.1
                  have c3 := Bool.and_eq_true_iff.mp c2.1
                  refine ⟨i, j, k, (Builtin.Range.rangeSize i j k).toNat, rfl, ⟨of_decide_eq_true c3.1, of_decide_eq_true c3.2, c2.2, ?_⟩, q3 _ H3 ι3 Ext.refl hr3 ItOk.rangeC⟩
                  have := of_decide_eq_true c1.2
                  omega
                · exact q3.elim
              | _ => exact q3.elim
          | _ => exact q3.elim
      | _ => exact q3.elim
/-! ### zip -/
def zipD : List D → List D → List D
  | d :: ds, e :: es => .tup [d, e] :: zipD ds es
  | _, _ => []
theorem zipD_len : ∀ (ds es : List D), (zipD ds es).length = min ds.length es.length
  | [], _ => by simp [zipD]
  | _ :: _, [] => by simp [zipD]
  | d :: ds, e :: es => by
    simp only [zipD, List.length_cons, zipD_len ds es]
    omega
theorem zipD_get : ∀ (ds es : List D) (i : Nat) (d e : D), ds[i]? = some d → es[i]? = some e → (zipD ds es)[i]? = some (.tup [d, e])
  | [], _, _, _, _, q, _ => by simp at q
  | _ :: _, [], _, _, _, _, q => by simp at q
  | d :: ds, e :: es, 0, d', e', q, q' => by simp at q q'; subst q q'; rfl
  | d :: ds, e :: es, i + 1, d', e', q, q' => zipD_get ds es i d' e' (by simpa using q) (by simpa using q')
def isTupS : SD → Bool
  | .val (.tup _) => true
  | _ => false
def iZipM (a b : MX) : MI := fun ρ h => (a ρ h).bind fun x h1 => (b ρ h1).bind fun y h2 => match itsOf x h2, itsOf y h2 with
  | some i1, some i2 => if isTupS x = isTupS y then .ok ⟨zipD i1.ds i2.ds, i1.on ++ i2.on⟩ h2 else .fail
  | _, _ => .fail
theorem ItOk.zipL {K : PySem.W.Frag} {H : Hp} {ι : Nat → Addr} {h : MH} {i1 i2 : Its} {a b : Addr} (hs : ∀ (H1 : Hp) (ι1 : Nat → Addr) (h1 : MH), Ext H ι h H1 ι1 h1 → HRel K H1 ι1 h1 → live i1 h1 → ∃ xs, SqL K H1 a xs ∧ RepL K H1 ι1 h1.length i1.ds xs)
    (hs2 : ∀ (H1 : Hp) (ι1 : Nat → Addr) (h1 : MH), Ext H ι h H1 ι1 h1 → HRel K H1 ι1 h1 → live i2 h1 → ∃ xs, SqL K H1 b xs ∧ RepL K H1 ι1 h1.length i2.ds xs) : ItOk K H ι h ⟨zipD i1.ds i2.ds, i1.on ++ i2.on⟩ (Itz K a b) := fun i H1 ι1 h1 x r lv => by
  obtain ⟨xs, s, l⟩ := hs H1 ι1 h1 x r fun p hp => lv p (List.mem_append_left _ hp)
  obtain ⟨ys, s2, l2⟩ := hs2 H1 ι1 h1 x r fun p hp => lv p (List.mem_append_right _ hp)
  refine ⟨fun hi => ?_, fun hi => ⟨xs, ys, s, s2, by simp only [zipD_len] at hi; rw [← l.len, ← l2.len]; omega⟩⟩
  simp only [zipD_len] at hi
  have ed : i1.ds[i]? = some (i1.ds[i]'(by omega)) := List.getElem?_eq_getElem (by omega)
  have ed2 : i2.ds[i]? = some (i2.ds[i]'(by omega)) := List.getElem?_eq_getElem (by omega)
  obtain ⟨v, ev, rv⟩ := l.get ed
  obtain ⟨v2, ev2, rv2⟩ := l2.get ed2
  refine ⟨⟨xs, ys, v, v2, s, s2, ev, ev2⟩, fun w H2 ⟨T, y, y2, ew, hT, e2, hy, hy2⟩ => ?_⟩
  have h1 := hy xs s
  rw [ev] at h1; cases h1
  have h2 := hy2 ys s2
  rw [ev2] at h2; cases h2
  subst e2 ew
  have z := rep_pair hT rv rv2
  exact ⟨z.1, _, zipD_get _ _ i _ _ ed ed2, z.2⟩
theorem ItOk.zipT {K : PySem.W.Frag} {H : Hp} {ι : Nat → Addr} {h : MH} {ds es : List D} {a b : Addr} {xs ys : List V} (hr : HRel K H ι h) (s : SqT K H a xs) (l : RepL K H ι h.length ds xs) (s2 : SqT K H b ys) (l2 : RepL K H ι h.length es ys) : ItOk K H ι h ⟨zipD ds es, []⟩ (RZ.ItzT K a b) := fun i H1 ι1 h1 x r lv => by
  have s := x.tup hr s
  have l := l.ext x hr
  have s2 := x.tup hr s2
  have l2 := l2.ext x hr
  refine ⟨fun hi => ?_, fun hi => ⟨xs, ys, s, s2, by simp only [zipD_len] at hi; rw [← l.len, ← l2.len]; omega⟩⟩
  simp only [zipD_len] at hi
  have ed : ds[i]? = some (ds[i]'(by omega)) := List.getElem?_eq_getElem (by omega)
  have ed2 : es[i]? = some (es[i]'(by omega)) := List.getElem?_eq_getElem (by omega)
  obtain ⟨v, ev, rv⟩ := l.get ed
  obtain ⟨v2, ev2, rv2⟩ := l2.get ed2
  refine ⟨⟨xs, ys, v, v2, s, s2, ev, ev2⟩, fun w H2 ⟨T, y, y2, ew, hT, e2, hy, hy2⟩ => ?_⟩
  have h1 := hy xs s
  rw [ev] at h1; cases h1
  have h2 := hy2 ys s2
  rw [ev2] at h2; cases h2
  subst e2 ew
  have z := rep_pair hT rv rv2
  exact ⟨z.1, _, zipD_get _ _ i _ _ ed ed2, z.2⟩
theorem SRep.seqI {K : PySem.W.Frag} {H : Hp} {ι : Nat → Addr} {h : MH} {x : SD} {v : V} {its : Its} (hr : HRel K H ι h) (s : SRep K H ι h x v) (e : itsOf x h = some its) : (isTupS x = true ∧ its.on = [] ∧ ∃ a xs, v = .ref a ∧ SqT K H a xs ∧ RepL K H ι h.length its.ds xs) ∨
    (isTupS x = false ∧ ∃ a, v = .ref a ∧ (∃ xs, SqL K H a xs) ∧ ∀ (H1 : Hp) (ι1 : Nat → Addr) (h1 : MH), Ext H ι h H1 ι1 h1 → HRel K H1 ι1 h1 → live its h1 → ∃ xs, SqL K H1 a xs ∧ RepL K H1 ι1 h1.length its.ds xs) := by
  by_cases nt : ∃ ds, x = .val (.tup ds)
  · obtain ⟨ds, rfl⟩ := nt
    cases e
    simp only [SRep, Rep] at s
    exact .inl ⟨rfl, rfl, s⟩
  · refine .inr ⟨?_, lst_live hr s e fun ds z => nt ⟨ds, z⟩⟩
    unfold isTupS
    split
    · rename_i ds; exact absurd ⟨ds, rfl⟩ nt
    · rfl
theorem im_zip {elts : List Expr} {kk : Nat} {tpos : Pos} (hm : X.mg "zip" = none) (ha : XM X W a ma) (hb : XM X W b mb) (hg : Gl X "zip" := by rfl) (hs : starEach [a, b] X.env = (false, eval a X.env) :: starEach [b] X.env := by rfl) (hs2 : starEach [b] X.env = (false, eval b X.env) :: starEach [] X.env := by rfl)
    (hpl : (backTo pos (starEach [b] X.env)).any (·.1) = false := by rfl) : IM X W (.Tuple elts kk tpos) (.Call (.Name "zip" p) [a, b] [] pos) (iZipM ma mb) :=
  PI.wk (RZ.pi_zipA hg hm (pa_cons ha (pa_cons hb pa_nil hs2) hs) hs hpl) fun σ H R q => tM_two (f := fun x y h2 => match itsOf x h2, itsOf y h2 with
  | some i1, some i2 => if isTupS x = isTupS y then .ok ⟨zipD i1.ds i2.ds, i1.on ++ i2.on⟩ h2 else .fail
  | _, _ => .fail) back_I q fun {ρ h ι x y h2 H2 ι2 v u} _ x1 hr2 _ sx sy _ _ q2 => by
    split at q2
    · rename_i i1 i2 e1 e2
      split at q2
      · rename_i c
        rcases sx.seqI hr2 e1 with ⟨t1, o1, a, xs, rfl, s1, l1⟩ | ⟨t1, a, rfl, ⟨xs, s1⟩, l1⟩
        · rcases sy.seqI hr2 e2 with ⟨t2, o2, b, ys, rfl, s2, l2⟩ | ⟨t2, _⟩
          · rw [o1, o2] at q2
            exact ⟨a, b, xs, ys, rfl, .inr ⟨s1, s2, q2 _ H2 ι2 Ext.refl hr2 (ItOk.zipT hr2 s1 l1 s2 l2)⟩⟩
          · rw [t1, t2] at c; cases c
        · rcases sy.seqI hr2 e2 with ⟨t2, _⟩ | ⟨t2, b, rfl, ⟨ys, s2⟩, l2⟩
          · rw [t1, t2] at c; cases c
          · exact ⟨a, b, xs, ys, rfl, .inl ⟨s1, s2, q2 _ H2 ι2 Ext.refl hr2 (ItOk.zipL l1 l2)⟩⟩
      · exact q2.elim
    · exact q2.elim
/-! ### for -/
open Classical in
noncomputable def floop (its : Its) (bd : MB) (body : MS) : List D → MS
  | [] => fun ρ h => if live its h then .next ρ h else .fail
  | d :: ds => fun ρ h => if live its h then (match bd d ρ with
    | some ρ1 => (match body ρ1 h with
      | .next ρ2 h2 => floop its bd body ds ρ2 h2
      | .cont ρ2 h2 => floop its bd body ds ρ2 h2
      | .brk ρ2 h2 => .next ρ2 h2
      | r => r)
    | none => .fail) else .fail
noncomputable def sFor (mi : MI) (bd : MB) (body : MS) : MS := fun ρ h => sBind (mi ρ h) ρ fun its h1 => floop its bd body its.ds ρ h1
theorem sm_for {g : TG} {bd : MB} {vs : List Nat} {mi : MI} (hp : PassesOwn (model X.prog X.w) X.A X.env X.xe) (hc : X.calm = true) (hi : IM X W tg iter mi) (hg : GM X tg g bd vs) (hb : SMs X W sts m1)
    (hs : ∀ x, foldedSetIterable iter X.env x = pure x := by intro _; rfl) : SM X W (.For tg iter sts [] pos) (sFor mi bd m1) :=
  PS.wk (ps_for hp hc hi hg.pg hb hs) fun D σ H ⟨ρ, h, ι, hr, sr, q⟩ => by
    refine ⟨ρ, h, ι, hr, sr, (PostS.bind (rel := rI X.K) hr sr q).imp fun J H1 ⟨its, h1, ι1, e1, x1, hr1, ok, q1⟩ => ?_⟩
    have q1 := PostS.rebase x1 hr1 q1
    have sr1 := sr.ext x1 hr
    refine ⟨fun i m σ' H' => m = its.ds.length - i ∧ i ≤ its.ds.length ∧ ∃ ρ' h' ι', Ext H1 ι1 h1 H' ι' h' ∧ HRel X.K H' ι' h' ∧ SRel X.K H' ι' h'.length ρ' σ' ∧ PostS X.K X.mg W H' ι' h' D (floop its bd m1 (its.ds.drop i) ρ' h'),
      ⟨its.ds.length, by simp, Nat.zero_le _, ρ, h1, ι1, Ext.refl, hr1, sr1, q1⟩, ?_⟩
    rintro i m σ' H' ⟨rfl, hi, ρ', h', ι', x', r', s', q'⟩
    by_cases hlt : i < its.ds.length
    · right
      have ed : its.ds.drop i = its.ds[i] :: its.ds.drop (i + 1) := List.drop_eq_getElem_cons hlt
      rw [ed] at q'
      simp only [floop] at q'
      split at q'
      · rename_i lv
        obtain ⟨ok1, _⟩ := ok i H' ι' h' x' r' lv
        obtain ⟨go, yl⟩ := ok1 hlt
        refine ⟨go, fun σ2 H2 => ∃ ρ2 h2 ι2, Ext H1 ι1 h1 H2 ι2 h2 ∧ HRel X.K H2 ι2 h2 ∧ SRel X.K H2 ι2 h2.length ρ2 σ2 ∧ PostS X.K X.mg W H2 ι2 h2 D (floop its bd m1 (its.ds.drop (i + 1)) ρ2 h2), fun σ2 H2 z => ⟨its.ds.length - (i + 1), by omega, rfl, hlt, z⟩, fun x H2 y => ?_⟩
        obtain ⟨gr, d, ed2, rd⟩ := yl x H2 y
        rw [List.getElem?_eq_getElem hlt] at ed2
        cases ed2
        have r2 := gr.hrel r'
        have s2 : SRel X.K H2 ι' h'.length ρ' σ' := s'.ext gr.ext r'
        have q2 := PostS.rebase gr.ext r2 q'
        cases eb : bd its.ds[i] ρ' with
        | none => rw [eb] at q2; exact q2.elim
        | some ρ1 =>
          rw [eb] at q2
          refine hg.re s2 rd eb fun σ3 s3 _ => ⟨ρ1, h', ι', r2, s3, ?_⟩
          have xx : Ext H1 ι1 h1 H2 ι' h' := x'.trans gr.ext r'
          simp only at q2
          cases em : m1 ρ1 h' with
          | next ρ2 h2 => rw [em] at q2; exact fun σ4 H4 ι4 x4 r4 s4 => ⟨ρ2, h2, ι4, xx.trans x4 r2, r4, s4, PostS.rebase x4 r4 q2⟩
          | cont ρ2 h2 => rw [em] at q2; exact fun σ4 H4 ι4 x4 r4 s4 => ⟨ρ2, h2, ι4, xx.trans x4 r2, r4, s4, PostS.rebase x4 r4 q2⟩
          | brk ρ2 h2 => rw [em] at q2; exact q2
          | ret d h2 => rw [em] at q2; exact q2
          | exc x fs ρ1 h2 => rw [em] at q2; exact q2
          | fail => rw [em] at q2; exact q2
      · exact q'.elim
    · left
      have e : i = its.ds.length := by omega
      subst e
      rw [List.drop_length] at q'
      simp only [floop] at q'
      split at q'
      · rename_i lv
        exact ⟨(ok _ H' ι' h' x' r' lv).2 (Nat.le_refl _), q' σ' H' ι' Ext.refl r' s'⟩
      · exact q'.elim
/-! ### comprehensions -/
def wipeD (ρ : Env') : List Nat → Env'
  | [] => ρ
  | v :: vs => (wipeD ρ vs).set v none
theorem SRel.wipe {K : PySem.W.Frag} {H : Hp} {ι : Nat → Addr} {n : Nat} {ρ : Env'} {σ : L2.St} (s : SRel K H ι n ρ σ) : ∀ own : List Nat, SRel K H ι n (wipeD ρ own) (L2.wipe σ own)
  | [] => s
  | v :: vs => by
    have ih := SRel.wipe s vs
    refine ⟨by simp [wipeD, L2.wipe, ih.1], fun j e ej => ?_⟩
    simp only [wipeD] at ej
    simp only [L2.wipe]
    by_cases hj : j = v
    · subst hj
      by_cases hi : j < (wipeD ρ vs).length
      · rw [List.getElem?_set_self hi] at ej; cases ej
      · rw [List.getElem?_eq_none (by simpa using hi)] at ej; cases ej
    · rw [List.getElem?_set_ne (Ne.symm hj)] at ej ⊢
      exact ih.2 j e ej
theorem wipe_wipe (σ : L2.St) (own : List Nat) : L2.wipe (L2.wipe σ own) own = L2.wipe σ own := by
  apply List.ext_getElem?
  intro j
  rw [wipe_get, wipe_get]
  by_cases hj : j ∈ own
  · rw [if_pos hj, if_pos hj]
    cases σ[j]? <;> rfl
  · rw [if_neg hj, if_neg hj]
open Classical in
noncomputable def cloop (its : Its) (bd : MB) (tt : MT) (el : MX) (ρ : Env') : List D → List D → MH → Res SD
  | [], acc, h => if live its h then .ok (.tmp acc) h else .fail
  | d :: ds, acc, h => if live its h then (match bd d ρ with
    | some ρ1 => (match tt ρ1 h with
      | .ok true h1 => (match el ρ1 h1 with
        | .ok x h2 => if acc.length < sizeLine then cloop its bd tt el ρ ds (acc ++ [holdD x h2]) (holdH x h2) else .fail
        | _ => .fail)
      | .ok false h1 => cloop its bd tt el ρ ds acc h1
      | _ => .fail)
    | none => .fail) else .fail
noncomputable def xLc (own : List Nat) (mi : MI) (bd : MB) (tt : MT) (el : MX) : MX := fun ρ h => (mi ρ h).bind fun its h1 => cloop its bd tt el (wipeD ρ own) its.ds [] h1
theorem Ext.poke {H H1 : Hp} {ι ι1 : Nat → Addr} {h h1 : MH} {p : Addr} {o : HO} (x : Ext H ι h H1 ι1 h1) (e : H p = none) (nf : ∀ q u, H1 p ≠ some (.frz q u)) : Ext H ι h (upd H1 p o) ι1 h1 where
  len := x.len
  agree := x.agree
  kind := x.kind
  frame := fun b u q n => by rw [upd_ne (ne_of_none q e)]; exact x.frame b u q n
  fresh := x.fresh
  frz := fun b u v q => by rw [upd_ne (ne_of_none q e)]; exact x.frz b u v q
theorem HRel.poke {K : PySem.W.Frag} {H : Hp} {ι : Nat → Addr} {h : MH} {p : Addr} {xs ys : List V} (r : HRel K H ι h) (e : H p = some (.lst xs)) (ap : ∀ (i : Nat) (mo : MO), h[i]? = some mo → mo.isRo = false → ι i ≠ p) : HRel K (upd H p (.lst ys)) ι h ∧ ∀ a zs, SqT K H a zs → SqT K (upd H p (.lst ys)) a zs := by
  have T : ∀ a zs, SqT K H a zs → SqT K (upd H p (.lst ys)) a zs := fun a zs q => by
    rcases q with (q | ⟨z, q⟩) | q
    · refine .inl (.inl ?_)
      rw [upd_ne]; exact q
      rintro rfl; rw [q] at e; cases e
    · refine .inl (.inr ⟨z, ?_⟩)
      rw [upd_ne]; exact q
      rintro rfl; rw [q] at e; cases e
    · exact .inr q
  refine ⟨⟨fun i mo ei => ?_, r.inj⟩, T⟩
  have q0 := r.obj i mo ei
  by_cases hro : mo.isRo = true
  · cases mo with
    | ro ds =>
      obtain ⟨us, ez, rr⟩ := q0
      refine ⟨us, ?_, RepL.mono T (Nat.le_refl _) (fun _ _ => rfl) ds us rr⟩
      rcases ez with ⟨z, ez⟩ | ez
      · refine .inl ⟨z, ?_⟩
        rw [upd_ne]; exact ez
        intro ee; rw [ee, e] at ez; cases ez
      · exact .inr ez
    | _ => cases hro
  · have hro : mo.isRo = false := by simpa using hro
    exact q0.mono T (Nat.le_refl _) (fun _ _ => rfl) fun v ev => by rw [upd_ne (ap i mo ei hro)]; exact ev
theorem lc_read {K : PySem.W.Frag} {mg : Str → Option Value} {own : List Nat} {mi : MI} {g : TG} {bd : MB} {vs : List Nat} {tt : MT} {el : MX} {σ : L2.St} {H : Hp} {Q : VK} (hg : RealG K g bd vs) (hv : Covers vs own)
    (q : tM K mg W (rS K) (xLc own mi bd tt el) σ H Q) : tLc (tM K mg W (rI K) mi) g (tM K mg (fun _ _ _ _ => False) rB tt) (tM K mg (fun _ _ _ _ => False) (rS K) el) own σ H Q := by
  obtain ⟨ρ, h, ι, hr, sr, q⟩ := q
  refine ⟨ρ, h, ι, hr, sr, (Post.bind (rel := rI K) back_S q).imp fun J H1 ⟨its, h1, ι1, e1, x1, hr1, ok, q1⟩ => ?_⟩
  intro p hp
  have q1 := Post.rebase back_S x1 hr1 q1
  have sr1 : SRel K H1 ι1 h1.length (wipeD ρ own) (L2.wipe σ own) := (sr.ext x1 hr).wipe own
  refine ⟨fun i m H' => m = its.ds.length - i ∧ i ≤ its.ds.length ∧ ∃ acc xs h' ι', Ext H1 ι1 h1 H' ι' h' ∧ HRel K H' ι' h' ∧ H' p = some (.lst xs) ∧ (∀ (j : Nat) (mo : MO), h'[j]? = some mo → mo.isRo = false → ι' j ≠ p) ∧ RepL K H' ι' h'.length acc xs ∧
      Post K mg W (rS K) σ H1 ι1 h1 Q (cloop its bd tt el (wipeD ρ own) (its.ds.drop i) acc h'),
    ⟨its.ds.length, by simp, Nat.zero_le _, [], [], h1, ι1, (Grow.upd hp).ext, (Grow.upd hp).hrel hr1, upd_same, hr1.apart hp, by simp only [RepL], q1⟩, ?_⟩
  rintro i m H' ⟨rfl, hi, acc, xs, h', ι', x', r', ep, ap, la, q'⟩
  by_cases hlt : i < its.ds.length
  · right
    have ed : its.ds.drop i = its.ds[i] :: its.ds.drop (i + 1) := List.drop_eq_getElem_cons hlt
    rw [ed] at q'
    simp only [cloop] at q'
    split at q'
    · rename_i lv
      obtain ⟨ok1, _⟩ := ok i H' ι' h' x' r' lv
      obtain ⟨go, yl⟩ := ok1 hlt
      refine ⟨go, fun H2 => ∃ acc xs h2 ι2, Ext H1 ι1 h1 H2 ι2 h2 ∧ HRel K H2 ι2 h2 ∧ H2 p = some (.lst xs) ∧ (∀ (j : Nat) (mo : MO), h2[j]? = some mo → mo.isRo = false → ι2 j ≠ p) ∧ RepL K H2 ι2 h2.length acc xs ∧
        Post K mg W (rS K) σ H1 ι1 h1 Q (cloop its bd tt el (wipeD ρ own) (its.ds.drop (i + 1)) acc h2), fun H2 z => ⟨its.ds.length - (i + 1), by omega, rfl, hlt, z⟩, fun x H2 y => ?_⟩
      obtain ⟨gr, d, ed2, rd⟩ := yl x H2 y
      rw [List.getElem?_eq_getElem hlt] at ed2
      cases ed2
      have r2 := gr.hrel r'
      have xx : Ext H1 ι1 h1 H2 ι' h' := x'.trans gr.ext r'
      have s2 : SRel K H2 ι' h'.length (wipeD ρ own) (L2.wipe σ own) := sr1.ext xx hr1
      cases eb : bd its.ds[i] (wipeD ρ own) with
      | none => rw [eb] at q'; exact q'.elim
      | some ρ1 =>
        rw [eb] at q'
        refine hg s2 rd eb fun σ3 s3 w3 => ⟨by rw [w3 own hv, wipe_wipe], ρ1, h', ι', r2, s3, ?_⟩
        simp only at q'
        cases et : tt ρ1 h' with
        | fail => rw [et] at q'; exact q'.elim
        | exc c fs hh => rw [et] at q'; exact q'.elim
        | ok k h3 =>
          rw [et] at q'
          refine fun k' H3 ι3 x3 r3 ek => ?_
          have ek : k = k' := ek
          subst ek
          have xx3 := xx.trans x3 r2
          have ep2 := gr _ _ ep
          have ep3 := x3.frame p _ ep2 ap
          have ap3 := x3.apart r2 ep2 ap
          have la3 := (gr.repL la).ext x3 r2
          cases k with
          | false =>
            simp only [Bool.false_eq_true, if_false]
            exact ⟨acc, xs, h3, ι3, xx3, r3, ep3, ap3, la3, q'⟩
          | true =>
            simp only [if_true]
            refine ⟨ρ1, h3, ι3, r3, s3.ext x3 r2, ?_⟩
            simp only at q'
            cases ee : el ρ1 h3 with
            | fail => rw [ee] at q'; exact q'.elim
            | exc c fs hh => rw [ee] at q'; exact q'.elim
            | ok z h4 =>
              rw [ee] at q'
              simp only at q'
              refine fun v H4 ι4 x4 r4 rz => ?_
              obtain ⟨ι5, r5, x5, rp⟩ := hold_ok r4 x4 rz.1 rz.2
              have ep4 := x5.frame p _ ep3 ap3
              have ap4 := x5.apart r3 ep3 ap3
              have la4 := la3.ext x5 r3
              split at q'
              · rename_i c
                refine ⟨xs, ep4, by rw [← la.len]; exact c, acc ++ [holdD z h4], xs ++ [v], holdH z h4, ι5, ?_, ?_, upd_same, ap4, ?_, q'⟩
                · exact (xx3.trans x5 r3).poke hp fun q u z => by rw [ep4] at z; cases z
                · exact (HRel.poke r5 ep4 ap4).1
                · refine RepL.mono (HRel.poke r5 ep4 ap4).2 (Nat.le_refl _) (fun _ _ => rfl) _ _ (la4.app ?_)
                  simp only [RepL]
                  exact ⟨v, [], rfl, rp, rfl⟩
              · exact q'.elim
    · exact q'.elim
  · left
    have e : i = its.ds.length := by omega
    subst e
    rw [List.drop_length] at q'
    simp only [cloop] at q'
    split at q'
    · rename_i lv
      exact ⟨(ok _ H' ι' h' x' r' lv).2 (Nat.le_refl _), q' (.ref p) H' ι' x' r' ⟨⟨p, xs, rfl, ep, ap, la⟩, fun a ea => by cases ea; exact hp⟩⟩
    · exact q'.elim
abbrev W0 : WX := fun _ _ _ _ => False
def TMs (X : Cx) (W : WX) (es : List Expr) (m : MT) : Prop := PTs X es (tM X.K X.mg W rB m)
def tYesM : MT := fun _ h => .ok true h
theorem tms_nil : TMs X W [] tYesM := ⟨fun pins s σ H Q I ⟨ρ, h, ι, hr, sr, q⟩ => pts_nil.run pins s σ H Q I (q true H ι Ext.refl hr rfl)⟩
theorem tms_one (h : TM X W c tc) : TMs X W [c] tc := pts_one h
variable {elt : Expr} {ifs : List Expr} {scope : Scope} {own : List (Str × Nat)} {mi : MI} {g : TG} {bd : MB} {vs : List Nat} {tt : MT} {el : MX}
theorem xm_lc (hc : X.calm = true) (hN : X.N.Nodup) (hi : IM X W tg iter mi) (ok : BlkOk X.N X.env.scope scope own)
    (hg : ∀ (s : Shared) (H : Hp) (C : Addr) (cl : List (Str × Addr)) (fp : List Addr), GM (X.blk s H scope (compEnvC scope cl C X.env) fp) tg g bd vs) (ht : ∀ (s : Shared) (H : Hp) (C : Addr) (cl : List (Str × Addr)) (fp : List Addr), TMs (X.blk s H scope (compEnvC scope cl C X.env) fp) W0 ifs tt)
    (he : ∀ (s : Shared) (H : Hp) (C : Addr) (cl : List (Str × Addr)) (fp : List Addr), XM (X.blk s H scope (compEnvC scope cl C X.env) fp) W0 elt el) (hv : Covers vs (own.map (·.2)) := by intro i hi; revert i hi; decide) (hs : ∀ x, foldedSetIterable iter X.env x = pure x := by intro _; rfl) :
    XM X W (.ListComp elt [⟨tg, iter, ifs, 0⟩] scope pos) (xLc (own.map (·.2)) mi bd tt el) :=
  PE.wk (pe_lc (te := tM X.K X.mg W0 (rS X.K) el) (tt := tM X.K X.mg W0 rB tt) hc hN hi ok (fun s H C cl fp => (hg s H C cl fp).pg) (fun s H C cl fp => (ht s H C cl fp : PTs _ _ (tM X.K X.mg W0 rB tt))) (fun s H C cl fp => (he s H C cl fp : PE _ _ (tM X.K X.mg W0 (rS X.K) el))) hs) fun σ H Q q => lc_read (hg X.s_0 X.H_0 0 [] []).re hv q
end
end AM

namespace AM
open PySem PySem.Spec PyProof.Rows L2

section
variable {K : PySem.W.Frag} {H H1 H2 : Hp} {ι ι1 ι2 : Nat → Addr} {h h1 h2 : MH} {n m : Nat}
mutual
theorem Rep.bel : ∀ (d : D) (v : V), Rep K H ι n d v → d.bel n = true
  | .und, _, _ => rfl
  | .non, _, _ => rfl
  | .bl _, _, _ => rfl
  | .int _, _, _ => rfl
  | .str _, _, _ => rfl
  | .ty _, _, _ => rfl
  | .tup ds, v, q => by
    simp only [Rep] at q
    obtain ⟨a, xs, e, s, l⟩ := q
    simp only [D.bel]
    exact RepL.bel ds xs l
  | .ref r, v, q => by
    simp only [Rep] at q
    simp only [D.bel, decide_eq_true_eq]
    exact q.1
theorem RepL.bel : ∀ (ds : List D) (vs : List V), RepL K H ι n ds vs → D.belL n ds = true
  | [], _, _ => rfl
  | d :: ds, vs, q => by
    simp only [RepL] at q
    obtain ⟨v, r, e, q1, q2⟩ := q
    simp only [D.belL, Bool.and_eq_true]
    exact ⟨Rep.bel d v q1, RepL.bel ds r q2⟩
end
theorem RepP.bel {κ : Type} : ∀ (ds : List (κ × D)) (vs : List (κ × V)), RepP K H ι n ds vs → D.belL n (ds.map (·.2)) = true
  | [], _, _ => rfl
  | d :: ds, vs, q => by
    simp only [RepP] at q
    obtain ⟨v, r, e, q1, q2⟩ := q
    simp only [List.map_cons, D.belL, Bool.and_eq_true]
    exact ⟨Rep.bel _ v q1, RepP.bel ds r q2⟩
theorem MRel.bel {a : Addr} {mo : MO} (q : MRel K H ι n a mo) : mo.bel n = true := by
  cases mo with
  | lst ds => obtain ⟨xs, _, l⟩ := q; exact RepL.bel _ _ l
  | ro ds => obtain ⟨xs, _, l⟩ := q; exact RepL.bel _ _ l
  | dK lk kvs => obtain ⟨xs, _, l⟩ := q; exact RepP.bel _ _ l
  | dT lk kvs => obtain ⟨xs, _, l⟩ := q; exact RepP.bel _ _ l
theorem MRel.cut {a : Addr} {mo : MO} (q : MRel K H ι m a mo) (b : mo.bel n = true) : MRel K H ι n a mo := by
  cases mo with
  | lst ds => obtain ⟨xs, e, l⟩ := q; exact ⟨xs, e, RepL.cut _ _ l b⟩
  | ro ds => obtain ⟨xs, e, l⟩ := q; exact ⟨xs, e, RepL.cut _ _ l b⟩
  | dK lk kvs => obtain ⟨xs, e, l⟩ := q; exact ⟨xs, e, RepP.cut _ _ l b⟩
  | dT lk kvs => obtain ⟨xs, e, l⟩ := q; exact ⟨xs, e, RepP.cut _ _ l b⟩
end
/-! ### what a def leaves behind -/
open Classical in
/-- the objects that nobody names any more go -/
noncomputable def gc (h : MH) (d : D) (h' : MH) : D × MH :=
  if h'.length ≤ h.length then (d, h')
  else if h'.take h.length = h ∨ (∀ mo ∈ h'.take h.length, mo.bel h.length = true) then
    (if d.bel h.length = true then (d, h'.take h.length)
    else match d with
      | .ref r => (match h'[r]? with
        | some mo => if mo.bel h.length = true then (.ref h.length, h'.take h.length ++ [mo]) else (d, h')
        | none => (d, h'))
      | _ => (d, h'))
  else (d, h')
theorem gc_post {K : PySem.W.Frag} {H : Hp} {ι : Nat → Addr} {h h' : MH} {d : D} {Q : V → Hp → Prop} (hr : HRel K H ι h) (q : ∀ v H' ι', Ext H ι h H' ι' (gc h d h').2 → HRel K H' ι' (gc h d h').2 → Rep K H' ι' (gc h d h').2.length (gc h d h').1 v → Q v H') :
    ∀ v H' ι', Ext H ι h H' ι' h' → HRel K H' ι' h' → Rep K H' ι' h'.length d v → Q v H' := fun v H' ι' x r' rd => by
  have hl : (h'.take h.length).length = h.length := by rw [List.length_take]; exact Nat.min_eq_left x.len
  have tk : ∀ i, i < h.length → (h'.take h.length)[i]? = h'[i]? := fun i hi => by rw [List.getElem?_take]; simp [hi]
  have lt : ∀ {i mo}, (h'.take h.length)[i]? = some mo → i < h.length ∧ h'[i]? = some mo := fun {i mo} e => by
    have hi : i < h.length := by have := some_lt e; omega
    exact ⟨hi, by rw [← tk i hi]; exact e⟩
  unfold gc at q
  split at q
  · exact q v H' ι' x r' rd
  · rename_i c0
    split at q
    · rename_i c
      have bl : ∀ (i : Nat) (mo : MO), (h'.take h.length)[i]? = some mo → mo.bel h.length = true := fun i mo e => by
        rcases c with c | c
        · rw [c] at e; exact (hr.obj i mo e).bel
        · exact c mo (List.mem_of_getElem? e)
      have rc : HRel K H' ι' (h'.take h.length) := ⟨fun i mo e => by rw [hl]; exact (r'.obj i mo (lt e).2).cut (bl i mo e), fun i j mo mo' e e' => r'.inj i j mo mo' (lt e).2 (lt e').2⟩
      have xc : Ext H ι h H' ι' (h'.take h.length) := ⟨by omega, x.agree, fun i mo e => by
        obtain ⟨mo', e', k⟩ := x.kind i mo e
        exact ⟨mo', by rw [tk i (some_lt e)]; exact e', k⟩, x.frame, fun i mo hi e => absurd (lt e).1 (Nat.not_lt.mpr hi), x.frz⟩
      split at q
      · rename_i b
        exact q v H' ι' xc rc (by rw [show (d, List.take h.length h').2.length = h.length from hl]; exact rd.cut _ _ b)
      · rename_i b
        split at q
        · rename_i r
          split at q
          · rename_i mo em
            split at q
            · rename_i bm
              have hn : h.length ≤ r := by
                simp only [D.bel, decide_eq_true_eq] at b
                omega
              obtain ⟨k, e0⟩ := x.fresh r mo hn em
              simp only [Rep] at rd
              obtain ⟨_, rfl⟩ := rd
              have z := HRel.alloc (p := ι' r) (mo := mo) rc xc k e0 (fun i m e km => r'.inj i r m mo (lt e).2 em km k (by have := (lt e).1; omega)) (by rw [hl]; exact (r'.obj r mo em).cut bm)
              rw [hl] at z
              refine q (.ref (ι' r)) H' (put ι' h.length (ι' r)) z.2 z.1 ?_
              simp only [Rep, List.length_append, hl, List.length_singleton]
              exact ⟨by omega, by rw [put_same]⟩
            · exact q v H' ι' x r' rd
          · exact q v H' ι' x r' rd
        · exact q v H' ι' x r' rd
    · exact q v H' ι' x r' rd
theorem gc_self {h : MH} {d : D} : gc h d h = (d, h) := by unfold gc; rw [if_pos (Nat.le_refl _)]
theorem gc_len {h h' : MH} {d : D} (e : h'.length = h.length) : gc h d h' = (d, h') := by unfold gc; rw [if_pos (Nat.le_of_eq e)]
theorem gc_app {h t : MH} {d : D} (b : d.bel h.length = true) : gc h d (h ++ t) = (d, h) := by
  unfold gc
  have hp : List.take h.length (h ++ t) = h := by simp
  by_cases c : (h ++ t).length ≤ h.length
  · rw [if_pos c]
    cases t with
    | nil => simp
    | cons a t => simp at c; omega
  · rw [if_neg c, if_pos (Or.inl hp)]
    simp only [b, if_true, hp]
theorem gc_ref {h t : MH} {r : Nat} {mo : MO} (e : (h ++ t)[r]? = some mo) (hr : h.length ≤ r) (b : mo.bel h.length = true) : gc h (.ref r) (h ++ t) = (.ref h.length, h ++ [mo]) := by
  unfold gc
  have := some_lt e
  rw [if_neg (by simp at this ⊢; omega), if_pos (.inl (by simp)), if_neg (by simp only [D.bel, decide_eq_true_eq]; omega)]
  simp only [e, b, if_true, List.take_left']
noncomputable def fnRes (h : MH) : RS → Res D
  | .next _ h' => .ok (gc h .non h').1 (gc h .non h').2
  | .ret d h' => .ok (gc h d h').1 (gc h d h').2
  | .exc c fs _ h' => .exc c fs h'
  | _ => .fail
noncomputable def mFn (nN nP : Nat) (mb : MS) : MF := fun ds h => if ds.length = nP then fnRes h (mb (ds.map some ++ List.replicate (nN - nP) none) h) else .fail
section
variable {P : Program} {w : World} {K : PySem.W.Frag} {mg : Str → Option Value} {base : Heap} {x qual : Str} {params : Arguments} {body : List Stmt} {scope : Scope} {f : Addr} {fd : FuncData} {N ps : List Str} {k : Nat} {mb : MS}
theorem start_rel {H : Hp} {ι : Nat → Addr} {n : Nat} {ds : List D} {vs : List V} (l : RepL K H ι n ds vs) : SRel K H ι n (ds.map some ++ List.replicate (N.length - ds.length) none) (L2.start N vs) := by
  refine ⟨by simp [L2.start, l.len], fun i d e => ?_⟩
  unfold L2.start
  by_cases hi : i < ds.length
  · rw [List.getElem?_append_left (by simpa using hi), List.getElem?_map] at e
    cases ei : ds[i]? with
    | none => rw [ei] at e; cases e
    | some d' =>
      rw [ei] at e
      simp only [Option.map_some, Option.some.injEq] at e
      subst e
      obtain ⟨v, ev, rv⟩ := l.get ei
      refine ⟨v, ?_, rv⟩
      rw [List.getElem?_append_left (by simp; rw [← l.len]; exact hi), List.getElem?_map, ev]
      rfl
  · rw [List.getElem?_append_right (by simpa using hi), List.getElem?_replicate] at e
    split at e <;> cases e
theorem fnok_of (F : FunD K x qual params body scope [] [] f fd) (S : FnScope N ps scope) {nN nP : Nat} (hN : N.length = nN) (hP : ps.length = nP)
    (hbody : ∀ (cdv : Value) (A : Around) (outer : List Env) (s : Shared) (H : Hp) (E : XK), Room k (A.deeper (envOfC qual scope s.heap.objs.size f cdv)) →
      SMs (cxOf (L2.CX P w) P w K mg base N qual scope f cdv A outer s H E) (fun c d _ H => E c d H) body mb) : FnOk P w K mg base (L2.CX P w) (k + 1) f fd ps (spM K mg (mFn nN nP mb)) := by
  subst hN hP
  refine FunD.ok F S ?_ fun cdv A outer s H vs Q E hr hsp => ?_
  · rintro vs H Q E ⟨ds, h, ι, hr, l, p⟩
    unfold mFn at p
    split at p
    · rename_i c
      rw [← l.len, c]
    · exact p.elim
  · refine ⟨_, hbody cdv A outer s H E hr, ?_⟩
    obtain ⟨ds, h, ι, hr, l, p⟩ := hsp
    unfold mFn at p
    split at p
    · rename_i c
      rw [← c] at p
      refine ⟨_, h, ι, hr, start_rel l, ?_⟩
      show PostS K mg _ H ι h _ (mb (List.map some ds ++ List.replicate (N.length - ds.length) none) h)
      cases em : mb (List.map some ds ++ List.replicate (N.length - ds.length) none) h with
      | next ρ1 h1 =>
        rw [em] at p
        exact fun σ' H' ι' x1 r1 _ => gc_post (d := .non) hr p .non H' ι' x1 r1 rp_non
      | ret d h1 =>
        rw [em] at p
        exact gc_post hr p
      | exc c fs ρ1 h1 =>
        rw [em] at p
        exact fun cls dx H' ι' σ' x1 r1 _ xr => p cls dx H' ι' x1 r1 xr
      | brk ρ1 h1 => rw [em] at p; exact p.elim
      | cont ρ1 h1 => rw [em] at p; exact p.elim
      | fail => rw [em] at p; exact p.elim
    · exact p.elim
theorem fm_of (F : FunD K x qual params body scope [] [] f fd) (S : FnScope N ps scope) (hm : mg x = some (.ref f)) (hb : Binds K fd ps []) {nN nP : Nat} (hN : N.length = nN) (hP : ps.length = nP)
    (hbody : ∀ (cdv : Value) (A : Around) (outer : List Env) (s : Shared) (H : Hp) (E : XK), Room k (A.deeper (envOfC qual scope s.heap.objs.size f cdv)) →
      SMs (cxOf (L2.CX P w) P w K mg base N qual scope f cdv A outer s H E) (fun c d _ H => E c d H) body mb) : FM P w K mg base (k + 1) x ps (mFn nN nP mb) :=
  ⟨f, fd, hm, F.kp, hb, fnok_of F S hN hP hbody⟩
end
/-! ### y = [.. for ..] -/
section
variable {X : Cx} {W : WX} {a b c e tg iter : Expr} {pos p : Pos} {elt : Expr} {ifs : List Expr} {scope : Scope} {own : List (Str × Nat)} {mi : MI} {g : TG} {bd : MB} {vs : List Nat} {tt : MT} {el : MX}
theorem sm_setLc (i : Nat) {y : Str} {py spos : Pos} (hc : X.calm = true) (hN : X.N.Nodup) (hi : IM X W tg iter mi) (ok : BlkOk X.N X.env.scope scope own)
    (hg : ∀ (s : Shared) (H : Hp) (C : Addr) (cl : List (Str × Addr)) (fp : List Addr), GM (X.blk s H scope (compEnvC scope cl C X.env) fp) tg g bd vs) (ht : ∀ (s : Shared) (H : Hp) (C : Addr) (cl : List (Str × Addr)) (fp : List Addr), TMs (X.blk s H scope (compEnvC scope cl C X.env) fp) W0 ifs tt)
    (he : ∀ (s : Shared) (H : Hp) (C : Addr) (cl : List (Str × Addr)) (fp : List Addr), XM (X.blk s H scope (compEnvC scope cl C X.env) fp) W0 elt el) (hv : Covers vs (own.map (·.2)) := by intro i hi; revert i hi; decide)
    (hy : X.N[i]? = some y := by rfl) (hyl : X.env.scope.names.lookup y = some .local := by rfl) (hsw : swapsWith (.ListComp elt [⟨tg, iter, ifs, 0⟩] scope pos) (some (.Name y py)) spos.line X.env = pure true := by first | rfl | exact sw_true)
    (hs : ∀ x, foldedSetIterable iter X.env x = pure x := by intro _; rfl) : SM X W (.Assign [.Name y py] (.ListComp elt [⟨tg, iter, ifs, 0⟩] scope pos) spos) (sSet i (xLc (own.map (·.2)) mi bd tt el)) :=
  PS.wk (ps_setLc (te := tM X.K X.mg W0 (rS X.K) el) (tt := tM X.K X.mg W0 rB tt) hc hN hy hyl hsw hi ok (fun s H C cl fp => (hg s H C cl fp).pg) ht he hs) fun D σ H q =>
    lc_read (hg X.s_0 X.H_0 0 [] []).re hv (tM_holdS (K := X.K) (mg := X.mg) (W := W) (σ := σ) (H := H) (D := D) (ma := xLc (own.map fun z : Str × Nat => z.2) mi bd tt el) (f := fun ρ d h1 => .next (ρ.set i (some d)) h1) q fun {ρ d h1 H1 ι1 v} hr sr rp q => q _ _ _ Ext.refl hr (sr.set i rp))
end
end AM

namespace AM
open PySem PySem.Spec PyProof.Rows L2
/-! ### how the mirrors reckon -/
section
variable {α β : Type} {ρ ρ1 : Env'} {h h1 : MH} {a b : MX} {i j : Int} {x y : SD} {d d' : D} {ds es : List D}
@[simp] theorem e_bok {f : α → MH → Res β} {v : α} : (Res.ok v h).bind f = f v h := rfl
@[simp] theorem e_bfail {f : α → MH → Res β} : (Res.fail : Res α).bind f = .fail := rfl
@[simp] theorem e_sok {f : α → MH → RS} {v : α} : sBind (.ok v h) ρ f = f v h := rfl
@[simp] theorem e_sfail {f : α → MH → RS} : sBind (.fail : Res α) ρ f = .fail := rfl
@[simp] theorem e_var (n : Nat) : xVar n ρ h = (match ρ[n]? with | some (some d) => .ok (.val d) h | _ => .fail) := rfl
@[simp] theorem e_C : xC d ρ h = .ok (.val d) h := rfl
@[simp] theorem e_op (o : SD → SD → MH → Option SD) : xOp o a b ρ h = (a ρ h).bind fun x h1 => (b ρ h1).bind fun y h2 => (match o x y h2 with | some d => .ok d h2 | none => .fail) := rfl
@[simp] theorem e_un (o : SD → MH → Option SD) : xUn o a ρ h = (a ρ h).bind fun x h1 => (match o x h1 with | some d => .ok d h1 | none => .fail) := rfl
@[simp] theorem e_nil : aNil ρ h = .ok [] h := rfl
@[simp] theorem e_cons {r : MA} : aCons a r ρ h = (a ρ h).bind fun x h1 => (r ρ (holdH x h1)).bind fun ds h2 => .ok (holdD x h1 :: ds) h2 := rfl
@[simp] theorem e_tup {m : MA} : xTup m ρ h = (m ρ h).bind fun ds h1 => if ds.length ≤ 1000 then .ok (.val (.tup ds)) h1 else .fail := rfl
@[simp] theorem e_lst {m : MA} : xLst m ρ h = (m ρ h).bind fun ds h1 => if ds.length ≤ 1000 then .ok (.tmp ds) h1 else .fail := rfl
@[simp] theorem e_call {mf : MF} {m : MA} : xCall mf m ρ h = (m ρ h).bind fun ds h1 => (mf ds h1).bind fun d h2 => .ok (.val d) h2 := rfl
@[simp] theorem e_hv : holdD (.val d) h = d := rfl
@[simp] theorem e_hh : holdH (.val d) h = h := rfl
@[simp] theorem e_ht : holdD (.tmp ds) h = .ref h.length := rfl
@[simp] theorem e_hth : holdH (.tmp ds) h = h ++ [.lst ds] := rfl
@[simp] theorem e_pn : pNone ρ h = .ok none h := rfl
@[simp] theorem e_ps : pSome a ρ h = (a ρ h).bind fun x h1 => (match x with | .val (.int i) => .ok (some i) h1 | _ => .fail) := rfl
@[simp] theorem e_sl {lo hi : MP} : xSl a lo hi ρ h = (a ρ h).bind fun x h1 => (lo ρ h1).bind fun l h2 => (hi ρ h2).bind fun u h3 => (match oSl x l u h3 with | some d => .ok d h3 | none => .fail) := rfl
@[simp] theorem e_asB : asB a ρ h = (a ρ h).bind fun x h1 => (match x with | .val (.bl b) => .ok b h1 | _ => .fail) := rfl
@[simp] theorem e_tru : tTru a ρ h = (a ρ h).bind fun x h1 => (match truth x h1 with | some b => .ok b h1 | none => .fail) := rfl
@[simp] theorem e_tnot {t : MT} : tNotM t ρ h = (t ρ h).bind fun k h1 => .ok (!k) h1 := rfl
@[simp] theorem e_tand {t u : MT} : tAndM t u ρ h = (t ρ h).bind fun k h1 => if k = true then u ρ h1 else .ok false h1 := rfl
@[simp] theorem e_tor {t u : MT} : tOrM t u ρ h = (t ρ h).bind fun k h1 => if k = true then .ok true h1 else u ρ h1 := rfl
@[simp] theorem e_and : xAnd a b ρ h = (a ρ h).bind fun x h1 => (match x with | .val (.bl k) => if k = true then b ρ h1 else .ok (.val (.bl false)) h1 | _ => .fail) := rfl
@[simp] theorem e_or : xOr a b ρ h = (a ρ h).bind fun x h1 => (match x with | .val (.bl k) => if k = true then .ok (.val (.bl true)) h1 else b ρ h1 | _ => .fail) := rfl
@[simp] theorem e_xif {t : MT} : xIf t a b ρ h = (t ρ h).bind fun k h1 => if k = true then a ρ h1 else b ρ h1 := rfl
@[simp] theorem e_next : sNext ρ h = .next ρ h := rfl
@[simp] theorem e_brk : sBrk ρ h = .brk ρ h := rfl
@[simp] theorem e_cont : sCont ρ h = .cont ρ h := rfl
@[simp] theorem e_seq {m1 m2 : MS} : sSeq m1 m2 ρ h = (match m1 ρ h with | .next ρ1 h1 => m2 ρ1 h1 | r => r) := rfl
@[simp] theorem e_expr : sExpr a ρ h = sBind (a ρ h) ρ fun _ h1 => .next ρ h1 := rfl
@[simp] theorem e_ret : sRet a ρ h = sBind (a ρ h) ρ fun x h1 => .ret (holdD x h1) (holdH x h1) := rfl
@[simp] theorem e_retN : sRetN ρ h = .ret .non h := rfl
@[simp] theorem e_set {n : Nat} : sSet n a ρ h = sBind (a ρ h) ρ fun x h1 => .next (ρ.set n (some (holdD x h1))) (holdH x h1) := rfl
@[simp] theorem e_sif {t : MT} {m1 m2 : MS} : sIf t m1 m2 ρ h = sBind (t ρ h) ρ fun k h1 => if k = true then m1 ρ h1 else m2 ρ h1 := rfl
@[simp] theorem e_par {n k : Nat} {m : MA} : sPar n k m ρ h = sBind (m ρ h) ρ fun ds h1 => (match ds with | [x, y] => .next ((ρ.set n (some x)).set k (some y)) h1 | _ => .fail) := rfl
@[simp] theorem e_asg {bb : MB} : sAsg a bb ρ h = sBind (a ρ h) ρ fun x h1 => (match bb (holdD x h1) ρ with | some ρ1 => .next ρ1 (holdH x h1) | none => .fail) := rfl
@[simp] theorem e_aug {n : Nat} {o : SD → SD → MH → Option SD} : sAug n o a ρ h = (match ρ[n]? with
  | some (some d) => sBind (a ρ h) ρ fun y h1 => (match o (.val d) y h1 with
    | some z => .next (ρ.set n (some (holdD z h1))) (holdH z h1)
    | none => .fail)
  | _ => .fail) := rfl
@[simp] theorem e_ixset {v o c : MX} : sIxSet v o c ρ h = sBind (v ρ h) ρ fun x h1 => sBind (o ρ (holdH x h1)) ρ fun y h2 => sBind (c ρ h2) ρ fun z h3 => (match y, z with
  | .val (.ref r), .val (.int k) => (match h3[r]? with
    | some (.lst ds) => (match ixN ds.length k with
      | some j => .next ρ (h3.set r (.lst (ds.set j (holdD x h1))))
      | none => .fail)
    | _ => .fail)
  | _, _ => .fail) := rfl
@[simp] theorem e_bname {n : Nat} : bName n d ρ = some (ρ.set n (some d)) := rfl
@[simp] theorem e_bnil : bNil [] ρ = some ρ := rfl
@[simp] theorem e_bcons {b : MB} {r : MBs} : bCons b r (d :: ds) ρ = (b d ρ).bind fun ρ1 => r ds ρ1 := rfl
@[simp] theorem e_btup {r : MBs} : bTup r (.tup ds) ρ = r ds ρ := rfl
@[simp] theorem e_fn {n k : Nat} {mb : MS} : mFn n k mb ds h = if ds.length = k then fnRes h (mb (ds.map some ++ List.replicate (n - k) none) h) else .fail := rfl
@[simp] theorem e_fr : fnRes h (.ret d h1) = .ok (gc h d h1).1 (gc h d h1).2 := rfl
@[simp] theorem e_fn2 : fnRes h (.next ρ h1) = .ok (gc h .non h1).1 (gc h .non h1).2 := rfl
@[simp] theorem e_ff : fnRes h .fail = .fail := rfl
@[simp] theorem e_gc : gc h d h = (d, h) := gc_self
/-! operators at given data -/
@[simp] theorem o_add : oAdd (.val (.int i)) (.val (.int j)) h = some (.val (.int (i + j))) := rfl
@[simp] theorem o_addI : oAddI (.val (.int i)) (.val (.int j)) h = some (.val (.int (i + j))) := rfl
theorem o_addT : oAdd (.val (.tup ds)) (.val (.tup es)) h = oAddT (.val (.tup ds)) (.val (.tup es)) h := by
  show (match oAddT (.val (.tup ds)) (.val (.tup es)) h with | some d => some d | none => orO oAddL oAddS (.val (.tup ds)) (.val (.tup es)) h) = _
  cases e : oAddT (.val (.tup ds)) (.val (.tup es)) h with
  | some d => rfl
  | none => rfl
@[simp] theorem o_sub : oSub (.val (.int i)) (.val (.int j)) h = some (.val (.int (i - j))) := rfl
theorem o_mul (c : mulOk i j = true) : oMul (.val (.int i)) (.val (.int j)) h = some (.val (.int (i * j))) := by
  have e : oMulI (.val (.int i)) (.val (.int j)) h = some (.val (.int (i * j))) := by
    show (if mulOk i j = true then some (D.int (i * j)) else none).map SD.val = _
    rw [if_pos c]; rfl
  show (match oMulI (.val (.int i)) (.val (.int j)) h with | some d => some d | none => _) = _
  rw [e]
theorem o_fdiv (c : divOk i j = true) : oFDiv (.val (.int i)) (.val (.int j)) h = some (.val (.int (i.fdiv j))) := by
  show (if divOk i j = true then some (D.int (i.fdiv j)) else none).map SD.val = _
  rw [if_pos c]; rfl
theorem o_mod (c : j ≠ 0) : oMod (.val (.int i)) (.val (.int j)) h = some (.val (.int (i.fmod j))) := by
  show (if j ≠ 0 then some (D.int (i.fmod j)) else none).map SD.val = _
  rw [if_pos c]; rfl
@[simp] theorem o_lt : oLt (.val (.int i)) (.val (.int j)) h = some (.val (.bl (decide (i < j)))) := rfl
@[simp] theorem o_le : oLe (.val (.int i)) (.val (.int j)) h = some (.val (.bl (decide (i ≤ j)))) := rfl
@[simp] theorem o_gt : oGt (.val (.int i)) (.val (.int j)) h = some (.val (.bl (decide (j < i)))) := rfl
@[simp] theorem o_ge : oGe (.val (.int i)) (.val (.int j)) h = some (.val (.bl (decide (j ≤ i)))) := rfl
@[simp] theorem o_neg : oNeg (.val (.int i)) h = some (.val (.int (-i))) := rfl
@[simp] theorem o_abs : oAbs (.val (.int i)) h = some (.val (.int (if i < 0 then -i else i))) := rfl
@[simp] theorem o_int : oInt (.val (.int i)) h = some (.val (.int i)) := rfl
@[simp] theorem o_max : oMax2 (.val (.int i)) (.val (.int j)) h = some (.val (.int (max i j))) := by
  show some (SD.val (.int (if j > i then j else i))) = _
  congr 3
  split <;> omega
@[simp] theorem o_min : oMin2 (.val (.int i)) (.val (.int j)) h = some (.val (.int (min i j))) := by
  show some (SD.val (.int (if j < i then j else i))) = _
  congr 3
  split <;> omega
@[simp] theorem o_ix : oIx (.val (.tup ds)) (.val (.int i)) h = (atI ds i).map SD.val := by
  show (match (atI ds i).map SD.val with | some d => some d | none => orO oIxL oIxS (.val (.tup ds)) (.val (.int i)) h) = _
  cases atI ds i <;> rfl
@[simp] theorem o_ixL : oIx (.tmp ds) (.val (.int i)) h = (atI ds i).map SD.val := by
  show (match (atI ds i).map SD.val with | some d => some d | none => none) = _
  cases atI ds i <;> rfl
theorem o_ixR {r : Nat} (e : h[r]? = some (.lst ds)) : oIx (.val (.ref r)) (.val (.int i)) h = (atI ds i).map SD.val := by
  have e1 : lstOf (.val (.ref r)) h = some ds := by simp only [lstOf, e]
  have : oIxL (.val (.ref r)) (.val (.int i)) h = (atI ds i).map SD.val := by unfold oIxL; rw [e1]
  show (match oIxL (.val (.ref r)) (.val (.int i)) h with | some d => some d | none => none) = _
  rw [this]
  cases atI ds i <;> rfl
@[simp] theorem o_len : oLen (.val (.tup ds)) h = some (.val (.int ds.length)) := rfl
@[simp] theorem o_lenL : oLen (.tmp ds) h = some (.val (.int ds.length)) := rfl
@[simp] theorem o_tuple : oTuple (.val (.tup ds)) h = some (.val (.tup ds)) := rfl
@[simp] theorem o_tupleL : oTuple (.tmp ds) h = some (.val (.tup ds)) := rfl
@[simp] theorem o_rev : oRev (.val (.tup ds)) h = some (.val (.tup ds.reverse)) := rfl
@[simp] theorem o_slT (lo hi : Option Int) : oSl (.val (.tup ds)) lo hi h = some (.val (.tup (cutD ds lo hi))) := rfl
@[simp] theorem t_bl {k : Bool} : truth (.val (.bl k)) h = some k := rfl
@[simp] theorem t_int : truth (.val (.int i)) h = some (i != 0) := rfl
@[simp] theorem t_tup : truth (.val (.tup ds)) h = some (!ds.isEmpty) := rfl
@[simp] theorem o_not {k : Bool} : oNot (.val (.bl k)) h = some (.val (.bl (!k))) := rfl
@[simp] theorem o_is {k l : Bool} : oIs (.val (.bl k)) (.val (.bl l)) h = some (.val (.bl (k == l))) := by cases k <;> cases l <;> rfl
@[simp] theorem o_eqI : oEq (.val (.int i)) (.val (.int j)) h = some (.val (.bl (decide (i = j)))) := by
  show some (SD.val (.bl (PyData.eqv (.int i) (.int j)))) = _
  congr 3
@[simp] theorem o_neI : oNe (.val (.int i)) (.val (.int j)) h = some (.val (.bl (!decide (i = j)))) := by
  show some (SD.val (.bl (!PyData.eqv (.int i) (.int j)))) = _
  congr 4
end
end AM

namespace AM
open PySem PySem.Spec PyProof.Rows L2
/-! ### fractions -/
def fr (q : Rat) : D := .tup [.int q.num, .int q.den]
def small (q : Rat) : Prop := q.num.natAbs < 2 ^ 4000 ∧ q.den < 2 ^ 4000
theorem log2_lt {n a : Nat} (h : n < 2 ^ a) : n.log2 < a + 1 := by
  by_cases e : n = 0
  · subst e; simp
  · have := (Nat.log2_lt e).mpr h
    omega
theorem mulOk_of {i j : Int} {a b : Nat} (hi : i.natAbs < 2 ^ a) (hj : j.natAbs < 2 ^ b) (h : a + b + 2 ≤ 1000000) : mulOk i j = true := by
  have h1 := log2_lt hi
  have h2 := log2_lt hj
  unfold mulOk
  exact decide_eq_true (by omega)
theorem divOk_of {i j : Int} (h0 : j ≠ 0) (hj : j.natAbs < 2 ^ 8990) : divOk i j = true := by
  unfold divOk
  have h1 := log2_lt hj
  rw [PyProof.noPylong_of_log2 (by omega)]
  simp [h0]
theorem fdiv_exact {a b c : Int} (hb : b ≠ 0) (e : a = b * c) : a.fdiv b = c := by
  subst e
  exact Int.mul_fdiv_cancel_left c hb
/-- what reducing gives -/
theorem red_pos {n d : Int} (hd : 0 < d) : n.fdiv (Int.gcd n d) = (Rat.divInt n d).num ∧ d.fdiv (Int.gcd n d) = (Rat.divInt n d).den := by
  have hg : (Int.gcd n d : Int) ≠ 0 := by
    intro z
    have := Int.gcd_eq_zero_iff.mp (by exact_mod_cast z)
    omega
  obtain ⟨k, hk⟩ := Int.gcd_dvd_left n d
  obtain ⟨l, hl⟩ := Int.gcd_dvd_right n d
  have e1 := fdiv_exact hg hk
  have e2 := fdiv_exact hg hl
  have hgp : (0 : Int) < (Int.gcd n d : Int) := by omega
  have hlp : 0 < l := by
    rcases Int.lt_trichotomy l 0 with h | h | h
    · have := Int.mul_neg_of_pos_of_neg hgp h; omega
    · rw [h] at hl; omega
    · exact h
  rw [e1, e2, Rat.num_divInt, Rat.den_divInt]
  have hs : d.sign = 1 := Int.sign_eq_one_of_pos hd
  rw [hs, Int.one_mul, Int.gcd_comm d n, if_neg (by omega)]
  constructor
  · conv => rhs; lhs; rw [hk]
    exact (Int.mul_ediv_cancel_left k hg).symm
  · have : d.natAbs = Int.gcd n d * l.natAbs := by
      conv => lhs; rw [hl]
      rw [Int.natAbs_mul]; rfl
    rw [this, Nat.mul_div_cancel_left _ (by omega)]
    omega
theorem red_neg {n d : Int} (hd : d < 0) : n.fdiv (-(Int.gcd n d : Int)) = (Rat.divInt n d).num ∧ d.fdiv (-(Int.gcd n d : Int)) = (Rat.divInt n d).den := by
  have hg : (Int.gcd n d : Int) ≠ 0 := by
    intro z
    have := Int.gcd_eq_zero_iff.mp (by exact_mod_cast z)
    omega
  obtain ⟨k, hk⟩ := Int.gcd_dvd_left n d
  obtain ⟨l, hl⟩ := Int.gcd_dvd_right n d
  have e1 := fdiv_exact (a := n) (b := -(Int.gcd n d : Int)) (c := -k) (by omega) (by rw [Int.neg_mul_neg]; exact hk)
  have e2 := fdiv_exact (a := d) (b := -(Int.gcd n d : Int)) (c := -l) (by omega) (by rw [Int.neg_mul_neg]; exact hl)
  have hgp : (0 : Int) < (Int.gcd n d : Int) := by omega
  have hlp : l < 0 := by
    rcases Int.lt_trichotomy l 0 with h | h | h
    · exact h
    · rw [h] at hl; omega
    · have := Int.mul_pos hgp h; omega
  rw [e1, e2, Rat.num_divInt, Rat.den_divInt]
  have hs : d.sign = -1 := Int.sign_eq_neg_one_of_neg hd
  rw [hs, Int.gcd_comm d n, if_neg (by omega)]
  constructor
  · have : -1 * n = (Int.gcd n d : Int) * (-k) := by conv => lhs; rw [hk]
                                                     rw [Int.mul_neg, Int.neg_mul, Int.one_mul]
    rw [this]
    exact (Int.mul_ediv_cancel_left (-k) hg).symm
  · have : d.natAbs = Int.gcd n d * l.natAbs := by
      conv => lhs; rw [hl]
      rw [Int.natAbs_mul]; rfl
    rw [this, Nat.mul_div_cancel_left _ (by omega)]
    omega
theorem gcd_lt {n d : Int} {k : Nat} (h0 : d ≠ 0) (h : d.natAbs < k) : Int.gcd n d < k := by
  have : Int.gcd n d ≤ d.natAbs := Nat.le_of_dvd (by omega) (Int.gcd_dvd_natAbs_right n d)
  omega
/-! sizes by a common denominator -/
/-- q = n / M for a whole n, |n| ≤ N -/
def Bd (M N : Nat) (q : Rat) : Prop := 0 < M ∧ ∃ n : Int, q * (M : Rat) = (n : Rat) ∧ n.natAbs ≤ N
theorem num_eq (q : Rat) : (q.num : Rat) = q * (q.den : Rat) := by
  have hd : (q.den : Rat) ≠ 0 := by
    intro z
    have h0 := Rat.natCast_inj.mp (show (q.den : Rat) = ((0 : Nat) : Rat) by rw [z]; rfl)
    have := q.den_pos
    omega
  have e : q = (q.num : Rat) / ((q.den : Int) : Rat) := by rw [← Rat.divInt_eq_div, Rat.num_divInt_den]
  have e2 : ((q.den : Int) : Rat) = (q.den : Rat) := rfl
  rw [e2, Rat.div_def] at e
  have := Rat.inv_mul_cancel _ hd
  generalize (q.den : Rat) = D at *
  generalize (q.num : Rat) = N at *
  grind
theorem Bd.den {M N : Nat} {q : Rat} (h : Bd M N q) : q.den ∣ M ∧ q.num.natAbs ≤ N := by
  obtain ⟨hM, n, e, hn⟩ := h
  have hM' : (M : Rat) ≠ 0 := by
    intro z
    have : (M : Rat) = ((0 : Nat) : Rat) := by rw [z]; rfl
    have := Rat.natCast_inj.mp this
    omega
  have eq : q.num * M = n * q.den := by
    have h1 : (q.num : Rat) = q * (q.den : Rat) := num_eq q
    have h2 : ((q.num * (M : Int) : Int) : Rat) = ((n * (q.den : Int) : Int) : Rat) := by
      rw [Rat.intCast_mul, Rat.intCast_mul, h1]
      have h3 : ((M : Int) : Rat) = (M : Rat) := rfl
      have h4 : ((q.den : Int) : Rat) = (q.den : Rat) := rfl
      rw [h3, h4, ← e]
      grind
    exact Rat.intCast_inj.mp h2
  have hd : q.den ∣ M := by
    have h1 : (q.den : Int) ∣ q.num * M := ⟨n, by rw [eq, Int.mul_comm]⟩
    have h2 : q.den ∣ q.num.natAbs * M := by
      have := Int.natAbs_dvd_natAbs.mpr h1
      rw [Int.natAbs_mul] at this
      exact this
    exact Nat.Coprime.dvd_of_dvd_mul_left q.reduced.symm h2
  refine ⟨hd, ?_⟩
  obtain ⟨k, hk⟩ := hd
  have hk0 : 0 < k := by
    rcases Nat.eq_zero_or_pos k with z | z
    · rw [z] at hk; omega
    · exact z
  have h5 : q.num.natAbs * M = n.natAbs * q.den := by
    have := congrArg Int.natAbs eq
    rw [Int.natAbs_mul, Int.natAbs_mul] at this
    exact this
  have h6 : q.num.natAbs * k = n.natAbs := by
    rw [hk] at h5
    have hp := q.den_pos
    have : q.den * (q.num.natAbs * k) = q.den * n.natAbs := by
      rw [Nat.mul_comm q.den n.natAbs, ← h5]
      rw [Nat.mul_left_comm]
    exact Nat.eq_of_mul_eq_mul_left hp this
  have : q.num.natAbs ≤ q.num.natAbs * k := Nat.le_mul_of_pos_right _ hk0
  omega
theorem Bd.small {M N : Nat} {q : Rat} (h : Bd M N q) (hM : M < 2 ^ 4000) (hN : N < 2 ^ 4000) : small q := by
  obtain ⟨hd, hn⟩ := h.den
  have := Nat.le_of_dvd h.1 hd
  exact ⟨by omega, by omega⟩
theorem Bd.mono {M N N' : Nat} {q : Rat} (h : Bd M N q) (l : N ≤ N') : Bd M N' q := ⟨h.1, h.2.choose, h.2.choose_spec.1, Nat.le_trans h.2.choose_spec.2 l⟩
theorem Bd.up {M N : Nat} {q : Rat} (h : Bd M N q) {c : Nat} (hc : 0 < c) : Bd (M * c) (N * c) q := by
  obtain ⟨hM, n, e, hn⟩ := h
  refine ⟨Nat.mul_pos hM hc, n * c, ?_, ?_⟩
  · rw [Rat.natCast_mul, Rat.intCast_mul, ← Rat.mul_assoc, e]; rfl
  · rw [Int.natAbs_mul]
    exact Nat.mul_le_mul hn (by simp)
theorem Bd.add {M N N' : Nat} {p q : Rat} (h : Bd M N p) (h' : Bd M N' q) : Bd M (N + N') (p + q) := by
  obtain ⟨hM, n, e, hn⟩ := h
  obtain ⟨_, n', e', hn'⟩ := h'
  refine ⟨hM, n + n', ?_, ?_⟩
  · rw [Rat.add_mul, e, e', Rat.intCast_add]
  · have := Int.natAbs_add_le n n'
    omega
theorem Bd.mul {M N M' N' : Nat} {p q : Rat} (h : Bd M N p) (h' : Bd M' N' q) : Bd (M * M') (N * N') (p * q) := by
  obtain ⟨hM, n, e, hn⟩ := h
  obtain ⟨hM', n', e', hn'⟩ := h'
  refine ⟨Nat.mul_pos hM hM', n * n', ?_, ?_⟩
  · rw [Rat.natCast_mul, Rat.intCast_mul, ← e, ← e']; grind
  · rw [Int.natAbs_mul]
    exact Nat.mul_le_mul hn hn'
theorem Bd.neg {M N : Nat} {p : Rat} (h : Bd M N p) : Bd M N (-p) := by
  obtain ⟨hM, n, e, hn⟩ := h
  refine ⟨hM, -n, ?_, by omega⟩
  rw [Rat.neg_mul, e, Rat.intCast_neg]
theorem Bd.zero {M N : Nat} (hM : 0 < M) : Bd M N 0 := ⟨hM, 0, by rw [Rat.zero_mul]; rfl, by simp⟩
theorem Bd.int {M N : Nat} (hM : 0 < M) {i : Int} (h : i.natAbs * M ≤ N) : Bd M N (i : Rat) := ⟨hM, i * M, by rw [Rat.intCast_mul]; rfl, by rw [Int.natAbs_mul]; exact h⟩
theorem Bd.frac {M N : Nat} (hM : 0 < M) {n : Int} {d : Nat} (hd : d ∣ M) (h : n.natAbs * M ≤ N) : Bd M N (Rat.divInt n d) := by
  obtain ⟨c, rfl⟩ := hd
  have hd0 : d ≠ 0 := by
    rintro rfl; simp at hM
  have hdr : (d : Rat) ≠ 0 := by
    intro z
    have := Rat.natCast_inj.mp (show (d : Rat) = ((0 : Nat) : Rat) by rw [z]; rfl)
    omega
  refine ⟨hM, n * c, ?_, ?_⟩
  · rw [Rat.divInt_eq_div, Rat.natCast_mul, Rat.intCast_mul]
    have h3 : ((d : Int) : Rat) = (d : Rat) := rfl
    have h4 : ((c : Int) : Rat) = (c : Rat) := rfl
    rw [h3, h4, Rat.div_def]
    have := Rat.inv_mul_cancel _ hdr
    grind
  · rw [Int.natAbs_mul]
    refine Nat.le_trans ?_ h
    exact Nat.mul_le_mul_left _ (by simp; exact Nat.le_mul_of_pos_left _ (by omega))
end AM

namespace AM
open PySem PySem.Spec PyProof.Rows L2
/-! ### papers of numbers: lists of fractions -/
def cf (l : List Rat) (i : Nat) : Rat := l.getD i 0
@[simp] theorem cf_nil {i : Nat} : cf [] i = 0 := rfl
@[simp] theorem cf_zero {c : Rat} {l : List Rat} : cf (c :: l) 0 = c := rfl
@[simp] theorem cf_succ {c : Rat} {l : List Rat} {i : Nat} : cf (c :: l) (i + 1) = cf l i := rfl
def ev : List Rat → Rat → Rat
  | [], _ => 0
  | c :: l, x => c + x * ev l x
def trim : List Rat → List Rat
  | [] => []
  | c :: l => match trim l with
    | [] => if c = 0 then [] else [c]
    | d :: t => c :: d :: t
def padd : List Rat → List Rat → List Rat
  | [], g => g
  | f, [] => f
  | a :: f, b :: g => (a + b) :: padd f g
def psc (a : Rat) (g : List Rat) : List Rat := g.map fun b => a * b
def pmul : List Rat → List Rat → List Rat
  | [], _ => []
  | a :: f, g => padd (psc a g) (0 :: pmul f g)
def derA : Nat → List Rat → List Rat
  | _, [] => []
  | k, c :: l => ((k : Rat) * c) :: derA (k + 1) l
def der : List Rat → List Rat
  | [] => []
  | _ :: l => derA 1 l
theorem cf_trim : ∀ (l : List Rat) (i : Nat), cf (trim l) i = cf l i
  | [], _ => rfl
  | c :: l, i => by
    have ih := cf_trim l
    unfold trim
    split
    · rename_i e
      rw [e] at ih
      split
      · rename_i z
        cases i with
        | zero => simp [z]
        | succ i => simp [← ih i]
      · cases i with
        | zero => rfl
        | succ i => simp [← ih i]
    · rename_i d t e
      rw [e] at ih
      cases i with
      | zero => rfl
      | succ i => simp only [cf_succ]; exact ih i
theorem trim_zero : ∀ (l : List Rat), (∀ i, cf l i = 0) → trim l = []
  | [], _ => rfl
  | c :: l, h => by
    have ih := trim_zero l fun i => h (i + 1)
    have h0 : c = 0 := h 0
    unfold trim
    rw [ih]
    simp [h0]
theorem trim_ext : ∀ (l m : List Rat), (∀ i, cf l i = cf m i) → trim l = trim m
  | [], m, h => by rw [trim_zero m fun i => (h i).symm]; rfl
  | c :: l, [], h => trim_zero _ h
  | c :: l, d :: m, h => by
    have ih := trim_ext l m fun i => h (i + 1)
    have h0 : c = d := h 0
    unfold trim
    rw [ih, h0]
theorem ev_zero : ∀ (l : List Rat) (x : Rat), (∀ i, cf l i = 0) → ev l x = 0
  | [], _, _ => rfl
  | c :: l, x, h => by
    have h0 : c = 0 := h 0
    simp only [ev, ev_zero l x fun i => h (i + 1), h0]
    grind
theorem ev_ext : ∀ (l m : List Rat) (x : Rat), (∀ i, cf l i = cf m i) → ev l x = ev m x
  | [], m, x, h => (ev_zero m x fun i => (h i).symm).symm
  | c :: l, [], x, h => ev_zero _ x h
  | c :: l, d :: m, x, h => by
    have h0 : c = d := h 0
    simp only [ev, ev_ext l m x fun i => h (i + 1), h0]
theorem ev_trim (l : List Rat) (x : Rat) : ev (trim l) x = ev l x := ev_ext _ _ _ (cf_trim l)
theorem trim_idem (l : List Rat) : trim (trim l) = trim l := trim_ext _ _ (cf_trim l)
theorem trim_len : ∀ l : List Rat, (trim l).length ≤ l.length
  | [] => Nat.le_refl _
  | c :: l => by
    have ih := trim_len l
    unfold trim
    split
    · split <;> simp
    · rename_i d t e
      rw [e] at ih
      simp at ih ⊢
      omega
theorem trim_pre : ∀ l : List Rat, l.take (trim l).length = trim l
  | [] => rfl
  | c :: l => by
    have ih := trim_pre l
    unfold trim
    split
    · split <;> simp
    · rename_i d t e
      rw [e] at ih
      simp only [List.length_cons] at ih ⊢
      rw [List.take_succ_cons, ih]
theorem trim_mem {l : List Rat} {q : Rat} (h : q ∈ trim l) : q ∈ l := by
  rw [← trim_pre] at h
  exact List.mem_of_mem_take h
theorem trim_snoc_zero (l : List Rat) : trim (l ++ [0]) = trim l := trim_ext _ _ fun i => by
  unfold cf
  rw [List.getD_eq_getElem?_getD, List.getD_eq_getElem?_getD]
  by_cases h : i < l.length
  · rw [List.getElem?_append_left h]
  · rw [List.getElem?_append_right (by omega), List.getElem?_eq_none (l := l) (i := i) (by omega)]
    cases e : i - l.length with
    | zero => rfl
    | succ k => rfl
theorem trim_snoc {c : Rat} (hc : c ≠ 0) : ∀ l : List Rat, trim (l ++ [c]) = l ++ [c]
  | [] => by simp [trim, hc]
  | d :: l => by
    have ih := trim_snoc hc l
    show trim (d :: (l ++ [c])) = d :: (l ++ [c])
    unfold trim
    rw [ih]
    cases l <;> rfl
theorem trim_last {l : List Rat} {c : Rat} (h : (trim l).getLast? = some c) : c ≠ 0 := by
  intro z
  subst z
  obtain ⟨t, e⟩ := List.getLast?_eq_some_iff.mp h
  have h1 := trim_idem l
  rw [e, trim_snoc_zero] at h1
  have h2 := trim_len t
  rw [h1] at h2
  simp at h2
  omega
theorem cf_padd : ∀ (f g : List Rat) (i : Nat), cf (padd f g) i = cf f i + cf g i
  | [], g, i => by simp [padd, Rat.zero_add]
  | a :: f, [], i => by simp [padd, Rat.add_zero]
  | a :: f, b :: g, 0 => rfl
  | a :: f, b :: g, i + 1 => cf_padd f g i
theorem cf_psc (a : Rat) : ∀ (g : List Rat) (i : Nat), cf (psc a g) i = a * cf g i
  | [], i => by simp [psc, Rat.mul_zero]
  | b :: g, 0 => rfl
  | b :: g, i + 1 => cf_psc a g i
theorem ev_padd : ∀ (f g : List Rat) (x : Rat), ev (padd f g) x = ev f x + ev g x
  | [], g, x => by simp [padd, ev, Rat.zero_add]
  | a :: f, [], x => by simp [padd, ev, Rat.add_zero]
  | a :: f, b :: g, x => by simp only [padd, ev, ev_padd f g x]; grind
theorem ev_psc (a : Rat) : ∀ (g : List Rat) (x : Rat), ev (psc a g) x = a * ev g x
  | [], x => by simp [psc, ev, Rat.mul_zero]
  | b :: g, x => by
    have ih := ev_psc a g x
    simp only [psc, List.map_cons, ev] at ih ⊢
    rw [ih]; grind
theorem ev_pmul : ∀ (f g : List Rat) (x : Rat), ev (pmul f g) x = ev f x * ev g x
  | [], g, x => by simp [pmul, ev, Rat.zero_mul]
  | a :: f, g, x => by
    simp only [pmul, ev_padd, ev_psc, ev, ev_pmul f g x]; grind
theorem cf_pmul0 (a : Rat) (f g : List Rat) : cf (pmul (a :: f) g) 0 = a * cf g 0 := by
  simp only [pmul, cf_padd, cf_psc, cf_zero, Rat.add_zero]
theorem cf_pmulS (a : Rat) (f g : List Rat) (i : Nat) : cf (pmul (a :: f) g) (i + 1) = a * cf g (i + 1) + cf (pmul f g) i := by
  simp only [pmul, cf_padd, cf_psc, cf_succ]
theorem pmul_zeroL : ∀ (f g : List Rat), (∀ i, cf f i = 0) → ∀ i, cf (pmul f g) i = 0
  | [], g, _, _ => rfl
  | a :: f, g, h, 0 => by rw [cf_pmul0, show a = 0 from h 0, Rat.zero_mul]
  | a :: f, g, h, i + 1 => by rw [cf_pmulS, show a = 0 from h 0, Rat.zero_mul, pmul_zeroL f g (fun j => h (j + 1)) i, Rat.zero_add]
theorem pmul_congL : ∀ (f f' g : List Rat), (∀ i, cf f i = cf f' i) → ∀ i, cf (pmul f g) i = cf (pmul f' g) i
  | [], f', g, h, i => (pmul_zeroL f' g (fun j => (h j).symm) i).symm
  | a :: f, [], g, h, i => pmul_zeroL _ g h i
  | a :: f, b :: f', g, h, 0 => by rw [cf_pmul0, cf_pmul0, show a = b from h 0]
  | a :: f, b :: f', g, h, i + 1 => by rw [cf_pmulS, cf_pmulS, show a = b from h 0, pmul_congL f f' g (fun j => h (j + 1)) i]
theorem pmul_congR : ∀ (f g g' : List Rat), (∀ i, cf g i = cf g' i) → ∀ i, cf (pmul f g) i = cf (pmul f g') i
  | [], g, g', h, i => rfl
  | a :: f, g, g', h, 0 => by rw [cf_pmul0, cf_pmul0, h 0]
  | a :: f, g, g', h, i + 1 => by rw [cf_pmulS, cf_pmulS, h (i + 1), pmul_congR f g g' h i]
theorem pmul_nilR : ∀ (f : List Rat) (i : Nat), cf (pmul f []) i = 0
  | [], i => rfl
  | a :: f, 0 => by rw [cf_pmul0]; simp [Rat.mul_zero]
  | a :: f, i + 1 => by rw [cf_pmulS, pmul_nilR f i]; simp [Rat.mul_zero, Rat.add_zero]
theorem cf_derA : ∀ (l : List Rat) (k i : Nat), cf (derA k l) i = ((k + i : Nat) : Rat) * cf l i
  | [], k, i => by simp [derA, Rat.mul_zero]
  | c :: l, k, 0 => rfl
  | c :: l, k, i + 1 => by
    simp only [derA, cf_succ]
    rw [cf_derA l (k + 1) i, show k + 1 + i = k + (i + 1) by omega]
theorem cf_der (l : List Rat) (i : Nat) : cf (der l) i = ((i + 1 : Nat) : Rat) * cf l (i + 1) := by
  cases l with
  | nil => simp [der, Rat.mul_zero]
  | cons c l =>
    simp only [der, cf_succ]
    rw [cf_derA, Nat.add_comm]
theorem leib0 (g : List Rat) : ∀ (f : List Rat) (k i : Nat), cf (pmul (derA k f) g) (i + 1) + cf (pmul f (der g)) i = ((k + (i + 1) : Nat) : Rat) * cf (pmul f g) (i + 1) ∧ cf (pmul (derA k f) g) 0 = (k : Rat) * cf (pmul f g) 0
  | [], k, i => by simp [derA, pmul, Rat.mul_zero, Rat.add_zero]
  | a :: f, k, i => by
    refine ⟨?_, ?_⟩
    · simp only [derA]
      cases i with
      | zero =>
        rw [cf_pmulS, cf_pmul0, cf_pmulS, (leib0 g f (k + 1) 0).2, cf_der]
        simp only [Rat.natCast_add]
        grind
      | succ i =>
        have ih := (leib0 g f (k + 1) i).1
        rw [cf_pmulS, cf_pmulS, cf_pmulS, cf_der]
        simp only [Rat.natCast_add] at ih ⊢
        grind
    · simp only [derA]
      rw [cf_pmul0, cf_pmul0]
      grind
theorem leib (f g : List Rat) (i : Nat) : cf (der (pmul f g)) i = cf (padd (pmul (der f) g) (pmul f (der g))) i := by
  rw [cf_der, cf_padd]
  have := (leib0 g f 0 i).1
  rw [Nat.zero_add] at this
  rw [← this]
  cases f with
  | nil => rfl
  | cons a f =>
    simp only [derA, der]
    rw [cf_pmulS]
    have z : ((0 : Nat) : Rat) * a * cf g (i + 1) = 0 := by
      rw [show ((0 : Nat) : Rat) = 0 from rfl, Rat.zero_mul, Rat.zero_mul]
    rw [z, Rat.zero_add]
/-! sizes of a list -/
def BdL (M N : Nat) (l : List Rat) : Prop := ∀ i, Bd M N (cf l i)
theorem cf_mem {l : List Rat} {c : Rat} (h : c ∈ l) : ∃ i, i < l.length ∧ cf l i = c := by
  obtain ⟨i, hi, e⟩ := List.mem_iff_getElem.mp h
  refine ⟨i, hi, ?_⟩
  unfold cf
  rw [List.getD_eq_getElem?_getD, List.getElem?_eq_getElem hi, e]; rfl
theorem mem_cf {l : List Rat} {i : Nat} (h : i < l.length) : cf l i ∈ l := by
  unfold cf
  rw [List.getD_eq_getElem?_getD, List.getElem?_eq_getElem h]
  exact List.getElem_mem h
theorem cf_out {l : List Rat} {i : Nat} (h : l.length ≤ i) : cf l i = 0 := by
  unfold cf
  rw [List.getD_eq_getElem?_getD, List.getElem?_eq_none h]; rfl
section
variable {M N M' N' : Nat} {l f g : List Rat}
theorem BdL.pos (h : BdL M N l) : 0 < M := (h 0).1
theorem BdL.mem (h : BdL M N l) : ∀ c ∈ l, Bd M N c := fun c hc => by
  obtain ⟨i, _, e⟩ := cf_mem hc
  exact e ▸ h i
theorem BdL.of (hM : 0 < M) (h : ∀ c ∈ l, Bd M N c) : BdL M N l := fun i => by
  by_cases hi : i < l.length
  · exact h _ (mem_cf hi)
  · rw [cf_out (by omega)]; exact Bd.zero hM
theorem BdL.trim (h : BdL M N l) : BdL M N (trim l) := fun i => by rw [cf_trim]; exact h i
theorem BdL.mono (h : BdL M N l) (hl : N ≤ N') : BdL M N' l := fun i => (h i).mono hl
theorem BdL.up (h : BdL M N l) {c : Nat} (hc : 0 < c) : BdL (M * c) (N * c) l := fun i => (h i).up hc
theorem BdL.padd (h : BdL M N f) (h' : BdL M N' g) : BdL M (N + N') (padd f g) := fun i => by rw [cf_padd]; exact (h i).add (h' i)
theorem BdL.pmul : ∀ {f : List Rat}, BdL M N f → BdL M' N' g → BdL (M * M') (f.length * (N * N')) (pmul f g)
  | [], h, h' => fun i => Bd.zero (Nat.mul_pos h.pos h'.pos)
  | a :: f, h, h' => fun i => by
    have ih := BdL.pmul (f := f) (fun j => h (j + 1)) h'
    have e : (a :: f).length * (N * N') = N * N' + f.length * (N * N') := by rw [List.length_cons, Nat.succ_mul, Nat.add_comm]
    rw [e]
    have h0 : Bd M N a := h 0
    cases i with
    | zero => rw [cf_pmul0]; exact (h0.mul (h' 0)).mono (Nat.le_add_right _ _)
    | succ i => rw [cf_pmulS]; exact (h0.mul (h' (i + 1))).add (ih i)
theorem BdL.small (h : BdL M N l) (hM : M < 2 ^ 4000) (hN : N < 2 ^ 4000) : ∀ c ∈ l, small c := fun c hc => (h.mem c hc).small hM hN
end
theorem padd_len : ∀ f g : List Rat, (padd f g).length = max f.length g.length
  | [], g => by simp [padd]
  | a :: f, [] => by simp [padd]
  | a :: f, b :: g => by simp only [padd, List.length_cons, padd_len f g]; omega
theorem pmul_len : ∀ f g : List Rat, (pmul f g).length ≤ f.length + g.length
  | [], g => by simp [pmul]
  | a :: f, g => by
    have := pmul_len f g
    simp only [pmul, padd_len, List.length_cons, psc, List.length_map]; omega
theorem pmul_trim_len {f g : List Rat} : (trim (pmul f g)).length ≤ f.length + g.length - 1 := by
  rcases Nat.lt_or_ge (f.length + g.length - 1) (trim (pmul f g)).length with h | h
  · exfalso
    have hl := trim_len (pmul f g)
    have hp := pmul_len f g
    have e : (trim (pmul f g)).length = f.length + g.length := by omega
    have hne : trim (pmul f g) ≠ [] := by
      intro z; rw [z] at h; simp at h
    obtain ⟨c, hc⟩ : ∃ c, (trim (pmul f g)).getLast? = some c := ⟨_, List.getLast?_eq_some_getLast hne⟩
    have hcz := trim_last hc
    have : cf (trim (pmul f g)) (f.length + g.length - 1) = c := by
      unfold cf
      rw [List.getD_eq_getElem?_getD, ← e, ← List.getLast?_eq_getElem?, hc]; rfl
    rw [cf_trim] at this
    have hz : ∀ (f g : List Rat) (i : Nat), f.length + g.length ≤ i + 1 → cf (pmul f g) i = 0 := by
      intro f
      induction f with
      | nil => intros; rfl
      | cons a f ih =>
        intro g i hi
        simp only [List.length_cons] at hi
        cases i with
        | zero =>
          rw [cf_pmul0, cf_out (by omega), Rat.mul_zero]
        | succ i =>
          rw [cf_pmulS, cf_out (by omega), ih g i (by omega), Rat.mul_zero, Rat.add_zero]
    rw [hz f g _ (by omega)] at this
    exact hcz this.symm
  · exact h
/-! Horner -/
def hor (acc : Rat) (cs : List Rat) (x : Rat) : Rat := cs.foldl (fun a c => a * x + c) acc
theorem hor_rev (x : Rat) : ∀ l : List Rat, hor 0 l.reverse x = ev l x
  | [] => rfl
  | c :: l => by
    have ih := hor_rev x l
    unfold hor at ih ⊢
    rw [List.reverse_cons, List.foldl_append, ih]
    simp only [List.foldl_cons, List.foldl_nil, ev]
    grind
def horOk (x : Rat) : Rat → List Rat → Prop
  | acc, [] => small acc
  | acc, c :: cs => small acc ∧ small c ∧ small (acc * x) ∧ horOk x (acc * x + c) cs
theorem hor_ok {M N Xd Yd : Nat} {x : Rat} (hx : Bd Xd Yd x) (hXY : Xd ≤ Yd) : ∀ (cs : List Rat) (i : Nat) (acc : Rat), (∀ c ∈ cs, Bd M N c) → Bd (M * Xd ^ i) (i * N * Yd ^ i) acc → M * Xd ^ (i + cs.length) < 2 ^ 4000 → M < 2 ^ 4000 → N < 2 ^ 4000 →
      (i + cs.length) * N * Yd ^ (i + cs.length) < 2 ^ 4000 → horOk x acc cs ∧ Bd (M * Xd ^ (i + cs.length)) ((i + cs.length) * N * Yd ^ (i + cs.length)) (hor acc cs x)
  | [], i, acc, _, ha, h1, _, _, h2 => ⟨ha.small h1 h2, ha⟩
  | c :: cs, i, acc, hc, ha, h1, hM, hN, h2 => by
    have hX := hx.1
    have hY : 0 < Yd := by omega
    have hb : Bd (M * Xd ^ (i + 1)) (i * N * Yd ^ (i + 1)) (acc * x) := by
      have := ha.mul hx
      rw [Nat.mul_assoc, ← Nat.pow_succ, Nat.mul_assoc, ← Nat.pow_succ] at this
      exact this
    have hcc : Bd (M * Xd ^ (i + 1)) (N * Yd ^ (i + 1)) c :=
      ((hc c (List.mem_cons_self)).up (Nat.pow_pos hX)).mono (Nat.mul_le_mul_left _ (Nat.pow_le_pow_left hXY _))
    have hn : Bd (M * Xd ^ (i + 1)) ((i + 1) * N * Yd ^ (i + 1)) (acc * x + c) := by
      refine (hb.add hcc).mono ?_
      rw [Nat.succ_mul i N, Nat.add_mul]
      exact Nat.le_refl _
    have e1 : i + (c :: cs).length = (i + 1) + cs.length := by simp; omega
    rw [e1] at h1 h2 ⊢
    have ih := hor_ok hx hXY cs (i + 1) (acc * x + c) (fun d hd => hc d (List.mem_cons_of_mem _ hd)) hn h1 hM hN h2
    have p1 : ∀ j, j ≤ i + 1 + cs.length → M * Xd ^ j < 2 ^ 4000 := fun j hj => Nat.lt_of_le_of_lt (Nat.mul_le_mul_left _ (Nat.pow_le_pow_right hX hj)) h1
    have p2 : ∀ a j, a ≤ i + 1 + cs.length → j ≤ i + 1 + cs.length → a * N * Yd ^ j < 2 ^ 4000 := fun a j haa hj => Nat.lt_of_le_of_lt (Nat.mul_le_mul (Nat.mul_le_mul_right _ haa) (Nat.pow_le_pow_right hY hj)) h2
    exact ⟨⟨ha.small (p1 i (by omega)) (p2 i i (by omega) (by omega)), (hc c (List.mem_cons_self)).small hM hN, hb.small (p1 (i + 1) (by omega)) (p2 i (i + 1) (by omega) (by omega)), ih.1⟩, ih.2⟩
end AM

namespace AM
open PySem PySem.Spec PyProof.Rows L2
/-! ### loops, turn by turn -/
section
variable {its : Its} {bd : MB} {tt : MT} {el : MX} {body : MS} {ρ ρ1 ρ2 : Env'} {h h1 h2 : MH} {d v : D} {ds acc : List D} {x : SD}
theorem live_nil : live ⟨ds, []⟩ h := fun p hp => by cases hp
theorem live_one {r : Nat} (e : h[r]? = some (.lst ds)) : live ⟨acc, [(r, ds)]⟩ h := fun p hp => by
  simp only [List.mem_singleton] at hp
  subst hp
  exact e
theorem floop_nil (lv : live its h) : floop its bd body [] ρ h = .next ρ h := if_pos lv
theorem floop_next (lv : live its h) (eb : bd d ρ = some ρ1) (em : body ρ1 h = .next ρ2 h2) : floop its bd body (d :: ds) ρ h = floop its bd body ds ρ2 h2 := by
  simp only [floop]; rw [if_pos lv, eb]; simp only; rw [em]
theorem floop_cont (lv : live its h) (eb : bd d ρ = some ρ1) (em : body ρ1 h = .cont ρ2 h2) : floop its bd body (d :: ds) ρ h = floop its bd body ds ρ2 h2 := by
  simp only [floop]; rw [if_pos lv, eb]; simp only; rw [em]
theorem floop_ret (lv : live its h) (eb : bd d ρ = some ρ1) (em : body ρ1 h = .ret v h2) : floop its bd body (d :: ds) ρ h = .ret v h2 := by
  simp only [floop]; rw [if_pos lv, eb]; simp only; rw [em]
theorem floop_brk (lv : live its h) (eb : bd d ρ = some ρ1) (em : body ρ1 h = .brk ρ2 h2) : floop its bd body (d :: ds) ρ h = .next ρ2 h2 := by
  simp only [floop]; rw [if_pos lv, eb]; simp only; rw [em]
theorem cloop_nil (lv : live its h) : cloop its bd tt el ρ [] acc h = .ok (.tmp acc) h := if_pos lv
theorem cloop_yes (lv : live its h) (eb : bd d ρ = some ρ1) (et : tt ρ1 h = .ok true h1) (ee : el ρ1 h1 = .ok x h2) (hl : acc.length < sizeLine) : cloop its bd tt el ρ (d :: ds) acc h = cloop its bd tt el ρ ds (acc ++ [holdD x h2]) (holdH x h2) := by
  simp only [cloop]; rw [if_pos lv, eb]; simp only; rw [et]; simp only; rw [ee]; simp only; rw [if_pos hl]
theorem cloop_no (lv : live its h) (eb : bd d ρ = some ρ1) (et : tt ρ1 h = .ok false h1) : cloop its bd tt el ρ (d :: ds) acc h = cloop its bd tt el ρ ds acc h1 := by
  simp only [cloop]; rw [if_pos lv, eb]; simp only; rw [et]
theorem cloop_map {F : D → D} (lv : live its h) : ∀ (ds acc : List D), (∀ d ∈ ds, ∃ ρ1, bd d ρ = some ρ1 ∧ el ρ1 h = .ok (.val (F d)) h) → acc.length + ds.length ≤ sizeLine → cloop its bd tYesM el ρ ds acc h = .ok (.tmp (acc ++ ds.map F)) h
  | [], acc, _, _ => by rw [cloop_nil lv, List.map_nil, List.append_nil]
  | d :: ds, acc, hd, hl => by
    obtain ⟨ρ1, eb, ee⟩ := hd d (List.mem_cons_self)
    rw [List.length_cons] at hl
    rw [cloop_yes lv eb rfl ee (by omega)]
    show cloop its bd tYesM el ρ ds (acc ++ [F d]) h = _
    rw [cloop_map lv ds _ (fun e he => hd e (List.mem_cons_of_mem _ he)) (by simp; omega)]
    simp
end
@[simp] theorem e_lc {own : List Nat} {mi : MI} {bd : MB} {tt : MT} {el : MX} {ρ : Env'} {h : MH} : xLc own mi bd tt el ρ h = (mi ρ h).bind fun its h1 => cloop its bd tt el (wipeD ρ own) its.ds [] h1 := rfl
@[simp] theorem e_for {mi : MI} {bd : MB} {m : MS} {ρ : Env'} {h : MH} : sFor mi bd m ρ h = sBind (mi ρ h) ρ fun its h1 => floop its bd m its.ds ρ h1 := rfl
@[simp] theorem e_iseq {m : MX} {ρ : Env'} {h : MH} : iSeq m ρ h = (m ρ h).bind fun x h1 => (match itsOf x h1 with | some its => .ok its h1 | none => .fail) := rfl
@[simp] theorem e_ienum {m : MX} {ρ : Env'} {h : MH} : iEnumM m ρ h = (m ρ h).bind fun x h1 => (match itsOf x h1 with | some its => .ok ⟨enD 0 its.ds, its.on⟩ h1 | none => .fail) := rfl
@[simp] theorem e_izip {a b : MX} {ρ : Env'} {h : MH} : iZipM a b ρ h = (a ρ h).bind fun x h1 => (b ρ h1).bind fun y h2 => (match itsOf x h2, itsOf y h2 with
  | some i1, some i2 => if isTupS x = isTupS y then .ok ⟨zipD i1.ds i2.ds, i1.on ++ i2.on⟩ h2 else .fail
  | _, _ => .fail) := rfl
@[simp] theorem e_rg1 {m : MX} {ρ : Env'} {h : MH} : iRange1 m ρ h = (m ρ h).bind fun x h1 => (match x with
  | .val (.int n) => if n.natAbs < 2 ^ 62 then .ok ⟨rgD 0 1 n.toNat, []⟩ h1 else .fail
  | _ => .fail) := rfl
@[simp] theorem e_rg2 {a b : MX} {ρ : Env'} {h : MH} : iRange2 a b ρ h = (a ρ h).bind fun x h1 => (b ρ h1).bind fun y h2 => (match x, y with
  | .val (.int i), .val (.int j) => if i.natAbs < 2 ^ 62 ∧ j.natAbs < 2 ^ 62 then .ok ⟨rgD i 1 (j - i).toNat, []⟩ h2 else .fail
  | _, _ => .fail) := rfl
@[simp] theorem its_tup {ds : List D} {h : MH} : itsOf (.val (.tup ds)) h = some ⟨ds, []⟩ := rfl
@[simp] theorem its_tmp {ds : List D} {h : MH} : itsOf (.tmp ds) h = some ⟨ds, []⟩ := rfl
theorem its_ref {ds : List D} {h : MH} {r : Nat} (e : h[r]? = some (.lst ds)) : itsOf (.val (.ref r)) h = some ⟨ds, [(r, ds)]⟩ := by simp only [itsOf, e]
@[simp] theorem wipe_nil {ρ : Env'} : wipeD ρ [] = ρ := rfl
@[simp] theorem wipe_cons {ρ : Env'} {v : Nat} {vs : List Nat} : wipeD ρ (v :: vs) = (wipeD ρ vs).set v none := rfl
/-- the frame's own list, and nothing else, is left behind -/
theorem gc_one {h h' : MH} {mo : MO} (e : h'.length = h.length) : gc h (.ref h.length) (h' ++ [mo]) = (.ref h.length, h' ++ [mo]) := by
  unfold gc
  rw [if_neg (by simp; omega)]
  split
  · rw [if_neg (by simp [D.bel])]
    have e1 : (h' ++ [mo])[h.length]? = some mo := by rw [← e]; simp
    simp only [e1]
    split
    · rw [← e]; simp
    · rfl
  · rfl
theorem ixN_nat {n k : Nat} (h : k < n) : ixN n (k : Int) = some k := by
  unfold ixN
  rw [if_pos (by omega), if_pos (by omega)]
  simp
theorem atI_nat {α : Type} {xs : List α} {k : Nat} {x : α} (h : xs[k]? = some x) : atI xs (k : Int) = some x := by
  unfold atI
  have := (List.getElem?_eq_some_iff.mp h).1
  rw [ixN_nat this]
  exact h
theorem atI_last {α : Type} {xs : List α} {x : α} (h : xs.getLast? = some x) : atI xs (-1) = some x := by
  obtain ⟨t, rfl⟩ := List.getLast?_eq_some_iff.mp h
  unfold atI ixN
  rw [if_neg (by decide)]
  have : -((t ++ [x]).length : Int) ≤ -1 := by simp; omega
  simp only [this, if_true, Option.bind_some]
  have e : ((-1 : Int) + ((t ++ [x]).length : Int)).toNat = t.length := by simp; omega
  rw [e]; simp
theorem rgD_map (lo : Int) (n : Nat) : rgD lo 1 n = (List.range n).map fun (k : Nat) => D.int (lo + k) := by
  unfold rgD
  exact List.map_congr_left fun k _ => by rw [Int.mul_one]
end AM

namespace AM
open PySem PySem.Spec PyProof.Rows L2

/-! ### a module's constants, looked up -/
mutual
def cB (K : PySem.W.Frag) : D → Value → Bool
  | .non, .none => true
  | .bl b, .bool c => b == c
  | .int i, .int j _ => decide (i = j)
  | .str x, .str y _ => decide (x = y)
  | .ty n, .type m => decide (n = m)
  | .tup ds, .ref T => (match K.lookup T with
    | some ⟨.type c, _, .seq its _, _⟩ => decide (c = "tuple") && (decide (its.size ≤ sizeLine) && cBL K ds its.toList)
    | _ => false)
  | _, _ => false
def cBL (K : PySem.W.Frag) : List D → List Value → Bool
  | [], [] => true
  | d :: ds, u :: us => cB K d u && cBL K ds us
  | _, _ => false
end
mutual
theorem cB_ok {K : PySem.W.Frag} : ∀ (d : D) (u : Value), cB K d u = true → ∃ v, RelV v u ∧ ∀ H ι n, Rep K H ι n d v
  | .non, .none, _ => ⟨.non, rfl, fun _ _ _ => rp_non⟩
  | .bl b, .bool c, e => by
    simp only [cB, beq_iff_eq] at e
    subst e
    exact ⟨.bl b, rfl, fun _ _ _ => rp_bl⟩
  | .int i, .int j t, e => by
    simp only [cB, decide_eq_true_eq] at e
    subst e
    exact ⟨.int i, ⟨t, rfl⟩, fun _ _ _ => rp_int⟩
  | .str i, .str j t, e => by
    simp only [cB, decide_eq_true_eq] at e
    subst e
    exact ⟨.str i, ⟨t, rfl⟩, fun _ _ _ => rp_str⟩
  | .ty i, .type j, e => by
    simp only [cB, decide_eq_true_eq] at e
    subst e
    exact ⟨.ty i, rfl, fun _ _ _ => by simp only [Rep]⟩
  | .tup ds, .ref T, e => by
    simp only [cB] at e
    split at e
    · rename_i c od its n sl lk
      simp only [Bool.and_eq_true, decide_eq_true_eq] at e
      obtain ⟨rfl, hz, e⟩ := e
      obtain ⟨vs, r, q⟩ := cBL_ok ds its.toList e
      refine ⟨.ref T, rfl, fun H ι n' => ?_⟩
      simp only [Rep]
      exact ⟨T, vs, rfl, .inr ⟨_, its, n, lk, rfl, rfl, hz, r⟩, q H ι n'⟩
    · cases e
theorem cBL_ok {K : PySem.W.Frag} : ∀ (ds : List D) (us : List Value), cBL K ds us = true → ∃ vs, Vals vs us ∧ ∀ H ι n, RepL K H ι n ds vs
  | [], [], _ => ⟨[], .nil, fun _ _ _ => by simp only [RepL]⟩
  | d :: ds, u :: us, e => by
    simp only [cBL, Bool.and_eq_true] at e
    obtain ⟨v, r, q⟩ := cB_ok d u e.1
    obtain ⟨vs, rs, qs⟩ := cBL_ok ds us e.2
    exact ⟨v :: vs, .cons r rs, fun H ι n => by simp only [RepL]; exact ⟨v, vs, rfl, q H ι n, qs H ι n⟩⟩
end
def cG (K : PySem.W.Frag) (c : Str × D) : Bool := match PySem.W.nsIn K mainGlobals c.1 with
  | some (some u) => cB K c.2 u
  | _ => false
abbrev AlC : Type := Bool × He.AlD
def obsC (cs : List (Str × D)) (fa : List He.Fa) (fn : List He.DefD) (K : PySem.W.Frag) : AlC := (cs.all (cG K), He.obsD fa fn K)
def SaysC (cs : List (Str × D)) (fa : List He.Fa) (fn : List He.DefD) (K : PySem.W.Frag) : Prop := obsC cs fa fn K = (true, He.valD fn)
def obsCG (n : Nat) (cs : List (Str × D)) (fa : List He.Fa) (fn : List He.DefD) (g : Addr → Option Obj) : AlC := obsC cs fa fn (He.frG g (He.asD g n))
def hookC (n : Nat) (cs : List (Str × D)) (fa : List He.Fa) (fn : List He.DefD) : PySem.W.Hook where
  α := AlC
  obs := fun s => obsCG n cs fa fn s.heap.get?
  val := fun _ => (true, He.valD fn)
  says := fun _ h => ∃ K : PySem.W.Frag, K.In h ∧ SaysC cs fa fn K
  of := fun _ _ e => ⟨_, He.frG_in, e⟩
  keeps := fun _ _ _ ⟨K, hK, c⟩ k => ⟨K, PySem.W.Frag.In.keeps hK k, c⟩
theorem obsCG_eq {n : Nat} {cs : List (Str × D)} {fa : List He.Fa} {fn : List He.DefD} {g : Addr → Option Obj} {s : Shared} (h : ∀ a, g a = s.heap.get? a) : obsCG n cs fa fn g = (hookC n cs fa fn).obs s := by
  obtain rfl : g = s.heap.get? := funext h
  rfl
section
variable {cs : List (Str × D)} {fa : List He.Fa} {fn : List He.DefD} {K : PySem.W.Frag}
theorem SaysC.says (c : SaysC cs fa fn K) : He.SaysD fa fn K := congrArg (fun z : AlC => z.2) c
theorem SaysC.const (c : SaysC cs fa fn K) {h : Heap} {mg : Str → Option Value} (X : K.In h) (G : h.Ns mainGlobals mg) (i : Nat) {x : Str} {d : D} (e : cs[i]? = some (x, d)) : GC K mg x d := by
  have c1 : cs.all (cG K) = true := congrArg (fun z : AlC => z.1) c
  have c2 := List.all_eq_true.mp c1 _ (List.mem_of_getElem? e)
  unfold cG at c2
  split at c2
  · rename_i u eu
    obtain ⟨v, r, q⟩ := cB_ok d u c2
    exact ⟨v, u, PySem.W.mg_of X G eu, r, q⟩
  · cases c2
end
/-! ### a def that is out of breath, a def's own data -/
section
variable {P : Program} {w : World} {K : PySem.W.Frag} {mg : Str → Option Value} {base : Heap} {x qual : Str} {params : Arguments} {body : List Stmt} {scope : Scope} {f : Addr} {fd : FuncData} {ps : List Str} {k : Nat} {mf : MF}
theorem fm_fail (F : FunD K x qual params body scope [] [] f fd) (hm : mg x = some (.ref f)) (hb : Binds K fd ps []) : FM P w K mg base k x ps (fun _ _ => .fail) :=
  ⟨f, fd, hm, F.kp, hb, fun vs H Q E ⟨_, _, _, _, _, p⟩ => p.elim, fun A outer s H args us vs Q E _ _ _ _ ⟨_, _, _, _, _, p⟩ => p.elim⟩
end
/-! ### the end -/
def LawHolds (m : MF) (ns : List Int) : Prop := ∃ h', m [.ref 0] [.ro (ns.map D.int)] = .ok (.bl true) h'
theorem repl_ints {K : PySem.W.Frag} {H : Hp} {ι : Nat → Addr} {n : Nat} : ∀ ns : List Int, RepL K H ι n (ns.map D.int) (ns.map V.int)
  | [] => by simp only [List.map_nil, RepL]
  | i :: ns => by simp only [List.map_cons, RepL]; exact ⟨_, _, rfl, rp_int, repl_ints ns⟩
theorem law_sp {K : PySem.W.Frag} {mg : Str → Option Value} {m : MF} {ns : List Int} {H : Hp} {a : Addr} (hl : LawHolds m ns) (hO : Only H) (hS : SqL K H a (ns.map V.int)) : spM K mg m [.ref a] H (fun v _ => v = .bl true) fun _ _ _ => False := by
  obtain ⟨h', e⟩ := hl
  refine ⟨[.ref 0], [.ro (ns.map D.int)], fun _ => a, ⟨fun i mo ei => ?_, fun i j mo mo' ei ej k => ?_⟩, ?_, ?_⟩
  · have hi := some_lt ei
    simp only [List.length_singleton] at hi
    obtain rfl : i = 0 := by omega
    cases ei
    refine ⟨_, ?_, repl_ints ns⟩
    rcases hS with hS | hS
    · rcases hO a with z | ⟨o, xs, z⟩
      · rcases hS with hS | ⟨q, hS⟩ <;> rw [z] at hS <;> cases hS
      · rcases hS with hS | ⟨q, hS⟩
        · rw [z] at hS; cases hS
        · exact .inl ⟨q, hS⟩
    · exact .inr hS
  · have hi := some_lt ei
    simp only [List.length_singleton] at hi
    obtain rfl : i = 0 := by omega
    cases ei
    cases k
  · simp only [RepL, Rep]
    exact ⟨_, _, rfl, ⟨by simp, rfl⟩, rfl⟩
  · rw [e]
    intro v H' ι' _ _ r
    simp only [rV, Rep] at r
    exact r
/-- a law of a list of at most n whole numbers; what its def may let out depends on the world -/
theorem walk_ofM {l : PySem.W.OpenLaw} {n k : Nat} {q : Program} {loose : List Str} {XP : (Str → Option Value) → Heap → Prop} {YP : World → Heap → Prop} {d : DefRec} {m : MF}
    (hn : l.most = some n) (hn2 : n ≤ sizeLine) (hdf : d.params.defaults = []) (hr : Room k callerA) (law : ∀ ns : List Int, ns.length ≤ n → LawHolds m ns)
    (F : ∀ w mg fa h, YP w h → h.Ns mainGlobals mg → mg d.name = some (.ref fa) → ∃ K : PySem.W.Frag, K.In h ∧ ∃ fd : FuncData, (∀ s v, BindsTo s fd ⟨[v], []⟩ [("script", v)]) ∧ ∀ base, FnOk l.prog w K mg base (L2.CX l.prog w) k fa fd ["script"] (spM K mg m)) :
    PySem.W.WalkO q loose XP YP l.row.toRowW d [] (fun f vs => PySem.call f vs) :=
  Att.attach_call hn hdf fun w _ s₁ mg _ fa _ _ _ _ a _ ns G Y _ _ _ hmg hobj hints hlen hg => by
    obtain ⟨K, KX, fd, hb, hF⟩ := F w mg fa _ Y G.T.g hmg
    refine law_call KX G.T.g G.T.b G.T.builtins G.T.nolimit hg hobj hints (Nat.le_trans hlen hn2) hr (fun base _ _ => hF base) hb (fun H hO hS => law_sp (law ns hlen) hO hS) fun H e s' z => ?_
    obtain ⟨_, _, _, _, _, _, _, _, _, _, _, _, z⟩ := z
    exact z
end AM

namespace AM.k02
open PySem PySem.Spec PyProof.Rows L2 AM

abbrev c_NOUGHT : D := .tup [.int 0, .int 1]
noncomputable def m_is_integer : MF := mFn 1 1 (sRet (xAnd (xOp oIsi (xVar 0) (xC (.ty "int"))) (xUn oNot (xOp oIsi (xVar 0) (xC (.ty "bool"))))))
noncomputable def m_is_count : MF := mFn 2 2 (sRet (xAnd (xCall m_is_integer (aCons (xVar 0) (aNil))) (xOp oGe (xVar 0) (xVar 1))))
noncomputable def m_is_items : MF := mFn 2 2 (sRet (xAnd (xOp oIsi (xVar 0) (xC (.ty "tuple"))) (xOp oEq (xUn oLen (xVar 0)) (xVar 1))))
noncomputable def m_greatest_divisor : MF := mFn 2 2 (sSeq (sPar 0 1 (aCons (xUn oAbs (xVar 0)) (aCons (xUn oAbs (xVar 1)) (aNil)))) (sSeq (sWhile (tTru (xVar 1)) (sPar 0 1 (aCons (xVar 1) (aCons (xOp oMod (xVar 0) (xVar 1)) (aNil))))) (sRet (xVar 0))))
noncomputable def m_fraction : MF := mFn 3 2 (sSeq (sSet 2 (xCall m_greatest_divisor (aCons (xVar 0) (aCons (xVar 1) (aNil))))) (sSeq (sIf (asB (xOp oLt (xVar 1) (xC (.int 0)))) (sSet 2 (xUn oNeg (xVar 2))) (sNext)) (sRet (xTup (aCons (xOp oFDiv (xVar 0) (xVar 2)) (aCons (xOp oFDiv (xVar 1) (xVar 2)) (aNil)))))))
noncomputable def m_whole : MF := mFn 1 1 (sRet (xTup (aCons (xVar 0) (aCons (xC (.int 1)) (aNil)))))
noncomputable def m_plus : MF := mFn 2 2 (sSeq (sIf (tAndM (asB (xOp oEq (xOp oIx (xVar 0) (xC (.int 1))) (xC (.int 1)))) (asB (xOp oEq (xOp oIx (xVar 1) (xC (.int 1))) (xC (.int 1))))) (sRet (xTup (aCons (xOp oAdd (xOp oIx (xVar 0) (xC (.int 0))) (xOp oIx (xVar 1) (xC (.int 0)))) (aCons (xC (.int 1)) (aNil))))) (sNext)) (sRet (xCall m_fraction (aCons (xOp oAdd (xOp oMul (xOp oIx (xVar 0) (xC (.int 0))) (xOp oIx (xVar 1) (xC (.int 1)))) (xOp oMul (xOp oIx (xVar 1) (xC (.int 0))) (xOp oIx (xVar 0) (xC (.int 1))))) (aCons (xOp oMul (xOp oIx (xVar 0) (xC (.int 1))) (xOp oIx (xVar 1) (xC (.int 1)))) (aNil))))))
noncomputable def m_times : MF := mFn 2 2 (sSeq (sIf (tAndM (asB (xOp oEq (xOp oIx (xVar 0) (xC (.int 1))) (xC (.int 1)))) (asB (xOp oEq (xOp oIx (xVar 1) (xC (.int 1))) (xC (.int 1))))) (sRet (xTup (aCons (xOp oMul (xOp oIx (xVar 0) (xC (.int 0))) (xOp oIx (xVar 1) (xC (.int 0)))) (aCons (xC (.int 1)) (aNil))))) (sNext)) (sRet (xCall m_fraction (aCons (xOp oMul (xOp oIx (xVar 0) (xC (.int 0))) (xOp oIx (xVar 1) (xC (.int 0)))) (aCons (xOp oMul (xOp oIx (xVar 0) (xC (.int 1))) (xOp oIx (xVar 1) (xC (.int 1)))) (aNil))))))
noncomputable def m_is_fraction : MF := mFn 1 1 (sSeq (sIf (tOrM (tNotM (tTru (xCall m_is_items (aCons (xVar 0) (aCons (xC (.int 2)) (aNil)))))) (tOrM (tNotM (tTru (xCall m_is_integer (aCons (xOp oIx (xVar 0) (xC (.int 0))) (aNil))))) (tNotM (tTru (xCall m_is_count (aCons (xOp oIx (xVar 0) (xC (.int 1))) (aCons (xC (.int 1)) (aNil)))))))) (sRet (xC (.bl false))) (sNext)) (sRet (xOp oEq (xCall m_greatest_divisor (aCons (xOp oIx (xVar 0) (xC (.int 0))) (aCons (xOp oIx (xVar 0) (xC (.int 1))) (aNil)))) (xC (.int 1)))))
noncomputable def m_are_fractions : MF := mFn 2 1 (sRet (xAnd (xOp oIsi (xVar 0) (xC (.ty "tuple"))) (xUn oAll (xLc [1] (iSeq (xVar 0)) (bName 1) (tYesM) (xCall m_is_fraction (aCons (xVar 1) (aNil)))))))
noncomputable def m_poly_of : MF := mFn 2 1 (sSeq (sSet 1 (xUn oLen (xVar 0))) (sSeq (sWhile (tAndM (asB (xOp oGt (xVar 1) (xC (.int 0)))) (asB (xOp oEq (xOp oIx (xOp oIx (xVar 0) (xOp oSub (xVar 1) (xC (.int 1)))) (xC (.int 0))) (xC (.int 0))))) (sAug 1 oSub (xC (.int 1)))) (sRet (xUn oTuple (xSl (xVar 0) (pNone) (pSome (xVar 1)))))))
noncomputable def m_is_poly : MF := mFn 1 1 (sRet (xAnd (xCall m_are_fractions (aCons (xVar 0) (aNil))) (xOr (xOp oEq (xVar 0) (xTup (aNil))) (xOp oNe (xOp oIx (xOp oIx (xVar 0) (xUn oNeg (xC (.int 1)))) (xC (.int 0))) (xC (.int 0))))))
noncomputable def m_poly_sum : MF := mFn 5 2 (sSeq (sSet 2 (xOp oMax2 (xUn oLen (xVar 0)) (xUn oLen (xVar 1)))) (sSeq (sSet 0 (xOp oAdd (xVar 0) (xOp oMul (xTup (aCons (xC c_NOUGHT) (aNil))) (xOp oSub (xVar 2) (xUn oLen (xVar 0)))))) (sSeq (sSet 1 (xOp oAdd (xVar 1) (xOp oMul (xTup (aCons (xC c_NOUGHT) (aNil))) (xOp oSub (xVar 2) (xUn oLen (xVar 1)))))) (sRet (xCall m_poly_of (aCons (xLc [3, 4] (iZipM (xVar 0) (xVar 1)) (bTup (bCons (bName 3) (bCons (bName 4) (bNil)))) (tYesM) (xCall m_plus (aCons (xVar 3) (aCons (xVar 4) (aNil))))) (aNil)))))))
noncomputable def m_poly_times : MF := mFn 3 2 (sSeq (sIf (asB (xOp oEq (xOp oIx (xVar 0) (xC (.int 0))) (xC (.int 0)))) (sRet (xTup (aNil))) (sNext)) (sRet (xUn oTuple (xLc [2] (iSeq (xVar 1)) (bName 2) (tYesM) (xCall m_times (aCons (xVar 0) (aCons (xVar 2) (aNil))))))))
noncomputable def m_poly_product : MF := mFn 7 2 (sSeq (sIf (tOrM (tNotM (tTru (xVar 0))) (tNotM (tTru (xVar 1)))) (sRet (xTup (aNil))) (sNext)) (sSeq (sSet 2 (xOp oMul (xLst (aCons (xC c_NOUGHT) (aNil))) (xOp oSub (xOp oAdd (xUn oLen (xVar 0)) (xUn oLen (xVar 1))) (xC (.int 1))))) (sSeq (sFor (iEnumM (xVar 0)) (bTup (bCons (bName 3) (bCons (bName 4) (bNil)))) (sIf (asB (xOp oNe (xOp oIx (xVar 4) (xC (.int 0))) (xC (.int 0)))) (sFor (iEnumM (xVar 1)) (bTup (bCons (bName 5) (bCons (bName 6) (bNil)))) (sIxSet (xCall m_plus (aCons (xOp oIx (xVar 2) (xOp oAdd (xVar 3) (xVar 5))) (aCons (xCall m_times (aCons (xVar 4) (aCons (xVar 6) (aNil)))) (aNil)))) (xVar 2) (xOp oAdd (xVar 3) (xVar 5)))) (sNext))) (sRet (xCall m_poly_of (aCons (xVar 2) (aNil)))))))
noncomputable def m_poly_value : MF := mFn 4 2 (sSeq (sSet 2 (xC c_NOUGHT)) (sSeq (sFor (iSeq (xUn oRev (xVar 0))) (bName 3) (sSet 2 (xCall m_plus (aCons (xCall m_times (aCons (xVar 2) (aCons (xVar 1) (aNil)))) (aCons (xVar 3) (aNil)))))) (sRet (xVar 2))))
noncomputable def m_derived : MF := mFn 2 1 (sRet (xCall m_poly_of (aCons (xLc [1] (iRange2 (xC (.int 1)) (xUn oLen (xVar 0))) (bName 1) (tYesM) (xCall m_times (aCons (xCall m_whole (aCons (xVar 1) (aNil))) (aCons (xOp oIx (xVar 0) (xVar 1)) (aNil))))) (aNil))))
noncomputable def m_moved : MF := mFn 6 3 (sSeq (sSet 3 (xTup (aNil))) (sSeq (sSet 4 (xCall m_poly_of (aCons (xLst (aCons (xVar 1) (aCons (xVar 2) (aNil)))) (aNil)))) (sSeq (sFor (iSeq (xUn oRev (xVar 0))) (bName 5) (sSet 3 (xCall m_poly_sum (aCons (xCall m_poly_product (aCons (xVar 3) (aCons (xVar 4) (aNil)))) (aCons (xCall m_poly_of (aCons (xLst (aCons (xVar 5) (aNil))) (aNil))) (aNil)))))) (sRet (xVar 3)))))
noncomputable def m__law_start : MF := mFn 1 1 (sRet (xLst (aCons (xUn oList (xVar 0)) (aCons (xC (.int 0)) (aCons (xC (.int 0)) (aCons (xC (.int 0)) (aNil)))))))
noncomputable def m__law_draw : MF := mFn 5 2 (sSeq (sIxSet (xOp oAdd (xOp oIx (xVar 0) (xC (.int 3))) (xC (.int 1))) (xVar 0) (xC (.int 3))) (sSeq (sIf (asB (xOp oGt (xOp oIx (xVar 0) (xC (.int 2))) (xC (.int 0)))) (sSeq (sSet 4 (xOp oMod (xUn oInt (xOp oIx (xVar 0) (xC (.int 2)))) (xVar 1))) (sSeq (sIxSet (xOp oFDiv (xOp oIx (xVar 0) (xC (.int 2))) (xVar 1)) (xVar 0) (xC (.int 2))) (sRet (xVar 4)))) (sNext)) (sSeq (sSet 2 (xC (.int 0))) (sSeq (sIf (asB (xOp oGt (xUn oLen (xOp oIx (xVar 0) (xC (.int 0)))) (xC (.int 0)))) (sSet 2 (xUn oAbs (xOp oIx (xOp oIx (xVar 0) (xC (.int 0))) (xOp oMod (xUn oInt (xOp oIx (xVar 0) (xC (.int 1)))) (xUn oLen (xOp oIx (xVar 0) (xC (.int 0)))))))) (sNext)) (sSeq (sIxSet (xOp oAdd (xOp oIx (xVar 0) (xC (.int 1))) (xC (.int 1))) (xVar 0) (xC (.int 1))) (sSeq (sIf (asB (xOp oGe (xVar 2) (xOp oPow (xC (.int 10)) (xC (.int 18))))) (sSeq (sIxSet (xOp oFDiv (xVar 2) (xVar 1)) (xVar 0) (xC (.int 2))) (sRet (xOp oMod (xUn oInt (xVar 2)) (xVar 1)))) (sNext)) (sSeq (sSet 3 (xOp oMod (xUn oInt (xOp oAdd (xOp oMul (xOp oAdd (xVar 2) (xC (.int 1))) (xC (.int 48271))) (xOp oMul (xOp oIx (xVar 0) (xC (.int 3))) (xC (.int 69621))))) (xC (.int 2147483647)))) (sSeq (sSet 3 (xOp oMod (xUn oInt (xOp oAdd (xOp oAdd (xOp oMul (xVar 3) (xC (.int 16807))) (xOp oFDiv (xVar 2) (xC (.int 97)))) (xOp oIx (xVar 0) (xC (.int 3))))) (xC (.int 2147483629)))) (sRet (xOp oMod (xOp oFDiv (xVar 3) (xC (.int 11))) (xVar 1)))))))))))
noncomputable def m__law_is_int : MF := mFn 1 1 (sRet (xAnd (xOp oIsi (xVar 0) (xC (.ty "int"))) (xUn oNot (xOp oIsi (xVar 0) (xC (.ty "bool"))))))
noncomputable def b__law_same (rec_ : MF) : MF := mFn 3 2 (sSeq (sIf (tTru (xOp oIsi (xVar 1) (xC (.ty "tuple")))) (sSeq (sIf (tOrM (tNotM (tTru (xOp oIsi (xVar 0) (xC (.ty "tuple"))))) (asB (xOp oNe (xUn oLen (xVar 0)) (xUn oLen (xVar 1))))) (sRet (xC (.bl false))) (sNext)) (sRet (xUn oAll (xLc [2] (iRange1 (xUn oLen (xVar 1))) (bName 2) (tYesM) (xCall rec_ (aCons (xOp oIx (xVar 0) (xVar 2)) (aCons (xOp oIx (xVar 1) (xVar 2)) (aNil)))))))) (sNext)) (sSeq (sIf (tTru (xOp oIsi (xVar 1) (xC (.ty "str")))) (sRet (xAnd (xOp oIsi (xVar 0) (xC (.ty "str"))) (xOp oEq (xVar 0) (xVar 1)))) (sNext)) (sRet (xAnd (xCall m__law_is_int (aCons (xVar 0) (aNil))) (xOp oEq (xVar 0) (xVar 1))))))
noncomputable def m__law_same : Nat → MF
  | 0 => fun _ _ => .fail
  | n + 1 => b__law_same (m__law_same n)
noncomputable def m__law_low : MF := mFn 4 2 (sSeq (sPar 2 3 (aCons (xUn oAbs (xVar 0)) (aCons (xUn oAbs (xVar 1)) (aNil)))) (sSeq (sWhile (asB (xOp oNe (xVar 3) (xC (.int 0)))) (sPar 2 3 (aCons (xVar 3) (aCons (xOp oMod (xUn oInt (xVar 2)) (xVar 3)) (aNil))))) (sSeq (sIf (asB (xOp oLt (xVar 1) (xC (.int 0)))) (sSet 2 (xUn oNeg (xVar 2))) (sNext)) (sRet (xTup (aCons (xOp oFDiv (xVar 0) (xVar 2)) (aCons (xOp oFDiv (xVar 1) (xVar 2)) (aNil))))))))
noncomputable def m__law_add : MF := mFn 2 2 (sRet (xCall m__law_low (aCons (xOp oAdd (xOp oMul (xOp oIx (xVar 0) (xC (.int 0))) (xOp oIx (xVar 1) (xC (.int 1)))) (xOp oMul (xOp oIx (xVar 1) (xC (.int 0))) (xOp oIx (xVar 0) (xC (.int 1))))) (aCons (xOp oMul (xOp oIx (xVar 0) (xC (.int 1))) (xOp oIx (xVar 1) (xC (.int 1)))) (aNil)))))
noncomputable def m__law_mul : MF := mFn 2 2 (sRet (xCall m__law_low (aCons (xOp oMul (xOp oIx (xVar 0) (xC (.int 0))) (xOp oIx (xVar 1) (xC (.int 0)))) (aCons (xOp oMul (xOp oIx (xVar 0) (xC (.int 1))) (xOp oIx (xVar 1) (xC (.int 1)))) (aNil)))))
noncomputable def m__law_at : MF := mFn 4 2 (sSeq (sSet 2 (xTup (aCons (xC (.int 0)) (aCons (xC (.int 1)) (aNil))))) (sSeq (sFor (iSeq (xUn oRev (xVar 0))) (bName 3) (sSet 2 (xCall m__law_add (aCons (xCall m__law_mul (aCons (xVar 2) (aCons (xVar 1) (aNil)))) (aCons (xVar 3) (aNil)))))) (sRet (xVar 2))))
noncomputable def m__law_some_fraction : MF := mFn 2 2 (sRet (xCall m__law_low (aCons (xOp oSub (xCall m__law_draw (aCons (xVar 0) (aCons (xOp oAdd (xOp oMul (xC (.int 2)) (xVar 1)) (xC (.int 1))) (aNil)))) (xVar 1)) (aCons (xOp oAdd (xC (.int 1)) (xCall m__law_draw (aCons (xVar 0) (aCons (xVar 1) (aNil))))) (aNil)))))
noncomputable def m__law_said : MF := mFn 2 2 (sSeq (sIf (tTru (xVar 1)) (sRet (xOp oIs (xVar 0) (xC (.bl true)))) (sNext)) (sRet (xOp oIs (xVar 0) (xC (.bl false)))))
noncomputable def m__law_looks_like_one : MF := mFn 2 1 (sSeq (sIf (tNotM (tTru (xOp oIsi (xVar 0) (xC (.ty "tuple"))))) (sRet (xC (.bl false))) (sNext)) (sSeq (sFor (iSeq (xVar 0)) (bName 1) (sIf (tOrM (tNotM (tTru (xOp oIsi (xVar 1) (xC (.ty "tuple"))))) (tOrM (asB (xOp oNe (xUn oLen (xVar 1)) (xC (.int 2)))) (tOrM (tNotM (tTru (xCall m__law_is_int (aCons (xOp oIx (xVar 1) (xC (.int 0))) (aNil))))) (tOrM (tNotM (tTru (xCall m__law_is_int (aCons (xOp oIx (xVar 1) (xC (.int 1))) (aNil))))) (tOrM (asB (xOp oLt (xOp oIx (xVar 1) (xC (.int 1))) (xC (.int 1)))) (asB (xOp oNe (xCall m__law_low (aCons (xOp oIx (xVar 1) (xC (.int 0))) (aCons (xOp oIx (xVar 1) (xC (.int 1))) (aNil)))) (xVar 1)))))))) (sRet (xC (.bl false))) (sNext))) (sRet (xOr (xOp oEq (xVar 0) (xTup (aNil))) (xOp oNe (xOp oIx (xOp oIx (xVar 0) (xUn oNeg (xC (.int 1)))) (xC (.int 0))) (xC (.int 0)))))))
noncomputable def m__law_some_row : MF := mFn 2 1 (sRet (xOp oAdd (xLc [1] (iRange1 (xCall m__law_draw (aCons (xVar 0) (aCons (xC (.int 9)) (aNil))))) (bName 1) (tYesM) (xCall m__law_some_fraction (aCons (xVar 0) (aCons (xC (.int 9)) (aNil))))) (xOp oMul (xLst (aCons (xTup (aCons (xC (.int 0)) (aCons (xC (.int 1)) (aNil)))) (aNil))) (xCall m__law_draw (aCons (xVar 0) (aCons (xC (.int 3)) (aNil)))))))
noncomputable def m__law_is_worth_all : MF := mFn 4 2 (sRet (xAnd (xCall m__law_looks_like_one (aCons (xVar 0) (aNil))) (xUn oAll (xLc [2, 3] (iSeq (xVar 1)) (bTup (bCons (bName 2) (bCons (bName 3) (bNil)))) (tYesM) (xCall (m__law_same 5) (aCons (xCall m__law_at (aCons (xVar 0) (aCons (xVar 2) (aNil)))) (aCons (xVar 3) (aNil))))))))
noncomputable def m__law_places : MF := mFn 3 2 (sRet (xOp oAdd (xLc [2] (iRange1 (xOp oAdd (xOp oMul (xC (.int 2)) (xVar 1)) (xC (.int 1)))) (bName 2) (tYesM) (xCall m__law_low (aCons (xOp oSub (xVar 2) (xOp oFDiv (xVar 1) (xC (.int 2)))) (aCons (xOp oAdd (xC (.int 1)) (xOp oMod (xUn oInt (xVar 2)) (xC (.int 2)))) (aNil))))) (xLst (aCons (xCall m__law_some_fraction (aCons (xVar 0) (aCons (xC (.int 30)) (aNil)))) (aNil)))))
noncomputable def m__law_products_fit : MF := mFn 7 3 (sSeq (sSet 3 (xCall m_derived (aCons (xCall m_poly_product (aCons (xVar 1) (aCons (xVar 2) (aNil)))) (aNil)))) (sSeq (sSet 4 (xCall m_poly_sum (aCons (xCall m_poly_product (aCons (xCall m_derived (aCons (xVar 1) (aNil))) (aCons (xVar 2) (aNil)))) (aCons (xCall m_poly_product (aCons (xVar 1) (aCons (xCall m_derived (aCons (xVar 2) (aNil))) (aNil)))) (aNil))))) (sSeq (sIf (tOrM (tNotM (tTru (xCall (m__law_same 5) (aCons (xVar 3) (aCons (xVar 4) (aNil)))))) (tNotM (tTru (xCall (m__law_same 5) (aCons (xCall m_derived (aCons (xCall m_poly_sum (aCons (xVar 1) (aCons (xVar 2) (aNil)))) (aNil))) (aCons (xCall m_poly_sum (aCons (xCall m_derived (aCons (xVar 1) (aNil))) (aCons (xCall m_derived (aCons (xVar 2) (aNil))) (aNil)))) (aNil))))))) (sRet (xC (.bl false))) (sNext)) (sSeq (sSet 5 (xOp oAdd (xC (.int 1)) (xCall m__law_draw (aCons (xVar 0) (aCons (xC (.int 9)) (aNil)))))) (sSeq (sSet 6 (xOp oAdd (xOp oMul (xTup (aCons (xTup (aCons (xC (.int 0)) (aCons (xC (.int 1)) (aNil)))) (aNil))) (xVar 5)) (xTup (aCons (xTup (aCons (xC (.int 1)) (aCons (xC (.int 1)) (aNil)))) (aNil))))) (sRet (xAnd (xCall (m__law_same 5) (aCons (xCall m_derived (aCons (xVar 6) (aNil))) (aCons (xOp oAdd (xOp oMul (xTup (aCons (xTup (aCons (xC (.int 0)) (aCons (xC (.int 1)) (aNil)))) (aNil))) (xOp oSub (xVar 5) (xC (.int 1)))) (xTup (aCons (xTup (aCons (xVar 5) (aCons (xC (.int 1)) (aNil)))) (aNil)))) (aNil)))) (xAnd (xCall (m__law_same 5) (aCons (xCall m_derived (aCons (xCall m_poly_of (aCons (xSl (xVar 1) (pNone) (pSome (xC (.int 1)))) (aNil))) (aNil))) (aCons (xTup (aNil)) (aNil)))) (xCall (m__law_same 5) (aCons (xCall m_derived (aCons (xTup (aNil)) (aNil))) (aCons (xTup (aNil)) (aNil))))))))))))
noncomputable def m_law : MF := mFn 14 1 (sSeq (sSet 1 (xCall m__law_start (aCons (xVar 0) (aNil)))) (sSeq (sFor (iRange1 (xC (.int 6))) (bName 2) (sSeq (sAsg (xTup (aCons (xCall m__law_some_row (aCons (xVar 1) (aNil))) (aCons (xCall m__law_some_row (aCons (xVar 1) (aNil))) (aNil)))) (bTup (bCons (bName 5) (bCons (bName 6) (bNil))))) (sSeq (sIf (asB (xOp oEq (xCall m__law_draw (aCons (xVar 1) (aCons (xC (.int 3)) (aNil)))) (xC (.int 0)))) (sSet 6 (xOp oAdd (xSl (xVar 6) (pNone) (pSome (xC (.int 2)))) (xLc [9, 13] (iSeq (xSl (xVar 5) (pSome (xC (.int 2))) (pNone))) (bTup (bCons (bName 9) (bCons (bName 13) (bNil)))) (tYesM) (xTup (aCons (xUn oNeg (xVar 9)) (aCons (xVar 13) (aNil))))))) (sNext)) (sSeq (sAsg (xTup (aCons (xCall m_poly_of (aCons (xVar 5) (aNil))) (aCons (xCall m_poly_of (aCons (xVar 6) (aNil))) (aNil)))) (bTup (bCons (bName 7) (bCons (bName 8) (bNil))))) (sSeq (sAsg (xTup (aCons (xCall m__law_some_fraction (aCons (xVar 1) (aCons (xC (.int 7)) (aNil)))) (aCons (xCall m__law_some_fraction (aCons (xVar 1) (aCons (xC (.int 7)) (aNil)))) (aNil)))) (bTup (bCons (bName 9) (bCons (bName 10) (bNil))))) (sSeq (sSet 3 (xCall m__law_places (aCons (xVar 1) (aCons (xOp oAdd (xUn oLen (xVar 5)) (xUn oLen (xVar 6))) (aNil))))) (sSeq (sIf (tOrM (tNotM (tTru (xCall m__law_is_worth_all (aCons (xVar 7) (aCons (xLc [11] (iSeq (xVar 3)) (bName 11) (tYesM) (xTup (aCons (xVar 11) (aCons (xCall m__law_at (aCons (xVar 5) (aCons (xVar 11) (aNil)))) (aNil))))) (aNil)))))) (tNotM (tTru (xCall m__law_is_worth_all (aCons (xVar 8) (aCons (xLc [11] (iSeq (xVar 3)) (bName 11) (tYesM) (xTup (aCons (xVar 11) (aCons (xCall m__law_at (aCons (xVar 6) (aCons (xVar 11) (aNil)))) (aNil))))) (aNil))))))) (sRet (xC (.bl false))) (sNext)) (sSeq (sIf (tNotM (tTru (xUn oAll (xLc [11] (iSeq (xVar 3)) (bName 11) (tYesM) (xCall (m__law_same 5) (aCons (xCall m_poly_value (aCons (xVar 7) (aCons (xVar 11) (aNil)))) (aCons (xCall m__law_at (aCons (xVar 5) (aCons (xVar 11) (aNil)))) (aNil)))))))) (sRet (xC (.bl false))) (sNext)) (sSeq (sIf (tNotM (tTru (xCall m__law_is_worth_all (aCons (xCall m_poly_sum (aCons (xVar 7) (aCons (xVar 8) (aNil)))) (aCons (xLc [11] (iSeq (xVar 3)) (bName 11) (tYesM) (xTup (aCons (xVar 11) (aCons (xCall m__law_add (aCons (xCall m__law_at (aCons (xVar 5) (aCons (xVar 11) (aNil)))) (aCons (xCall m__law_at (aCons (xVar 6) (aCons (xVar 11) (aNil)))) (aNil)))) (aNil))))) (aNil)))))) (sRet (xC (.bl false))) (sNext)) (sSeq (sIf (tNotM (tTru (xCall m__law_is_worth_all (aCons (xCall m_poly_times (aCons (xVar 9) (aCons (xVar 7) (aNil)))) (aCons (xLc [11] (iSeq (xVar 3)) (bName 11) (tYesM) (xTup (aCons (xVar 11) (aCons (xCall m__law_mul (aCons (xVar 9) (aCons (xCall m__law_at (aCons (xVar 5) (aCons (xVar 11) (aNil)))) (aNil)))) (aNil))))) (aNil)))))) (sRet (xC (.bl false))) (sNext)) (sSeq (sIf (tNotM (tTru (xCall m__law_is_worth_all (aCons (xCall m_poly_product (aCons (xVar 7) (aCons (xVar 8) (aNil)))) (aCons (xLc [11] (iSeq (xVar 3)) (bName 11) (tYesM) (xTup (aCons (xVar 11) (aCons (xCall m__law_mul (aCons (xCall m__law_at (aCons (xVar 5) (aCons (xVar 11) (aNil)))) (aCons (xCall m__law_at (aCons (xVar 6) (aCons (xVar 11) (aNil)))) (aNil)))) (aNil))))) (aNil)))))) (sRet (xC (.bl false))) (sNext)) (sSeq (sIf (tOrM (tNotM (tTru (xCall m__law_is_worth_all (aCons (xCall m_moved (aCons (xVar 7) (aCons (xVar 9) (aCons (xVar 10) (aNil))))) (aCons (xLc [11] (iSeq (xVar 3)) (bName 11) (tYesM) (xTup (aCons (xVar 11) (aCons (xCall m__law_at (aCons (xVar 5) (aCons (xCall m__law_add (aCons (xVar 9) (aCons (xCall m__law_mul (aCons (xVar 10) (aCons (xVar 11) (aNil)))) (aNil)))) (aNil)))) (aNil))))) (aNil)))))) (tNotM (tTru (xCall m__law_products_fit (aCons (xVar 1) (aCons (xVar 7) (aCons (xVar 8) (aNil)))))))) (sRet (xC (.bl false))) (sNext)) (sSeq (sSet 4 (xLst (aCons (xVar 7) (aCons (xVar 8) (aCons (xOp oAdd (xVar 7) (xTup (aCons (xTup (aCons (xC (.int 0)) (aCons (xC (.int 1)) (aNil)))) (aNil)))) (aCons (xOp oAdd (xVar 7) (xTup (aCons (xTup (aCons (xC (.int 2)) (aCons (xC (.int 2)) (aNil)))) (aNil)))) (aCons (xTup (aCons (xTup (aCons (xC (.int 0)) (aCons (xC (.int 1)) (aNil)))) (aNil))) (aCons (xTup (aCons (xTup (aCons (xC (.int 1)) (aCons (xC (.int 0)) (aNil)))) (aNil))) (aCons (xTup (aCons (xC (.int 1)) (aCons (xC (.int 2)) (aNil)))) (aCons (xTup (aCons (xTup (aCons (xC (.int 1)) (aCons (xC (.int 1)) (aNil)))) (aCons (xC (.int 3)) (aNil)))) (aCons (xC (.str ("" : Str))) (aCons (xC (.int 7)) (aCons (xTup (aNil)) (aCons (xOp oAdd (xVar 7) (xTup (aCons (xTup (aCons (xC (.str ("1" : Str))) (aCons (xC (.int 1)) (aNil)))) (aNil)))) (aCons (xTup (aCons (xTup (aCons (xC (.int 1)) (aCons (xC (.int 1)) (aCons (xC (.int 1)) (aNil))))) (aNil))) (aCons (xTup (aCons (xTup (aCons (xC (.int 3)) (aCons (xUn oNeg (xC (.int 1))) (aNil)))) (aNil))) (aCons (xTup (aCons (xVar 7) (aNil))) (aNil)))))))))))))))))) (sIf (tNotM (tTru (xUn oAll (xLc [12] (iSeq (xVar 4)) (bName 12) (tYesM) (xCall m__law_said (aCons (xCall m_is_poly (aCons (xVar 12) (aNil))) (aCons (xCall m__law_looks_like_one (aCons (xVar 12) (aNil))) (aNil)))))))) (sRet (xC (.bl false))) (sNext))))))))))))))) (sRet (xC (.bl true)))))
end AM.k02

namespace AM.k02
open PySem PySem.Spec PyProof.Rows L2 AM
theorem e_gd_loop : ∀ (n a b : Nat) (h : MH), b ≤ n → sWhile (tTru (xVar 1)) (sPar 0 1 (aCons (xVar 1) (aCons (xOp oMod (xVar 0) (xVar 1)) (aNil)))) [some (.int a), some (.int b)] h = .next [some (.int (Nat.gcd a b : Nat)), some (.int 0)] h
  | 0, a, b, h, hb => by
    obtain rfl : b = 0 := by omega
    rw [sWhile_eq]
    simp
  | n + 1, a, b, h, hb => by
    rw [sWhile_eq]
    by_cases z : b = 0
    · subst z
      simp
    · have hz : (b : Int) ≠ 0 := by omega
      have e : ((a : Int).fmod b) = ((a % b : Nat) : Int) := by
        rw [Int.fmod_eq_emod_of_nonneg _ (by omega)]; rfl
      simp only [e_tru, e_var, List.getElem?_cons_succ, List.getElem?_cons_zero, e_bok, t_int, bne_iff_ne, ne_eq, hz, not_false_eq_true, e_sok, if_true, e_par, e_cons, e_op, e_hh, e_hv, o_mod hz, e_nil, e]
      have := Nat.mod_lt a (show 0 < b by omega)
      simp [hz]
      rw [show ((a : Int) % b) = ((a % b : Nat) : Int) from rfl, e_gd_loop n b (a % b) h (by omega), Nat.gcd_comm b (a % b), ← Nat.gcd_rec, Nat.gcd_comm b a]
theorem abs_nat (a : Int) : (if a < 0 then -a else a) = (a.natAbs : Int) := by split <;> omega
theorem e_greatest_divisor (a b : Int) (h : MH) : m_greatest_divisor [.int a, .int b] h = .ok (.int (Int.gcd a b)) h := by
  simp [m_greatest_divisor, abs_nat]
  rw [e_gd_loop b.natAbs a.natAbs b.natAbs h (Nat.le_refl _)]
  simp
  rfl
theorem e_fraction {n d : Int} (h : MH) (h0 : d ≠ 0) (hd : d.natAbs < 2 ^ 8990) : m_fraction [.int n, .int d] h = .ok (fr (Rat.divInt n d)) h := by
  have hg := gcd_lt (n := n) h0 hd
  have hg0 : (Int.gcd n d : Int) ≠ 0 := by
    intro z
    have := Int.gcd_eq_zero_iff.mp (by exact_mod_cast z)
    omega
  by_cases c : d < 0
  · have r := red_neg (n := n) c
    have o : ∀ i, divOk i (-(Int.gcd n d : Int)) = true := fun i => divOk_of (by omega) (by omega)
    simp [m_fraction, e_greatest_divisor, c, o_fdiv (o _), r.1, r.2, fr]
  · have r := red_pos (n := n) (d := d) (by omega)
    have o : ∀ i, divOk i (Int.gcd n d : Int) = true := fun i => divOk_of (by omega) (by omega)
    simp [m_fraction, e_greatest_divisor, c, o_fdiv (o _), r.1, r.2, fr]
theorem small_mul {p q : Rat} (hp : small p) (hq : small q) : mulOk p.num q.num = true ∧ mulOk p.num q.den = true ∧ mulOk q.num p.den = true ∧ mulOk p.den q.den = true ∧ ((p.den : Int) * q.den) ≠ 0 ∧ ((p.den : Int) * q.den).natAbs < 2 ^ 8990 := by
  have a1 : (p.den : Int).natAbs < 2 ^ 4000 := by simpa using hp.2
  have a2 : (q.den : Int).natAbs < 2 ^ 4000 := by simpa using hq.2
  have d1 := p.den_pos
  have d2 := q.den_pos
  refine ⟨mulOk_of hp.1 hq.1 (by omega), mulOk_of hp.1 a2 (by omega), mulOk_of hq.1 a1 (by omega), mulOk_of a1 a2 (by omega), ?_, ?_⟩
  · have := Int.mul_pos (show (0 : Int) < p.den by omega) (show (0 : Int) < q.den by omega)
    omega
  · rw [Int.natAbs_mul]
    have h1 : (p.den : Int).natAbs * (q.den : Int).natAbs < 2 ^ 4000 * 2 ^ 4000 := Nat.mul_lt_mul'' a1 a2
    rw [← Nat.pow_add] at h1
    exact Nat.lt_of_lt_of_le h1 (Nat.pow_le_pow_right (by omega) (by omega))
theorem rat_add (p q : Rat) : Rat.divInt (p.num * q.den + q.num * p.den) (p.den * q.den) = p + q := by
  rw [Rat.add_def', ← Int.natCast_mul, Rat.divInt_ofNat]
theorem rat_mul (p q : Rat) : Rat.divInt (p.num * q.num) (p.den * q.den) = p * q := by
  rw [Rat.mul_def', ← Int.natCast_mul, Rat.divInt_ofNat]
theorem rat_den1 {p q : Rat} (hp : p.den = 1) (hq : q.den = 1) : (p + q).num = p.num + q.num ∧ (p + q).den = 1 ∧ (p * q).num = p.num * q.num ∧ (p * q).den = 1 := by
  have e1 : p = (p.num : Rat) := by rw [num_eq p, hp]; grind
  have e2 : q = (q.num : Rat) := by rw [num_eq q, hq]; grind
  generalize p.num = a at *
  generalize q.num = b at *
  subst e1 e2
  have e1 : (a : Rat) + (b : Rat) = ((a + b : Int) : Rat) := (Rat.intCast_add a b).symm
  have e2 : (a : Rat) * (b : Rat) = ((a * b : Int) : Rat) := (Rat.intCast_mul a b).symm
  rw [e1, e2]
  exact ⟨rfl, rfl, rfl, rfl⟩
theorem e_plus0 {a b c d : Int} {r : D} (h : MH) (c2 : mulOk a d = true) (c3 : mulOk c b = true) (c4 : mulOk b d = true) (r0 : b = 1 → d = 1 → r = .tup [.int (a + c), .int 1]) (f : m_fraction [.int (a * d + c * b), .int (b * d)] h = .ok r h) :
    m_plus [.tup [.int a, .int b], .tup [.int c, .int d]] h = .ok r h := by
  by_cases z1 : b = 1
  · by_cases z2 : d = 1
    · rw [r0 z1 z2]
      subst z1 z2
      simp [m_plus, atI, ixN]
    · subst z1
      simp at f
      simp [m_plus, atI, ixN, z2, o_mul c2, o_mul c3, o_mul c4, f]
  · simp [m_plus, atI, ixN, z1, o_mul c2, o_mul c3, o_mul c4, f]
theorem e_plus {p q : Rat} (h : MH) (hp : small p) (hq : small q) : m_plus [fr p, fr q] h = .ok (fr (p + q)) h := by
  obtain ⟨c1, c2, c3, c4, c5, c6⟩ := small_mul hp hq
  have f := e_fraction (n := p.num * q.den + q.num * p.den) h c5 c6
  rw [rat_add] at f
  refine e_plus0 h c2 c3 c4 (fun z1 z2 => ?_) f
  obtain ⟨r1, r2, _, _⟩ := rat_den1 (p := p) (q := q) (by omega) (by omega)
  unfold fr
  rw [r1, r2]; rfl
theorem e_times0 {a b c d : Int} {r : D} (h : MH) (c2 : mulOk a c = true) (c4 : mulOk b d = true) (r0 : b = 1 → d = 1 → r = .tup [.int (a * c), .int 1]) (f : m_fraction [.int (a * c), .int (b * d)] h = .ok r h) :
    m_times [.tup [.int a, .int b], .tup [.int c, .int d]] h = .ok r h := by
  by_cases z1 : b = 1
  · by_cases z2 : d = 1
    · rw [r0 z1 z2]
      subst z1 z2
      simp [m_times, atI, ixN, o_mul c2]
    · subst z1
      simp at f
      simp [m_times, atI, ixN, z2, o_mul c2, o_mul c4, f]
  · simp [m_times, atI, ixN, z1, o_mul c2, o_mul c4, f]
theorem e_times {p q : Rat} (h : MH) (hp : small p) (hq : small q) : m_times [fr p, fr q] h = .ok (fr (p * q)) h := by
  obtain ⟨c1, c2, c3, c4, c5, c6⟩ := small_mul hp hq
  have f := e_fraction (n := p.num * q.num) h c5 c6
  rw [rat_mul] at f
  refine e_times0 h c1 c4 (fun z1 z2 => ?_) f
  obtain ⟨_, _, r1, r2⟩ := rat_den1 (p := p) (q := q) (by omega) (by omega)
  unfold fr
  rw [r1, r2]; rfl
theorem fr_int (k : Int) : fr (k : Rat) = .tup [.int k, .int 1] := rfl
theorem e_whole (k : Int) (h : MH) : m_whole [.int k] h = .ok (fr (k : Rat)) h := by simp [m_whole, fr_int]
/-! the law's own -/
theorem e_low_loop : ∀ (n a b : Nat) (x y : D) (h : MH), b ≤ n → sWhile (asB (xOp oNe (xVar 3) (xC (.int 0)))) (sPar 2 3 (aCons (xVar 3) (aCons (xOp oMod (xUn oInt (xVar 2)) (xVar 3)) (aNil)))) [some x, some y, some (.int a), some (.int b)] h = .next [some x, some y, some (.int (Nat.gcd a b : Nat)), some (.int 0)] h
  | 0, a, b, x, y, h, hb => by
    obtain rfl : b = 0 := by omega
    rw [sWhile_eq]
    simp
  | n + 1, a, b, x, y, h, hb => by
    rw [sWhile_eq]
    by_cases z : b = 0
    · subst z
      simp
    · have hz : (b : Int) ≠ 0 := by omega
      have e : ((a : Int).fmod b) = ((a % b : Nat) : Int) := by
        rw [Int.fmod_eq_emod_of_nonneg _ (by omega)]; rfl
      have := Nat.mod_lt a (show 0 < b by omega)
      simp [hz, z, o_mod hz, e]
      rw [show ((a : Int) % b) = ((a % b : Nat) : Int) from rfl, e_low_loop n b (a % b) x y h (by omega), Nat.gcd_comm b (a % b), ← Nat.gcd_rec, Nat.gcd_comm b a]
theorem e_low {n d : Int} (h : MH) (h0 : d ≠ 0) (hd : d.natAbs < 2 ^ 8990) : m__law_low [.int n, .int d] h = .ok (fr (Rat.divInt n d)) h := by
  have hg := gcd_lt (n := n) h0 hd
  have hg0 : (Int.gcd n d : Int) ≠ 0 := by
    intro z
    have := Int.gcd_eq_zero_iff.mp (by exact_mod_cast z)
    omega
  have lp := e_low_loop d.natAbs n.natAbs d.natAbs (.int n) (.int d) h (Nat.le_refl _)
  have ge : Nat.gcd n.natAbs d.natAbs = Int.gcd n d := rfl
  rw [ge] at lp
  by_cases c : d < 0
  · have r := red_neg (n := n) c
    have o : ∀ i, divOk i (-(Int.gcd n d : Int)) = true := fun i => divOk_of (by omega) (by omega)
    simp [m__law_low, abs_nat]
    simp [lp, c, o_fdiv (o _), r.1, r.2, fr]
  · have r := red_pos (n := n) (d := d) (by omega)
    have o : ∀ i, divOk i (Int.gcd n d : Int) = true := fun i => divOk_of (by omega) (by omega)
    simp [m__law_low, abs_nat]
    simp [lp, c, o_fdiv (o _), r.1, r.2, fr]
theorem e_add {p q : Rat} (h : MH) (hp : small p) (hq : small q) : m__law_add [fr p, fr q] h = .ok (fr (p + q)) h := by
  obtain ⟨c1, c2, c3, c4, c5, c6⟩ := small_mul hp hq
  have f := e_low (n := p.num * q.den + q.num * p.den) h c5 c6
  rw [rat_add] at f
  simp [m__law_add, fr, atI, ixN, o_mul c2, o_mul c3, o_mul c4]
  simp [f, fr]
theorem e_mul {p q : Rat} (h : MH) (hp : small p) (hq : small q) : m__law_mul [fr p, fr q] h = .ok (fr (p * q)) h := by
  obtain ⟨c1, c2, c3, c4, c5, c6⟩ := small_mul hp hq
  have f := e_low (n := p.num * q.num) h c5 c6
  rw [rat_mul] at f
  simp [m__law_mul, fr, atI, ixN, o_mul c1, o_mul c4]
  simp [f, fr]
end AM.k02

namespace AM.k02
open PySem PySem.Spec PyProof.Rows L2 AM
def frs (l : List Rat) : List D := l.map fr
theorem frs_len (l : List Rat) : (frs l).length = l.length := List.length_map ..
theorem e_at_loop {its : Its} {F : D} {x : Rat} {h : MH} (lv : live its h) : ∀ (cs : List Rat) (acc : Rat) (z : Option D), horOk x acc cs → small x → ∃ z', floop its (bName 3) (sSet 2 (xCall m__law_add (aCons (xCall m__law_mul (aCons (xVar 2) (aCons (xVar 1) (aNil)))) (aCons (xVar 3) (aNil))))) (frs cs) [some F, some (fr x), some (fr acc), z] h = .next [some F, some (fr x), some (fr (hor acc cs x)), z'] h
  | [], acc, z, _, _ => ⟨z, floop_nil lv⟩
  | c :: cs, acc, z, ok, hx => by
    obtain ⟨h1, h2, h3, h4⟩ := ok
    obtain ⟨z', ih⟩ := e_at_loop lv cs (acc * x + c) (some (fr c)) h4 hx
    refine ⟨z', ?_⟩
    rw [← show hor (acc * x + c) cs x = hor acc (c :: cs) x from rfl, ← ih]
    exact floop_next lv e_bname (by simp [e_mul h h1 hx, e_add h h3 h2])
theorem e_at {f : List Rat} {x : Rat} (h : MH) (ok : horOk x 0 f.reverse) (hx : small x) : m__law_at [.tup (frs f), fr x] h = .ok (fr (ev f x)) h := by
  obtain ⟨z, e⟩ := e_at_loop (its := ⟨frs f.reverse, []⟩) (F := .tup (frs f)) (h := h) live_nil f.reverse 0 none ok hx
  have e0 : fr 0 = .tup [.int 0, .int 1] := rfl
  rw [hor_rev] at e
  simp [m__law_at, ← e0]
  rw [show (frs f).reverse = frs f.reverse by simp [frs], e]
  simp
theorem e_atL {f : List Rat} {x : Rat} {r : Nat} {h : MH} (hr : h[r]? = some (.lst (frs f))) (ok : horOk x 0 f.reverse) (hx : small x) : m__law_at [.ref r, fr x] h = .ok (fr (ev f x)) h := by
  obtain ⟨z, e⟩ := e_at_loop (its := ⟨frs f.reverse, []⟩) (F := .ref r) (h := h) live_nil f.reverse 0 none ok hx
  have e0 : fr 0 = .tup [.int 0, .int 1] := rfl
  have er : oRev (.val (.ref r)) h = some (.tmp (frs f).reverse) := by simp [oRev, lstOf, hr]
  rw [hor_rev] at e
  simp [m__law_at, ← e0, er]
  rw [show (frs f).reverse = frs f.reverse by simp [frs], e]
  simp
theorem e_pv_loop {its : Its} {F : D} {x : Rat} {h : MH} (lv : live its h) : ∀ (cs : List Rat) (acc : Rat) (z : Option D), horOk x acc cs → small x → ∃ z', floop its (bName 3) (sSet 2 (xCall m_plus (aCons (xCall m_times (aCons (xVar 2) (aCons (xVar 1) (aNil)))) (aCons (xVar 3) (aNil))))) (frs cs) [some F, some (fr x), some (fr acc), z] h = .next [some F, some (fr x), some (fr (hor acc cs x)), z'] h
  | [], acc, z, _, _ => ⟨z, floop_nil lv⟩
  | c :: cs, acc, z, ok, hx => by
    obtain ⟨h1, h2, h3, h4⟩ := ok
    obtain ⟨z', ih⟩ := e_pv_loop lv cs (acc * x + c) (some (fr c)) h4 hx
    refine ⟨z', ?_⟩
    rw [← show hor (acc * x + c) cs x = hor acc (c :: cs) x from rfl, ← ih]
    exact floop_next lv e_bname (by simp [e_times h h1 hx, e_plus h h3 h2])
theorem e_poly_value {f : List Rat} {x : Rat} (h : MH) (ok : horOk x 0 f.reverse) (hx : small x) : m_poly_value [.tup (frs f), fr x] h = .ok (fr (ev f x)) h := by
  obtain ⟨z, e⟩ := e_pv_loop (its := ⟨frs f.reverse, []⟩) (F := .tup (frs f)) (h := h) live_nil f.reverse 0 none ok hx
  have e0 : fr 0 = c_NOUGHT := rfl
  rw [hor_rev] at e
  simp [m_poly_value, ← e0]
  rw [show (frs f).reverse = frs f.reverse by simp [frs], e]
  simp
/-! poly_of -/
theorem cut_to (ds : List D) (k : Nat) (h : k ≤ ds.length) : cutD ds none (some (k : Int)) = ds.take k := by
  unfold cutD
  rw [show HT.sIx ds.length 0 none = 0 from rfl, HT.sIx_nat, Nat.min_eq_left h]
  simp
theorem e_pof_loop {F : D} {l : List Rat} {h : MH} (ix : ∀ k : Nat, k < l.length → oIx (.val F) (.val (.int (k : Int))) h = some (.val (fr (l.getD k 0)))) : ∀ k : Nat, k ≤ l.length →
    sWhile (tAndM (asB (xOp oGt (xVar 1) (xC (.int 0)))) (asB (xOp oEq (xOp oIx (xOp oIx (xVar 0) (xOp oSub (xVar 1) (xC (.int 1)))) (xC (.int 0))) (xC (.int 0))))) (sAug 1 oSub (xC (.int 1))) [some F, some (.int (k : Int))] h = .next [some F, some (.int ((trim (l.take k)).length : Nat))] h
  | 0, _ => by
    rw [sWhile_eq]
    simp [trim]
  | k + 1, hk => by
    have ixk := ix k (by omega)
    have ek : ((k + 1 : Nat) : Int) - 1 = (k : Int) := by omega
    have e2 : l.take (k + 1) = l.take k ++ [l.getD k 0] := by
      rw [List.take_succ_eq_append_getElem (by omega)]
      congr 1
      rw [List.getD_eq_getElem?_getD, List.getElem?_eq_getElem (by omega)]
      rfl
    have gz : (0 : Int) < ((k + 1 : Nat) : Int) := by omega
    have e3 : (l.take (k + 1)).length = k + 1 := by rw [List.length_take]; omega
    rw [sWhile_eq]
    generalize l.getD k 0 = c at ixk e2
    by_cases z : c = 0
    · rw [e2, z, trim_snoc_zero, ← e_pof_loop ix k (by omega)]
      rw [z] at ixk
      simp only [e_tand, e_asB, e_op, e_var, List.getElem?_cons_succ, List.getElem?_cons_zero, e_bok, e_C, o_gt, decide_eq_true gz, if_true, o_sub, ek, ixk, fr, o_ix]
      simp [atI, ixN]
    · have zn : ¬ c.num = 0 := fun e => z (Rat.num_eq_zero.mp e)
      rw [e2, trim_snoc z, ← e2]
      simp only [e_tand, e_asB, e_op, e_var, List.getElem?_cons_succ, List.getElem?_cons_zero, e_bok, e_C, o_gt, decide_eq_true gz, if_true, o_sub, ek, ixk, fr, o_ix]
      rw [e3]
      simp [atI, ixN, zn]
theorem frs_get (l : List Rat) (k : Nat) (hk : k < l.length) : (frs l)[k]? = some (fr (l.getD k 0)) := by
  simp [frs, List.getElem?_map, List.getElem?_eq_getElem hk]
theorem frs_take (l : List Rat) : (frs l).take (trim l).length = frs (trim l) := by
  unfold frs
  rw [← List.map_take, trim_pre]
theorem e_poly_of (l : List Rat) (h : MH) : m_poly_of [.tup (frs l)] h = .ok (.tup (frs (trim l))) h := by
  have lp := e_pof_loop (F := .tup (frs l)) (l := l) (h := h) (fun k hk => by rw [o_ix, atI_nat (frs_get l k hk)]; rfl) l.length (Nat.le_refl _)
  rw [List.take_length] at lp
  simp [m_poly_of, frs_len]
  simp [lp, cut_to (frs l) (trim l).length (by rw [frs_len]; exact trim_len l), frs_take]
theorem e_poly_ofL {l : List Rat} {h : MH} {r : Nat} (hr : h[r]? = some (.lst (frs l))) : m_poly_of [.ref r] h = .ok (.tup (frs (trim l))) h := by
  have lp := e_pof_loop (F := .ref r) (l := l) (h := h) (fun k hk => by rw [o_ixR hr, atI_nat (frs_get l k hk)]; rfl) l.length (Nat.le_refl _)
  rw [List.take_length] at lp
  have e1 : oLen (.val (.ref r)) h = some (.val (.int l.length)) := by simp [oLen, seqOf, lstOf, hr, frs_len]
  have e2 : oSl (.val (.ref r)) none (some ((trim l).length : Int)) h = some (.tmp (frs (trim l))) := by
    simp [oSl, lstOf, hr, cut_to (frs l) (trim l).length (by rw [frs_len]; exact trim_len l), frs_take]
  simp [m_poly_of, e1]
  simp [lp, e2]
/-! sums, products -/
theorem e_rep {ds : List D} {k : Int} {h : MH} (h0 : 0 ≤ k) (h1 : k ≤ 1000) : oMul (.val (.tup ds)) (.val (.int k)) h = some (.val (.tup (List.replicate k.toNat ds).flatten)) ∨ 1000 < ds.length := by
  by_cases hl : 1000 < ds.length
  · exact .inr hl
  · left
    have e : oRepT (.val (.tup ds)) (.val (.int k)) h = some (.val (.tup (List.replicate k.toNat ds).flatten)) := by
      show (if (ds.isEmpty || decide (k = 1)) = true then (if k.natAbs < 2 ^ 62 then some (SD.val (.tup ds)) else none) else if k ≤ 0 then (if k.natAbs < 2 ^ 62 then some (SD.val (.tup [])) else none)
        else if k.natAbs ≤ 1000 ∧ ds.length ≤ 1000 then some (SD.val (.tup (List.replicate k.toNat ds).flatten)) else none) = _
      by_cases c : (ds.isEmpty || decide (k = 1)) = true
      · rw [if_pos c, if_pos (by omega)]
        simp only [Bool.or_eq_true, List.isEmpty_iff, decide_eq_true_eq] at c
        rcases c with rfl | rfl
        · simp
        · simp
      · rw [if_neg c]
        by_cases c2 : k ≤ 0
        · have : k.toNat = 0 := by omega
          rw [if_pos c2, if_pos (by omega), this]; simp
        · rw [if_neg c2, if_pos (by omega)]
    show (match oRepT (.val (.tup ds)) (.val (.int k)) h with | some d => some d | none => oRepL (.val (.tup ds)) (.val (.int k)) h) = _
    rw [e]
theorem o_rep1 {d : D} {k : Int} {h : MH} (h0 : 0 ≤ k) (h1 : k ≤ 1000) : oMul (.val (.tup [d])) (.val (.int k)) h = some (.val (.tup (List.replicate k.toNat d))) := by
  rcases e_rep (ds := [d]) (h := h) h0 h1 with e | e
  · rw [e]; simp
  · simp at e
theorem o_repL1 {d : D} {k : Int} {h : MH} (h0 : 0 ≤ k) (h1 : k ≤ 1000) : oMul (.tmp [d]) (.val (.int k)) h = some (.tmp (List.replicate k.toNat d)) := by
  have e : oRepL (.tmp [d]) (.val (.int k)) h = some (.tmp (List.replicate k.toNat d)) := by
    unfold oRepL
    simp only [lstOf]
    rw [if_pos ⟨by omega, by simp only [List.length_singleton, Nat.one_mul]; show k.toNat ≤ 16777216; omega⟩]
    simp
  exact e
theorem o_cat {a b : List D} {h : MH} (c : a.length + b.length ≤ 100000) : oAdd (.val (.tup a)) (.val (.tup b)) h = some (.val (.tup (a ++ b))) := by
  rw [o_addT]
  show (if a.length + b.length ≤ sizeLine then some (SD.val (.tup (a ++ b))) else none) = _
  rw [if_pos (show a.length + b.length ≤ sizeLine by show _ ≤ 16777216; omega)]
def padTo (n : Nat) (f : List Rat) : List Rat := f ++ List.replicate (n - f.length) 0
theorem frs_pad (n : Nat) (f : List Rat) : frs f ++ List.replicate (n - f.length) c_NOUGHT = frs (padTo n f) := by
  have : fr 0 = c_NOUGHT := rfl
  simp [frs, padTo, this]
theorem cf_pad (n : Nat) (f : List Rat) (i : Nat) : cf (padTo n f) i = cf f i := by
  unfold cf padTo
  rw [List.getD_eq_getElem?_getD, List.getD_eq_getElem?_getD]
  by_cases h : i < f.length
  · rw [List.getElem?_append_left h]
  · rw [List.getElem?_append_right (by omega), List.getElem?_eq_none (l := f) (i := i) (by omega), List.getElem?_replicate]
    split <;> rfl
theorem cf_zip : ∀ (f g : List Rat) (i : Nat), f.length = g.length → cf (List.zipWith (· + ·) f g) i = cf f i + cf g i
  | [], [], i, _ => by simp [Rat.add_zero]
  | a :: f, b :: g, 0, _ => rfl
  | a :: f, b :: g, i + 1, e => cf_zip f g i (by simpa using e)
  | [], _ :: _, _, e => by simp at e
  | _ :: _, [], _, e => by simp at e
theorem e_ps_loop {its : Its} {ρ : Env'} {h : MH} {A B C : Option D} (lv : live its h) : ∀ (f g acc : List Rat), f.length = g.length → acc.length + f.length ≤ 100000 → (∀ c ∈ f, small c) → (∀ c ∈ g, small c) →
    cloop its (bTup (bCons (bName 3) (bCons (bName 4) (bNil)))) tYesM (xCall m_plus (aCons (xVar 3) (aCons (xVar 4) (aNil)))) [A, B, C, none, none] (zipD (frs f) (frs g)) (frs acc) h = .ok (.tmp (frs (acc ++ List.zipWith (· + ·) f g))) h
  | [], [], acc, _, _, _, _ => by rw [show zipD (frs []) (frs []) = [] from rfl, cloop_nil lv]; simp
  | a :: f, b :: g, acc, e, hl, hf, hg => by
    have hl' : (acc ++ [a + b]).length + f.length ≤ 100000 := by simp at hl ⊢; omega
    have ih := e_ps_loop (ρ := ρ) (A := A) (B := B) (C := C) lv f g (acc ++ [a + b]) (by simpa using e) hl' (fun c hc => hf c (List.mem_cons_of_mem _ hc)) (fun c hc => hg c (List.mem_cons_of_mem _ hc))
    have es : frs (acc ++ [a + b]) = frs acc ++ [fr (a + b)] := by simp [frs]
    rw [es, List.append_assoc] at ih
    rw [show zipD (frs (a :: f)) (frs (b :: g)) = .tup [fr a, fr b] :: zipD (frs f) (frs g) from rfl]
    rw [cloop_yes lv (ρ1 := [A, B, C, some (fr a), some (fr b)]) rfl rfl (x := .val (fr (a + b))) (h2 := h) (by simp [e_plus h (hf a (List.mem_cons_self)) (hg b (List.mem_cons_self))]) (by rw [frs_len]; show acc.length < 16777216; omega)]
    exact ih
  | [], _ :: _, _, e, _, _, _ => by simp at e
  | _ :: _, [], _, e, _, _, _ => by simp at e
theorem e_poly_sum {f g : List Rat} (h : MH) (lf : f.length ≤ 1000) (lg : g.length ≤ 1000) (hf : ∀ c ∈ f, small c) (hg : ∀ c ∈ g, small c) : m_poly_sum [.tup (frs f), .tup (frs g)] h = .ok (.tup (frs (trim (padd f g)))) h := by
  let n := max f.length g.length
  have hn : max (f.length : Int) (g.length : Int) = (n : Int) := by
    show _ = ((max f.length g.length : Nat) : Int)
    omega
  have k1 : ((n : Int) - (f.length : Int)).toNat = n - f.length := by omega
  have k2 : ((n : Int) - (g.length : Int)).toNat = n - g.length := by omega
  have b1 : 0 ≤ (n : Int) - (f.length : Int) := by show 0 ≤ ((max f.length g.length : Nat) : Int) - _; omega
  have b2 : 0 ≤ (n : Int) - (g.length : Int) := by show 0 ≤ ((max f.length g.length : Nat) : Int) - _; omega
  have c1 : (n : Int) - (f.length : Int) ≤ 1000 := by show ((max f.length g.length : Nat) : Int) - _ ≤ 1000; omega
  have c2 : (n : Int) - (g.length : Int) ≤ 1000 := by show ((max f.length g.length : Nat) : Int) - _ ≤ 1000; omega
  have z0 : small 0 := ⟨by show 0 < _; exact Nat.two_pow_pos _, by show 1 < _; exact Nat.one_lt_two_pow (by omega)⟩
  have sm : ∀ (p : List Rat), (∀ c ∈ p, small c) → ∀ c ∈ padTo n p, small c := fun p hp c hc => by
    rcases List.mem_append.mp hc with hc | hc
    · exact hp c hc
    · rw [(List.mem_replicate.mp hc).2]; exact z0
  have ln1 : (padTo n f).length = n := by simp [padTo]; show f.length + (max f.length g.length - f.length) = max f.length g.length; omega
  have ln2 : (padTo n g).length = n := by simp [padTo]; show g.length + (max f.length g.length - g.length) = max f.length g.length; omega
  have hn1 : n ≤ 1000 := by show max f.length g.length ≤ 1000; omega
  have lp := e_ps_loop (its := ⟨zipD (frs (padTo n f)) (frs (padTo n g)), []⟩) (ρ := []) (h := h) (A := some (.tup (frs (padTo n f)))) (B := some (.tup (frs (padTo n g)))) (C := some (.int n)) live_nil (padTo n f) (padTo n g) [] (by rw [ln1, ln2]) (by rw [ln1]; simp; omega) (sm f hf) (sm g hg)
  have tr : trim (List.zipWith (· + ·) (padTo n f) (padTo n g)) = trim (padd f g) := trim_ext _ _ fun i => by rw [cf_zip _ _ _ (by rw [ln1, ln2]), cf_pad, cf_pad, cf_padd]
  have hp := e_poly_ofL (l := List.zipWith (· + ·) (padTo n f) (padTo n g)) (h := h ++ [.lst (frs (List.zipWith (· + ·) (padTo n f) (padTo n g)))]) (r := h.length) (by simp)
  rw [tr] at hp
  simp only [List.nil_append, show frs [] = [] from rfl] at lp
  have bl : (D.tup (frs (trim (padd f g)))).bel h.length = true := by
    simp only [D.bel]
    generalize trim (padd f g) = l
    induction l with
    | nil => rfl
    | cons c l ih => simp only [frs, List.map_cons, D.belL]; exact Bool.and_eq_true_iff.mpr ⟨rfl, ih⟩
  simp [m_poly_sum, frs_len, hn, o_rep1 b1 c1, o_rep1 b2 c2, k1, k2]
  rw [o_cat (by simp [frs_len]; omega)]
  simp [frs_len, o_rep1 b2 c2, k2]
  rw [o_cat (by simp [frs_len]; omega)]
  simp [frs_pad, isTupS, lp, hp, gc_app bl]
end AM.k02

namespace AM.k02
open PySem PySem.Spec PyProof.Rows L2 AM
theorem bel_frs (l : List Rat) (n : Nat) : (D.tup (frs l)).bel n = true := by
  simp only [D.bel]
  induction l with
  | nil => rfl
  | cons c l ih => simp only [frs, List.map_cons, D.belL]; exact Bool.and_eq_true_iff.mpr ⟨rfl, ih⟩
theorem bel_lfrs (l : List Rat) (n : Nat) : (MO.lst (frs l)).bel n = true := bel_frs l n
theorem small_zero : small 0 := ⟨by show 0 < _; exact Nat.two_pow_pos _, by show 1 < _; exact Nat.one_lt_two_pow (by omega)⟩
theorem e_poly_times {a : Rat} {f : List Rat} (h : MH) (ha : small a) (hf : ∀ c ∈ f, small c) (lf : f.length ≤ 1000) : m_poly_times [fr a, .tup (frs f)] h = .ok (.tup (frs (if a = 0 then [] else psc a f))) h := by
  by_cases z : a = 0
  · subst z
    simp [m_poly_times, fr, atI, ixN, frs]
  · have zn : ¬ a.num = 0 := fun e => z (Rat.num_eq_zero.mp e)
    have lp := cloop_map (its := ⟨frs f, []⟩) (bd := bName 2) (el := xCall m_times (aCons (xVar 0) (aCons (xVar 2) aNil))) (ρ := [some (fr a), some (.tup (frs f)), none]) (h := h) (F := fun d => match d with | .tup [.int n, .int k] => fr (a * Rat.divInt n k) | _ => .non)
      live_nil (frs f) [] (fun d hd => by
        obtain ⟨c, hc, rfl⟩ := List.mem_map.mp hd
        refine ⟨_, rfl, ?_⟩
        have e : Rat.divInt c.num c.den = c := Rat.num_divInt_den c
        simp [e_times h ha (hf c hc)]
        show fr (a * c) = fr (a * Rat.divInt c.num c.den)
        rw [e]) (by rw [frs_len]; show 0 + f.length ≤ 16777216; omega)
    have em : (frs f).map (fun d => match d with | .tup [.int n, .int k] => fr (a * Rat.divInt n k) | _ => .non) = frs (psc a f) := by
      simp only [frs, psc, List.map_map]
      refine List.map_congr_left fun c _ => ?_
      show fr (a * Rat.divInt c.num c.den) = fr (a * c)
      rw [Rat.num_divInt_den]
    rw [em] at lp
    have e1 : oIx (.val (fr a)) (.val (.int 0)) h = some (.val (.int a.num)) := by simp [fr, atI, ixN]
    simp [m_poly_times, e1, zn, lp, z]
/-! products -/
def addRow : List Rat → Nat → Rat → List Rat → List Rat
  | acc, _, _, [] => acc
  | acc, s, a, b :: g => addRow (acc.set s (cf acc s + a * b)) (s + 1) a g
theorem addRow_len : ∀ (g acc : List Rat) (s : Nat) (a : Rat), (addRow acc s a g).length = acc.length
  | [], _, _, _ => rfl
  | b :: g, acc, s, a => by simp only [addRow]; rw [addRow_len g]; simp
theorem cf_set {acc : List Rat} {s : Nat} {v : Rat} (hs : s < acc.length) (i : Nat) : cf (acc.set s v) i = if i = s then v else cf acc i := by
  unfold cf
  rw [List.getD_eq_getElem?_getD, List.getD_eq_getElem?_getD]
  by_cases e : i = s
  · subst e
    rw [List.getElem?_set_self hs, if_pos rfl]; rfl
  · rw [List.getElem?_set_ne (Ne.symm e), if_neg e]
theorem cf_addRow : ∀ (g acc : List Rat) (s : Nat) (a : Rat) (i : Nat), s + g.length ≤ acc.length → cf (addRow acc s a g) i = cf acc i + (if s ≤ i then a * cf g (i - s) else 0)
  | [], acc, s, a, i, _ => by simp [addRow, Rat.mul_zero, Rat.add_zero]
  | b :: g, acc, s, a, i, hl => by
    simp only [List.length_cons] at hl
    simp only [addRow]
    rw [cf_addRow g _ (s + 1) a i (by rw [List.length_set]; omega), cf_set (by omega)]
    by_cases e : i = s
    · subst e
      rw [if_pos rfl, if_neg (by omega), if_pos (Nat.le_refl _), Nat.sub_self, cf_zero, Rat.add_zero]
    · rw [if_neg e]
      by_cases l : s ≤ i
      · rw [if_pos (by omega), if_pos l]
        have : i - s = (i - (s + 1)) + 1 := by omega
        rw [this, cf_succ]
      · rw [if_neg (by omega), if_neg l]
def mulRows : List Rat → Nat → List Rat → List Rat → List Rat
  | acc, _, [], _ => acc
  | acc, s, a :: f, g => mulRows (if a = 0 then acc else addRow acc s a g) (s + 1) f g
theorem cf_mulRows (g : List Rat) : ∀ (f acc : List Rat) (s i : Nat), s + f.length + g.length ≤ acc.length + 1 → cf (mulRows acc s f g) i = cf acc i + (if s ≤ i then cf (pmul f g) (i - s) else 0)
  | [], acc, s, i, _ => by simp [mulRows, pmul, Rat.add_zero]
  | a :: f, acc, s, i, hl => by
    simp only [List.length_cons] at hl
    have key : cf (if a = 0 then acc else addRow acc s a g) i = cf acc i + (if s ≤ i then a * cf g (i - s) else 0) := by
      split
      · rename_i z
        rw [z, Rat.zero_mul]; simp [Rat.add_zero]
      · exact cf_addRow g acc s a i (by omega)
    have kl : (if a = 0 then acc else addRow acc s a g).length = acc.length := by
      split
      · rfl
      · exact addRow_len ..
    simp only [mulRows]
    rw [cf_mulRows g f _ (s + 1) i (by rw [kl]; omega), key]
    by_cases l : s ≤ i
    · rw [if_pos l, if_pos l]
      by_cases e : i = s
      · subst e
        rw [if_neg (by omega), Nat.sub_self, cf_pmul0, Rat.add_zero]
      · rw [if_pos (by omega)]
        have : i - s = (i - (s + 1)) + 1 := by omega
        rw [this, cf_pmulS, Rat.add_assoc]
    · rw [if_neg l, if_neg l, if_neg (by omega), Rat.add_zero]
theorem frs_set (l : List Rat) (i : Nat) (q : Rat) : (frs l).set i (fr q) = frs (l.set i q) := by simp [frs, List.map_set]
theorem set_last {h : MH} {a b : MO} : (h ++ [a]).set h.length b = h ++ [b] := by
  rw [List.set_append_right _ _ (Nat.le_refl _), Nat.sub_self]; rfl
theorem get_last {h : MH} {a : MO} : (h ++ [a])[h.length]? = some a := by simp
theorem cf_of {l : List Rat} {k : Nat} (hk : k < l.length) : (frs l)[k]? = some (fr (cf l k)) := frs_get l k hk
/-- the inner turns -/
theorem e_row_loop {its : Its} (lv : ∀ h, live its h) {F G : D} {J : Nat} {a : Rat} {h : MH} {M N : Nat} (hM : M < 2 ^ 4000) (ha : small a) : ∀ (g acc : List Rat) (k : Nat) (z1 z2 : Option D) (T T' : Nat), J + k + g.length ≤ acc.length → T' < 2 ^ 4000 →
    (∀ b ∈ g, small b ∧ Bd M N (a * b)) → T + N ≤ T' → (∀ i, Bd M T' (cf acc i)) → (∀ i, J + k ≤ i → Bd M T (cf acc i)) → (∃ z1' z2', floop its (bTup (bCons (bName 5) (bCons (bName 6) (bNil)))) (sIxSet (xCall m_plus (aCons (xOp oIx (xVar 2) (xOp oAdd (xVar 3) (xVar 5))) (aCons (xCall m_times (aCons (xVar 4) (aCons (xVar 6) (aNil)))) (aNil)))) (xVar 2) (xOp oAdd (xVar 3) (xVar 5)))
      (enD k (frs g)) [some F, some G, some (.ref h.length), some (.int (J : Nat)), some (fr a), z1, z2] (h ++ [.lst (frs acc)]) = .next [some F, some G, some (.ref h.length), some (.int (J : Nat)), some (fr a), z1', z2'] (h ++ [.lst (frs (addRow acc (J + k) a g))])) ∧ (∀ i, Bd M T' (cf (addRow acc (J + k) a g) i))
  | [], acc, k, z1, z2, T, T', _, _, _, _, hb, _ => ⟨⟨z1, z2, floop_nil (lv _)⟩, hb⟩
  | b :: g, acc, k, z1, z2, T, T', hl, hT, hg, hTT, hb, hb2 => by
    simp only [List.length_cons] at hl
    obtain ⟨sb, bab⟩ := hg b (List.mem_cons_self)
    have b0 := hb2 (J + k) (Nat.le_refl _)
    have bs : Bd M T' (cf acc (J + k) + a * b) := (b0.add bab).mono hTT
    have hs : J + k < acc.length := by omega
    have s1 : small (cf acc (J + k)) := (hb (J + k)).small hM hT
    have s2 : small (a * b) := bab.small hM (by omega)
    have c1 : ∀ i, cf (acc.set (J + k) (cf acc (J + k) + a * b)) i = if i = J + k then cf acc (J + k) + a * b else cf acc i := fun i => cf_set hs i
    have ih := e_row_loop lv (F := F) (G := G) (J := J) (h := h) hM ha g (acc.set (J + k) (cf acc (J + k) + a * b)) (k + 1) (some (.int (k : Nat))) (some (fr b)) T T' (by rw [List.length_set]; omega) hT (fun c hc => hg c (List.mem_cons_of_mem _ hc)) hTT
      (fun i => by rw [c1]; split; exact bs; exact hb i) (fun i hi => by rw [c1, if_neg (by omega)]; exact hb2 i (by omega))
    obtain ⟨⟨z1', z2', e⟩, ih2⟩ := ih
    refine ⟨⟨z1', z2', ?_⟩, ih2⟩
    have ix : oIx (.val (.ref h.length)) (.val (.int ((J : Int) + (k : Int)))) (h ++ [.lst (frs acc)]) = some (.val (fr (cf acc (J + k)))) := by
      rw [o_ixR get_last, show (J : Int) + (k : Int) = ((J + k : Nat) : Int) by omega, atI_nat (cf_of hs)]; rfl
    have ixn : ixN (frs acc).length ((J : Int) + (k : Int)) = some (J + k) := by
      rw [frs_len, show (J : Int) + (k : Int) = ((J + k : Nat) : Int) by omega, ixN_nat hs]
    rw [show enD k (frs (b :: g)) = .tup [.int (k : Nat), fr b] :: enD (k + 1) (frs g) from rfl, floop_next (lv _) (ρ1 := [some F, some G, some (.ref h.length), some (.int (J : Nat)), some (fr a), some (.int (k : Nat)), some (fr b)]) rfl (h2 := h ++ [.lst (frs (acc.set (J + k) (cf acc (J + k) + a * b)))]) (ρ2 := [some F, some G, some (.ref h.length), some (.int (J : Nat)), some (fr a), some (.int (k : Nat)), some (fr b)])
      (by simp [ix, ixn, e_times _ ha sb, e_plus _ s1 s2, get_last, frs_set])]
    exact e
def pairsOk (M N : Nat) (f g : List Rat) : Prop := (∀ a ∈ f, small a) ∧ (∀ b ∈ g, small b) ∧ ∀ a ∈ f, ∀ b ∈ g, Bd M N (a * b)
theorem e_rows_loop {its : Its} (lv : ∀ h, live its h) {F : D} {h : MH} {M N : Nat} (hM : M < 2 ^ 4000) {g : List Rat} : ∀ (f acc : List Rat) (j : Nat) (z3 z4 z5 z6 : Option D), j + f.length + g.length ≤ acc.length + 1 → (j + f.length) * N < 2 ^ 4000 → pairsOk M N f g → (∀ i, Bd M (j * N) (cf acc i)) →
    ∃ z3' z4' z5' z6', floop its (bTup (bCons (bName 3) (bCons (bName 4) (bNil)))) (sIf (asB (xOp oNe (xOp oIx (xVar 4) (xC (.int 0))) (xC (.int 0)))) (sFor (iEnumM (xVar 1)) (bTup (bCons (bName 5) (bCons (bName 6) (bNil)))) (sIxSet (xCall m_plus (aCons (xOp oIx (xVar 2) (xOp oAdd (xVar 3) (xVar 5))) (aCons (xCall m_times (aCons (xVar 4) (aCons (xVar 6) (aNil)))) (aNil)))) (xVar 2) (xOp oAdd (xVar 3) (xVar 5)))) (sNext))
      (enD j (frs f)) [some F, some (.tup (frs g)), some (.ref h.length), z3, z4, z5, z6] (h ++ [.lst (frs acc)]) = .next [some F, some (.tup (frs g)), some (.ref h.length), z3', z4', z5', z6'] (h ++ [.lst (frs (mulRows acc j f g))])
  | [], acc, j, z3, z4, z5, z6, _, _, _, _ => ⟨z3, z4, z5, z6, floop_nil (lv _)⟩
  | a :: f, acc, j, z3, z4, z5, z6, hl, hT, hp, hb => by
    simp only [List.length_cons] at hl
    have sa := hp.1 a (List.mem_cons_self)
    have e1 : ∀ h, oIx (.val (fr a)) (.val (.int 0)) h = some (.val (.int a.num)) := fun h => by simp [fr, atI, ixN]
    have hjn : (j + 1) * N < 2 ^ 4000 := Nat.lt_of_le_of_lt (Nat.mul_le_mul_right _ (by simp only [List.length_cons]; omega)) hT
    have hp' : pairsOk M N f g := ⟨fun b hb => hp.1 b (List.mem_cons_of_mem _ hb), hp.2.1, fun b hb => hp.2.2 b (List.mem_cons_of_mem _ hb)⟩
    have hT' : (j + 1 + f.length) * N < 2 ^ 4000 := by
      have : j + 1 + f.length = j + (a :: f).length := by simp only [List.length_cons]; omega
      rw [this]; exact hT
    rw [show enD j (frs (a :: f)) = .tup [.int (j : Nat), fr a] :: enD (j + 1) (frs f) from rfl]
    simp only [mulRows]
    by_cases z : a = 0
    · have zn : a.num = 0 := by rw [z]; rfl
      obtain ⟨y3, y4, y5, y6, e⟩ := e_rows_loop lv (F := F) (h := h) hM f acc (j + 1) (some (.int (j : Nat))) (some (fr a)) z5 z6 (by omega) hT' hp' fun i => (hb i).mono (Nat.mul_le_mul_right _ (by omega))
      refine ⟨y3, y4, y5, y6, ?_⟩
      rw [if_pos z, floop_next (lv _) (ρ1 := [some F, some (.tup (frs g)), some (.ref h.length), some (.int (j : Nat)), some (fr a), z5, z6]) rfl (ρ2 := [some F, some (.tup (frs g)), some (.ref h.length), some (.int (j : Nat)), some (fr a), z5, z6]) (h2 := h ++ [.lst (frs acc)])
        (by simp [e1, zn])]
      exact e
    · have zn : ¬ a.num = 0 := fun e => z (Rat.num_eq_zero.mp e)
      obtain ⟨⟨y5, y6, e2⟩, hb2⟩ := e_row_loop (its := ⟨enD 0 (frs g), []⟩) (fun _ => live_nil) (F := F) (G := .tup (frs g)) (J := j) (h := h) hM sa g acc 0 z5 z6 (j * N) ((j + 1) * N) (by omega) hjn (fun b hb => ⟨hp.2.1 b hb, hp.2.2 a (List.mem_cons_self) b hb⟩) (by rw [Nat.succ_mul]; exact Nat.le_refl _) (fun i => (hb i).mono (Nat.mul_le_mul_right _ (by omega))) fun i _ => hb i
      obtain ⟨x3, x4, x5, x6, e⟩ := e_rows_loop lv (F := F) (h := h) hM f (addRow acc j a g) (j + 1) (some (.int (j : Nat))) (some (fr a)) y5 y6 (by rw [addRow_len]; omega) hT' hp' hb2
      refine ⟨x3, x4, x5, x6, ?_⟩
      rw [if_neg z, floop_next (lv _) (ρ1 := [some F, some (.tup (frs g)), some (.ref h.length), some (.int (j : Nat)), some (fr a), z5, z6]) rfl (ρ2 := [some F, some (.tup (frs g)), some (.ref h.length), some (.int (j : Nat)), some (fr a), y5, y6]) (h2 := h ++ [.lst (frs (addRow acc j a g))])
        (by simp [e1, zn]; exact e2)]
      exact e
end AM.k02

namespace AM.k02
open PySem PySem.Spec PyProof.Rows L2 AM
theorem e_poly_product {f g : List Rat} (h : MH) {M N : Nat} (hM : M < 2 ^ 4000) (hM0 : 0 < M) (hN : f.length * N < 2 ^ 4000) (lf : f.length ≤ 400) (lg : g.length ≤ 400) (hp : pairsOk M N f g) : m_poly_product [.tup (frs f), .tup (frs g)] h = .ok (.tup (frs (trim (pmul f g)))) h := by
  by_cases e1 : f = []
  · subst e1
    simp [m_poly_product, frs, pmul, trim]
  by_cases e2 : g = []
  · subst e2
    have z : trim (pmul f []) = [] := trim_zero _ (pmul_nilR f)
    simp [m_poly_product, frs, z]
  · have l1 : 0 < f.length := List.length_pos_iff.mpr e1
    have l2 : 0 < g.length := List.length_pos_iff.mpr e2
    obtain ⟨n, en⟩ : ∃ n, n = f.length + g.length - 1 := ⟨_, rfl⟩
    have hn : ((f.length : Int) + (g.length : Int) - 1) = (n : Int) := by omega
    have hz : List.replicate n c_NOUGHT = frs (List.replicate n 0) := by simp [frs]; exact Or.inr rfl
    have cz : ∀ i, cf (List.replicate n (0 : Rat)) i = 0 := fun i => by
      unfold cf; rw [List.getD_eq_getElem?_getD, List.getElem?_replicate]; split <;> rfl
    obtain ⟨z3, z4, z5, z6, e⟩ := e_rows_loop (its := ⟨enD 0 (frs f), []⟩) (fun _ => live_nil) (F := .tup (frs f)) (h := h) hM f (List.replicate n 0) 0 none none none none (by rw [List.length_replicate]; omega) (by rw [Nat.zero_add]; exact hN) hp fun i => by rw [cz]; exact Bd.zero hM0
    have tr : trim (mulRows (List.replicate n 0) 0 f g) = trim (pmul f g) := trim_ext _ _ fun i => by
      rw [cf_mulRows g f _ 0 i (by rw [List.length_replicate]; omega), cz, if_pos (Nat.zero_le _), Rat.zero_add, Nat.sub_zero]
    have hp := e_poly_ofL (l := mulRows (List.replicate n 0) 0 f g) (h := h ++ [.lst (frs (mulRows (List.replicate n 0) 0 f g))]) (r := h.length) get_last
    rw [tr] at hp
    have i1 : (frs f).isEmpty = false := by cases f with
      | nil => exact absurd rfl e1
      | cons _ _ => rfl
    have i2 : (frs g).isEmpty = false := by cases g with
      | nil => exact absurd rfl e2
      | cons _ _ => rfl
    have b1 : (0 : Int) ≤ n := by omega
    have b2 : (n : Int) ≤ 1000 := by omega
    simp [m_poly_product, i1, i2, frs_len, hn, o_repL1 b1 b2, hz, e, hp, gc_app (bel_frs _ _)]
end AM.k02

namespace AM.k02
open PySem PySem.Spec PyProof.Rows L2 AM
/-! derived -/
def derL (f : List Rat) : List Rat := (List.range (f.length - 1)).map fun (k : Nat) => ((1 + (k : Int) : Int) : Rat) * cf f (k + 1)
theorem cf_derL (f : List Rat) (i : Nat) : cf (derL f) i = cf (der f) i := by
  rw [cf_der]
  by_cases h : i < f.length - 1
  · have : cf (derL f) i = ((1 + (i : Int) : Int) : Rat) * cf f (i + 1) := by
      unfold cf derL
      rw [List.getD_eq_getElem?_getD, List.getElem?_map, List.getElem?_range h]; rfl
    rw [this]
    have e : ((1 + (i : Int) : Int) : Rat) = ((i + 1 : Nat) : Rat) := by
      rw [Int.add_comm]; rfl
    rw [e]
  · rw [cf_out (by simp [derL]; omega), cf_out (l := f) (by omega), Rat.mul_zero]
theorem small_nat {k : Nat} (h : k ≤ 100000) : small ((k : Int) : Rat) := by
  refine ⟨?_, ?_⟩
  · show (k : Int).natAbs < _
    have : k < 2 ^ 17 := by omega
    exact Nat.lt_of_lt_of_le (show (k : Int).natAbs < 2 ^ 17 by omega) (Nat.pow_le_pow_right (by omega) (by omega))
  · show 1 < _; exact Nat.one_lt_two_pow (by omega)
theorem e_derived {f : List Rat} (h : MH) (hf : ∀ c ∈ f, small c) (lf : f.length ≤ 1000) : m_derived [.tup (frs f)] h = .ok (.tup (frs (trim (der f)))) h := by
  have lp := cloop_map (its := ⟨rgD 1 1 (f.length - 1), []⟩) (bd := bName 1) (el := xCall m_times (aCons (xCall m_whole (aCons (xVar 1) aNil)) (aCons (xOp oIx (xVar 0) (xVar 1)) aNil))) (ρ := [some (.tup (frs f)), none]) (h := h) (F := fun d => match d with | .int k => fr ((k : Rat) * cf f k.toNat) | _ => .non)
    live_nil (rgD 1 1 (f.length - 1)) [] (fun d hd => by
      rw [rgD_map] at hd
      obtain ⟨k, hk, rfl⟩ := List.mem_map.mp hd
      have hk := List.mem_range.mp hk
      refine ⟨_, rfl, ?_⟩
      have e1 : (1 + (k : Int)) = ((k + 1 : Nat) : Int) := by omega
      have ix : atI (frs f) ((k + 1 : Nat) : Int) = some (fr (cf f (k + 1))) := atI_nat (cf_of (by omega))
      rw [e1]
      simp only [e_call, e_cons, e_var, e_op, e_hv, e_hh, e_nil, e_bok, e_bname, List.set, List.getElem?_cons_zero, List.getElem?_cons_succ, e_whole, o_ix, ix, Option.map_some, e_times h (small_nat (show k + 1 ≤ 100000 by omega)) (hf _ (mem_cf (show k + 1 < f.length by omega)))]
      rfl) (by simp only [rgD, List.length_map, List.length_range, List.length_nil]; show 0 + (f.length - 1) ≤ 16777216; omega)
  have em : (rgD 1 1 (f.length - 1)).map (fun d => match d with | .int k => fr ((k : Rat) * cf f k.toNat) | _ => .non) = frs (derL f) := by
    rw [rgD_map]
    simp only [frs, derL, List.map_map]
    refine List.map_congr_left fun k _ => ?_
    show fr (((1 + (k : Int) : Int) : Rat) * cf f (1 + (k : Int)).toNat) = fr (((1 + (k : Int) : Int) : Rat) * cf f (k + 1))
    rw [show (1 + (k : Int)).toNat = k + 1 by omega]
  rw [em] at lp
  have hp := e_poly_ofL (l := derL f) (h := h ++ [.lst (frs (derL f))]) (r := h.length) get_last
  rw [trim_ext (derL f) (der f) (cf_derL f)] at hp
  have b1 : ((f.length : Int)).natAbs < 2 ^ 62 := by omega
  have b2 : ((f.length : Int) - 1).toNat = f.length - 1 := by omega
  simp [m_derived, frs_len, b2, show f.length < 4611686018427387904 by omega, lp, hp, gc_app (bel_frs _ _)]
end AM.k02

namespace AM.k02
open PySem PySem.Spec PyProof.Rows L2 AM
/-! moved -/
def mvS (line found : List Rat) (c : Rat) : List Rat := trim (padd (trim (pmul found line)) (trim [c]))
def mv (line : List Rat) : List Rat → List Rat → List Rat
  | found, [] => found
  | found, c :: cs => mv line (mvS line found c) cs
theorem ev_mvS (line found : List Rat) (c x : Rat) : ev (mvS line found c) x = ev found x * ev line x + c := by
  unfold mvS
  rw [ev_trim, ev_padd, ev_trim, ev_trim, ev_pmul]
  simp only [ev]
  grind
theorem ev_mv (line : List Rat) (x : Rat) : ∀ (cs found : List Rat), ev (mv line found cs) x = hor (ev found x) cs (ev line x)
  | [], found => rfl
  | c :: cs, found => by
    simp only [mv]
    rw [ev_mv line x cs, ev_mvS]; rfl
structure MvB (M N L W i : Nat) (found : List Rat) : Prop where
  len : found.length ≤ i
  bd : BdL (M * L ^ i) (i * N * (10 * W) ^ i) found
theorem mvS_len {line found : List Rat} {c : Rat} {i : Nat} (hl : line.length ≤ 2) (h : found.length ≤ i) : (mvS line found c).length ≤ i + 1 := by
  unfold mvS
  refine Nat.le_trans (trim_len _) ?_
  rw [padd_len]
  have h1 := pmul_trim_len (f := found) (g := line)
  have h2 := trim_len [c]
  simp only [List.length_singleton] at h2
  omega
theorem mvS_bd {M N L W i : Nat} {line found : List Rat} {c : Rat} (hi : i ≤ 9) (hLW : L ≤ W) (hl : line.length ≤ 2) (bl : BdL L W line) (bc : Bd M N c) (h : MvB M N L W i found) : MvB M N L W (i + 1) (mvS line found c) := by
  refine ⟨mvS_len hl h.len, ?_⟩
  unfold mvS
  have hL := bl.pos
  have e1 : M * L ^ i * L = M * L ^ (i + 1) := by rw [Nat.mul_assoc, ← Nat.pow_succ]
  have p1 := (h.bd.pmul bl).trim
  rw [e1] at p1
  have bc1 : BdL M N [c] := BdL.of bc.1 fun d hd => by rw [List.mem_singleton.mp hd]; exact bc
  have p2 := (bc1.up (c := L ^ (i + 1)) (Nat.pow_pos hL)).trim
  refine ((p1.padd p2).trim).mono ?_
  have a1 : found.length * (i * N * (10 * W) ^ i * W) ≤ i * N * (10 * W) ^ (i + 1) := by
    have : found.length * (i * N * (10 * W) ^ i * W) ≤ 10 * (i * N * (10 * W) ^ i * W) := Nat.mul_le_mul_right _ (by have := h.len; omega)
    refine Nat.le_trans this (Nat.le_of_eq ?_)
    rw [Nat.pow_succ]
    grind
  have a2 : N * L ^ (i + 1) ≤ N * (10 * W) ^ (i + 1) := Nat.mul_le_mul_left _ (Nat.pow_le_pow_left (by omega) _)
  have a3 : (i + 1) * N * (10 * W) ^ (i + 1) = i * N * (10 * W) ^ (i + 1) + N * (10 * W) ^ (i + 1) := by
    rw [Nat.succ_mul i N, Nat.add_mul]
  omega
/-- sizes enough for ten turns -/
structure MvOk (M N L W : Nat) : Prop where
  m1 : ∀ i ≤ 10, M * L ^ i < 2 ^ 4000
  m2 : ∀ i ≤ 10, N * L ^ i < 2 ^ 4000
  m3 : ∀ i ≤ 10, 10 * (i * N * (10 * W) ^ i * W) < 2 ^ 4000
  m4 : ∀ i ≤ 10, i * N * (10 * W) ^ i < 2 ^ 4000
  m5 : W < 2 ^ 4000
  m6 : L ≤ W
theorem e_mv_loop {its : Its} (lv : ∀ h, live its h) {F A B : D} {h : MH} {line : List Rat} {M N L W n : Nat} (hn : n ≤ 10) (ok : MvOk M N L W) (hl : line.length ≤ 2) (bl : BdL L W line) : ∀ (cs found : List Rat) (t : MH) (z : Option D) (i : Nat), i + cs.length = n → (∀ c ∈ cs, Bd M N c) → MvB M N L W i found →
    (∃ t' z', floop its (bName 5) (sSet 3 (xCall m_poly_sum (aCons (xCall m_poly_product (aCons (xVar 3) (aCons (xVar 4) (aNil)))) (aCons (xCall m_poly_of (aCons (xLst (aCons (xVar 5) (aNil))) (aNil))) (aNil))))) (frs cs)
      [some F, some A, some B, some (.tup (frs found)), some (.tup (frs line)), z] (h ++ t) = .next [some F, some A, some B, some (.tup (frs (mv line found cs))), some (.tup (frs line)), z'] (h ++ t')) ∧ MvB M N L W n (mv line found cs)
  | [], found, t, z, i, e, _, hb => by
    simp only [List.length_nil, Nat.add_zero] at e
    subst e
    exact ⟨⟨t, z, floop_nil (lv _)⟩, hb⟩
  | c :: cs, found, t, z, i, e, hc, hb => by
    simp only [List.length_cons] at e
    have bc := hc c (List.mem_cons_self)
    have hb' := mvS_bd (by omega) ok.m6 hl bl bc hb
    obtain ⟨⟨t', z', ih⟩, ihb⟩ := e_mv_loop lv (F := F) (A := A) (B := B) (h := h) hn ok hl bl cs (mvS line found c) (t ++ [.lst (frs [c])]) (some (fr c)) (i + 1) (by omega) (fun d hd => hc d (List.mem_cons_of_mem _ hd)) hb'
    refine ⟨⟨t', z', ?_⟩, ihb⟩
    have hL := bl.pos
    have e1 : M * L ^ i * L = M * L ^ (i + 1) := by rw [Nat.mul_assoc, ← Nat.pow_succ]
    have k1 := ok.m1 (i + 1) (by omega)
    rw [← e1] at k1
    have hle := hb.len
    have k3 : found.length * (i * N * (10 * W) ^ i * W) < 2 ^ 4000 := Nat.lt_of_le_of_lt (Nat.mul_le_mul_right _ (by omega)) (ok.m3 i (by omega))
    have hMp : pairsOk (M * L ^ i * L) (i * N * (10 * W) ^ i * W) found line :=
      ⟨hb.bd.small (ok.m1 i (by omega)) (ok.m4 i (by omega)), bl.small (Nat.lt_of_le_of_lt ok.m6 ok.m5) ok.m5, fun a ha b hb2 => (hb.bd.mem a ha).mul (bl.mem b hb2)⟩
    have p1 := (hb.bd.pmul bl).trim
    have bc1 : BdL M N [c] := BdL.of bc.1 fun d hd => by rw [List.mem_singleton.mp hd]; exact bc
    have s2 := bc1.trim.small (by have := ok.m1 0 (by omega); simpa using this) (by have := ok.m2 0 (by omega); simpa using this)
    have lp := pmul_trim_len (f := found) (g := line)
    have lc := trim_len [c]
    simp only [List.length_singleton] at lc
    have q1 := e_poly_product (h ++ t) k1 (Nat.mul_pos hb.bd.pos hL) k3 (by omega) (by omega) hMp
    have q2 := e_poly_ofL (l := [c]) (h := (h ++ t) ++ [.lst (frs [c])]) (r := (h ++ t).length) get_last
    have q3 := e_poly_sum ((h ++ t) ++ [.lst (frs [c])]) (f := trim (pmul found line)) (g := trim [c]) (by omega) (by omega) (p1.small k1 k3) s2
    rw [show frs (c :: cs) = fr c :: frs cs from rfl, floop_next (lv _) e_bname (ρ2 := [some F, some A, some B, some (.tup (frs (mvS line found c))), some (.tup (frs line)), some (fr c)]) (h2 := h ++ (t ++ [.lst (frs [c])]))]
    · exact ih
    · have fc : frs [c] = [fr c] := rfl
      rw [fc] at q2 q3 ⊢
      rw [List.length_append] at q2
      simp only [e_set, e_call, e_cons, e_var, List.set, List.getElem?_cons_zero, List.getElem?_cons_succ, e_bok, e_hv, e_hh, e_nil, q1, e_lst, List.length_cons, List.length_nil, e_ht, e_hth]
      rw [List.append_assoc] at q2 q3
      simp [q2, q3, mvS]
theorem e_moved {f : List Rat} {a b : Rat} (h : MH) {M N L W : Nat} (ok : MvOk M N L W) (lf : f.length ≤ 10) (hM0 : 0 < M) (bf : ∀ c ∈ f, Bd M N c) (ba : Bd L W a) (bb : Bd L W b) :
    ∃ g, m_moved [.tup (frs f), fr a, fr b] h = .ok (.tup (frs g)) h ∧ (∀ x, ev g x = ev f (a + x * b)) ∧ MvB M N L W f.length g ∧ trim g = g := by
  have bl0 : BdL L W [a, b] := BdL.of ba.1 fun d hd => by
    simp only [List.mem_cons, List.not_mem_nil, or_false] at hd
    rcases hd with rfl | rfl
    · exact ba
    · exact bb
  have ll := trim_len [a, b]
  simp only [List.length_cons, List.length_nil] at ll
  obtain ⟨⟨t', z', e⟩, hb⟩ := e_mv_loop (its := ⟨frs f.reverse, []⟩) (fun _ => live_nil) (F := .tup (frs f)) (A := fr a) (B := fr b) (h := h) lf ok (by omega) bl0.trim f.reverse [] [.lst (frs [a, b])] none 0 (by simp) (fun c hc => bf c (List.mem_reverse.mp hc)) ⟨Nat.le_refl _, fun i => Bd.zero (by simpa using hM0)⟩
  refine ⟨_, ?_, fun x => ?_, hb, ?_⟩
  · have q2 := e_poly_ofL (l := [a, b]) (h := h ++ [.lst (frs [a, b])]) (r := h.length) get_last
    have fc : frs [a, b] = [fr a, fr b] := rfl
    rw [fc] at q2 e
    have e0 : frs [] = [] := rfl
    rw [e0] at e
    simp [m_moved, q2]
    rw [show (frs f).reverse = frs f.reverse by simp [frs], e]
    simp [gc_app (bel_frs _ _)]
  · rw [ev_mv, ev_trim]
    have e1 : ev [a, b] x = a + x * b := by simp only [ev]; grind
    rw [e1]
    exact hor_rev (a + x * b) f
  · have key : ∀ (cs found : List Rat), trim found = found → trim (mv (trim [a, b]) found cs) = mv (trim [a, b]) found cs := by
      intro cs
      induction cs with
      | nil => exact fun found z => z
      | cons c cs ih => exact fun found _ => ih _ (trim_idem _)
    exact key _ _ rfl
end AM.k02

namespace AM.k02
open PySem PySem.Spec PyProof.Rows L2 AM
section
variable {h : MH} {i : Int} {b : Bool} {x : Str} {ds : List D}
theorem o_isi {x : SD} {n t : String} {b : Bool} (e1 : tyN x h = some t) (e2 : kitB t n = some b) : oIsi x (.val (.ty n)) h = some (.val (.bl b)) := by
  simp only [oIsi, e1, Option.bind_some, e2, Option.map_some]
@[simp] theorem isi1 : oIsi (.val (.int i)) (.val (.ty "int")) h = some (.val (.bl true)) := o_isi rfl kit1
@[simp] theorem isi2 : oIsi (.val (.bl b)) (.val (.ty "int")) h = some (.val (.bl true)) := o_isi rfl kit2
@[simp] theorem isi3 : oIsi (.val (.str x)) (.val (.ty "int")) h = some (.val (.bl false)) := o_isi rfl kit3
@[simp] theorem isi4 : oIsi (.val (.tup ds)) (.val (.ty "int")) h = some (.val (.bl false)) := o_isi rfl kit4
@[simp] theorem isi6 : oIsi (.val .non) (.val (.ty "int")) h = some (.val (.bl false)) := o_isi rfl kit6
@[simp] theorem isi7 : oIsi (.val (.int i)) (.val (.ty "bool")) h = some (.val (.bl false)) := o_isi rfl kit7
@[simp] theorem isi8 : oIsi (.val (.bl b)) (.val (.ty "bool")) h = some (.val (.bl true)) := o_isi rfl kit8
@[simp] theorem isi9 : oIsi (.val (.str x)) (.val (.ty "bool")) h = some (.val (.bl false)) := o_isi rfl kit9
@[simp] theorem isi10 : oIsi (.val (.tup ds)) (.val (.ty "bool")) h = some (.val (.bl false)) := o_isi rfl kit10
@[simp] theorem isi24 : oIsi (.val .non) (.val (.ty "bool")) h = some (.val (.bl false)) := o_isi rfl kit24
@[simp] theorem isi12 : oIsi (.val (.int i)) (.val (.ty "tuple")) h = some (.val (.bl false)) := o_isi rfl kit12
@[simp] theorem isi13 : oIsi (.val (.bl b)) (.val (.ty "tuple")) h = some (.val (.bl false)) := o_isi rfl kit13
@[simp] theorem isi14 : oIsi (.val (.str x)) (.val (.ty "tuple")) h = some (.val (.bl false)) := o_isi rfl kit14
@[simp] theorem isi15 : oIsi (.val (.tup ds)) (.val (.ty "tuple")) h = some (.val (.bl true)) := o_isi rfl kit15
@[simp] theorem isi17 : oIsi (.val .non) (.val (.ty "tuple")) h = some (.val (.bl false)) := o_isi rfl kit17
@[simp] theorem isi18 : oIsi (.val (.int i)) (.val (.ty "str")) h = some (.val (.bl false)) := o_isi rfl kit18
@[simp] theorem isi20 : oIsi (.val (.str x)) (.val (.ty "str")) h = some (.val (.bl true)) := o_isi rfl kit20
@[simp] theorem isi21 : oIsi (.val (.tup ds)) (.val (.ty "str")) h = some (.val (.bl false)) := o_isi rfl kit21
end
def nice : D → Bool
  | .und => false
  | .ref _ => false
  | .ty _ => false
  | _ => true
def isI : D → Bool
  | .int _ => true
  | _ => false
theorem e_law_is_int {d : D} (h : MH) (hd : nice d = true) : m__law_is_int [d] h = .ok (.bl (isI d)) h := by
  cases d <;> simp [nice] at hd <;> simp [m__law_is_int, isI]
theorem e_is_integer {d : D} (h : MH) (hd : nice d = true) : m_is_integer [d] h = .ok (.bl (isI d)) h := by
  cases d <;> simp [nice] at hd <;> simp [m_is_integer, isI]
theorem e_is_count {d : D} {l : Int} (h : MH) (hd : nice d = true) : m_is_count [d, .int l] h = .ok (.bl (match d with | .int i => decide (l ≤ i) | _ => false)) h := by
  have ei := e_is_integer h hd
  cases d <;> simp [nice] at hd <;> simp [m_is_count, ei, isI]
theorem e_is_items {d : D} {l : Int} (h : MH) (hd : nice d = true) : m_is_items [d, .int l] h = .ok (.bl (match d with | .tup ds => decide ((ds.length : Int) = l) | _ => false)) h := by
  cases d <;> simp [nice] at hd <;> simp [m_is_items]
def fracD : D → Bool
  | .tup [.int n, .int k] => decide (1 ≤ k) && decide (Int.gcd n k = 1)
  | _ => false
structure Item (e : D) : Prop where
  nice : nice e = true
  two : ∀ x y, e = .tup [x, y] → k02.nice x = true ∧ k02.nice y = true ∧ ∀ n k, x = .int n → y = .int k → k.natAbs < 2 ^ 8990
theorem e_is_fraction {e : D} (h : MH) (it : Item e) : m_is_fraction [e] h = .ok (.bl (fracD e)) h := by
  have hn := it.nice
  have ei := e_is_items (l := 2) h hn
  match e, it with
  | .non, _ => simp [m_is_fraction, ei, fracD]
  | .bl _, _ => simp [m_is_fraction, ei, fracD]
  | .int _, _ => simp [m_is_fraction, ei, fracD]
  | .str _, _ => simp [m_is_fraction, ei, fracD]
  | .tup [], _ => simp [m_is_fraction, ei, fracD]
  | .tup [_], _ => simp [m_is_fraction, ei, fracD]
  | .tup (a :: b :: c :: r), _ =>
    have : ¬ ((r.length : Int) + 1 + 1 + 1 = 2) := by omega
    simp [m_is_fraction, ei, fracD, this]
  | .tup [x, y], it =>
    obtain ⟨nx, ny, sz⟩ := it.two x y rfl
    have ex := e_is_integer h nx
    have ey := e_is_count (l := 1) h ny
    cases x with
    | int n =>
      cases y with
      | int k =>
        by_cases c : 1 ≤ k
        · simp [m_is_fraction, ei, fracD, atI, ixN, ex, ey, isI, c, e_greatest_divisor]
          omega
        · simp [m_is_fraction, ei, fracD, atI, ixN, ex, ey, isI, c]
      | und => simp [k02.nice] at ny
      | ref _ => simp [k02.nice] at ny
      | ty _ => simp [k02.nice] at ny
      | _ => simp [m_is_fraction, ei, fracD, atI, ixN, ex, ey, isI]
    | und => simp [k02.nice] at nx
    | ref _ => simp [k02.nice] at nx
    | ty _ => simp [k02.nice] at nx
    | _ => simp [m_is_fraction, ei, fracD, atI, ixN, ex, isI]
theorem e_neTT {a b c d : Int} {h : MH} : oNe (.val (.tup [.int a, .int b])) (.val (.tup [.int c, .int d])) h = some (.val (.bl (!(decide (a = c) && decide (b = d))))) := by
  show some (SD.val (.bl (!((a == c) && ((b == d) && true))))) = _
  rw [Bool.and_true]; rfl
/-- the turn of the law's own test -/
theorem e_look_item {e F : D} (h : MH) (it : Item e) : (sIf (tOrM (tNotM (tTru (xOp oIsi (xVar 1) (xC (.ty "tuple"))))) (tOrM (asB (xOp oNe (xUn oLen (xVar 1)) (xC (.int 2)))) (tOrM (tNotM (tTru (xCall m__law_is_int (aCons (xOp oIx (xVar 1) (xC (.int 0))) (aNil))))) (tOrM (tNotM (tTru (xCall m__law_is_int (aCons (xOp oIx (xVar 1) (xC (.int 1))) (aNil))))) (tOrM (asB (xOp oLt (xOp oIx (xVar 1) (xC (.int 1))) (xC (.int 1)))) (asB (xOp oNe (xCall m__law_low (aCons (xOp oIx (xVar 1) (xC (.int 0))) (aCons (xOp oIx (xVar 1) (xC (.int 1))) (aNil)))) (xVar 1)))))))) (sRet (xC (.bl false))) (sNext)) [some F, some e] h = if fracD e = true then .next [some F, some e] h else .ret (.bl false) h := by
  have hn := it.nice
  match e, it with
  | .non, _ => simp [fracD]
  | .bl _, _ => simp [fracD]
  | .int _, _ => simp [fracD]
  | .str _, _ => simp [fracD]
  | .tup [], _ => simp [fracD]
  | .tup [_], _ => simp [fracD]
  | .tup (a :: b :: c :: r), _ =>
    have : ¬ ((r.length : Int) + 1 + 1 + 1 = 2) := by omega
    simp [fracD, this]
  | .tup [x, y], it =>
    obtain ⟨nx, ny, sz⟩ := it.two x y rfl
    have ex := e_law_is_int h nx
    have ey := e_law_is_int h ny
    cases x with
    | int n =>
      cases y with
      | int k =>
        by_cases c : 1 ≤ k
        · have c' : ¬ k < 1 := by omega
          have lw := e_low (n := n) h (show k ≠ 0 by omega) (sz n k rfl rfl)
          have r := red_pos (n := n) (d := k) (by omega)
          have hg : (Rat.divInt n k).num = n ∧ ((Rat.divInt n k).den : Int) = k ↔ Int.gcd n k = 1 := by
            rw [← r.1, ← r.2]
            constructor
            · rintro ⟨e1, e2⟩
              have hgp : (0 : Int) < (Int.gcd n k : Int) := by
                have : Int.gcd n k ≠ 0 := fun z => by have := Int.gcd_eq_zero_iff.mp z; omega
                omega
              obtain ⟨l, hl⟩ := Int.gcd_dvd_right n k
              have e3 := fdiv_exact (by omega) hl
              rw [e3] at e2
              rw [e2] at hl
              have : k * 1 = k * (Int.gcd n k : Int) := by rw [Int.mul_one, Int.mul_comm]; exact hl
              have := Int.eq_of_mul_eq_mul_left (by omega) this
              omega
            · intro z
              rw [z]
              exact ⟨Int.fdiv_one _, Int.fdiv_one _⟩
          simp [fracD, atI, ixN, ex, ey, isI, c, c', lw, fr, e_neTT]
          by_cases g : Int.gcd n k = 1
          · have := hg.mpr g
            simp [g, this.1, this.2]
          · simp [g]
            intro z1 z2
            exact absurd (hg.mp ⟨z1, z2⟩) g
        · have c' : k < 1 := by omega
          simp [fracD, atI, ixN, ex, ey, isI, c, c']
      | und => simp [k02.nice] at ny
      | ref _ => simp [k02.nice] at ny
      | ty _ => simp [k02.nice] at ny
      | _ => simp [fracD, atI, ixN, ex, ey, isI]
    | und => simp [k02.nice] at nx
    | ref _ => simp [k02.nice] at nx
    | ty _ => simp [k02.nice] at nx
    | _ => simp [fracD, atI, ixN, ex, isI]
theorem blsOf_map {F : D → Bool} : ∀ ds : List D, blsOf (ds.map fun d => D.bl (F d)) = some (ds.map F)
  | [] => rfl
  | d :: ds => by
    have ih := blsOf_map (F := F) ds
    simp only [List.map_cons, blsOf, ih]
    rfl
theorem all_id (l : List Bool) : l.all _root_.id = l.all (· == true) := by
  congr 1
  funext b
  cases b <;> rfl
/-- all([..]) of made booleans -/
theorem o_all {F : D → Bool} {ds : List D} {h : MH} : oAll (.tmp (ds.map fun d => D.bl (F d))) h = some (.val (.bl (ds.all F))) := by
  unfold oAll
  simp only [lstOf, Option.bind_some, blsOf_map, Option.map_some]
  congr 3
  induction ds with
  | nil => rfl
  | cons d ds ih => simp only [List.map_cons, List.all_cons, ih]; rfl
theorem e_are_fractions {ds : List D} (h : MH) (hl : ds.length ≤ 1000) (it : ∀ e ∈ ds, Item e) : m_are_fractions [.tup ds] h = .ok (.bl (ds.all fracD)) h := by
  have lp := cloop_map (its := ⟨ds, []⟩) (bd := bName 1) (el := xCall m_is_fraction (aCons (xVar 1) aNil)) (ρ := [some (.tup ds), none]) (h := h) (F := fun d => .bl (fracD d)) live_nil ds [] (fun d hd => ⟨_, rfl, by simp [e_is_fraction h (it d hd)]⟩) (by show 0 + ds.length ≤ 16777216; omega)
  simp [m_are_fractions]
  rw [lp]
  simp [o_all]
theorem e_are_fractions0 {d : D} (h : MH) (hn : nice d = true) (ht : ∀ ds, d ≠ .tup ds) : m_are_fractions [d] h = .ok (.bl false) h := by
  cases d with
  | und => simp [nice] at hn
  | ref _ => simp [nice] at hn
  | ty _ => simp [nice] at hn
  | tup ds => exact absurd rfl (ht ds)
  | _ => simp [m_are_fractions]
theorem fracD_form {d : D} (h : fracD d = true) : ∃ n k : Int, d = .tup [.int n, .int k] := by
  unfold fracD at h
  split at h
  · exact ⟨_, _, rfl⟩
  · cases h
def lastOk (ds : List D) : Bool := match ds.getLast? with
  | none => true
  | some (.tup [.int n, _]) => decide (n ≠ 0)
  | _ => false
theorem pyL_fracs : ∀ ds : List D, ds.all fracD = true → ∃ ps, pyL ds = some ps ∧ PyData.canLayAll0 ps = true ∧ PyData.depthAll ps ≤ 1 ∧ ps.length = ds.length
  | [], _ => ⟨[], rfl, rfl, by decide, rfl⟩
  | d :: ds, h => by
    simp only [List.all_cons, Bool.and_eq_true] at h
    obtain ⟨ps, e1, e2, e3, e4⟩ := pyL_fracs ds h.2
    obtain ⟨n, k, rfl⟩ := fracD_form h.1
    refine ⟨.tuple [.int n, .int k] :: ps, ?_, ?_, ?_, by simp [e4]⟩
    · have : pyD (.tup [.int n, .int k]) = some (.tuple [.int n, .int k]) := rfl
      simp only [pyL, this, e1]
    · simp only [PyData.canLayAll0, PyData.canLay0, e2]; rfl
    · simp only [PyData.depthAll, PyData.depth]; omega
theorem eqvAll_nil (ps : List PyData) : PyData.eqvAll ps [] = ps.isEmpty := by cases ps <;> rfl
theorem o_eqNil {ds : List D} {h : MH} (hf : ds.all fracD = true) : oEq (.val (.tup ds)) (.val (.tup [])) h = some (.val (.bl ds.isEmpty)) := by
  obtain ⟨ps, e1, e2, e3, e4⟩ := pyL_fracs ds hf
  have p1 : pyS (.val (.tup ds)) h = some (.tuple ps) := by
    show (pyL ds).map PyData.tuple = _
    rw [e1]; rfl
  have p2 : pyS (.val (.tup [])) h = some (.tuple []) := rfl
  unfold oEq oEqB
  rw [p1, p2]
  have s1 : SeqAt.shaped (.tuple ps) = true := by
    unfold SeqAt.shaped
    simp only [PyData.canLay0, e2, Bool.true_and, PyData.depth]
    exact decide_eq_true (by omega)
  have s2 : SeqAt.shaped (.tuple []) = true := by decide
  simp only [s1, s2, Bool.and_self, if_true, PyData.eqv, eqvAll_nil, id]
  congr 3
  cases ps with
  | nil => cases ds with
    | nil => rfl
    | cons _ _ => simp at e4
  | cons _ _ => cases ds with
    | nil => simp at e4
    | cons _ _ => rfl
theorem last_ix {ds : List D} {d : D} {h : MH} (e : ds.getLast? = some d) : oIx (.val (.tup ds)) (.val (.int (-1))) h = some (.val d) := by
  rw [o_ix, atI_last e]; rfl
theorem e_is_poly {ds : List D} (h : MH) (hl : ds.length ≤ 1000) (it : ∀ e ∈ ds, Item e) : m_is_poly [.tup ds] h = .ok (.bl (ds.all fracD && lastOk ds)) h := by
  by_cases hf : ds.all fracD = true
  · cases e : ds.getLast? with
    | none =>
      obtain rfl : ds = [] := List.getLast?_eq_none_iff.mp e
      simp [m_is_poly, e_are_fractions h hl it, o_eqNil (ds := []) rfl, lastOk]
    | some d =>
      have hd : fracD d = true := List.all_eq_true.mp hf d (List.mem_of_getLast? e)
      obtain ⟨n, k, rfl⟩ := fracD_form hd
      have hne : ds.isEmpty = false := by cases ds with
        | nil => simp at e
        | cons _ _ => rfl
      have lx := last_ix (h := h) e
      simp only [m_is_poly, e_fn, List.length_cons, List.length_nil, if_true, List.map_cons, List.map_nil, e_ret, e_and, e_call, e_cons, e_var, List.cons_append, List.nil_append, List.getElem?_cons_zero, e_bok, e_hv, e_hh, e_nil, e_are_fractions h hl it, hf, e_or, e_op, e_tup, o_eqNil hf, hne, e_un, e_C, o_neg, lx, lastOk, e]
      have ix0 : oIx (.val (.tup [.int n, .int k])) (.val (.int 0)) h = some (.val (.int n)) := by simp [atI, ixN]
      simp [-o_ix, o_eqNil hf, hne, lx, ix0]
  · have hf : ds.all fracD = false := by simpa using hf
    simp only [m_is_poly, e_fn, List.length_cons, List.length_nil, if_true, List.map_cons, List.map_nil, e_ret, e_and, e_call, e_cons, e_var, List.cons_append, List.nil_append, List.getElem?_cons_zero, e_bok, e_hv, e_hh, e_nil, e_are_fractions h hl it, hf]
    simp
theorem e_is_poly0 {d : D} (h : MH) (hn : nice d = true) (ht : ∀ ds, d ≠ .tup ds) : m_is_poly [d] h = .ok (.bl false) h := by
  simp [m_is_poly, e_are_fractions0 h hn ht]
theorem e_look_loop {its : Its} {F : D} {h : MH} (lv : live its h) : ∀ (ds : List D) (z : Option D), (∀ e ∈ ds, Item e) → (ds.all fracD = true → ∃ z', floop its (bName 1) (sIf (tOrM (tNotM (tTru (xOp oIsi (xVar 1) (xC (.ty "tuple"))))) (tOrM (asB (xOp oNe (xUn oLen (xVar 1)) (xC (.int 2)))) (tOrM (tNotM (tTru (xCall m__law_is_int (aCons (xOp oIx (xVar 1) (xC (.int 0))) (aNil))))) (tOrM (tNotM (tTru (xCall m__law_is_int (aCons (xOp oIx (xVar 1) (xC (.int 1))) (aNil))))) (tOrM (asB (xOp oLt (xOp oIx (xVar 1) (xC (.int 1))) (xC (.int 1)))) (asB (xOp oNe (xCall m__law_low (aCons (xOp oIx (xVar 1) (xC (.int 0))) (aCons (xOp oIx (xVar 1) (xC (.int 1))) (aNil)))) (xVar 1)))))))) (sRet (xC (.bl false))) (sNext)) ds [some F, z] h = .next [some F, z'] h) ∧
    (ds.all fracD = false → floop its (bName 1) (sIf (tOrM (tNotM (tTru (xOp oIsi (xVar 1) (xC (.ty "tuple"))))) (tOrM (asB (xOp oNe (xUn oLen (xVar 1)) (xC (.int 2)))) (tOrM (tNotM (tTru (xCall m__law_is_int (aCons (xOp oIx (xVar 1) (xC (.int 0))) (aNil))))) (tOrM (tNotM (tTru (xCall m__law_is_int (aCons (xOp oIx (xVar 1) (xC (.int 1))) (aNil))))) (tOrM (asB (xOp oLt (xOp oIx (xVar 1) (xC (.int 1))) (xC (.int 1)))) (asB (xOp oNe (xCall m__law_low (aCons (xOp oIx (xVar 1) (xC (.int 0))) (aCons (xOp oIx (xVar 1) (xC (.int 1))) (aNil)))) (xVar 1)))))))) (sRet (xC (.bl false))) (sNext)) ds [some F, z] h = .ret (.bl false) h)
  | [], z, _ => ⟨fun _ => ⟨z, floop_nil lv⟩, fun e => by simp at e⟩
  | d :: ds, z, it => by
    have ih := e_look_loop lv (F := F) ds (some d) fun e he => it e (List.mem_cons_of_mem _ he)
    have st := e_look_item (F := F) h (it d (List.mem_cons_self))
    by_cases c : fracD d = true
    · rw [if_pos c] at st
      refine ⟨fun a => ?_, fun a => ?_⟩
      · simp only [List.all_cons, c, Bool.true_and] at a
        obtain ⟨z', e⟩ := ih.1 a
        exact ⟨z', by rw [floop_next lv rfl st]; exact e⟩
      · simp only [List.all_cons, c, Bool.true_and] at a
        rw [floop_next lv rfl st]; exact ih.2 a
    · rw [if_neg c] at st
      have c : fracD d = false := by simpa using c
      refine ⟨fun a => ?_, fun a => ?_⟩
      · simp [c] at a
      · exact floop_ret lv rfl st
theorem e_looks {ds : List D} (h : MH) (it : ∀ e ∈ ds, Item e) : m__law_looks_like_one [.tup ds] h = .ok (.bl (ds.all fracD && lastOk ds)) h := by
  have lp := e_look_loop (its := ⟨ds, []⟩) (F := .tup ds) (h := h) live_nil ds none it
  by_cases hf : ds.all fracD = true
  · obtain ⟨z', lp⟩ := lp.1 hf
    rw [hf]
    simp only [m__law_looks_like_one, e_fn, List.length_cons, List.length_nil, if_true, List.map_cons, List.map_nil, List.cons_append, List.nil_append, e_seq, e_sif, e_tnot, e_tru, e_op, e_var, List.getElem?_cons_zero, e_bok, e_C, isi15, t_bl, e_sok, Bool.not_true, Bool.false_eq_true, if_false, e_next, e_for, e_iseq, its_tup, List.replicate]
    rw [lp]
    cases e : ds.getLast? with
    | none =>
      obtain rfl : ds = [] := List.getLast?_eq_none_iff.mp e
      simp [o_eqNil (ds := []) rfl, lastOk]
    | some d =>
      have hd : fracD d = true := List.all_eq_true.mp hf d (List.mem_of_getLast? e)
      obtain ⟨n, k, rfl⟩ := fracD_form hd
      have hne : ds.isEmpty = false := by cases ds with
        | nil => simp at e
        | cons _ _ => rfl
      have lx := last_ix (h := h) e
      simp only [lastOk, e]
      have ix0 : oIx (.val (.tup [.int n, .int k])) (.val (.int 0)) h = some (.val (.int n)) := by simp [atI, ixN]
      simp [-o_ix, o_eqNil hf, hne, lx, ix0]
  · have hf : ds.all fracD = false := by simpa using hf
    have lp := lp.2 hf
    rw [hf]
    simp only [m__law_looks_like_one, e_fn, List.length_cons, List.length_nil, if_true, List.map_cons, List.map_nil, List.cons_append, List.nil_append, e_seq, e_sif, e_tnot, e_tru, e_op, e_var, List.getElem?_cons_zero, e_bok, e_C, isi15, t_bl, e_sok, Bool.not_true, Bool.false_eq_true, if_false, e_next, e_for, e_iseq, its_tup, List.replicate]
    rw [lp]
    simp
theorem e_looks0 {d : D} (h : MH) (hn : nice d = true) (ht : ∀ ds, d ≠ .tup ds) : m__law_looks_like_one [d] h = .ok (.bl false) h := by
  cases d with
  | und => simp [nice] at hn
  | ref _ => simp [nice] at hn
  | ty _ => simp [nice] at hn
  | tup ds => exact absurd rfl (ht ds)
  | _ => simp [m__law_looks_like_one]
theorem e_said {b : Bool} (h : MH) : m__law_said [.bl b, .bl b] h = .ok (.bl true) h := by
  cases b <;> simp [m__law_said]
end AM.k02

namespace AM.k02
open PySem PySem.Spec PyProof.Rows L2 AM
/-! alike to itself -/
def okS : Nat → D → Prop
  | 0, _ => False
  | n + 1, .tup ds => ds.length ≤ 1000 ∧ ∀ e ∈ ds, okS n e
  | _ + 1, .int _ => True
  | _ + 1, _ => False
theorem e_same : ∀ (n : Nat) (d : D) (h : MH), okS n d → m__law_same n [d, d] h = .ok (.bl true) h
  | 0, d, h, z => z.elim
  | n + 1, .int i, h, _ => by
    have li := e_law_is_int (d := .int i) h rfl
    simp [m__law_same, b__law_same, li, isI]
  | n + 1, .tup ds, h, ok => by
    simp only [okS] at ok
    have lp := cloop_map (its := ⟨rgD 0 1 ds.length, []⟩) (bd := bName 2) (el := xCall (m__law_same n) (aCons (xOp oIx (xVar 0) (xVar 2)) (aCons (xOp oIx (xVar 1) (xVar 2)) aNil))) (ρ := [some (.tup ds), some (.tup ds), none]) (h := h) (F := fun _ => .bl true) live_nil (rgD 0 1 ds.length) [] (fun d hd => by
      rw [rgD_map] at hd
      obtain ⟨k, hk, rfl⟩ := List.mem_map.mp hd
      have hk := List.mem_range.mp hk
      refine ⟨_, rfl, ?_⟩
      have e1 : (0 + (k : Int)) = (k : Int) := by omega
      have ix : atI ds (k : Int) = some ds[k] := atI_nat (List.getElem?_eq_getElem hk)
      have ih := e_same n ds[k] h (ok.2 _ (List.getElem_mem hk))
      rw [e1]
      simp [ix, ih]) (by simp only [rgD, List.length_map, List.length_range, List.length_nil]; show 0 + ds.length ≤ 16777216; omega)
    have oa := o_all (F := fun _ => true) (ds := rgD 0 1 ds.length) (h := h)
    have : (rgD 0 1 ds.length).all (fun _ => true) = true := List.all_eq_true.mpr fun _ _ => rfl
    rw [this] at oa
    simp [m__law_same, b__law_same, show ds.length < 4611686018427387904 by omega, lp]
    simp [oa]
  | n + 1, .und, h, ok => by simp [okS] at ok
  | n + 1, .non, h, ok => by simp [okS] at ok
  | n + 1, .bl _, h, ok => by simp [okS] at ok
  | n + 1, .str _, h, ok => by simp [okS] at ok
  | n + 1, .ref _, h, ok => by simp [okS] at ok
  | n + 1, .ty _, h, ok => by simp [okS] at ok
theorem okS_fr (q : Rat) (n : Nat) : okS (n + 2) (fr q) := by
  show okS (n + 1 + 1) (.tup [.int q.num, .int q.den])
  refine ⟨by simp, fun e he => ?_⟩
  simp only [List.mem_cons, List.not_mem_nil, or_false] at he
  rcases he with rfl | rfl <;> trivial
theorem okS_frs {l : List Rat} (hl : l.length ≤ 1000) (n : Nat) : okS (n + 3) (.tup (frs l)) := by
  show okS (n + 2 + 1) (.tup (frs l))
  refine ⟨by rw [frs_len]; exact hl, fun e he => ?_⟩
  obtain ⟨q, _, rfl⟩ := List.mem_map.mp he
  exact okS_fr q n
/-! the state -/
structure St (h0 : MH) (r s k : Nat) (h : MH) : Prop where
  lt : r < h0.length
  scr : ∃ ns : List Int, h0[s]? = some (.lst (ns.map D.int)) ∧ ns.length ≤ 63
  ne : r ≠ s
  st : ∃ a b c : Int, h = h0.set r (.lst [.ref s, .int a, .int b, .int c]) ∧ 0 ≤ c ∧ c ≤ k
theorem St.mono {h0 h : MH} {r s k k' : Nat} (t : St h0 r s k h) (l : k ≤ k') : St h0 r s k' h := by
  obtain ⟨a, b, c, e, h1, h2⟩ := t.st
  exact ⟨t.lt, t.scr, t.ne, a, b, c, e, h1, by omega⟩
theorem St.len {h0 h : MH} {r s k : Nat} (t : St h0 r s k h) : h.length = h0.length := by
  obtain ⟨a, b, c, e, h1, h2⟩ := t.st
  rw [e]; simp
theorem St.app {h0 h : MH} {r s k : Nat} (t : St h0 r s k h) (m : MH) : St (h0 ++ m) r s k (h ++ m) := by
  obtain ⟨a, b, c, e, h1, h2⟩ := t.st
  obtain ⟨ns, es, el⟩ := t.scr
  refine ⟨by have := t.lt; simp; omega, ⟨ns, ?_, el⟩, t.ne, a, b, c, ?_, h1, h2⟩
  · rw [List.getElem?_append_left (some_lt es)]; exact es
  · rw [e, List.set_append_left _ _ t.lt]
theorem St.get {h0 h : MH} {r s k i : Nat} {mo : MO} (t : St h0 r s k h) (hi : i ≠ r) (e0 : h0[i]? = some mo) : h[i]? = some mo := by
  obtain ⟨a, b, c, e, h1, h2⟩ := t.st
  rw [e, List.getElem?_set_ne (Ne.symm hi)]; exact e0
section
variable {h0 : MH} {r s : Nat} {a b c : Int} {ns : List Int}
theorem sx (lt : r < h0.length) {ds : List D} : (h0.set r (.lst ds))[r]? = some (.lst ds) := List.getElem?_set_self lt
theorem fmod_rng {x : Int} {m : Nat} (hm : 0 < m) : 0 ≤ x.fmod m ∧ x.fmod m < m := by
  rw [Int.fmod_eq_emod_of_nonneg _ (by omega)]
  exact ⟨Int.emod_nonneg _ (by omega), Int.emod_lt_of_pos _ (by omega)⟩
theorem small_div {x : Int} {m : Nat} (hm : 0 < m) (hm2 : m ≤ 100000000000) : divOk x (m : Int) = true := by
  refine divOk_of (by omega) ?_
  have : (m : Int).natAbs < 2 ^ 40 := by show m < 2 ^ 40; omega
  exact Nat.lt_of_lt_of_le this (Nat.pow_le_pow_right (by omega) (by omega))
theorem mulOk_small {x y : Int} (hx : x.natAbs < 2 ^ 200) (hy : y.natAbs < 2 ^ 200) : mulOk x y = true := mulOk_of hx hy (by omega)
end
def dTail : MS := (sSeq (sIxSet (xOp oAdd (xOp oIx (xVar 0) (xC (.int 1))) (xC (.int 1))) (xVar 0) (xC (.int 1))) (sSeq (sIf (asB (xOp oGe (xVar 2) (xOp oPow (xC (.int 10)) (xC (.int 18))))) (sSeq (sIxSet (xOp oFDiv (xVar 2) (xVar 1)) (xVar 0) (xC (.int 2))) (sRet (xOp oMod (xUn oInt (xVar 2)) (xVar 1)))) (sNext)) (sSeq (sSet 3 (xOp oMod (xUn oInt (xOp oAdd (xOp oMul (xOp oAdd (xVar 2) (xC (.int 1))) (xC (.int 48271))) (xOp oMul (xOp oIx (xVar 0) (xC (.int 3))) (xC (.int 69621))))) (xC (.int 2147483647)))) (sSeq (sSet 3 (xOp oMod (xUn oInt (xOp oAdd (xOp oAdd (xOp oMul (xVar 3) (xC (.int 16807))) (xOp oFDiv (xVar 2) (xC (.int 97)))) (xOp oIx (xVar 0) (xC (.int 3))))) (xC (.int 2147483629)))) (sRet (xOp oMod (xOp oFDiv (xVar 3) (xC (.int 11))) (xVar 1)))))))
theorem draw_eq : m__law_draw = mFn 5 2 (sSeq (sIxSet (xOp oAdd (xOp oIx (xVar 0) (xC (.int 3))) (xC (.int 1))) (xVar 0) (xC (.int 3))) (sSeq (sIf (asB (xOp oGt (xOp oIx (xVar 0) (xC (.int 2))) (xC (.int 0)))) (sSeq (sSet 4 (xOp oMod (xUn oInt (xOp oIx (xVar 0) (xC (.int 2)))) (xVar 1))) (sSeq (sIxSet (xOp oFDiv (xOp oIx (xVar 0) (xC (.int 2))) (xVar 1)) (xVar 0) (xC (.int 2))) (sRet (xVar 4)))) (sNext)) (sSeq (sSet 2 (xC (.int 0))) (sSeq (sIf (asB (xOp oGt (xUn oLen (xOp oIx (xVar 0) (xC (.int 0)))) (xC (.int 0)))) (sSet 2 (xUn oAbs (xOp oIx (xOp oIx (xVar 0) (xC (.int 0))) (xOp oMod (xUn oInt (xOp oIx (xVar 0) (xC (.int 1)))) (xUn oLen (xOp oIx (xVar 0) (xC (.int 0)))))))) (sNext)) dTail)))) := rfl
theorem p1018 {h : MH} : oPow (.val (.int 10)) (.val (.int 18)) h = some (.val (.int 1000000000000000000)) := by
  show (if powOk 10 18 = true then some (D.int (10 ^ (18 : Int).toNat)) else none).map SD.val = _
  rw [if_pos (by decide)]; rfl
theorem e_tail {h0 : MH} {r s k m cell : Nat} {a b c : Int} (t : St h0 r s k (h0.set r (.lst [.ref s, .int a, .int b, .int c]))) (hc0 : 0 ≤ c) (hck : c ≤ k) (hm : 0 < m) (hm2 : m ≤ 100000000000) (hk : k < 2 ^ 101) :
    ∃ v ρ h', dTail [some (.ref r), some (.int (m : Nat)), some (.int (cell : Nat)), none, none] (h0.set r (.lst [.ref s, .int a, .int b, .int c])) = .ret (.int v) h' ∧ 0 ≤ v ∧ v < m ∧ St h0 r s k h' ∧ ρ = (0 : Nat) := by
  have lt := t.lt
  have hm0 : (m : Int) ≠ 0 := by omega
  have g3 : ∀ (a b c : Int), oIx (.val (.ref r)) (.val (.int 3)) (h0.set r (.lst [.ref s, .int a, .int b, .int c])) = some (.val (.int c)) := fun a b c => by rw [o_ixR (sx lt)]; simp [atI, ixN]
  have g1 : ∀ (a b c : Int), oIx (.val (.ref r)) (.val (.int 1)) (h0.set r (.lst [.ref s, .int a, .int b, .int c])) = some (.val (.int a)) := fun a b c => by rw [o_ixR (sx lt)]; simp [atI, ixN]
  have gr : ∀ (a b c : Int), (h0.set r (.lst [.ref s, .int a, .int b, .int c]))[r]? = some (.lst [.ref s, .int a, .int b, .int c]) := fun a b c => sx lt
  by_cases big : (1000000000000000000 : Int) ≤ (cell : Nat)
  · refine ⟨(cell : Int).fmod m, 0, h0.set r (.lst [.ref s, .int (a + 1), .int ((cell : Int).fdiv m), .int c]), ?_, (fmod_rng hm).1, (fmod_rng hm).2, ⟨t.lt, t.scr, t.ne, a + 1, (cell : Int).fdiv m, c, rfl, hc0, hck⟩, rfl⟩
    simp [dTail, g1, gr, lt, ixN, p1018, big, o_mod hm0, o_fdiv (small_div hm hm2), List.set_set]
  · have k1 : mulOk ((cell : Int) + 1) 48271 = true := mulOk_small (by omega) (by omega)
    have k2 : mulOk c 69621 = true := mulOk_small (by omega) (by omega)
    obtain ⟨x1, hx1⟩ : ∃ x, x = (((cell : Int) + 1) * 48271 + c * 69621).fmod 2147483647 := ⟨_, rfl⟩
    have r1 := fmod_rng (x := ((cell : Int) + 1) * 48271 + c * 69621) (m := 2147483647) (by omega)
    have r1a : 0 ≤ x1 := by rw [hx1]; exact r1.1
    have r1b : x1 < 2147483647 := by rw [hx1]; exact r1.2
    have k3 : mulOk x1 16807 = true := mulOk_small (by omega) (by omega)
    have k4 : divOk (cell : Int) 97 = true := small_div (m := 97) (by omega) (by omega)
    obtain ⟨x2, hx2⟩ : ∃ x, x = (x1 * 16807 + (cell : Int).fdiv 97 + c).fmod 2147483629 := ⟨_, rfl⟩
    have k5 : divOk x2 11 = true := small_div (m := 11) (by omega) (by omega)
    refine ⟨(x2.fdiv 11).fmod m, 0, h0.set r (.lst [.ref s, .int (a + 1), .int b, .int c]), ?_, (fmod_rng hm).1, (fmod_rng hm).2, ⟨t.lt, t.scr, t.ne, a + 1, b, c, rfl, hc0, hck⟩, rfl⟩
    have o1 : ∀ h, oMod (.val (.int (((cell : Int) + 1) * 48271 + c * 69621))) (.val (.int 2147483647)) h = some (.val (.int x1)) := fun h => by rw [o_mod (by omega), hx1]
    have o2 : ∀ h, oMod (.val (.int (x1 * 16807 + (cell : Int).fdiv 97 + c))) (.val (.int 2147483629)) h = some (.val (.int x2)) := fun h => by rw [o_mod (by omega), hx2]
    simp [dTail, g1, g3, gr, lt, ixN, p1018, big, o_mul k1, o_mul k2, o_mul k3, o_fdiv k4, o1, o2, o_fdiv k5, o_mod hm0, List.set_set]
theorem e_draw {h0 h : MH} {r s k m : Nat} (t : St h0 r s k h) (hm : 0 < m) (hm2 : m ≤ 100000000000) (hk : k < 2 ^ 100) : ∃ v h', m__law_draw [.ref r, .int (m : Nat)] h = .ok (.int v) h' ∧ 0 ≤ v ∧ v < m ∧ St h0 r s (k + 1) h' := by
  obtain ⟨a, b, c, rfl, hc0, hck⟩ := t.st
  obtain ⟨ns, es, el⟩ := t.scr
  have lt := t.lt
  have hm0 : (m : Int) ≠ 0 := by omega
  have g3 : ∀ (a b c : Int), oIx (.val (.ref r)) (.val (.int 3)) (h0.set r (.lst [.ref s, .int a, .int b, .int c])) = some (.val (.int c)) := fun a b c => by rw [o_ixR (sx lt)]; simp [atI, ixN]
  have g2 : ∀ (a b c : Int), oIx (.val (.ref r)) (.val (.int 2)) (h0.set r (.lst [.ref s, .int a, .int b, .int c])) = some (.val (.int b)) := fun a b c => by rw [o_ixR (sx lt)]; simp [atI, ixN]
  have g1 : ∀ (a b c : Int), oIx (.val (.ref r)) (.val (.int 1)) (h0.set r (.lst [.ref s, .int a, .int b, .int c])) = some (.val (.int a)) := fun a b c => by rw [o_ixR (sx lt)]; simp [atI, ixN]
  have g0 : ∀ (a b c : Int), oIx (.val (.ref r)) (.val (.int 0)) (h0.set r (.lst [.ref s, .int a, .int b, .int c])) = some (.val (.ref s)) := fun a b c => by rw [o_ixR (sx lt)]; simp [atI, ixN]
  have gs : ∀ (a b c : Int), (h0.set r (.lst [.ref s, .int a, .int b, .int c]))[s]? = some (.lst (ns.map D.int)) := fun a b c => by rw [List.getElem?_set_ne t.ne]; exact es
  have gl : ∀ (a b c : Int), oLen (.val (.ref s)) (h0.set r (.lst [.ref s, .int a, .int b, .int c])) = some (.val (.int ns.length)) := fun a b c => by simp [oLen, seqOf, lstOf, gs a b c]
  have gr : ∀ (a b c : Int), (h0.set r (.lst [.ref s, .int a, .int b, .int c]))[r]? = some (.lst [.ref s, .int a, .int b, .int c]) := fun a b c => sx lt
  by_cases hb : 0 < b
  · refine ⟨b.fmod m, h0.set r (.lst [.ref s, .int a, .int (b.fdiv m), .int (c + 1)]), ?_, (fmod_rng hm).1, (fmod_rng hm).2, t.lt, t.scr, t.ne, a, b.fdiv m, c + 1, rfl, by omega, by omega⟩
    simp [m__law_draw, g3, g2, gr, lt, ixN, hb, o_mod hm0, o_fdiv (small_div hm hm2), List.set_set]
    rw [gc_len (by simp)]
    simp
  · have t1 : St h0 r s (k + 1) (h0.set r (.lst [.ref s, .int a, .int b, .int (c + 1)])) := ⟨t.lt, t.scr, t.ne, a, b, c + 1, rfl, by omega, by omega⟩
    have gi : ns.length ≠ 0 → ∃ x : Int, oIx (.val (.ref s)) (.val (.int (a.fmod (ns.length : Nat)))) (h0.set r (.lst [.ref s, .int a, .int b, .int (c + 1)])) = some (.val (.int x)) := fun z => by
      have f := fmod_rng (x := a) (m := ns.length) (by omega)
      obtain ⟨i, hi⟩ : ∃ i : Nat, a.fmod (ns.length : Nat) = (i : Int) := ⟨(a.fmod (ns.length : Nat)).toNat, by omega⟩
      have hil : i < ns.length := by omega
      refine ⟨ns[i], ?_⟩
      rw [hi, o_ixR (gs a b (c + 1)), atI_nat (x := .int ns[i]) (by rw [List.getElem?_map, List.getElem?_eq_getElem hil]; rfl)]; rfl
    have go : ∀ cell : Nat, ∃ v ρ h', dTail [some (.ref r), some (.int (m : Nat)), some (.int (cell : Nat)), none, none] (h0.set r (.lst [.ref s, .int a, .int b, .int (c + 1)])) = .ret (.int v) h' ∧ 0 ≤ v ∧ v < m ∧ St h0 r s (k + 1) h' ∧ ρ = (0 : Nat) := fun cell => e_tail t1 (by omega) (by omega) hm hm2 (by omega)
    by_cases z : ns.length = 0
    · obtain ⟨v, _, h', e, v0, v1, st, _⟩ := go 0
      refine ⟨v, h', ?_, v0, v1, st⟩
      have gl0 := gl a b (c + 1)
      rw [z] at gl0
      have e' : dTail [some (.ref r), some (.int (m : Nat)), some (.int 0), none, none] (h0.set r (.lst [.ref s, .int a, .int b, .int (c + 1)])) = .ret (.int v) h' := e
      have e3 : gc (h0.set r (.lst [.ref s, .int a, .int b, .int c])) (.int v) h' = (.int v, h') := gc_len (by rw [st.len]; simp)
      simp [draw_eq, g3, g2, g0, gr, lt, ixN, hb, List.set_set, gl0, e', e3]
    · obtain ⟨x, hx⟩ := gi z
      obtain ⟨v, _, h', e, v0, v1, st, _⟩ := go x.natAbs
      refine ⟨v, h', ?_, v0, v1, st⟩
      have gl0 := gl a b (c + 1)
      have zp : (0 : Int) < (ns.length : Int) := by omega
      have zn : (ns.length : Int) ≠ 0 := by omega
      have e3 : gc (h0.set r (.lst [.ref s, .int a, .int b, .int c])) (.int v) h' = (.int v, h') := gc_len (by rw [st.len]; simp)
      have hne : 0 < ns.length := by omega
      simp [draw_eq, g3, g2, g0, gr, lt, ixN, hb, List.set_set, gl0, hne, g1, o_mod zn, hx, abs_nat]
      rw [e]
      simp [e3]
end AM.k02

namespace AM.k02
open PySem PySem.Spec PyProof.Rows L2 AM
/-- a drawn fraction -/
def Fq (m : Nat) (q : Rat) : Prop := ∃ (n : Int) (d : Nat), q = Rat.divInt n d ∧ n.natAbs ≤ m ∧ 1 ≤ d ∧ d ≤ m
theorem Fq.bd {m L : Nat} {q : Rat} (h : Fq m q) (hL : 0 < L) (hd : ∀ d, 1 ≤ d → d ≤ m → d ∣ L) : Bd L (m * L) q := by
  obtain ⟨n, d, rfl, h1, h2, h3⟩ := h
  exact Bd.frac hL (hd d h2 h3) (Nat.mul_le_mul_right _ h1)
theorem e_some_fraction {h0 h : MH} {r s k m : Nat} (t : St h0 r s k h) (hm : 0 < m) (hm2 : m ≤ 1000) (hk : k < 2 ^ 99) : ∃ q h', m__law_some_fraction [.ref r, .int (m : Nat)] h = .ok (fr q) h' ∧ Fq m q ∧ St h0 r s (k + 2) h' := by
  obtain ⟨v, h1, e1, v0, v1, t1⟩ := e_draw t (m := 2 * m + 1) (by omega) (by omega) (by omega)
  obtain ⟨u, h2, e2, u0, u1, t2⟩ := e_draw t1 (m := m) hm (by omega) (by omega)
  have c : mulOk 2 (m : Int) = true := mulOk_small (by omega) (by omega)
  have l := e_low (n := v - m) h2 (d := 1 + u) (by omega) (by
    have : (1 + u).natAbs < 2 ^ 20 := by omega
    exact Nat.lt_of_lt_of_le this (Nat.pow_le_pow_right (by omega) (by omega)))
  have eu : (1 + u) = (((1 + u).toNat : Nat) : Int) := by omega
  refine ⟨Rat.divInt (v - m) (1 + u), h2, ?_, ⟨v - m, (1 + u).toNat, by rw [← eu], by omega, by omega, by omega⟩, t2⟩
  have e1' : m__law_draw [.ref r, .int (2 * (m : Int) + 1)] h = .ok (.int v) h1 := by
    have : (2 * (m : Int) + 1) = ((2 * m + 1 : Nat) : Int) := by omega
    rw [this]; exact e1
  simp [m__law_some_fraction, o_mul c, e1', e2, l]
  rw [gc_len (by rw [t2.len, t.len])]
  simp
theorem e_row_comp {its : Its} (lv : ∀ h, live its h) {h0 : MH} {r s : Nat} : ∀ (n lo : Nat) (acc : List Rat) (h : MH) (k : Nat), St h0 r s k h → k + 2 * n < 2 ^ 99 → acc.length + n ≤ 1000 →
    ∃ qs h', cloop its (bName 1) tYesM (xCall m__law_some_fraction (aCons (xVar 0) (aCons (xC (.int 9)) (aNil)))) [some (.ref r), none] ((List.range' lo n).map fun i => D.int (i : Nat)) (frs acc) h = .ok (.tmp (frs (acc ++ qs))) h' ∧ qs.length = n ∧ (∀ q ∈ qs, Fq 9 q) ∧ St h0 r s (k + 2 * n) h'
  | 0, lo, acc, h, k, t, _, _ => ⟨[], h, by rw [List.append_nil]; exact cloop_nil (lv h), rfl, fun q hq => (by cases hq), t⟩
  | n + 1, lo, acc, h, k, t, hk, hl => by
    obtain ⟨q, h1, e1, fq, t1⟩ := e_some_fraction t (m := 9) (by omega) (by omega) (by omega)
    obtain ⟨qs, h2, e2, l2, f2, t2⟩ := e_row_comp lv n (lo + 1) (acc ++ [q]) h1 (k + 2) t1 (by omega) (by simp; omega)
    refine ⟨q :: qs, h2, ?_, by simp [l2], fun x hx => ?_, t2.mono (by omega)⟩
    · have es : frs (acc ++ [q]) = frs acc ++ [fr q] := by simp [frs]
      rw [es, List.append_assoc] at e2
      have e1' : m__law_some_fraction [.ref r, .int 9] h = .ok (fr q) h1 := e1
      rw [List.range'_succ, List.map_cons, cloop_yes (lv h) (ρ1 := [some (.ref r), some (.int (lo : Nat))]) rfl rfl (x := .val (fr q)) (h2 := h1) (by simp [e1']) (by rw [frs_len]; show acc.length < 16777216; omega)]
      exact e2
    · rcases List.mem_cons.mp hx with rfl | hx
      · exact fq
      · exact f2 x hx
theorem rgD_range' (n : Nat) : rgD 0 1 n = (List.range' 0 n).map fun i => D.int (i : Nat) := by
  rw [rgD_map, List.range_eq_range']
  exact List.map_congr_left fun k _ => by rw [Int.zero_add]
/-- a drawn row's numbers -/
def Rq (l : List Rat) : Prop := BdL 2520 22680 l
theorem fq9 {q : Rat} (h : Fq 9 q) : Bd 2520 22680 q := h.bd (L := 2520) (by omega) fun d h1 h2 => (by decide : ∀ d, d < 10 → 1 ≤ d → d ∣ 2520) d (by omega) h1
theorem o_catL {a b : List D} {h : MH} (c : a.length + b.length ≤ 100000) : oAdd (.tmp a) (.tmp b) h = some (.tmp (a ++ b)) := by
  have e : oAddL (.tmp a) (.tmp b) h = some (.tmp (a ++ b)) := by
    show (if a.length + b.length ≤ sizeLine then some (SD.tmp (a ++ b)) else none) = _
    rw [if_pos (show a.length + b.length ≤ sizeLine by show _ ≤ 16777216; omega)]
  show (match oAddL (.tmp a) (.tmp b) h with | some d => some d | none => _) = _
  rw [e]
theorem e_some_row {h0 h : MH} {r s k : Nat} (t : St h0 r s k h) (hk : k < 2 ^ 90) : ∃ row h', m__law_some_row [.ref r] h = .ok (.ref h.length) (h' ++ [.lst (frs row)]) ∧ row.length ≤ 10 ∧ Rq row ∧ St h0 r s (k + 30) h' := by
  obtain ⟨v, h1, e1, v0, v1, t1⟩ := e_draw t (m := 9) (by omega) (by omega) (by omega)
  obtain ⟨n, rfl⟩ : ∃ n : Nat, v = n := ⟨v.toNat, by omega⟩
  obtain ⟨qs, h2, e2, l2, f2, t2⟩ := e_row_comp (its := ⟨rgD 0 1 n, []⟩) (fun _ => live_nil) n 0 [] h1 (k + 1) t1 (by omega) (by simp; omega)
  obtain ⟨u, h3, e3, u0, u1, t3⟩ := e_draw t2 (m := 3) (by omega) (by omega) (by omega)
  rw [← rgD_range', List.nil_append] at e2
  have e1' : m__law_draw [.ref r, .int 9] h = .ok (.int n) h1 := e1
  have e3' : m__law_draw [.ref r, .int 3] h2 = .ok (.int u) h3 := e3
  have ez : List.replicate u.toNat (D.tup [.int 0, .int 1]) = frs (List.replicate u.toNat 0) := by simp [frs]; exact Or.inr rfl
  refine ⟨qs ++ List.replicate u.toNat 0, h3, ?_, by simp; omega, BdL.of (by omega) fun c hc => ?_, t3.mono (by omega)⟩
  · have ef : frs qs ++ frs (List.replicate u.toNat 0) = frs (qs ++ List.replicate u.toNat 0) := by simp [frs]
    have e0 : frs [] = [] := rfl
    rw [e0] at e2
    simp [m__law_some_row, e1', show n < 4611686018427387904 by omega, e2, e3', o_repL1 u0 (show u ≤ 1000 by omega), ez, o_catL (a := frs qs) (b := frs (List.replicate u.toNat 0)) (by simp [frs_len]; omega), ef]
    have hl : h3.length = h.length := by rw [t3.len, t.len]
    rw [hl, gc_one hl]
    exact ⟨rfl, rfl⟩
  · rcases List.mem_append.mp hc with hc | hc
    · exact fq9 (f2 c hc)
    · rw [(List.mem_replicate.mp hc).2]; exact Bd.zero (by omega)
end AM.k02

namespace AM.k02
open PySem PySem.Spec PyProof.Rows L2 AM
/-- a place -/
def Pq (y : Rat) : Prop := Bd 2329089562800 93163582512000 y
theorem fq30 {q : Rat} (h : Fq 30 q) : Pq q := (h.bd (L := 2329089562800) (by omega) fun d h1 h2 => (by decide +kernel : ∀ d, d < 31 → 1 ≤ d → d ∣ 2329089562800) d (by omega) h1).mono (by omega)
theorem e_places {h0 h : MH} {r s k m : Nat} (t : St h0 r s k h) (hk : k < 2 ^ 90) (hm : m ≤ 20) : ∃ ys h', m__law_places [.ref r, .int (m : Nat)] h = .ok (.ref h.length) (h' ++ [.lst (frs ys)]) ∧ ys.length ≤ 42 ∧ (∀ y ∈ ys, Pq y) ∧ St h0 r s (k + 2) h' := by
  obtain ⟨q, h1, e1, fq, t1⟩ := e_some_fraction t (m := 30) (by omega) (by omega) (by omega)
  have e1' : m__law_some_fraction [.ref r, .int 30] h = .ok (fr q) h1 := e1
  have c : mulOk 2 (m : Int) = true := mulOk_small (by omega) (by omega)
  let G : Int → Rat := fun k => Rat.divInt (k - (m : Int).fdiv 2) (1 + k.fmod 2)
  have hG : ∀ k : Nat, k < 2 * m + 1 → Pq (G k) := fun k hk => by
    have f : 0 ≤ (k : Int).fmod 2 ∧ (k : Int).fmod 2 < 2 := fmod_rng (x := (k : Int)) (m := 2) (by omega)
    have f2 : (m : Int).fdiv 2 = ((m / 2 : Nat) : Int) := by rw [Int.fdiv_eq_ediv_of_nonneg _ (by omega)]; rfl
    obtain ⟨d, hd⟩ : ∃ d : Nat, 1 + (k : Int).fmod 2 = (d : Int) := ⟨(1 + (k : Int).fmod 2).toNat, by omega⟩
    show Bd _ _ (Rat.divInt ((k : Int) - (m : Int).fdiv 2) (1 + (k : Int).fmod 2))
    rw [hd]
    refine (Bd.frac (M := 2329089562800) (N := 40 * 2329089562800) (by omega) ?_ ?_).mono (by omega)
    · have : d = 1 ∨ d = 2 := by omega
      rcases this with rfl | rfl <;> decide
    · refine Nat.mul_le_mul_right _ ?_
      rw [f2]; omega
  have lp := cloop_map (its := ⟨rgD 0 1 (2 * m + 1), []⟩) (bd := bName 2) (el := xCall m__law_low (aCons (xOp oSub (xVar 2) (xOp oFDiv (xVar 1) (xC (.int 2)))) (aCons (xOp oAdd (xC (.int 1)) (xOp oMod (xUn oInt (xVar 2)) (xC (.int 2)))) (aNil)))) (ρ := [some (.ref r), some (.int (m : Nat)), none]) (h := h) (F := fun d => match d with | .int k => fr (G k) | _ => .non)
    live_nil (rgD 0 1 (2 * m + 1)) [] (fun d hd => by
      rw [rgD_map] at hd
      obtain ⟨k, hk, rfl⟩ := List.mem_map.mp hd
      refine ⟨_, rfl, ?_⟩
      have e1 : (0 + (k : Int)) = (k : Int) := by omega
      have f := fmod_rng (x := (k : Int)) (m := 2) (by omega)
      have f' : 0 ≤ (k : Int).fmod 2 ∧ (k : Int).fmod 2 < 2 := f
      have l := e_low (n := (k : Int) - (m : Int).fdiv 2) h (d := 1 + (k : Int).fmod 2) (by omega) (by
        have : (1 + (k : Int).fmod 2).natAbs < 2 ^ 20 := by omega
        exact Nat.lt_of_lt_of_le this (Nat.pow_le_pow_right (by omega) (by omega)))
      have o2 : ∀ h, oMod (.val (.int (k : Int))) (.val (.int 2)) h = some (.val (.int ((k : Int).fmod 2))) := fun h => o_mod (by omega)
      rw [e1]
      simp only [e_call, e_cons, e_var, e_op, e_un, e_C, e_hv, e_hh, e_nil, e_bok, List.set, List.getElem?_cons_zero, List.getElem?_cons_succ, o_fdiv (small_div (x := (m : Int)) (m := 2) (by omega) (by omega)), show ((2 : Nat) : Int) = 2 from rfl, o_sub, o_int, o2, o_add, l]
      have o3 : oFDiv (.val (.int (m : Nat))) (.val (.int 2)) h = some (.val (.int ((m : Int).fdiv 2))) := o_fdiv (small_div (m := 2) (by omega) (by omega))
      simp only [o3, e_bok, o_sub, e_hv, e_hh, l]
      rfl) (by simp only [rgD, List.length_map, List.length_range, List.length_nil]; show 0 + (2 * m + 1) ≤ 16777216; omega)
  have em : (rgD 0 1 (2 * m + 1)).map (fun d => match d with | .int k => fr (G k) | _ => .non) = frs ((List.range (2 * m + 1)).map fun k : Nat => G k) := by
    rw [rgD_map]
    simp only [frs, List.map_map]
    refine List.map_congr_left fun k _ => ?_
    show fr (G (0 + (k : Int))) = fr (G k)
    rw [Int.zero_add]
  rw [em] at lp
  refine ⟨((List.range (2 * m + 1)).map fun k : Nat => G k) ++ [q], h1, ?_, by simp; omega, fun y hy => ?_, t1⟩
  · have e2 : ((2 : Int) * (m : Int) + 1).natAbs < 2 ^ 62 := by omega
    have e3 : ((2 : Int) * (m : Int) + 1).toNat = 2 * m + 1 := by omega
    have e4 : frs ((List.range (2 * m + 1)).map fun k : Nat => G k) ++ [fr q] = frs (((List.range (2 * m + 1)).map fun k : Nat => G k) ++ [q]) := by simp [frs]
    have o4 : ∀ h, oAdd (.tmp (frs ((List.range (2 * m + 1)).map fun k : Nat => G k))) (.tmp [fr q]) h = some (.tmp (frs (((List.range (2 * m + 1)).map fun k : Nat => G k) ++ [q]))) := fun h => by
      rw [o_catL (by rw [frs_len]; simp; omega), e4]
    have hl : h1.length = h.length := by rw [t1.len, t.len]
    have lp' : cloop ⟨rgD 0 1 (2 * m + 1), []⟩ (bName 2) tYesM (xCall m__law_low (aCons (xOp oSub (xVar 2) (xOp oFDiv (xVar 1) (xC (.int 2)))) (aCons (xOp oAdd (xC (.int 1)) (xOp oMod (xUn oInt (xVar 2)) (xC (.int 2)))) (aNil)))) [some (.ref r), some (.int (m : Nat)), none] (rgD 0 1 (2 * m + 1)) [] h = .ok (.tmp (frs ((List.range (2 * m + 1)).map fun k : Nat => G k))) h := lp
    simp only [m__law_places, e_fn, List.length_cons, List.length_nil, if_true, List.map_cons, List.map_nil, List.cons_append, List.nil_append, e_ret, e_op, e_lc, e_rg1, e_var, e_C, e_bok, List.getElem?_cons_zero, List.getElem?_cons_succ, o_mul c, o_add, if_pos e2, e3, wipe_cons, wipe_nil, List.set, List.replicate, lp', e_lst, e_cons, e_call, e_hv, e_hh, e_nil, e1', o4, e_sok, e_ht, e_hth]
    simp [lp', e1', o4, hl, gc_one hl]
  · rcases List.mem_append.mp hy with hy | hy
    · obtain ⟨k, hk, rfl⟩ := List.mem_map.mp hy
      exact hG k (List.mem_range.mp hk)
    · rw [List.mem_singleton.mp hy]; exact fq30 fq
end AM.k02

namespace AM.k02
open PySem PySem.Spec PyProof.Rows L2 AM
theorem fracD_fr (q : Rat) : fracD (fr q) = true := by
  show (decide (1 ≤ (q.den : Int)) && decide (Int.gcd q.num (q.den : Int) = 1)) = true
  have h1 := q.den_pos
  have h2 : Int.gcd q.num (q.den : Int) = 1 := q.reduced
  rw [h2, decide_eq_true (show 1 ≤ (q.den : Int) by omega)]; rfl
theorem item_fr {q : Rat} (h : small q) : Item (fr q) := ⟨rfl, fun x y e => by
  cases e
  refine ⟨rfl, rfl, fun n k e1 e2 => ?_⟩
  cases e2
  show q.den < _
  exact Nat.lt_of_lt_of_le h.2 (Nat.pow_le_pow_right (by omega) (by omega))⟩
theorem item_frs {l : List Rat} (h : ∀ c ∈ l, small c) : ∀ e ∈ frs l, Item e := fun e he => by
  obtain ⟨q, hq, rfl⟩ := List.mem_map.mp he
  exact item_fr (h q hq)
theorem all_frs (l : List Rat) : (frs l).all fracD = true := List.all_eq_true.mpr fun e he => by
  obtain ⟨q, hq, rfl⟩ := List.mem_map.mp he
  exact fracD_fr q
theorem last_frs {l : List Rat} (ht : trim l = l) : lastOk (frs l) = true := by
  unfold lastOk frs
  rw [List.getLast?_map]
  cases e : l.getLast? with
  | none => rfl
  | some c =>
    have : c ≠ 0 := trim_last (l := l) (by rw [ht]; exact e)
    simp only [Option.map_some, fr]
    exact decide_eq_true fun z => this (Rat.num_eq_zero.mp z)
theorem e_looks_frs {l : List Rat} (h : MH) (hs : ∀ c ∈ l, small c) (ht : trim l = l) : m__law_looks_like_one [.tup (frs l)] h = .ok (.bl true) h := by
  rw [e_looks h (item_frs hs), all_frs, last_frs ht]; rfl
def prs (w : Rat → Rat) (ys : List Rat) : List D := ys.map fun y => .tup [fr y, fr (w y)]
theorem e_worth_all {g ys : List Rat} {w : Rat → Rat} {H : MH} {r : Nat} (hr : H[r]? = some (.lst (prs w ys))) (hs : ∀ c ∈ g, small c) (ht : trim g = g) (ly : ys.length ≤ 1000) (hy : ∀ y ∈ ys, small y ∧ horOk y 0 g.reverse ∧ ev g y = w y) : m__law_is_worth_all [.tup (frs g), .ref r] H = .ok (.bl true) H := by
  have lp := cloop_map (its := ⟨prs w ys, [(r, prs w ys)]⟩) (bd := bTup (bCons (bName 2) (bCons (bName 3) (bNil)))) (el := xCall (m__law_same 5) (aCons (xCall m__law_at (aCons (xVar 0) (aCons (xVar 2) (aNil)))) (aCons (xVar 3) (aNil)))) (ρ := [some (.tup (frs g)), some (.ref r), none, none]) (h := H) (F := fun _ => .bl true)
    (live_one hr) (prs w ys) [] (fun d hd => by
      obtain ⟨y, hy', rfl⟩ := List.mem_map.mp hd
      obtain ⟨sy, ok, e⟩ := hy y hy'
      refine ⟨_, rfl, ?_⟩
      have ea := e_at H ok sy
      have es := e_same 5 (fr (w y)) H (okS_fr _ 3)
      rw [e] at ea
      simp [ea, es]) (by simp only [prs, List.length_map, List.length_nil]; show 0 + ys.length ≤ 16777216; omega)
  have oa := o_all (F := fun _ => true) (ds := prs w ys) (h := H)
  have : (prs w ys).all (fun _ => true) = true := List.all_eq_true.mpr fun _ _ => rfl
  rw [this] at oa
  simp [m__law_is_worth_all, e_looks_frs H hs ht, its_ref hr]
  rw [lp]
  simp [oa]
/-- a list of places with their worths is made -/
theorem e_prs {its : Its} {ρ : Env'} {el : MX} {H : MH} {w : Rat → Rat} (lv : live its H) {i : Nat} (ys : List Rat) (ly : ys.length ≤ 1000) (he : ∀ y ∈ ys, el (ρ.set i (some (fr y))) H = .ok (.val (.tup [fr y, fr (w y)])) H) : cloop its (bName i) tYesM el ρ (frs ys) [] H = .ok (.tmp (prs w ys)) H := by
  have lp := cloop_map (its := its) (bd := bName i) (el := el) (ρ := ρ) (h := H) (F := fun d => match d with | .tup [.int n, .int k] => .tup [fr (Rat.divInt n k), fr (w (Rat.divInt n k))] | _ => .non) lv (frs ys) [] (fun d hd => by
    obtain ⟨y, hy', rfl⟩ := List.mem_map.mp hd
    refine ⟨_, rfl, ?_⟩
    rw [he y hy']
    show _ = Res.ok (SD.val (.tup [fr (Rat.divInt y.num y.den), fr (w (Rat.divInt y.num y.den))])) H
    rw [Rat.num_divInt_den]) (by rw [frs_len]; show 0 + ys.length ≤ 16777216; omega)
  rw [lp]
  congr 2
  simp only [List.nil_append, frs, prs, List.map_map]
  refine List.map_congr_left fun y _ => ?_
  show D.tup [fr (Rat.divInt y.num y.den), fr (w (Rat.divInt y.num y.den))] = _
  rw [Rat.num_divInt_den]
/-! products fit -/
theorem cut_all (ds : List D) (k : Nat) : cutD ds none (some (k : Int)) = ds.take k := by
  by_cases h : k ≤ ds.length
  · exact cut_to ds k h
  · unfold cutD
    rw [show HT.sIx ds.length 0 none = 0 from rfl, HT.sIx_nat, Nat.min_eq_right (by omega), List.drop_zero, Nat.sub_zero, List.take_length, List.take_of_length_le (by omega)]
def pw (m : Nat) (c : Rat) : List Rat := List.replicate m 0 ++ [c]
theorem cf_pw (m : Nat) (c : Rat) (i : Nat) : cf (pw m c) i = if i = m then c else 0 := by
  unfold cf pw
  rw [List.getD_eq_getElem?_getD]
  by_cases h : i < m
  · rw [List.getElem?_append_left (by simpa using h), List.getElem?_replicate, if_pos h, if_neg (by omega)]; rfl
  · rw [List.getElem?_append_right (by simp; omega), List.length_replicate]
    by_cases e : i = m
    · subst e; simp
    · rw [if_neg e]
      have : i - m = (i - m - 1) + 1 := by omega
      rw [this]; rfl
theorem der_pw (n : Nat) : trim (der (pw (n + 1) 1)) = pw n (((n + 1 : Nat) : Int) : Rat) := by
  have h0 : (((n + 1 : Nat) : Int) : Rat) ≠ 0 := by
    intro z
    have := Rat.intCast_inj.mp (show (((n + 1 : Nat) : Int) : Rat) = ((0 : Int) : Rat) by rw [z]; rfl)
    omega
  have e := trim_snoc h0 (List.replicate n 0)
  show trim (der (pw (n + 1) 1)) = List.replicate n 0 ++ [(((n + 1 : Nat) : Int) : Rat)]
  rw [← e]
  refine trim_ext _ _ fun i => ?_
  have := cf_pw n (((n + 1 : Nat) : Int) : Rat) i
  unfold pw at this
  rw [this, cf_der, cf_pw]
  by_cases q : i = n
  · subst q; rw [if_pos rfl, if_pos rfl, Rat.mul_one]; rfl
  · rw [if_neg (by omega), if_neg q, Rat.mul_zero]
structure Pol (M N : Nat) (f : List Rat) : Prop where
  len : f.length ≤ 10
  bd : BdL M N f
  tr : trim f = f
theorem der_len (f : List Rat) : (der f).length ≤ f.length := by
  have : ∀ (l : List Rat) (k : Nat), (derA k l).length = l.length := by
    intro l
    induction l with
    | nil => intro k; rfl
    | cons c l ih => intro k; simp [derA, ih]
  cases f with
  | nil => simp [der]
  | cons c l => simp [der, this]
theorem BdL.der {M N : Nat} {f : List Rat} (h : BdL M N f) (hl : f.length ≤ 1000) : BdL M (1001 * N) (der f) := fun i => by
  rw [cf_der]
  by_cases hi : i < 1000
  · have b := (Bd.int (M := 1) (N := 1001) (by omega) (i := ((i + 1 : Nat) : Int)) (by omega)).mul (h (i + 1))
    rw [Nat.one_mul] at b
    exact b
  · rw [cf_out (l := f) (by omega), Rat.mul_zero]; exact Bd.zero h.pos
theorem pairs_of {M N M' N' : Nat} {f g : List Rat} (hf : BdL M N f) (hg : BdL M' N' g) (a1 : M < 2 ^ 4000) (a2 : N < 2 ^ 4000) (a3 : M' < 2 ^ 4000) (a4 : N' < 2 ^ 4000) : pairsOk (M * M') (N * N') f g :=
  ⟨hf.small a1 a2, hg.small a3 a4, fun a ha b hb => (hf.mem a ha).mul (hg.mem b hb)⟩
theorem big1 {a : Nat} (h : a ≤ 2 ^ 200) : a < 2 ^ 4000 := Nat.lt_of_le_of_lt h (Nat.pow_lt_pow_right (by omega) (by omega))
theorem e_products_fit {h0 h : MH} {r s k : Nat} {f g : List Rat} (t : St h0 r s k h) (hk : k < 2 ^ 90) (pf : Pol 2520 22680 f) (pg : Pol 2520 22680 g) : ∃ h', m__law_products_fit [.ref r, .tup (frs f), .tup (frs g)] h = .ok (.bl true) h' ∧ St h0 r s (k + 1) h' := by
  have lf := pf.len
  have lg := pg.len
  have sf := pf.bd.small (big1 (by omega)) (big1 (by omega))
  have sg := pg.bd.small (big1 (by omega)) (big1 (by omega))
  have dlf := Nat.le_trans (trim_len (der f)) (der_len f)
  have dlg := Nat.le_trans (trim_len (der g)) (der_len g)
  have bdf := (BdL.der pf.bd (by omega)).trim
  have bdg := (BdL.der pg.bd (by omega)).trim
  have sdf := bdf.small (big1 (by omega)) (big1 (by omega))
  have sdg := bdg.small (big1 (by omega)) (big1 (by omega))
  have cut : ∀ n N : Nat, n ≤ 10 → N ≤ 2 ^ 190 → n * N < 2 ^ 4000 := fun n N a b => big1 (Nat.le_trans (Nat.mul_le_mul a b) (by omega))
  have pr1 := e_poly_product h (M := 2520 * 2520) (N := 22680 * 22680) (big1 (by omega)) (by omega) (cut _ _ (by omega) (by omega)) (by omega) (by omega) (pairs_of pf.bd pg.bd (big1 (by omega)) (big1 (by omega)) (big1 (by omega)) (big1 (by omega)))
  have pr2 := e_poly_product h (M := 2520 * 2520) (N := 1001 * 22680 * 22680) (big1 (by omega)) (by omega) (cut _ _ (by omega) (by omega)) (by omega) (by omega) (pairs_of bdf pg.bd (big1 (by omega)) (big1 (by omega)) (big1 (by omega)) (big1 (by omega)))
  have pr3 := e_poly_product h (M := 2520 * 2520) (N := 22680 * (1001 * 22680)) (big1 (by omega)) (by omega) (cut _ _ (by omega) (by omega)) (by omega) (by omega) (pairs_of pf.bd bdg (big1 (by omega)) (big1 (by omega)) (big1 (by omega)) (big1 (by omega)))
  have b1 := (pf.bd.pmul pg.bd).trim
  have b2 := (bdf.pmul pg.bd).trim
  have b3 := (pf.bd.pmul bdg).trim
  have l1 := Nat.le_trans (trim_len _) (pmul_len f g)
  have l2 := Nat.le_trans (trim_len _) (pmul_len (trim (der f)) g)
  have l3 := Nat.le_trans (trim_len _) (pmul_len f (trim (der g)))
  have s1 := b1.small (big1 (by omega)) (cut _ _ (by omega) (by omega))
  have s2 := b2.small (big1 (by omega)) (cut _ _ (by omega) (by omega))
  have s3 := b3.small (big1 (by omega)) (cut _ _ (by omega) (by omega))
  have d1 := e_derived h s1 (by omega)
  have df := e_derived h sf (by omega)
  have dg := e_derived h sg (by omega)
  have ps1 := e_poly_sum h (f := trim (pmul (trim (der f)) g)) (g := trim (pmul f (trim (der g)))) (by omega) (by omega) s2 s3
  have ps2 := e_poly_sum h (f := f) (g := g) (by omega) (by omega) sf sg
  have lp2 : (padd f g).length ≤ 10 := by rw [padd_len]; omega
  have sp2 := ((pf.bd.padd pg.bd).trim).small (big1 (by omega)) (big1 (by omega))
  have d2 := e_derived h sp2 (by have := trim_len (padd f g); omega)
  have ps3 := e_poly_sum h (f := trim (der f)) (g := trim (der g)) (by omega) (by omega) sdf sdg
  -- the two laws
  have law1 : trim (der (trim (pmul f g))) = trim (padd (trim (pmul (trim (der f)) g)) (trim (pmul f (trim (der g))))) := trim_ext _ _ fun i => by
    rw [cf_der, cf_trim, ← cf_der, leib, cf_padd, cf_padd, cf_trim, cf_trim, pmul_congL _ _ g (cf_trim (der f)), pmul_congR f _ _ (cf_trim (der g))]
  have law2 : trim (der (trim (padd f g))) = trim (padd (trim (der f)) (trim (der g))) := trim_ext _ _ fun i => by
    rw [cf_der, cf_trim, cf_padd, cf_padd, cf_trim, cf_trim, cf_der, cf_der]
    grind
  rw [law1] at d1
  rw [law2] at d2
  have lq1 : (trim (padd (trim (pmul (trim (der f)) g)) (trim (pmul f (trim (der g)))))).length ≤ 1000 := by
    have := trim_len (padd (trim (pmul (trim (der f)) g)) (trim (pmul f (trim (der g)))))
    rw [padd_len] at this; omega
  have lq2 : (trim (padd (trim (der f)) (trim (der g)))).length ≤ 1000 := by
    have := trim_len (padd (trim (der f)) (trim (der g)))
    rw [padd_len] at this; omega
  have sm1 := e_same 5 _ h (okS_frs lq1 2)
  have sm2 := e_same 5 _ h (okS_frs lq2 2)
  obtain ⟨v, h1, e1, v0, v1, t1⟩ := e_draw t (m := 9) (by omega) (by omega) (by omega)
  have e1' : m__law_draw [.ref r, .int 9] h = .ok (.int v) h1 := e1
  obtain ⟨n, rfl⟩ : ∃ n : Nat, v = n := ⟨v.toNat, by omega⟩
  have z1 : fr 0 = .tup [.int 0, .int 1] := rfl
  have o1 : fr 1 = .tup [.int 1, .int 1] := rfl
  have hpw : ∀ (m : Nat) (c : Rat), List.replicate m (D.tup [.int 0, .int 1]) ++ [fr c] = frs (pw m c) := fun m c => by simp [frs, pw, z1]
  have n1 : (1 + (n : Int)).toNat = n + 1 := by omega
  have n2 : (1 + (n : Int) - 1).toNat = n := by omega
  have spw : ∀ c ∈ pw (n + 1) 1, small c := fun c hc => by
    rcases List.mem_append.mp hc with hc | hc
    · rw [(List.mem_replicate.mp hc).2]; exact small_zero
    · rw [List.mem_singleton.mp hc]; exact ⟨by show 1 < _; exact Nat.one_lt_two_pow (by omega), by show 1 < _; exact Nat.one_lt_two_pow (by omega)⟩
  have lpw : ∀ (m : Nat) (c : Rat), (pw m c).length = m + 1 := fun m c => by simp [pw]
  have d3 := e_derived h1 spw (by rw [lpw]; omega)
  rw [der_pw] at d3
  obtain ⟨K1, hK⟩ : ∃ q : Rat, q = (((n + 1 : Nat) : Int) : Rat) := ⟨_, rfl⟩
  rw [← hK] at d3
  have sm3 := e_same 5 _ h1 (okS_frs (l := pw n K1) (by rw [lpw]; omega) 2)
  have sm4 := e_same 5 _ h1 (okS_frs (l := []) (by simp) 2)
  have fnil : frs [] = [] := rfl
  have po := e_poly_of (f.take 1) h1
  have d4 := e_derived (f := trim (f.take 1)) h1 (fun c hc => sf c (List.mem_of_mem_take (trim_mem hc))) (by have := trim_len (f.take 1); have := List.length_take_le 1 f; omega)
  have d4z : trim (der (trim (f.take 1))) = [] := by
    have l1 := trim_len (f.take 1)
    have l2 := List.length_take_le 1 f
    match e : trim (f.take 1) with
    | [] => rfl
    | [c] => rfl
    | _ :: _ :: _ => rw [e] at l1; simp at l1; omega
  rw [d4z] at d4
  have d5 := e_derived (f := []) h1 (fun c hc => by cases hc) (by simp)
  rw [fnil] at d4 d5 sm4
  have d5' : m_derived [.tup []] h1 = .ok (.tup []) h1 := d5
  have q1 : fr K1 = .tup [.int (1 + (n : Int)), .int 1] := by
    rw [hK, fr_int]
    have : ((n + 1 : Nat) : Int) = 1 + (n : Int) := by omega
    rw [this]
  have cat1 : ∀ h, oAdd (.val (.tup (List.replicate (n + 1) (D.tup [.int 0, .int 1])))) (.val (.tup [.tup [.int 1, .int 1]])) h = some (.val (.tup (frs (pw (n + 1) 1)))) := fun h => by
    rw [o_cat (by simp; omega), ← o1, hpw]
  have cat2 : ∀ h, oAdd (.val (.tup (List.replicate n (D.tup [.int 0, .int 1])))) (.val (.tup [.tup [.int (1 + (n : Int)), .int 1]])) h = some (.val (.tup (frs (pw n K1)))) := fun h => by
    rw [o_cat (by simp; omega), ← q1, hpw]
  have ct : cutD (frs f) none (some 1) = frs (f.take 1) := by
    have := cut_all (frs f) 1
    rw [show ((1 : Nat) : Int) = 1 from rfl] at this
    rw [this]; simp [frs]
  refine ⟨h1, ?_, t1⟩
  have r1 := o_rep1 (d := D.tup [.int 0, .int 1]) (k := 1 + (n : Int)) (h := h1) (by omega) (by omega)
  have r2 := o_rep1 (d := D.tup [.int 0, .int 1]) (k := 1 + (n : Int) - 1) (h := h1) (by omega) (by omega)
  rw [n1] at r1
  rw [n2] at r2
  have hl : h1.length = h.length := by rw [t1.len, t.len]
  simp only [m__law_products_fit, e_fn, List.length_cons, List.length_nil, if_true, List.map_cons, List.map_nil, List.cons_append, List.nil_append, List.replicate, e_seq, e_set, e_call, e_cons, e_var, e_nil, e_bok, e_sok, List.getElem?_cons_zero, List.getElem?_cons_succ, e_hv, e_hh, pr1, d1, List.set, df, dg, pr2, pr3, ps1, e_sif, e_tor, e_tnot, e_tru, sm1, t_bl, Bool.not_true, Bool.false_eq_true, if_false, ps2, d2, ps3, sm2, e_next, e_op, e_C, e1', o_add, e_tup]
  simp [r1, cat1, d3, r2, cat2, sm3, ct, po, d4, sm4, d5', gc_len hl]
end AM.k02

namespace AM.k02
open PySem PySem.Spec PyProof.Rows L2 AM
noncomputable def t1 : MS := sAsg (xTup (aCons (xCall m__law_some_row (aCons (xVar 1) (aNil))) (aCons (xCall m__law_some_row (aCons (xVar 1) (aNil))) (aNil)))) (bTup (bCons (bName 5) (bCons (bName 6) (bNil))))
noncomputable def t2 : MS := sIf (asB (xOp oEq (xCall m__law_draw (aCons (xVar 1) (aCons (xC (.int 3)) (aNil)))) (xC (.int 0)))) (sSet 6 (xOp oAdd (xSl (xVar 6) (pNone) (pSome (xC (.int 2)))) (xLc [9, 13] (iSeq (xSl (xVar 5) (pSome (xC (.int 2))) (pNone))) (bTup (bCons (bName 9) (bCons (bName 13) (bNil)))) (tYesM) (xTup (aCons (xUn oNeg (xVar 9)) (aCons (xVar 13) (aNil))))))) (sNext)
noncomputable def t3 : MS := sAsg (xTup (aCons (xCall m_poly_of (aCons (xVar 5) (aNil))) (aCons (xCall m_poly_of (aCons (xVar 6) (aNil))) (aNil)))) (bTup (bCons (bName 7) (bCons (bName 8) (bNil))))
noncomputable def t4 : MS := sAsg (xTup (aCons (xCall m__law_some_fraction (aCons (xVar 1) (aCons (xC (.int 7)) (aNil)))) (aCons (xCall m__law_some_fraction (aCons (xVar 1) (aCons (xC (.int 7)) (aNil)))) (aNil)))) (bTup (bCons (bName 9) (bCons (bName 10) (bNil))))
noncomputable def t5 : MS := sSet 3 (xCall m__law_places (aCons (xVar 1) (aCons (xOp oAdd (xUn oLen (xVar 5)) (xUn oLen (xVar 6))) (aNil))))
noncomputable def t6 : MS := sIf (tOrM (tNotM (tTru (xCall m__law_is_worth_all (aCons (xVar 7) (aCons (xLc [11] (iSeq (xVar 3)) (bName 11) (tYesM) (xTup (aCons (xVar 11) (aCons (xCall m__law_at (aCons (xVar 5) (aCons (xVar 11) (aNil)))) (aNil))))) (aNil)))))) (tNotM (tTru (xCall m__law_is_worth_all (aCons (xVar 8) (aCons (xLc [11] (iSeq (xVar 3)) (bName 11) (tYesM) (xTup (aCons (xVar 11) (aCons (xCall m__law_at (aCons (xVar 6) (aCons (xVar 11) (aNil)))) (aNil))))) (aNil))))))) (sRet (xC (.bl false))) (sNext)
noncomputable def t7 : MS := sIf (tNotM (tTru (xUn oAll (xLc [11] (iSeq (xVar 3)) (bName 11) (tYesM) (xCall (m__law_same 5) (aCons (xCall m_poly_value (aCons (xVar 7) (aCons (xVar 11) (aNil)))) (aCons (xCall m__law_at (aCons (xVar 5) (aCons (xVar 11) (aNil)))) (aNil)))))))) (sRet (xC (.bl false))) (sNext)
noncomputable def t8 : MS := sIf (tNotM (tTru (xCall m__law_is_worth_all (aCons (xCall m_poly_sum (aCons (xVar 7) (aCons (xVar 8) (aNil)))) (aCons (xLc [11] (iSeq (xVar 3)) (bName 11) (tYesM) (xTup (aCons (xVar 11) (aCons (xCall m__law_add (aCons (xCall m__law_at (aCons (xVar 5) (aCons (xVar 11) (aNil)))) (aCons (xCall m__law_at (aCons (xVar 6) (aCons (xVar 11) (aNil)))) (aNil)))) (aNil))))) (aNil)))))) (sRet (xC (.bl false))) (sNext)
noncomputable def t9 : MS := sIf (tNotM (tTru (xCall m__law_is_worth_all (aCons (xCall m_poly_times (aCons (xVar 9) (aCons (xVar 7) (aNil)))) (aCons (xLc [11] (iSeq (xVar 3)) (bName 11) (tYesM) (xTup (aCons (xVar 11) (aCons (xCall m__law_mul (aCons (xVar 9) (aCons (xCall m__law_at (aCons (xVar 5) (aCons (xVar 11) (aNil)))) (aNil)))) (aNil))))) (aNil)))))) (sRet (xC (.bl false))) (sNext)
noncomputable def t10 : MS := sIf (tNotM (tTru (xCall m__law_is_worth_all (aCons (xCall m_poly_product (aCons (xVar 7) (aCons (xVar 8) (aNil)))) (aCons (xLc [11] (iSeq (xVar 3)) (bName 11) (tYesM) (xTup (aCons (xVar 11) (aCons (xCall m__law_mul (aCons (xCall m__law_at (aCons (xVar 5) (aCons (xVar 11) (aNil)))) (aCons (xCall m__law_at (aCons (xVar 6) (aCons (xVar 11) (aNil)))) (aNil)))) (aNil))))) (aNil)))))) (sRet (xC (.bl false))) (sNext)
noncomputable def t11 : MS := sIf (tOrM (tNotM (tTru (xCall m__law_is_worth_all (aCons (xCall m_moved (aCons (xVar 7) (aCons (xVar 9) (aCons (xVar 10) (aNil))))) (aCons (xLc [11] (iSeq (xVar 3)) (bName 11) (tYesM) (xTup (aCons (xVar 11) (aCons (xCall m__law_at (aCons (xVar 5) (aCons (xCall m__law_add (aCons (xVar 9) (aCons (xCall m__law_mul (aCons (xVar 10) (aCons (xVar 11) (aNil)))) (aNil)))) (aNil)))) (aNil))))) (aNil)))))) (tNotM (tTru (xCall m__law_products_fit (aCons (xVar 1) (aCons (xVar 7) (aCons (xVar 8) (aNil)))))))) (sRet (xC (.bl false))) (sNext)
noncomputable def t12 : MS := sSet 4 (xLst (aCons (xVar 7) (aCons (xVar 8) (aCons (xOp oAdd (xVar 7) (xTup (aCons (xTup (aCons (xC (.int 0)) (aCons (xC (.int 1)) (aNil)))) (aNil)))) (aCons (xOp oAdd (xVar 7) (xTup (aCons (xTup (aCons (xC (.int 2)) (aCons (xC (.int 2)) (aNil)))) (aNil)))) (aCons (xTup (aCons (xTup (aCons (xC (.int 0)) (aCons (xC (.int 1)) (aNil)))) (aNil))) (aCons (xTup (aCons (xTup (aCons (xC (.int 1)) (aCons (xC (.int 0)) (aNil)))) (aNil))) (aCons (xTup (aCons (xC (.int 1)) (aCons (xC (.int 2)) (aNil)))) (aCons (xTup (aCons (xTup (aCons (xC (.int 1)) (aCons (xC (.int 1)) (aNil)))) (aCons (xC (.int 3)) (aNil)))) (aCons (xC (.str ("" : Str))) (aCons (xC (.int 7)) (aCons (xTup (aNil)) (aCons (xOp oAdd (xVar 7) (xTup (aCons (xTup (aCons (xC (.str ("1" : Str))) (aCons (xC (.int 1)) (aNil)))) (aNil)))) (aCons (xTup (aCons (xTup (aCons (xC (.int 1)) (aCons (xC (.int 1)) (aCons (xC (.int 1)) (aNil))))) (aNil))) (aCons (xTup (aCons (xTup (aCons (xC (.int 3)) (aCons (xUn oNeg (xC (.int 1))) (aNil)))) (aNil))) (aCons (xTup (aCons (xVar 7) (aNil))) (aNil)))))))))))))))))
noncomputable def t13 : MS := sIf (tNotM (tTru (xUn oAll (xLc [12] (iSeq (xVar 4)) (bName 12) (tYesM) (xCall m__law_said (aCons (xCall m_is_poly (aCons (xVar 12) (aNil))) (aCons (xCall m__law_looks_like_one (aCons (xVar 12) (aNil))) (aNil)))))))) (sRet (xC (.bl false))) (sNext)
noncomputable def tBody : MS := (sSeq t1 (sSeq t2 (sSeq t3 (sSeq t4 (sSeq t5 (sSeq t6 (sSeq t7 (sSeq t8 (sSeq t9 (sSeq t10 (sSeq t11 (sSeq t12 t13))))))))))))
theorem law_eq : m_law = mFn 14 1 (sSeq (sSet 1 (xCall m__law_start (aCons (xVar 0) (aNil)))) (sSeq (sFor (iRange1 (xC (.int 6))) (bName 2) tBody) (sRet (xC (.bl true))))) := rfl
/-- the heap between two statements: the state, and lists that stay -/
def Cur (r s : Nat) (F : List (Nat × List D)) (k : Nat) (H : MH) : Prop := ∃ h0, St h0 r s k H ∧ ∀ p ∈ F, h0[p.1]? = some (.lst p.2) ∧ p.1 ≠ r
section
variable {r s k k' : Nat} {F : List (Nat × List D)} {H : MH}
theorem Cur.get (c : Cur r s F k H) {p : Nat} {ds : List D} (hp : (p, ds) ∈ F) : H[p]? = some (.lst ds) := by
  obtain ⟨h0, t, f⟩ := c
  exact t.get (f _ hp).2 (f _ hp).1
theorem Cur.app (c : Cur r s F k H) (m : MH) : Cur r s F k (H ++ m) := by
  obtain ⟨h0, t, f⟩ := c
  exact ⟨h0 ++ m, t.app m, fun p hp => ⟨by rw [List.getElem?_append_left (some_lt (f p hp).1)]; exact (f p hp).1, (f p hp).2⟩⟩
theorem Cur.push (c : Cur r s F k H) (ds : List D) : Cur r s ((H.length, ds) :: F) k (H ++ [.lst ds]) := by
  obtain ⟨h0, t, f⟩ := c
  refine ⟨h0 ++ [.lst ds], t.app _, fun p hp => ?_⟩
  rcases List.mem_cons.mp hp with rfl | hp
  · exact ⟨by rw [t.len]; simp, by have := t.lt; have := t.len; show H.length ≠ r; omega⟩
  · exact ⟨by rw [List.getElem?_append_left (some_lt (f p hp).1)]; exact (f p hp).1, (f p hp).2⟩
theorem Cur.mono (c : Cur r s F k H) (l : k ≤ k') : Cur r s F k' H := by
  obtain ⟨h0, t, f⟩ := c
  exact ⟨h0, t.mono l, f⟩
theorem Cur.sub (c : Cur r s F k H) {F' : List (Nat × List D)} (l : ∀ p ∈ F', p ∈ F) : Cur r s F' k H := by
  obtain ⟨h0, t, f⟩ := c
  exact ⟨h0, t, fun p hp => f p (l p hp)⟩
theorem c_draw {m : Nat} (c : Cur r s F k H) (hm : 0 < m) (hm2 : m ≤ 100000000000) (hk : k < 2 ^ 100) : ∃ v h', m__law_draw [.ref r, .int (m : Nat)] H = .ok (.int v) h' ∧ 0 ≤ v ∧ v < m ∧ Cur r s F (k + 1) h' := by
  obtain ⟨h0, t, f⟩ := c
  obtain ⟨v, h', e, v0, v1, t'⟩ := e_draw t hm hm2 hk
  exact ⟨v, h', e, v0, v1, h0, t', f⟩
theorem c_some_fraction {m : Nat} (c : Cur r s F k H) (hm : 0 < m) (hm2 : m ≤ 1000) (hk : k < 2 ^ 99) : ∃ q h', m__law_some_fraction [.ref r, .int (m : Nat)] H = .ok (fr q) h' ∧ Fq m q ∧ Cur r s F (k + 2) h' := by
  obtain ⟨h0, t, f⟩ := c
  obtain ⟨q, h', e, fq, t'⟩ := e_some_fraction t hm hm2 hk
  exact ⟨q, h', e, fq, h0, t', f⟩
theorem c_some_row (c : Cur r s F k H) (hk : k < 2 ^ 90) : ∃ row p h', m__law_some_row [.ref r] H = .ok (.ref p) h' ∧ row.length ≤ 10 ∧ Rq row ∧ Cur r s ((p, frs row) :: F) (k + 30) h' := by
  obtain ⟨h0, t, f⟩ := c
  obtain ⟨row, h', e, l, b, t'⟩ := e_some_row t hk
  have c' : Cur r s F (k + 30) h' := ⟨h0, t', f⟩
  have := c'.push (frs row)
  rw [t'.len, ← t.len] at this
  exact ⟨row, H.length, h' ++ [.lst (frs row)], e, l, b, this⟩
theorem c_places {m : Nat} (c : Cur r s F k H) (hk : k < 2 ^ 90) (hm : m ≤ 20) : ∃ ys p h', m__law_places [.ref r, .int (m : Nat)] H = .ok (.ref p) h' ∧ ys.length ≤ 42 ∧ (∀ y ∈ ys, Pq y) ∧ Cur r s ((p, frs ys) :: F) (k + 2) h' := by
  obtain ⟨h0, t, f⟩ := c
  obtain ⟨ys, h', e, l, b, t'⟩ := e_places t hk hm
  have c' : Cur r s F (k + 2) h' := ⟨h0, t', f⟩
  have := c'.push (frs ys)
  rw [t'.len, ← t.len] at this
  exact ⟨ys, H.length, h' ++ [.lst (frs ys)], e, l, b, this⟩
end
/-- the frame's slots -/
abbrev E14 (r : Nat) (z2 z3 z4 z5 z6 z7 z8 z9 z10 z11 z12 z13 : Option D) : Env' := [some (.ref 0), some (.ref r), z2, z3, z4, z5, z6, z7, z8, z9, z10, z11, z12, z13]
section
variable {r s k : Nat} {F : List (Nat × List D)} {H : MH} {z2 z3 z4 z5 z6 z7 z8 z9 z10 z11 z12 z13 : Option D}
theorem e_t1 (c : Cur r s F k H) (hk : k < 2 ^ 80) : ∃ row other p5 p6 H', t1 (E14 r z2 z3 z4 z5 z6 z7 z8 z9 z10 z11 z12 z13) H = .next (E14 r z2 z3 z4 (some (.ref p5)) (some (.ref p6)) z7 z8 z9 z10 z11 z12 z13) H' ∧ row.length ≤ 10 ∧ other.length ≤ 10 ∧ Rq row ∧ Rq other ∧ Cur r s ((p6, frs other) :: (p5, frs row) :: F) (k + 60) H' := by
  obtain ⟨row, p5, h1, e1, l1, b1, c1⟩ := c_some_row c (by omega)
  obtain ⟨other, p6, h2, e2, l2, b2, c2⟩ := c_some_row c1 (by omega)
  exact ⟨row, other, p5, p6, h2, by simp [t1, e1, e2], l1, l2, b1, b2, c2⟩
theorem lstOf_ref {H : MH} {p : Nat} {ds : List D} (e : H[p]? = some (.lst ds)) : lstOf (.val (.ref p)) H = some ds := by simp only [lstOf, e]
theorem cut_from (ds : List D) (k : Nat) (h : k ≤ ds.length) : cutD ds (some (k : Int)) none = ds.drop k := by
  unfold cutD
  rw [show HT.sIx ds.length ds.length none = ds.length from rfl, HT.sIx_nat, Nat.min_eq_left h]
  rw [List.take_of_length_le (by simp)]
theorem cut_from' (ds : List D) (k : Nat) : cutD ds (some (k : Int)) none = ds.drop k := by
  by_cases h : k ≤ ds.length
  · exact cut_from ds k h
  · unfold cutD
    rw [show HT.sIx ds.length ds.length none = ds.length from rfl, HT.sIx_nat, Nat.min_eq_right (by omega), List.drop_eq_nil_of_le (Nat.le_refl _), List.drop_eq_nil_of_le (by omega)]
    simp
theorem neg_fr (q : Rat) : D.tup [.int (-q.num), .int q.den] = fr (-q) := by
  rfl
theorem e_t2 {row other : List Rat} {p5 p6 : Nat} (c : Cur r s ((p6, frs other) :: (p5, frs row) :: F) k H) (hk : k < 2 ^ 80) (l1 : row.length ≤ 10) (l2 : other.length ≤ 10) (b1 : Rq row) (b2 : Rq other) :
    ∃ other' p6' H', t2 (E14 r z2 z3 z4 (some (.ref p5)) (some (.ref p6)) z7 z8 z9 z10 z11 z12 z13) H = .next (E14 r z2 z3 z4 (some (.ref p5)) (some (.ref p6')) z7 z8 z9 z10 z11 z12 z13) H' ∧ other'.length ≤ 10 ∧ Rq other' ∧ Cur r s [(p6', frs other'), (p5, frs row)] (k + 1) H' := by
  obtain ⟨v, h1, e1, v0, v1, c1⟩ := c_draw c (m := 3) (by omega) (by omega) (by omega)
  have e1' : m__law_draw [.ref r, .int 3] H = .ok (.int v) h1 := e1
  have g6 := c1.get (p := p6) (ds := frs other) (by simp)
  have g5 := c1.get (p := p5) (ds := frs row) (by simp)
  by_cases z : v = 0
  · subst z
    have lp := cloop_map (its := ⟨frs (row.drop 2), []⟩) (bd := bTup (bCons (bName 9) (bCons (bName 13) (bNil)))) (el := xTup (aCons (xUn oNeg (xVar 9)) (aCons (xVar 13) (aNil)))) (ρ := E14 r z2 z3 z4 (some (.ref p5)) (some (.ref p6)) z7 z8 none z10 z11 z12 none) (h := h1) (F := fun d => match d with | .tup [.int n, x] => .tup [.int (-n), x] | _ => .non)
      live_nil (frs (row.drop 2)) [] (fun d hd => by
        obtain ⟨q, hq, rfl⟩ := List.mem_map.mp hd
        exact ⟨_, rfl, by simp [fr]⟩) (by rw [frs_len, List.length_drop]; show 0 + (row.length - 2) ≤ 16777216; omega)
    have em : (frs (row.drop 2)).map (fun d => match d with | .tup [.int n, x] => .tup [.int (-n), x] | _ => .non) = frs ((row.drop 2).map fun q => -q) := by
      simp only [frs, List.map_map]
      exact List.map_congr_left fun q _ => neg_fr q
    rw [em] at lp
    obtain ⟨R, hR⟩ : ∃ R : List Rat, R = (row.drop 2).map fun q => -q := ⟨_, rfl⟩
    have lR : R.length ≤ 8 := by rw [hR]; simp; omega
    rw [← hR] at lp
    have sl6 : oSl (.val (.ref p6)) none (some 2) h1 = some (.tmp (frs (other.take 2))) := by
      show (lstOf (.val (.ref p6)) h1).map _ = _
      rw [lstOf_ref g6]
      show some (SD.tmp (cutD (frs other) none (some ((2 : Nat) : Int)))) = _
      rw [cut_all]; simp [frs]
    have sl5 : oSl (.val (.ref p5)) (some 2) none h1 = some (.tmp (frs (row.drop 2))) := by
      show (lstOf (.val (.ref p5)) h1).map _ = _
      rw [lstOf_ref g5]
      show some (SD.tmp (cutD (frs row) (some ((2 : Nat) : Int)) none)) = _
      rw [cut_from']; simp [frs]
    have ct : frs (other.take 2) ++ frs R = frs (other.take 2 ++ R) := by simp [frs]
    have cat : ∀ h, oAdd (.tmp (frs (other.take 2))) (.tmp (frs R)) h = some (.tmp (frs (other.take 2 ++ R))) := fun h => by
      rw [o_catL (by simp [frs_len]; omega), ct]
    refine ⟨other.take 2 ++ R, h1.length, h1 ++ [.lst (frs (other.take 2 ++ R))], ?_, by simp; omega, BdL.of (by omega) fun q hq => ?_, (c1.push _).sub fun p hp => ?_⟩
    · simp only [t2, e_sif, e_asB, e_op, e_call, e_cons, e_var, e_C, e_nil, e_bok, e_hv, e_hh, List.getElem?_cons_zero, List.getElem?_cons_succ, e1', o_eqI, decide_true, e_sok, if_true, e_set, e_sl, e_pn, e_ps, sl6, e_lc, e_iseq, sl5, its_tmp, wipe_cons, wipe_nil, List.set]
      simp only [E14] at lp
      rw [lp]
      simp [cat]
    · rcases List.mem_append.mp hq with hq | hq
      · exact b2.mem q (List.mem_of_mem_take hq)
      · rw [hR] at hq
        obtain ⟨q', hq', rfl⟩ := List.mem_map.mp hq
        exact (b1.mem q' (List.mem_of_mem_drop hq')).neg
    · simp only [List.mem_cons, List.not_mem_nil, or_false] at hp
      rcases hp with rfl | rfl <;> simp
  · refine ⟨other, p6, h1, by simp [t2, e1', z], l2, b2, c1.sub fun p hp => ?_⟩
    simp only [List.mem_cons, List.not_mem_nil, or_false] at hp
    rcases hp with rfl | rfl <;> simp
end
end AM.k02

namespace AM.k02
open PySem PySem.Spec PyProof.Rows L2 AM
theorem hok {M N X Y : Nat} {l : List Rat} {y : Rat} (bl : BdL M N l) (ll : l.length ≤ 20) (hy : Bd X Y y) (hXY : X ≤ Y) (hM : M ≤ 2 ^ 200) (hN : N ≤ 2 ^ 300) (hY : Y ≤ 2 ^ 100) : horOk y 0 l.reverse ∧ small (ev l y) := by
  have pX : X ^ l.length ≤ 2 ^ 2000 := by
    refine Nat.le_trans (Nat.pow_le_pow_left (Nat.le_trans hXY hY) _) ?_
    rw [← Nat.pow_mul]
    exact Nat.pow_le_pow_right (by omega) (by omega)
  have pY : Y ^ l.length ≤ 2 ^ 2000 := by
    refine Nat.le_trans (Nat.pow_le_pow_left hY _) ?_
    rw [← Nat.pow_mul]
    exact Nat.pow_le_pow_right (by omega) (by omega)
  have k1 : M * X ^ (0 + l.reverse.length) < 2 ^ 4000 := by
    rw [List.length_reverse, Nat.zero_add]
    have := Nat.mul_le_mul hM pX
    rw [← Nat.pow_add] at this
    exact Nat.lt_of_le_of_lt this (Nat.pow_lt_pow_right (by omega) (by omega))
  have k2 : (0 + l.reverse.length) * N * Y ^ (0 + l.reverse.length) < 2 ^ 4000 := by
    rw [List.length_reverse, Nat.zero_add]
    have h20 : l.length ≤ 2 ^ 5 := by omega
    have := Nat.mul_le_mul (Nat.mul_le_mul h20 hN) pY
    rw [← Nat.pow_add, ← Nat.pow_add] at this
    exact Nat.lt_of_le_of_lt this (Nat.pow_lt_pow_right (by omega) (by omega))
  have h := hor_ok hy hXY l.reverse 0 0 (fun c hc => bl.mem c (List.mem_reverse.mp hc)) (by rw [Nat.pow_zero, Nat.mul_one]; exact Bd.zero bl.pos) k1 (Nat.lt_of_le_of_lt hM (Nat.pow_lt_pow_right (by omega) (by omega))) (Nat.lt_of_le_of_lt hN (Nat.pow_lt_pow_right (by omega) (by omega))) k2
  refine ⟨h.1, ?_⟩
  have := h.2.small k1 k2
  rw [hor_rev] at this
  exact this
/-- what stands after the drawing -/
structure Sit (r s k : Nat) (row other ys : List Rat) (p3 p5 p6 : Nat) (a b : Rat) (H : MH) : Prop where
  c : Cur r s [(p3, frs ys), (p6, frs other), (p5, frs row)] k H
  l1 : row.length ≤ 10
  l2 : other.length ≤ 10
  b1 : Rq row
  b2 : Rq other
  ly : ys.length ≤ 42
  py : ∀ y ∈ ys, Pq y
  ba : Bd 420 2940 a
  bb : Bd 420 2940 b
section
variable {r s k : Nat} {row other ys : List Rat} {p3 p5 p6 : Nat} {a b : Rat} {H : MH} {z2 z3 z4 z7 z8 z9 z10 z11 z12 z13 : Option D}
theorem Sit.app (t : Sit r s k row other ys p3 p5 p6 a b H) (m : MH) : Sit r s k row other ys p3 p5 p6 a b (H ++ m) := ⟨t.c.app m, t.l1, t.l2, t.b1, t.b2, t.ly, t.py, t.ba, t.bb⟩
theorem Sit.g3 (t : Sit r s k row other ys p3 p5 p6 a b H) : H[p3]? = some (.lst (frs ys)) := t.c.get (by simp)
theorem Sit.g5 (t : Sit r s k row other ys p3 p5 p6 a b H) : H[p5]? = some (.lst (frs row)) := t.c.get (by simp)
theorem Sit.g6 (t : Sit r s k row other ys p3 p5 p6 a b H) : H[p6]? = some (.lst (frs other)) := t.c.get (by simp)
theorem pq_small {y : Rat} (h : Pq y) : small y := Bd.small h (big1 (by omega)) (big1 (by omega))
theorem fq7 {q : Rat} (h : Fq 7 q) : Bd 420 2940 q := h.bd (L := 420) (by omega) fun d h1 h2 => (by decide : ∀ d, d < 8 → 1 ≤ d → d ∣ 420) d (by omega) h1
/-- the drawing's end: t3, t4, t5 -/
theorem e_t345 (c : Cur r s [(p6, frs other), (p5, frs row)] k H) (hk : k < 2 ^ 80) (l1 : row.length ≤ 10) (l2 : other.length ≤ 10) (b1 : Rq row) (b2 : Rq other) :
    ∃ a b ys p3 H', (sSeq t3 (sSeq t4 t5)) (E14 r z2 z3 z4 (some (.ref p5)) (some (.ref p6)) z7 z8 z9 z10 z11 z12 z13) H = .next (E14 r z2 (some (.ref p3)) z4 (some (.ref p5)) (some (.ref p6)) (some (.tup (frs (trim row)))) (some (.tup (frs (trim other)))) (some (fr a)) (some (fr b)) z11 z12 z13) H' ∧ Sit r s (k + 6) row other ys p3 p5 p6 a b H' := by
  have g5 := c.get (p := p5) (ds := frs row) (by simp)
  have g6 := c.get (p := p6) (ds := frs other) (by simp)
  obtain ⟨a, h1, e1, fa, c1⟩ := c_some_fraction c (m := 7) (by omega) (by omega) (by omega)
  obtain ⟨b, h2, e2, fb, c2⟩ := c_some_fraction c1 (m := 7) (by omega) (by omega) (by omega)
  obtain ⟨ys, p3, h3, e3, ly, py, c3⟩ := c_places c2 (m := row.length + other.length) (by omega) (by omega)
  have e1' : m__law_some_fraction [.ref r, .int 7] H = .ok (fr a) h1 := e1
  have e2' : m__law_some_fraction [.ref r, .int 7] h1 = .ok (fr b) h2 := e2
  have g5b := c2.get (p := p5) (ds := frs row) (by simp)
  have g6b := c2.get (p := p6) (ds := frs other) (by simp)
  have n5 : oLen (.val (.ref p5)) h2 = some (.val (.int row.length)) := by simp [oLen, seqOf, lstOf, g5b, frs_len]
  have n6 : oLen (.val (.ref p6)) h2 = some (.val (.int other.length)) := by simp [oLen, seqOf, lstOf, g6b, frs_len]
  have e3' : m__law_places [.ref r, .int ((row.length : Int) + (other.length : Int))] h2 = .ok (.ref p3) h3 := by
    have : ((row.length : Int) + (other.length : Int)) = ((row.length + other.length : Nat) : Int) := by omega
    rw [this]; exact e3
  refine ⟨a, b, ys, p3, h3, ?_, c3.mono (by omega), l1, l2, b1, b2, ly, py, fq7 fa, fq7 fb⟩
  simp [t3, t4, t5, e_poly_ofL g5, e_poly_ofL g6, e1', e2', n5, n6, e3']
/-- the argument [(y, ..) for y in places] -/
theorem a_prs {el : MX} {w : Rat → Rat} (t : Sit r s k row other ys p3 p5 p6 a b H) (he : ∀ y ∈ ys, el (E14 r z2 (some (.ref p3)) z4 (some (.ref p5)) (some (.ref p6)) z7 z8 z9 z10 (some (fr y)) z12 z13) H = .ok (.val (.tup [fr y, fr (w y)])) H) :
    aCons (xLc [11] (iSeq (xVar 3)) (bName 11) (tYesM) el) aNil (E14 r z2 (some (.ref p3)) z4 (some (.ref p5)) (some (.ref p6)) z7 z8 z9 z10 z11 z12 z13) H = .ok [.ref H.length] (H ++ [.lst (prs w ys)]) := by
  have lp := e_prs (its := ⟨frs ys, [(p3, frs ys)]⟩) (ρ := E14 r z2 (some (.ref p3)) z4 (some (.ref p5)) (some (.ref p6)) z7 z8 z9 z10 none z12 z13) (el := el) (H := H) (w := w) (live_one t.g3) (i := 11) ys (by have := t.ly; omega) (fun y hy => he y hy)
  simp only [e_cons, e_lc, e_iseq, e_var, List.getElem?_cons_zero, List.getElem?_cons_succ, e_bok, its_ref t.g3, wipe_cons, wipe_nil, List.set]
  simp only [E14] at lp
  rw [lp]
  simp
theorem e_check {X : MX} {A : MA} {ρ : Env'} {g : List Rat} {w : Rat → Rat} {H : MH} {ys : List Rat} (hX : X ρ H = .ok (.val (.tup (frs g))) H) (hA : A ρ H = .ok [.ref H.length] (H ++ [.lst (prs w ys)])) (hs : ∀ c ∈ g, small c) (ht : trim g = g) (ly : ys.length ≤ 1000) (hy : ∀ y ∈ ys, small y ∧ horOk y 0 g.reverse ∧ ev g y = w y) :
    tNotM (tTru (xCall m__law_is_worth_all (aCons X A))) ρ H = .ok false (H ++ [.lst (prs w ys)]) := by
  have e := e_worth_all (g := g) (ys := ys) (w := w) (H := H ++ [.lst (prs w ys)]) (r := H.length) get_last hs ht ly hy
  simp only [e_tnot, e_tru, e_call, e_cons, hX, e_bok, e_hv, e_hh, hA, e]
  rfl
theorem Sit.at5 (t : Sit r s k row other ys p3 p5 p6 a b H) {X Y : Nat} {y : Rat} (hy : Bd X Y y) (hXY : X ≤ Y) (hY : Y ≤ 2 ^ 100) : m__law_at [.ref p5, fr y] H = .ok (fr (ev row y)) H ∧ small (ev row y) := by
  have h := hok t.b1 (by have := t.l1; omega) hy hXY (by omega) (by omega) hY
  exact ⟨e_atL t.g5 h.1 (hy.small (Nat.lt_of_le_of_lt (Nat.le_trans hXY hY) (Nat.pow_lt_pow_right (by omega) (by omega))) (Nat.lt_of_le_of_lt hY (Nat.pow_lt_pow_right (by omega) (by omega)))), h.2⟩
theorem Sit.at6 (t : Sit r s k row other ys p3 p5 p6 a b H) {X Y : Nat} {y : Rat} (hy : Bd X Y y) (hXY : X ≤ Y) (hY : Y ≤ 2 ^ 100) : m__law_at [.ref p6, fr y] H = .ok (fr (ev other y)) H ∧ small (ev other y) := by
  have h := hok t.b2 (by have := t.l2; omega) hy hXY (by omega) (by omega) hY
  exact ⟨e_atL t.g6 h.1 (hy.small (Nat.lt_of_le_of_lt (Nat.le_trans hXY hY) (Nat.pow_lt_pow_right (by omega) (by omega))) (Nat.lt_of_le_of_lt hY (Nat.pow_lt_pow_right (by omega) (by omega)))), h.2⟩
theorem cond {M N : Nat} {g : List Rat} {w : Rat → Rat} (bg : BdL M N g) (lg : g.length ≤ 20) (hM : M ≤ 2 ^ 200) (hN : N ≤ 2 ^ 300) {y : Rat} (hy : Pq y) (e : ev g y = w y) : small y ∧ horOk y 0 g.reverse ∧ ev g y = w y :=
  ⟨pq_small hy, (hok bg lg hy (by omega) hM hN (by omega)).1, e⟩
theorem sm_of {M N : Nat} {g : List Rat} (bg : BdL M N g) (hM : M ≤ 2 ^ 200) (hN : N ≤ 2 ^ 300) : ∀ c ∈ g, small c :=
  bg.small (Nat.lt_of_le_of_lt hM (Nat.pow_lt_pow_right (by omega) (by omega))) (Nat.lt_of_le_of_lt hN (Nat.pow_lt_pow_right (by omega) (by omega)))
abbrev E2 (r p3 p5 p6 : Nat) (row other : List Rat) (a b : Rat) (z2 z4 z11 z12 z13 : Option D) : Env' := E14 r z2 (some (.ref p3)) z4 (some (.ref p5)) (some (.ref p6)) (some (.tup (frs (trim row)))) (some (.tup (frs (trim other)))) (some (fr a)) (some (fr b)) z11 z12 z13
theorem Sit.lf (t : Sit r s k row other ys p3 p5 p6 a b H) : (trim row).length ≤ 10 := Nat.le_trans (trim_len row) t.l1
theorem Sit.lg (t : Sit r s k row other ys p3 p5 p6 a b H) : (trim other).length ≤ 10 := Nat.le_trans (trim_len other) t.l2
theorem e_t6 (t : Sit r s k row other ys p3 p5 p6 a b H) : ∃ m, t6 (E2 r p3 p5 p6 row other a b z2 z4 z11 z12 z13) H = .next (E2 r p3 p5 p6 row other a b z2 z4 z11 z12 z13) (H ++ m) := by
  have A1 := a_prs (z2 := z2) (z4 := z4) (z7 := some (.tup (frs (trim row)))) (z8 := some (.tup (frs (trim other)))) (z9 := some (fr a)) (z10 := some (fr b)) (z11 := z11) (z12 := z12) (z13 := z13) (el := xTup (aCons (xVar 11) (aCons (xCall m__law_at (aCons (xVar 5) (aCons (xVar 11) (aNil)))) (aNil)))) (w := ev row) t fun y hy => by simp [(t.at5 (t.py y hy) (by omega) (by omega)).1]
  have t' := t.app [.lst (prs (ev row) ys)]
  have A2 := a_prs (z2 := z2) (z4 := z4) (z7 := some (.tup (frs (trim row)))) (z8 := some (.tup (frs (trim other)))) (z9 := some (fr a)) (z10 := some (fr b)) (z11 := z11) (z12 := z12) (z13 := z13) (el := xTup (aCons (xVar 11) (aCons (xCall m__law_at (aCons (xVar 6) (aCons (xVar 11) (aNil)))) (aNil)))) (w := ev other) t' fun y hy => by simp [(t'.at6 (t.py y hy) (by omega) (by omega)).1]
  have C1 := e_check (X := xVar 7) (g := trim row) (by rfl) A1 (sm_of t.b1.trim (by omega) (by omega)) (trim_idem row) (by have := t.ly; omega) fun y hy => cond t.b1.trim (by have := t.lf; omega) (by omega) (by omega) (t.py y hy) (ev_trim row y)
  have C2 := e_check (X := xVar 8) (g := trim other) (by rfl) A2 (sm_of t.b2.trim (by omega) (by omega)) (trim_idem other) (by have := t.ly; omega) fun y hy => cond t.b2.trim (by have := t.lg; omega) (by omega) (by omega) (t.py y hy) (ev_trim other y)
  refine ⟨[.lst (prs (ev row) ys)] ++ [.lst (prs (ev other) ys)], ?_⟩
  rw [← List.append_assoc]
  simp only [t6, e_sif, e_tor, C1, e_bok, Bool.false_eq_true, if_false, C2, e_sok, e_next]
end
end AM.k02

namespace AM.k02
open PySem PySem.Spec PyProof.Rows L2 AM
theorem trim_psc {a : Rat} (ha : a ≠ 0) : ∀ l : List Rat, trim (psc a l) = psc a (trim l)
  | [] => rfl
  | c :: l => by
    have ih := trim_psc ha l
    have hz : a * c = 0 ↔ c = 0 := by
      constructor
      · intro z
        have := Rat.mul_eq_zero.mp z
        rcases this with h | h
        · exact absurd h ha
        · exact h
      · intro z; rw [z, Rat.mul_zero]
    show trim ((a * c) :: psc a l) = psc a (trim (c :: l))
    unfold trim
    rw [ih]
    cases e : trim l with
    | nil =>
      simp only [psc, List.map_nil]
      by_cases z : c = 0
      · rw [if_pos (hz.mpr z), if_pos z]; rfl
      · rw [if_neg (fun q => z (hz.mp q)), if_neg z]; rfl
    | cons d t => simp [psc]
section
variable {r s k : Nat} {row other ys : List Rat} {p3 p5 p6 : Nat} {a b : Rat} {H : MH} {z2 z3 z4 z7 z8 z9 z10 z11 z12 z13 : Option D}
theorem c_products_fit {F : List (Nat × List D)} {f g : List Rat} (c : Cur r s F k H) (hk : k < 2 ^ 90) (pf : Pol 2520 22680 f) (pg : Pol 2520 22680 g) : ∃ h', m__law_products_fit [.ref r, .tup (frs f), .tup (frs g)] H = .ok (.bl true) h' ∧ Cur r s F (k + 1) h' := by
  obtain ⟨h0, t, f⟩ := c
  obtain ⟨h', e, t'⟩ := e_products_fit t hk pf pg
  exact ⟨h', e, h0, t', f⟩
theorem e_t7 (t : Sit r s k row other ys p3 p5 p6 a b H) : t7 (E2 r p3 p5 p6 row other a b z2 z4 z11 z12 z13) H = .next (E2 r p3 p5 p6 row other a b z2 z4 z11 z12 z13) H := by
  have lp := cloop_map (its := ⟨frs ys, [(p3, frs ys)]⟩) (bd := bName 11) (el := xCall (m__law_same 5) (aCons (xCall m_poly_value (aCons (xVar 7) (aCons (xVar 11) (aNil)))) (aCons (xCall m__law_at (aCons (xVar 5) (aCons (xVar 11) (aNil)))) (aNil)))) (ρ := E2 r p3 p5 p6 row other a b z2 z4 none z12 z13) (h := H) (F := fun _ => .bl true)
    (live_one t.g3) (frs ys) [] (fun d hd => by
      obtain ⟨y, hy, rfl⟩ := List.mem_map.mp hd
      refine ⟨_, rfl, ?_⟩
      have py := t.py y hy
      have h1 := hok t.b1.trim (by have := t.lf; omega) py (by omega) (by omega) (by omega) (by omega)
      have e1 := e_poly_value H h1.1 (pq_small py)
      rw [ev_trim] at e1
      have e2 := (t.at5 py (by omega) (by omega)).1
      have e3 := e_same 5 _ H (okS_fr (ev row y) 3)
      simp [e1, e2, e3]) (by rw [frs_len]; have := t.ly; show 0 + ys.length ≤ 16777216; omega)
  have oa := o_all (F := fun _ => true) (ds := frs ys) (h := H)
  have : (frs ys).all (fun _ => true) = true := List.all_eq_true.mpr fun _ _ => rfl
  rw [this] at oa
  simp only [t7, e_sif, e_tnot, e_tru, e_un, e_lc, e_iseq, e_var, List.getElem?_cons_zero, List.getElem?_cons_succ, e_bok, its_ref t.g3, wipe_cons, wipe_nil, List.set]
  simp only [E2, E14] at lp
  rw [lp]
  simp [oa]
theorem e_t8 (t : Sit r s k row other ys p3 p5 p6 a b H) : ∃ m, t8 (E2 r p3 p5 p6 row other a b z2 z4 z11 z12 z13) H = .next (E2 r p3 p5 p6 row other a b z2 z4 z11 z12 z13) (H ++ m) := by
  have A1 := a_prs (z2 := z2) (z4 := z4) (z7 := some (.tup (frs (trim row)))) (z8 := some (.tup (frs (trim other)))) (z9 := some (fr a)) (z10 := some (fr b)) (z11 := z11) (z12 := z12) (z13 := z13) (el := xTup (aCons (xVar 11) (aCons (xCall m__law_add (aCons (xCall m__law_at (aCons (xVar 5) (aCons (xVar 11) (aNil)))) (aCons (xCall m__law_at (aCons (xVar 6) (aCons (xVar 11) (aNil)))) (aNil)))) (aNil)))) (w := fun y => ev row y + ev other y) t fun y hy => by
    have q1 := t.at5 (t.py y hy) (by omega) (by omega)
    have q2 := t.at6 (t.py y hy) (by omega) (by omega)
    simp [q1.1, q2.1, e_add H q1.2 q2.2]
  have lf := t.lf
  have lg := t.lg
  have ps := e_poly_sum H (f := trim row) (g := trim other) (by omega) (by omega) (sm_of t.b1.trim (by omega) (by omega)) (sm_of t.b2.trim (by omega) (by omega))
  have bd := (t.b1.trim.padd t.b2.trim).trim
  have ln : (trim (padd (trim row) (trim other))).length ≤ 10 := by have := trim_len (padd (trim row) (trim other)); rw [padd_len] at this; omega
  have C1 := e_check (X := xCall m_poly_sum (aCons (xVar 7) (aCons (xVar 8) (aNil)))) (g := trim (padd (trim row) (trim other))) (by simp [ps]) A1 (sm_of bd (by omega) (by omega)) (trim_idem _) (by have := t.ly; omega) fun y hy => cond bd (by omega) (by omega) (by omega) (t.py y hy) (by rw [ev_trim, ev_padd, ev_trim, ev_trim])
  refine ⟨[.lst (prs (fun y => ev row y + ev other y) ys)], ?_⟩
  simp only [t8, e_sif, C1, e_sok, Bool.false_eq_true, if_false, e_next]
theorem e_t9 (t : Sit r s k row other ys p3 p5 p6 a b H) : ∃ m, t9 (E2 r p3 p5 p6 row other a b z2 z4 z11 z12 z13) H = .next (E2 r p3 p5 p6 row other a b z2 z4 z11 z12 z13) (H ++ m) := by
  have sa : small a := t.ba.small (big1 (by omega)) (big1 (by omega))
  have A1 := a_prs (z2 := z2) (z4 := z4) (z7 := some (.tup (frs (trim row)))) (z8 := some (.tup (frs (trim other)))) (z9 := some (fr a)) (z10 := some (fr b)) (z11 := z11) (z12 := z12) (z13 := z13) (el := xTup (aCons (xVar 11) (aCons (xCall m__law_mul (aCons (xVar 9) (aCons (xCall m__law_at (aCons (xVar 5) (aCons (xVar 11) (aNil)))) (aNil)))) (aNil)))) (w := fun y => a * ev row y) t fun y hy => by
    have q1 := t.at5 (t.py y hy) (by omega) (by omega)
    simp [q1.1, e_mul H sa q1.2]
  have lf := t.lf
  have ps := e_poly_times H sa (sm_of t.b1.trim (by omega) (by omega)) (f := trim row) (by omega)
  have bd : BdL (420 * 2520) (2940 * 22680) (if a = 0 then [] else psc a (trim row)) := by
    split
    · exact fun i => Bd.zero (by omega)
    · exact fun i => by rw [cf_psc]; exact t.ba.mul (t.b1.trim i)
  have tr : trim (if a = 0 then [] else psc a (trim row)) = (if a = 0 then [] else psc a (trim row)) := by
    split
    · rfl
    · rename_i z; rw [trim_psc z, trim_idem]
  have ln : (if a = 0 then [] else psc a (trim row)).length ≤ 10 := by
    split
    · simp
    · simp [psc]; omega
  have C1 := e_check (X := xCall m_poly_times (aCons (xVar 9) (aCons (xVar 7) (aNil)))) (w := fun y => a * ev row y) (g := if a = 0 then [] else psc a (trim row)) (by simp [ps]) A1 (sm_of bd (by omega) (by omega)) tr (by have := t.ly; omega) fun y hy => cond (w := fun y => a * ev row y) bd (by omega) (by omega) (by omega) (t.py y hy) (by
    split
    · rename_i z; show (0 : Rat) = a * ev row y; rw [z, Rat.zero_mul]
    · rw [ev_psc, ev_trim])
  refine ⟨[.lst (prs (fun y => a * ev row y) ys)], ?_⟩
  simp only [t9, e_sif, C1, e_sok, Bool.false_eq_true, if_false, e_next]
theorem e_t10 (t : Sit r s k row other ys p3 p5 p6 a b H) : ∃ m, t10 (E2 r p3 p5 p6 row other a b z2 z4 z11 z12 z13) H = .next (E2 r p3 p5 p6 row other a b z2 z4 z11 z12 z13) (H ++ m) := by
  have A1 := a_prs (z2 := z2) (z4 := z4) (z7 := some (.tup (frs (trim row)))) (z8 := some (.tup (frs (trim other)))) (z9 := some (fr a)) (z10 := some (fr b)) (z11 := z11) (z12 := z12) (z13 := z13) (el := xTup (aCons (xVar 11) (aCons (xCall m__law_mul (aCons (xCall m__law_at (aCons (xVar 5) (aCons (xVar 11) (aNil)))) (aCons (xCall m__law_at (aCons (xVar 6) (aCons (xVar 11) (aNil)))) (aNil)))) (aNil)))) (w := fun y => ev row y * ev other y) t fun y hy => by
    have q1 := t.at5 (t.py y hy) (by omega) (by omega)
    have q2 := t.at6 (t.py y hy) (by omega) (by omega)
    simp [q1.1, q2.1, e_mul H q1.2 q2.2]
  have lf := t.lf
  have lg := t.lg
  have cut : (trim row).length * (22680 * 22680) ≤ 2 ^ 190 := Nat.le_trans (Nat.mul_le_mul_right _ lf) (by omega)
  have ps := e_poly_product H (M := 2520 * 2520) (N := 22680 * 22680) (f := trim row) (g := trim other) (big1 (by omega)) (by omega) (big1 (by omega)) (by omega) (by omega) (pairs_of t.b1.trim t.b2.trim (big1 (by omega)) (big1 (by omega)) (big1 (by omega)) (big1 (by omega)))
  have bd := (t.b1.trim.pmul t.b2.trim).trim
  have ln := pmul_trim_len (f := trim row) (g := trim other)
  have C1 := e_check (X := xCall m_poly_product (aCons (xVar 7) (aCons (xVar 8) (aNil)))) (g := trim (pmul (trim row) (trim other))) (by simp [ps]) A1 (sm_of bd (by omega) (by omega)) (trim_idem _) (by have := t.ly; omega) fun y hy => cond bd (by omega) (by omega) (by omega) (t.py y hy) (by rw [ev_trim, ev_pmul, ev_trim, ev_trim])
  refine ⟨[.lst (prs (fun y => ev row y * ev other y) ys)], ?_⟩
  simp only [t10, e_sif, C1, e_sok, Bool.false_eq_true, if_false, e_next]
theorem mvok : MvOk 2520 22680 420 2940 := by
  have p : ∀ i, i < 11 → 2520 * 420 ^ i ≤ 2 ^ 200 ∧ 22680 * 420 ^ i ≤ 2 ^ 200 ∧ 10 * (i * 22680 * (10 * 2940) ^ i * 2940) ≤ 2 ^ 200 ∧ i * 22680 * (10 * 2940) ^ i ≤ 2 ^ 200 := by decide +kernel
  exact ⟨fun i hi => big1 (p i (by omega)).1, fun i hi => big1 (p i (by omega)).2.1, fun i hi => big1 (p i (by omega)).2.2.1, fun i hi => big1 (p i (by omega)).2.2.2, big1 (by omega), by omega⟩
theorem e_t11 (t : Sit r s k row other ys p3 p5 p6 a b H) (hk : k < 2 ^ 80) : ∃ H', t11 (E2 r p3 p5 p6 row other a b z2 z4 z11 z12 z13) H = .next (E2 r p3 p5 p6 row other a b z2 z4 z11 z12 z13) H' ∧ Sit r s (k + 1) row other ys p3 p5 p6 a b H' := by
  have sa : small a := t.ba.small (big1 (by omega)) (big1 (by omega))
  have sb : small b := t.bb.small (big1 (by omega)) (big1 (by omega))
  have A1 := a_prs (z2 := z2) (z4 := z4) (z7 := some (.tup (frs (trim row)))) (z8 := some (.tup (frs (trim other)))) (z9 := some (fr a)) (z10 := some (fr b)) (z11 := z11) (z12 := z12) (z13 := z13) (el := xTup (aCons (xVar 11) (aCons (xCall m__law_at (aCons (xVar 5) (aCons (xCall m__law_add (aCons (xVar 9) (aCons (xCall m__law_mul (aCons (xVar 10) (aCons (xVar 11) (aNil)))) (aNil)))) (aNil)))) (aNil)))) (w := fun y => ev row (a + b * y)) t fun y hy => by
    have py := t.py y hy
    have b1 : Bd (420 * 2329089562800) (2940 * 93163582512000) (b * y) := t.bb.mul py
    have b2 : Bd (420 * 2329089562800) (2940 * 2329089562800) a := t.ba.up (by omega)
    have b3 := b2.add b1
    have q1 := t.at5 b3 (by omega) (by omega)
    have sby : small (b * y) := b1.small (big1 (by omega)) (big1 (by omega))
    simp [e_mul H sb (pq_small py), e_add H sa sby, q1.1]
  obtain ⟨g, e, hev, hb, ht⟩ := e_moved H mvok t.lf (by omega) (t.b1.trim.mem) t.ba t.bb
  have lf := t.lf
  have pb : 2520 * 420 ^ (trim row).length ≤ 2 ^ 200 ∧ (trim row).length * 22680 * (10 * 2940) ^ (trim row).length ≤ 2 ^ 200 := by
    have p : ∀ i, i < 11 → 2520 * 420 ^ i ≤ 2 ^ 200 ∧ i * 22680 * (10 * 2940) ^ i ≤ 2 ^ 200 := by decide +kernel
    exact p _ (by omega)
  have ln := hb.len
  have C1 := e_check (X := xCall m_moved (aCons (xVar 7) (aCons (xVar 9) (aCons (xVar 10) (aNil))))) (g := g) (by simp [e]) A1 (sm_of hb.bd pb.1 (Nat.le_trans pb.2 (by omega))) ht (by have := t.ly; omega) fun y hy => cond hb.bd (by omega) pb.1 (Nat.le_trans pb.2 (by omega)) (t.py y hy) (by rw [hev, ev_trim, Rat.mul_comm y b])
  have t' := t.app [.lst (prs (fun y => ev row (a + b * y)) ys)]
  obtain ⟨h', e2, c2⟩ := c_products_fit t'.c (by omega) ⟨t.lf, t.b1.trim, trim_idem row⟩ ⟨t.lg, t.b2.trim, trim_idem other⟩
  refine ⟨h', ?_, c2, t.l1, t.l2, t.b1, t.b2, t.ly, t.py, t.ba, t.bb⟩
  simp only [t11, e_sif, e_tor, C1, e_bok, Bool.false_eq_true, if_false]
  simp [e2]
end
end AM.k02

namespace AM.k02
open PySem PySem.Spec PyProof.Rows L2 AM
def data (f g : List Rat) : List D := [.tup (frs f), .tup (frs g), .tup (frs f ++ [.tup [.int 0, .int 1]]), .tup (frs f ++ [.tup [.int 2, .int 2]]), .tup [.tup [.int 0, .int 1]], .tup [.tup [.int 1, .int 0]], .tup [.int 1, .int 2], .tup [.tup [.int 1, .int 1], .int 3], .str ("" : Str), .int 7, .tup [], .tup (frs f ++ [.tup [.str ("1" : Str), .int 1]]), .tup [.tup [.int 1, .int 1, .int 1]], .tup [.tup [.int 3, .int (-1)]], .tup [.tup (frs f)]]
structure Dat (d : D) : Prop where
  nice : nice d = true
  its : ∀ ds, d = .tup ds → ds.length ≤ 1000 ∧ ∀ e ∈ ds, Item e
theorem e_dat {d : D} (h : MH) (q : Dat d) : ∃ v, m_is_poly [d] h = .ok (.bl v) h ∧ m__law_looks_like_one [d] h = .ok (.bl v) h := by
  by_cases t : ∃ ds, d = .tup ds
  · obtain ⟨ds, rfl⟩ := t
    obtain ⟨l, it⟩ := q.its ds rfl
    exact ⟨_, e_is_poly h l it, e_looks h it⟩
  · exact ⟨false, e_is_poly0 h q.nice fun ds e => t ⟨ds, e⟩, e_looks0 h q.nice fun ds e => t ⟨ds, e⟩⟩
theorem item_int (i : Int) : Item (.int i) := ⟨rfl, fun x y e => by cases e⟩
theorem item_ii {n k : Int} (h : k.natAbs < 2 ^ 20) : Item (.tup [.int n, .int k]) := ⟨rfl, fun x y e => by
  cases e
  refine ⟨rfl, rfl, fun n k e1 e2 => ?_⟩
  cases e2
  exact Nat.lt_of_lt_of_le h (Nat.pow_le_pow_right (by omega) (by omega))⟩
theorem item_si {x : Str} {k : Int} : Item (.tup [.str x, .int k]) := ⟨rfl, fun x y e => by
  cases e
  exact ⟨rfl, rfl, fun n k e1 e2 => by cases e1⟩⟩
theorem item_3 {a b c : D} : Item (.tup [a, b, c]) := ⟨rfl, fun x y e => by cases e⟩
theorem item_f (f : List Rat) : Item (.tup (frs f)) := ⟨rfl, fun x y e => by
  have e : frs f = [x, y] := by injection e
  match f, e with
  | [p, q], e =>
    cases e
    exact ⟨rfl, rfl, fun n k e1 e2 => by cases e1⟩⟩
theorem dat_tup {ds : List D} (l : ds.length ≤ 1000) (it : ∀ e ∈ ds, Item e) : Dat (.tup ds) := ⟨rfl, fun es e => by cases e; exact ⟨l, it⟩⟩
theorem dat_snoc {f : List Rat} {d : D} (l : f.length ≤ 900) (hs : ∀ c ∈ f, small c) (it : Item d) : Dat (.tup (frs f ++ [d])) := dat_tup (by simp [frs_len]; omega) fun e he => by
  rcases List.mem_append.mp he with he | he
  · exact item_frs hs e he
  · rw [List.mem_singleton.mp he]; exact it
theorem dat_one {d : D} (it : Item d) : Dat (.tup [d]) := dat_tup (by simp) fun e he => by rw [List.mem_singleton.mp he]; exact it
theorem data_ok {f g : List Rat} (lf : f.length ≤ 10) (lg : g.length ≤ 10) (sf : ∀ c ∈ f, small c) (sg : ∀ c ∈ g, small c) : ∀ d ∈ data f g, Dat d := fun d hd => by
  unfold data at hd
  simp only [List.mem_cons, List.not_mem_nil, or_false] at hd
  rcases hd with rfl | rfl | rfl | rfl | rfl | rfl | rfl | rfl | rfl | rfl | rfl | rfl | rfl | rfl | rfl
  · exact dat_tup (by rw [frs_len]; omega) (item_frs sf)
  · exact dat_tup (by rw [frs_len]; omega) (item_frs sg)
  · exact dat_snoc (by omega) sf (item_ii (by decide))
  · exact dat_snoc (by omega) sf (item_ii (by decide))
  · exact dat_one (item_ii (by decide))
  · exact dat_one (item_ii (by decide))
  · exact dat_tup (by simp) fun e he => by
      simp only [List.mem_cons, List.not_mem_nil, or_false] at he
      rcases he with rfl | rfl <;> exact item_int _
  · exact dat_tup (by simp) fun e he => by
      simp only [List.mem_cons, List.not_mem_nil, or_false] at he
      rcases he with rfl | rfl
      · exact item_ii (by decide)
      · exact item_int _
  · exact ⟨rfl, fun ds e => by cases e⟩
  · exact ⟨rfl, fun ds e => by cases e⟩
  · exact dat_tup (by simp) fun e he => by cases he
  · exact dat_snoc (by omega) sf item_si
  · exact dat_one item_3
  · exact dat_one (item_ii (by decide))
  · exact dat_one (item_f f)
section
variable {r s k : Nat} {row other ys : List Rat} {p3 p5 p6 : Nat} {a b : Rat} {H : MH} {z2 z4 z11 z12 z13 : Option D}
theorem e_t12 (t : Sit r s k row other ys p3 p5 p6 a b H) : t12 (E2 r p3 p5 p6 row other a b z2 z4 z11 z12 z13) H = .next (E2 r p3 p5 p6 row other a b z2 (some (.ref H.length)) z11 z12 z13) (H ++ [.lst (data (trim row) (trim other))]) := by
  have lf := t.lf
  have c1 : ∀ d h, oAdd (.val (.tup (frs (trim row)))) (.val (.tup [d])) h = some (.val (.tup (frs (trim row) ++ [d]))) := fun d h => o_cat (by simp [frs_len]; omega)
  simp [t12, c1, data]
theorem e_t13 {d : D} (t : Sit r s k row other ys p3 p5 p6 a b H) {p4 : Nat} (h4 : H[p4]? = some (.lst (data (trim row) (trim other)))) : t13 (E2 r p3 p5 p6 row other a b z2 (some (.ref p4)) z11 z12 z13) H = .next (E2 r p3 p5 p6 row other a b z2 (some (.ref p4)) z11 z12 z13) H := by
  have dk := data_ok t.lf t.lg (sm_of t.b1.trim (by omega) (by omega)) (sm_of t.b2.trim (by omega) (by omega))
  have lp := cloop_map (its := ⟨data (trim row) (trim other), [(p4, data (trim row) (trim other))]⟩) (bd := bName 12) (el := xCall m__law_said (aCons (xCall m_is_poly (aCons (xVar 12) (aNil))) (aCons (xCall m__law_looks_like_one (aCons (xVar 12) (aNil))) (aNil)))) (ρ := E2 r p3 p5 p6 row other a b z2 (some (.ref p4)) z11 none z13) (h := H) (F := fun _ => .bl true)
    (live_one h4) (data (trim row) (trim other)) [] (fun d hd => by
      obtain ⟨v, e1, e2⟩ := e_dat H (dk d hd)
      exact ⟨_, rfl, by simp [e1, e2, e_said]⟩) (by show 0 + 15 ≤ 16777216; omega)
  have oa := o_all (F := fun _ => true) (ds := data (trim row) (trim other)) (h := H)
  have : (data (trim row) (trim other)).all (fun _ => true) = true := List.all_eq_true.mpr fun _ _ => rfl
  rw [this] at oa
  simp only [t13, e_sif, e_tnot, e_tru, e_un, e_lc, e_iseq, e_var, List.getElem?_cons_zero, List.getElem?_cons_succ, e_bok, its_ref h4, wipe_cons, wipe_nil, List.set]
  simp only [E2, E14] at lp
  rw [lp]
  simp [oa]
end
theorem seq_next {m1 m2 : MS} {ρ ρ1 : Env'} {h h1 : MH} (e : m1 ρ h = .next ρ1 h1) : sSeq m1 m2 ρ h = m2 ρ1 h1 := by rw [e_seq, e]
section
variable {r s k : Nat} {H : MH} {z2 z3 z4 z5 z6 z7 z8 z9 z10 z11 z12 z13 : Option D}
theorem e_turn (c : Cur r s [] k H) (hk : k < 2 ^ 70) : ∃ y2 y3 y4 y5 y6 y7 y8 y9 y10 y11 y12 y13 H', tBody (E14 r z2 z3 z4 z5 z6 z7 z8 z9 z10 z11 z12 z13) H = .next (E14 r y2 y3 y4 y5 y6 y7 y8 y9 y10 y11 y12 y13) H' ∧ Cur r s [] (k + 100) H' := by
  obtain ⟨row, other0, p5, p60, H1, e1, l1, l20, b1, b20, c1⟩ := e_t1 (z2 := z2) (z3 := z3) (z4 := z4) (z5 := z5) (z6 := z6) (z7 := z7) (z8 := z8) (z9 := z9) (z10 := z10) (z11 := z11) (z12 := z12) (z13 := z13) c (by omega)
  obtain ⟨other, p6, H2, e2, l2, b2, c2⟩ := e_t2 (z2 := z2) (z3 := z3) (z4 := z4) (z7 := z7) (z8 := z8) (z9 := z9) (z10 := z10) (z11 := z11) (z12 := z12) (z13 := z13) c1 (by omega) l1 l20 b1 b20
  obtain ⟨a, b, ys, p3, H3, e3, t⟩ := e_t345 (z2 := z2) (z3 := z3) (z4 := z4) (z7 := z7) (z8 := z8) (z9 := z9) (z10 := z10) (z11 := z11) (z12 := z12) (z13 := z13) c2 (by omega) l1 l2 b1 b2
  obtain ⟨m6, e6⟩ := e_t6 (z2 := z2) (z4 := z4) (z11 := z11) (z12 := z12) (z13 := z13) t
  have t := t.app m6
  have e7 := e_t7 (z2 := z2) (z4 := z4) (z11 := z11) (z12 := z12) (z13 := z13) t
  obtain ⟨m8, e8⟩ := e_t8 (z2 := z2) (z4 := z4) (z11 := z11) (z12 := z12) (z13 := z13) t
  have t := t.app m8
  obtain ⟨m9, e9⟩ := e_t9 (z2 := z2) (z4 := z4) (z11 := z11) (z12 := z12) (z13 := z13) t
  have t := t.app m9
  obtain ⟨m10, e10⟩ := e_t10 (z2 := z2) (z4 := z4) (z11 := z11) (z12 := z12) (z13 := z13) t
  have t := t.app m10
  obtain ⟨H11, e11, t⟩ := e_t11 (z2 := z2) (z4 := z4) (z11 := z11) (z12 := z12) (z13 := z13) t (by omega)
  have e12 := e_t12 (z2 := z2) (z4 := z4) (z11 := z11) (z12 := z12) (z13 := z13) t
  have t := t.app [.lst (data (trim row) (trim other))]
  have e13 := e_t13 (d := .non) (z2 := z2) (z11 := z11) (z12 := z12) (z13 := z13) t (p4 := H11.length) (by simp)
  have ee : ∀ X : MS, sSeq t3 (sSeq t4 (sSeq t5 X)) = sSeq (sSeq t3 (sSeq t4 t5)) X := fun X => by
    funext ρ h
    simp only [e_seq]
    cases t3 ρ h with
    | next ρ1 h1 =>
      simp only
      cases t4 ρ1 h1 with
      | next ρ2 h2 => rfl
      | _ => rfl
    | _ => rfl
  refine ⟨z2, some (.ref p3), some (.ref H11.length), some (.ref p5), some (.ref p6), some (.tup (frs (trim row))), some (.tup (frs (trim other))), some (fr a), some (fr b), z11, z12, z13, _, ?_, (t.c.mono (by omega)).sub fun p hp => by cases hp⟩
  unfold tBody
  rw [seq_next e1, seq_next e2, ee, seq_next e3, seq_next e6, seq_next e7, seq_next e8, seq_next e9, seq_next e10, seq_next e11, seq_next e12]
  exact e13
theorem e_turns {its : Its} (lv : ∀ h, live its h) : ∀ (ds : List D) (k : Nat) (H : MH) (z2 z3 z4 z5 z6 z7 z8 z9 z10 z11 z12 z13 : Option D), Cur r s [] k H → k + 100 * ds.length < 2 ^ 70 → ∃ y2 y3 y4 y5 y6 y7 y8 y9 y10 y11 y12 y13 H', floop its (bName 2) tBody ds (E14 r z2 z3 z4 z5 z6 z7 z8 z9 z10 z11 z12 z13) H = .next (E14 r y2 y3 y4 y5 y6 y7 y8 y9 y10 y11 y12 y13) H'
  | [], k, H, z2, z3, z4, z5, z6, z7, z8, z9, z10, z11, z12, z13, _, _ => ⟨z2, z3, z4, z5, z6, z7, z8, z9, z10, z11, z12, z13, H, floop_nil (lv H)⟩
  | d :: ds, k, H, z2, z3, z4, z5, z6, z7, z8, z9, z10, z11, z12, z13, c, hk => by
    simp only [List.length_cons] at hk
    obtain ⟨y2, y3, y4, y5, y6, y7, y8, y9, y10, y11, y12, y13, H1, e1, c1⟩ := e_turn (z2 := some d) (z3 := z3) (z4 := z4) (z5 := z5) (z6 := z6) (z7 := z7) (z8 := z8) (z9 := z9) (z10 := z10) (z11 := z11) (z12 := z12) (z13 := z13) c (by omega)
    obtain ⟨x2, x3, x4, x5, x6, x7, x8, x9, x10, x11, x12, x13, H2, e2⟩ := e_turns lv ds (k + 100) H1 y2 y3 y4 y5 y6 y7 y8 y9 y10 y11 y12 y13 c1 (by omega)
    exact ⟨x2, x3, x4, x5, x6, x7, x8, x9, x10, x11, x12, x13, H2, by rw [floop_next (lv H) (ρ1 := E14 r (some d) z3 z4 z5 z6 z7 z8 z9 z10 z11 z12 z13) rfl e1]; exact e2⟩
end
theorem e_start (ns : List Int) : m__law_start [.ref 0] [.ro (ns.map D.int)] = .ok (.ref 2) [.ro (ns.map D.int), .lst (ns.map D.int), .lst [.ref 1, .int 0, .int 0, .int 0]] := by
  have ol : oList (.val (.ref 0)) [.ro (ns.map D.int)] = some (.tmp (ns.map D.int)) := by simp [oList, seqRo]
  have g : gc [.ro (ns.map D.int)] (.ref 2) [.ro (ns.map D.int), .lst (ns.map D.int), .lst [.ref 1, .int 0, .int 0, .int 0]] = (.ref 2, [.ro (ns.map D.int), .lst (ns.map D.int), .lst [.ref 1, .int 0, .int 0, .int 0]]) := by
    unfold gc
    simp [MO.bel, D.belL, D.bel]
  simp [m__law_start, ol, g]
theorem law_holds (ns : List Int) (hl : ns.length ≤ 63) : LawHolds m_law ns := by
  let H : MH := [.ro (ns.map D.int), .lst (ns.map D.int), .lst [.ref 1, .int 0, .int 0, .int 0]]
  have c : Cur 2 1 [] 0 H := ⟨H, ⟨by show 2 < 3; omega, ⟨ns, rfl, hl⟩, by omega, 0, 0, 0, rfl, by omega, by omega⟩, fun p hp => by cases hp⟩
  obtain ⟨y2, y3, y4, y5, y6, y7, y8, y9, y10, y11, y12, y13, H', e⟩ := e_turns (its := ⟨rgD 0 1 6, []⟩) (fun _ => live_nil) (rgD 0 1 6) 0 H none none none none none none none none none none none none c (by decide)
  refine ⟨(gc [.ro (ns.map D.int)] (.bl true) H').2, ?_⟩
  have g1 : ∀ h d h', (gc h (.bl d) h').1 = .bl d := fun h d h' => by
    unfold gc
    split
    · rfl
    · split
      · simp [D.bel]
      · rfl
  rw [law_eq]
  simp only [E14] at e
  have hr : rgD 0 1 (6 : Int).toNat = rgD 0 1 6 := rfl
  simp only [e_fn, List.length_cons, List.length_nil, if_true, List.map_cons, List.map_nil, List.cons_append, List.nil_append, List.replicate, e_seq, e_set, e_call, e_cons, e_var, e_nil, e_bok, e_sok, e_hv, e_hh, List.getElem?_cons_zero, e_start, List.set, e_for, e_rg1, e_C, hr]
  simp
  have e' : floop { ds := rgD 0 1 6, on := [] } (bName 2) tBody (rgD 0 1 6)
      [some (D.ref 0), some (D.ref 2), none, none, none, none, none, none, none, none, none, none, none, none]
      [MO.ro (List.map D.int ns), MO.lst (List.map D.int ns), MO.lst [D.ref 1, D.int 0, D.int 0, D.int 0]] = _ := e
  rw [e']
  simp [g1]
end AM.k02

namespace AM.k02
open PySem PySem.Spec PyProof.Rows L2 AM

def top (i : Nat) : Stmt := PySem.Challenge.pw_anymany_k02_polynomials_by_their_worths.main.body.getD i (.Pass ⟨0, 0, 0, 0⟩)
abbrev FnP (K : PySem.W.Frag) (x : Str) (st : Stmt) (f : Addr) (fd : FuncData) : Prop := FunD K x x (defArgs st) (defBody st) (defScope st) [] [] f fd
abbrev s_is_integer : Stmt := top 1
theorem sc_is_integer : FnScope ["datum"] ["datum"] (defScope s_is_integer) := ⟨rfl, rfl, rfl, by decide +kernel, rfl, by decide +kernel, by decide +kernel⟩
abbrev s_is_count : Stmt := top 2
theorem sc_is_count : FnScope ["datum", "least"] ["datum", "least"] (defScope s_is_count) := ⟨rfl, rfl, rfl, by decide +kernel, rfl, by decide +kernel, by decide +kernel⟩
abbrev s_is_items : Stmt := top 3
theorem sc_is_items : FnScope ["datum", "many"] ["datum", "many"] (defScope s_is_items) := ⟨rfl, rfl, rfl, by decide +kernel, rfl, by decide +kernel, by decide +kernel⟩
abbrev s_greatest_divisor : Stmt := top 6
theorem sc_greatest_divisor : FnScope ["a", "b"] ["a", "b"] (defScope s_greatest_divisor) := ⟨rfl, rfl, rfl, by decide +kernel, rfl, by decide +kernel, by decide +kernel⟩
abbrev s_fraction : Stmt := top 7
theorem sc_fraction : FnScope ["n", "d", "g"] ["n", "d"] (defScope s_fraction) := ⟨rfl, rfl, rfl, by decide +kernel, rfl, by decide +kernel, by decide +kernel⟩
abbrev s_whole : Stmt := top 8
theorem sc_whole : FnScope ["n"] ["n"] (defScope s_whole) := ⟨rfl, rfl, rfl, by decide +kernel, rfl, by decide +kernel, by decide +kernel⟩
abbrev s_plus : Stmt := top 9
theorem sc_plus : FnScope ["a", "b"] ["a", "b"] (defScope s_plus) := ⟨rfl, rfl, rfl, by decide +kernel, rfl, by decide +kernel, by decide +kernel⟩
abbrev s_times : Stmt := top 10
theorem sc_times : FnScope ["a", "b"] ["a", "b"] (defScope s_times) := ⟨rfl, rfl, rfl, by decide +kernel, rfl, by decide +kernel, by decide +kernel⟩
abbrev s_is_fraction : Stmt := top 11
theorem sc_is_fraction : FnScope ["datum"] ["datum"] (defScope s_is_fraction) := ⟨rfl, rfl, rfl, by decide +kernel, rfl, by decide +kernel, by decide +kernel⟩
abbrev s_are_fractions : Stmt := top 12
theorem sc_are_fractions : FnScope ["datum", "item"] ["datum"] (defScope s_are_fractions) := ⟨rfl, rfl, rfl, by decide +kernel, rfl, by decide +kernel, by decide +kernel⟩
abbrev s_poly_of : Stmt := top 14
theorem sc_poly_of : FnScope ["row", "end"] ["row"] (defScope s_poly_of) := ⟨rfl, rfl, rfl, by decide +kernel, rfl, by decide +kernel, by decide +kernel⟩
abbrev s_is_poly : Stmt := top 15
theorem sc_is_poly : FnScope ["datum"] ["datum"] (defScope s_is_poly) := ⟨rfl, rfl, rfl, by decide +kernel, rfl, by decide +kernel, by decide +kernel⟩
abbrev s_poly_sum : Stmt := top 16
theorem sc_poly_sum : FnScope ["f", "g", "many", "a", "b"] ["f", "g"] (defScope s_poly_sum) := ⟨rfl, rfl, rfl, by decide +kernel, rfl, by decide +kernel, by decide +kernel⟩
abbrev s_poly_times : Stmt := top 17
theorem sc_poly_times : FnScope ["a", "f", "b"] ["a", "f"] (defScope s_poly_times) := ⟨rfl, rfl, rfl, by decide +kernel, rfl, by decide +kernel, by decide +kernel⟩
abbrev s_poly_product : Stmt := top 18
theorem sc_poly_product : FnScope ["f", "g", "found", "j", "a", "k", "b"] ["f", "g"] (defScope s_poly_product) := ⟨rfl, rfl, rfl, by decide +kernel, rfl, by decide +kernel, by decide +kernel⟩
abbrev s_poly_value : Stmt := top 19
theorem sc_poly_value : FnScope ["f", "a", "found", "b"] ["f", "a"] (defScope s_poly_value) := ⟨rfl, rfl, rfl, by decide +kernel, rfl, by decide +kernel, by decide +kernel⟩
abbrev s_derived : Stmt := top 20
theorem sc_derived : FnScope ["f", "k"] ["f"] (defScope s_derived) := ⟨rfl, rfl, rfl, by decide +kernel, rfl, by decide +kernel, by decide +kernel⟩
abbrev s_moved : Stmt := top 21
theorem sc_moved : FnScope ["f", "a", "b", "found", "line", "c"] ["f", "a", "b"] (defScope s_moved) := ⟨rfl, rfl, rfl, by decide +kernel, rfl, by decide +kernel, by decide +kernel⟩
abbrev s__law_start : Stmt := top 23
theorem sc__law_start : FnScope ["script"] ["script"] (defScope s__law_start) := ⟨rfl, rfl, rfl, by decide +kernel, rfl, by decide +kernel, by decide +kernel⟩
abbrev s__law_draw : Stmt := top 24
theorem sc__law_draw : FnScope ["state", "most", "cell", "mixed", "found"] ["state", "most"] (defScope s__law_draw) := ⟨rfl, rfl, rfl, by decide +kernel, rfl, by decide +kernel, by decide +kernel⟩
abbrev s__law_is_int : Stmt := top 25
theorem sc__law_is_int : FnScope ["x"] ["x"] (defScope s__law_is_int) := ⟨rfl, rfl, rfl, by decide +kernel, rfl, by decide +kernel, by decide +kernel⟩
abbrev s__law_same : Stmt := top 26
theorem sc__law_same : FnScope ["x", "y", "k"] ["x", "y"] (defScope s__law_same) := ⟨rfl, rfl, rfl, by decide +kernel, rfl, by decide +kernel, by decide +kernel⟩
abbrev s__law_low : Stmt := top 27
theorem sc__law_low : FnScope ["n", "d", "left", "right"] ["n", "d"] (defScope s__law_low) := ⟨rfl, rfl, rfl, by decide +kernel, rfl, by decide +kernel, by decide +kernel⟩
abbrev s__law_add : Stmt := top 28
theorem sc__law_add : FnScope ["a", "b"] ["a", "b"] (defScope s__law_add) := ⟨rfl, rfl, rfl, by decide +kernel, rfl, by decide +kernel, by decide +kernel⟩
abbrev s__law_mul : Stmt := top 29
theorem sc__law_mul : FnScope ["a", "b"] ["a", "b"] (defScope s__law_mul) := ⟨rfl, rfl, rfl, by decide +kernel, rfl, by decide +kernel, by decide +kernel⟩
abbrev s__law_at : Stmt := top 30
theorem sc__law_at : FnScope ["f", "a", "found", "b"] ["f", "a"] (defScope s__law_at) := ⟨rfl, rfl, rfl, by decide +kernel, rfl, by decide +kernel, by decide +kernel⟩
abbrev s__law_some_fraction : Stmt := top 31
theorem sc__law_some_fraction : FnScope ["state", "most"] ["state", "most"] (defScope s__law_some_fraction) := ⟨rfl, rfl, rfl, by decide +kernel, rfl, by decide +kernel, by decide +kernel⟩
abbrev s__law_said : Stmt := top 32
theorem sc__law_said : FnScope ["found", "due"] ["found", "due"] (defScope s__law_said) := ⟨rfl, rfl, rfl, by decide +kernel, rfl, by decide +kernel, by decide +kernel⟩
abbrev s__law_looks_like_one : Stmt := top 33
theorem sc__law_looks_like_one : FnScope ["datum", "one"] ["datum"] (defScope s__law_looks_like_one) := ⟨rfl, rfl, rfl, by decide +kernel, rfl, by decide +kernel, by decide +kernel⟩
abbrev s__law_some_row : Stmt := top 34
theorem sc__law_some_row : FnScope ["state", "k"] ["state"] (defScope s__law_some_row) := ⟨rfl, rfl, rfl, by decide +kernel, rfl, by decide +kernel, by decide +kernel⟩
abbrev s__law_is_worth_all : Stmt := top 35
theorem sc__law_is_worth_all : FnScope ["h", "worths", "a", "worth"] ["h", "worths"] (defScope s__law_is_worth_all) := ⟨rfl, rfl, rfl, by decide +kernel, rfl, by decide +kernel, by decide +kernel⟩
abbrev s__law_places : Stmt := top 36
theorem sc__law_places : FnScope ["state", "many", "k"] ["state", "many"] (defScope s__law_places) := ⟨rfl, rfl, rfl, by decide +kernel, rfl, by decide +kernel, by decide +kernel⟩
abbrev s__law_products_fit : Stmt := top 37
theorem sc__law_products_fit : FnScope ["state", "f", "g", "left", "right", "k", "power"] ["state", "f", "g"] (defScope s__law_products_fit) := ⟨rfl, rfl, rfl, by decide +kernel, rfl, by decide +kernel, by decide +kernel⟩
abbrev s_law : Stmt := top 38
theorem sc_law : FnScope ["script", "state", "turn", "places", "data", "row", "other", "f", "g", "a", "b", "y", "datum", "d"] ["script"] (defScope s_law) := ⟨rfl, rfl, rfl, by decide +kernel, rfl, by decide +kernel, by decide +kernel⟩
section
variable {P : Program} {w : World} {K : PySem.W.Frag} {mg : Str → Option Value} {base : Heap} {f : Addr} {fd : FuncData}
theorem ok_is_integer (F : FnP K "is_integer" s_is_integer f fd) (hm : mg "is_integer" = some (.ref f)) (n_isinstance : mg "isinstance" = none) (n_int : mg "int" = none) (n_bool : mg "bool" = none) :
    FM P w K mg base 1 "is_integer" ["datum"] m_is_integer := by
  skip
  exact fm_of F sc_is_integer hm (FunD.bindsN F fun _ _ _ _ _ _ us hl => match us, hl with | [_], _ => rfl) rfl rfl fun cdv A outer s H E hr =>
    sm_one (sm_ret (xm_and (xm_isi n_isinstance (xm_var 0) (xm_bty n_int (by decide +kernel))) (xm_one (xm_not (xm_isi n_isinstance (xm_var 0) (xm_bty n_bool (by decide +kernel)))))))
theorem ok_is_count (F : FnP K "is_count" s_is_count f fd) (hm : mg "is_count" = some (.ref f)) (G_is_integer : FM P w K mg base 1 "is_integer" ["datum"] m_is_integer) :
    FM P w K mg base 2 "is_count" ["datum", "least"] m_is_count := by
  replace G_is_integer := G_is_integer.mono (show 1 ≤ 1 by decide)
  exact fm_of F sc_is_count hm (FunD.bindsN F fun _ _ _ _ _ _ us hl => match us, hl with | [_, _], _ => rfl) rfl rfl fun cdv A outer s H E hr =>
    sm_one (sm_ret (xm_and (xm_call G_is_integer (hr) (takes_of rfl rfl rfl rfl) (am_cons (xm_var 0) (am_nil))) (xm_one (xm_ge (xm_var 0) (xm_var 1)))))
theorem ok_is_items (F : FnP K "is_items" s_is_items f fd) (hm : mg "is_items" = some (.ref f)) (n_isinstance : mg "isinstance" = none) (n_tuple : mg "tuple" = none) (n_len : mg "len" = none) :
    FM P w K mg base 1 "is_items" ["datum", "many"] m_is_items := by
  skip
  exact fm_of F sc_is_items hm (FunD.bindsN F fun _ _ _ _ _ _ us hl => match us, hl with | [_, _], _ => rfl) rfl rfl fun cdv A outer s H E hr =>
    sm_one (sm_ret (xm_and (xm_isi n_isinstance (xm_var 0) (xm_bty n_tuple (by decide +kernel))) (xm_one (xm_eq (hr) (xm_len n_len (xm_var 0)) (xm_var 1)))))
theorem ok_greatest_divisor (F : FnP K "greatest_divisor" s_greatest_divisor f fd) (hm : mg "greatest_divisor" = some (.ref f)) (n_abs : mg "abs" = none) :
    FM P w K mg base 1 "greatest_divisor" ["a", "b"] m_greatest_divisor := by
  skip
  exact fm_of F sc_greatest_divisor hm (FunD.bindsN F fun _ _ _ _ _ _ us hl => match us, hl with | [_, _], _ => rfl) rfl rfl fun cdv A outer s H E hr =>
    sm_cons (sm_par 0 1 rfl sc_greatest_divisor.nd (am_cons (xm_abs n_abs (xm_var 0)) (am_cons (xm_abs n_abs (xm_var 1)) (am_nil))) (by decide)) (sm_cons (sm_while (passes_of rfl) (tm_tru (xm_var 1)) (sm_one (sm_par 0 1 rfl sc_greatest_divisor.nd (am_cons (xm_var 1) (am_cons (xm_mod (xm_var 0) (xm_var 1)) (am_nil))) (by decide)))) (sm_one (sm_ret (xm_var 0))))
theorem ok_fraction (F : FnP K "fraction" s_fraction f fd) (hm : mg "fraction" = some (.ref f)) (G_greatest_divisor : FM P w K mg base 1 "greatest_divisor" ["a", "b"] m_greatest_divisor) :
    FM P w K mg base 2 "fraction" ["n", "d"] m_fraction := by
  replace G_greatest_divisor := G_greatest_divisor.mono (show 1 ≤ 1 by decide)
  exact fm_of F sc_fraction hm (FunD.bindsN F fun _ _ _ _ _ _ us hl => match us, hl with | [_, _], _ => rfl) rfl rfl fun cdv A outer s H E hr =>
    sm_cons (sm_set 2 sc_fraction.nd (xm_call G_greatest_divisor (hr) (takes_of rfl rfl rfl rfl) (am_cons (xm_var 0) (am_cons (xm_var 1) (am_nil))))) (sm_cons (sm_if (tm_lt (xm_var 1) (xm_int)) (sm_one (sm_set 2 sc_fraction.nd (xm_neg (xm_var 2)))) (sm_nil)) (sm_one (sm_ret (xm_tup (am_cons (xm_fdiv (xm_var 0) (xm_var 2)) (am_cons (xm_fdiv (xm_var 1) (xm_var 2)) (am_nil)))))))
theorem ok_whole (F : FnP K "whole" s_whole f fd) (hm : mg "whole" = some (.ref f)) :
    FM P w K mg base 1 "whole" ["n"] m_whole := by
  skip
  exact fm_of F sc_whole hm (FunD.bindsN F fun _ _ _ _ _ _ us hl => match us, hl with | [_], _ => rfl) rfl rfl fun cdv A outer s H E hr =>
    sm_one (sm_ret (xm_tup (am_cons (xm_var 0) (am_cons (xm_int) (am_nil)))))
theorem ok_plus (F : FnP K "plus" s_plus f fd) (hm : mg "plus" = some (.ref f)) (G_fraction : FM P w K mg base 2 "fraction" ["n", "d"] m_fraction) :
    FM P w K mg base 3 "plus" ["a", "b"] m_plus := by
  replace G_fraction := G_fraction.mono (show 2 ≤ 2 by decide)
  exact fm_of F sc_plus hm (FunD.bindsN F fun _ _ _ _ _ _ us hl => match us, hl with | [_, _], _ => rfl) rfl rfl fun cdv A outer s H E hr =>
    sm_cons (sm_if (WM.tm (wm_and (tm_eq (hr) (xm_ix (xm_var 0) (xm_int)) (xm_int)) (wm_and1 (tm_eq (hr) (xm_ix (xm_var 1) (xm_int)) (xm_int))))) (sm_one (sm_ret (xm_tup (am_cons (xm_add (xm_ix (xm_var 0) (xm_int)) (xm_ix (xm_var 1) (xm_int))) (am_cons (xm_int) (am_nil)))))) (sm_nil)) (sm_one (sm_ret (xm_call G_fraction (hr) (takes_of rfl rfl rfl rfl) (am_cons (xm_add (xm_mul (xm_ix (xm_var 0) (xm_int)) (xm_ix (xm_var 1) (xm_int))) (xm_mul (xm_ix (xm_var 1) (xm_int)) (xm_ix (xm_var 0) (xm_int)))) (am_cons (xm_mul (xm_ix (xm_var 0) (xm_int)) (xm_ix (xm_var 1) (xm_int))) (am_nil))))))
theorem ok_times (F : FnP K "times" s_times f fd) (hm : mg "times" = some (.ref f)) (G_fraction : FM P w K mg base 2 "fraction" ["n", "d"] m_fraction) :
    FM P w K mg base 3 "times" ["a", "b"] m_times := by
  replace G_fraction := G_fraction.mono (show 2 ≤ 2 by decide)
  exact fm_of F sc_times hm (FunD.bindsN F fun _ _ _ _ _ _ us hl => match us, hl with | [_, _], _ => rfl) rfl rfl fun cdv A outer s H E hr =>
    sm_cons (sm_if (WM.tm (wm_and (tm_eq (hr) (xm_ix (xm_var 0) (xm_int)) (xm_int)) (wm_and1 (tm_eq (hr) (xm_ix (xm_var 1) (xm_int)) (xm_int))))) (sm_one (sm_ret (xm_tup (am_cons (xm_mul (xm_ix (xm_var 0) (xm_int)) (xm_ix (xm_var 1) (xm_int))) (am_cons (xm_int) (am_nil)))))) (sm_nil)) (sm_one (sm_ret (xm_call G_fraction (hr) (takes_of rfl rfl rfl rfl) (am_cons (xm_mul (xm_ix (xm_var 0) (xm_int)) (xm_ix (xm_var 1) (xm_int))) (am_cons (xm_mul (xm_ix (xm_var 0) (xm_int)) (xm_ix (xm_var 1) (xm_int))) (am_nil))))))
theorem ok_is_fraction (F : FnP K "is_fraction" s_is_fraction f fd) (hm : mg "is_fraction" = some (.ref f)) (G_is_items : FM P w K mg base 1 "is_items" ["datum", "many"] m_is_items) (G_is_integer : FM P w K mg base 1 "is_integer" ["datum"] m_is_integer) (G_is_count : FM P w K mg base 2 "is_count" ["datum", "least"] m_is_count) (G_greatest_divisor : FM P w K mg base 1 "greatest_divisor" ["a", "b"] m_greatest_divisor) :
    FM P w K mg base 3 "is_fraction" ["datum"] m_is_fraction := by
  replace G_is_items := G_is_items.mono (show 1 ≤ 2 by decide); replace G_is_integer := G_is_integer.mono (show 1 ≤ 2 by decide); replace G_is_count := G_is_count.mono (show 2 ≤ 2 by decide); replace G_greatest_divisor := G_greatest_divisor.mono (show 1 ≤ 2 by decide)
  exact fm_of F sc_is_fraction hm (FunD.bindsN F fun _ _ _ _ _ _ us hl => match us, hl with | [_], _ => rfl) rfl rfl fun cdv A outer s H E hr =>
    sm_cons (sm_if (WM.tm (wm_or (tm_not (tm_tru (xm_call G_is_items (hr) (takes_of rfl rfl rfl rfl) (am_cons (xm_var 0) (am_cons (xm_int) (am_nil)))))) (wm_or (tm_not (tm_tru (xm_call G_is_integer (hr) (takes_of rfl rfl rfl rfl) (am_cons (xm_ix (xm_var 0) (xm_int)) (am_nil))))) (wm_or1 (tm_not (tm_tru (xm_call G_is_count (hr) (takes_of rfl rfl rfl rfl) (am_cons (xm_ix (xm_var 0) (xm_int)) (am_cons (xm_int) (am_nil)))))))))) (sm_one (sm_ret (xm_bl))) (sm_nil)) (sm_one (sm_ret (xm_eq (hr) (xm_call G_greatest_divisor (hr) (takes_of rfl rfl rfl rfl) (am_cons (xm_ix (xm_var 0) (xm_int)) (am_cons (xm_ix (xm_var 0) (xm_int)) (am_nil)))) (xm_int))))
theorem ok_are_fractions (F : FnP K "are_fractions" s_are_fractions f fd) (hm : mg "are_fractions" = some (.ref f)) (n_isinstance : mg "isinstance" = none) (n_tuple : mg "tuple" = none) (n_all : mg "all" = none) (G_is_fraction : FM P w K mg base 3 "is_fraction" ["datum"] m_is_fraction) :
    FM P w K mg base 4 "are_fractions" ["datum"] m_are_fractions := by
  replace G_is_fraction := G_is_fraction.mono (show 3 ≤ 3 by decide)
  exact fm_of F sc_are_fractions hm (FunD.bindsN F fun _ _ _ _ _ _ us hl => match us, hl with | [_], _ => rfl) rfl rfl fun cdv A outer s H E hr =>
    sm_one (sm_ret (xm_and (xm_isi n_isinstance (xm_var 0) (xm_bty n_tuple (by decide +kernel))) (xm_one (xm_all n_all rfl (xm_lc rfl sc_are_fractions.nd (im_seq (xm_var 0)) (blkOk_by (own := [(("item" : Str), 1)]) (by show blkC ["datum", "item"] (defScope s_are_fractions) _ _ = true; decide +kernel)) (fun s H C cl fp => gm_name 1 sc_are_fractions.nd) (fun s H C cl fp => tms_nil) (fun s H C cl fp => xm_call G_is_fraction (hr) takes0 (am_cons (xm_var 1) (am_nil))) )))))
theorem ok_poly_of (F : FnP K "poly_of" s_poly_of f fd) (hm : mg "poly_of" = some (.ref f)) (n_len : mg "len" = none) (n_tuple : mg "tuple" = none) :
    FM P w K mg base 1 "poly_of" ["row"] m_poly_of := by
  skip
  exact fm_of F sc_poly_of hm (FunD.bindsN F fun _ _ _ _ _ _ us hl => match us, hl with | [_], _ => rfl) rfl rfl fun cdv A outer s H E hr =>
    sm_cons (sm_set 1 sc_poly_of.nd (xm_len n_len (xm_var 0))) (sm_cons (sm_while (passes_of rfl) (WM.tm (wm_and (tm_gt (xm_var 1) (xm_int)) (wm_and1 (tm_eq (hr) (xm_ix (xm_ix (xm_var 0) (xm_sub (xm_var 1) (xm_int))) (xm_int)) (xm_int))))) (sm_one (sm_augSub 1 sc_poly_of.nd (xm_int)))) (sm_one (sm_ret (xm_tuple n_tuple (xm_sl (xm_var 0) (pm_none) (pm_some (xm_var 1)))))))
theorem ok_is_poly (F : FnP K "is_poly" s_is_poly f fd) (hm : mg "is_poly" = some (.ref f)) (G_are_fractions : FM P w K mg base 4 "are_fractions" ["datum"] m_are_fractions) :
    FM P w K mg base 5 "is_poly" ["datum"] m_is_poly := by
  replace G_are_fractions := G_are_fractions.mono (show 4 ≤ 4 by decide)
  exact fm_of F sc_is_poly hm (FunD.bindsN F fun _ _ _ _ _ _ us hl => match us, hl with | [_], _ => rfl) rfl rfl fun cdv A outer s H E hr =>
    sm_one (sm_ret (xm_and (xm_call G_are_fractions (hr) (takes_of rfl rfl rfl rfl) (am_cons (xm_var 0) (am_nil))) (xm_one (xm_or (xm_eq (hr) (xm_var 0) (xm_tup (am_nil))) (xm_one (xm_ne (hr) (xm_ix (xm_ix (xm_var 0) (xm_neg (xm_int))) (xm_int)) (xm_int)))))))
theorem ok_poly_sum (F : FnP K "poly_sum" s_poly_sum f fd) (hm : mg "poly_sum" = some (.ref f)) (n_max : mg "max" = none) (n_len : mg "len" = none) (n_zip : mg "zip" = none) (gc_NOUGHT : GC K mg "NOUGHT" c_NOUGHT) (G_poly_of : FM P w K mg base 1 "poly_of" ["row"] m_poly_of) (G_plus : FM P w K mg base 3 "plus" ["a", "b"] m_plus) :
    FM P w K mg base 4 "poly_sum" ["f", "g"] m_poly_sum := by
  replace G_poly_of := G_poly_of.mono (show 1 ≤ 3 by decide); replace G_plus := G_plus.mono (show 3 ≤ 3 by decide)
  exact fm_of F sc_poly_sum hm (FunD.bindsN F fun _ _ _ _ _ _ us hl => match us, hl with | [_, _], _ => rfl) rfl rfl fun cdv A outer s H E hr =>
    sm_cons (sm_set 2 sc_poly_sum.nd (xm_max2 n_max rfl (xm_len n_len (xm_var 0)) (xm_len n_len (xm_var 1)))) (sm_cons (sm_set 0 sc_poly_sum.nd (xm_add (xm_var 0) (xm_mul (xm_tup (am_cons (xm_glob gc_NOUGHT) (am_nil))) (xm_sub (xm_var 2) (xm_len n_len (xm_var 0)))))) (sm_cons (sm_set 1 sc_poly_sum.nd (xm_add (xm_var 1) (xm_mul (xm_tup (am_cons (xm_glob gc_NOUGHT) (am_nil))) (xm_sub (xm_var 2) (xm_len n_len (xm_var 1)))))) (sm_one (sm_ret (xm_call G_poly_of (hr) (takes_of rfl rfl rfl rfl) (am_cons (xm_lc rfl sc_poly_sum.nd (im_zip n_zip (xm_var 0) (xm_var 1)) (blkOk_by (own := [(("a" : Str), 3), (("b" : Str), 4)]) (by show blkC ["f", "g", "many", "a", "b"] (defScope s_poly_sum) _ _ = true; decide +kernel)) (fun s H C cl fp => gm_tup2 (K := K) rfl rfl (gm_name 3 sc_poly_sum.nd) (gm_name 4 sc_poly_sum.nd)) (fun s H C cl fp => tms_nil) (fun s H C cl fp => xm_call G_plus (hr) takes0 (am_cons (xm_var 3) (am_cons (xm_var 4) (am_nil)))) ) (am_nil)))))))
theorem ok_poly_times (F : FnP K "poly_times" s_poly_times f fd) (hm : mg "poly_times" = some (.ref f)) (n_tuple : mg "tuple" = none) (G_times : FM P w K mg base 3 "times" ["a", "b"] m_times) :
    FM P w K mg base 4 "poly_times" ["a", "f"] m_poly_times := by
  replace G_times := G_times.mono (show 3 ≤ 3 by decide)
  exact fm_of F sc_poly_times hm (FunD.bindsN F fun _ _ _ _ _ _ us hl => match us, hl with | [_, _], _ => rfl) rfl rfl fun cdv A outer s H E hr =>
    sm_cons (sm_if (tm_eq (hr) (xm_ix (xm_var 0) (xm_int)) (xm_int)) (sm_one (sm_ret (xm_tup (am_nil)))) (sm_nil)) (sm_one (sm_ret (xm_tuple n_tuple (xm_lc rfl sc_poly_times.nd (im_seq (xm_var 1)) (blkOk_by (own := [(("b" : Str), 2)]) (by show blkC ["a", "f", "b"] (defScope s_poly_times) _ _ = true; decide +kernel)) (fun s H C cl fp => gm_name 2 sc_poly_times.nd) (fun s H C cl fp => tms_nil) (fun s H C cl fp => xm_call G_times (hr) takes0 (am_cons (xm_var 0) (am_cons (xm_var 2) (am_nil)))) ))))
theorem ok_poly_product (F : FnP K "poly_product" s_poly_product f fd) (hm : mg "poly_product" = some (.ref f)) (n_len : mg "len" = none) (n_enumerate : mg "enumerate" = none) (gc_NOUGHT : GC K mg "NOUGHT" c_NOUGHT) (G_plus : FM P w K mg base 3 "plus" ["a", "b"] m_plus) (G_times : FM P w K mg base 3 "times" ["a", "b"] m_times) (G_poly_of : FM P w K mg base 1 "poly_of" ["row"] m_poly_of) :
    FM P w K mg base 4 "poly_product" ["f", "g"] m_poly_product := by
  replace G_plus := G_plus.mono (show 3 ≤ 3 by decide); replace G_times := G_times.mono (show 3 ≤ 3 by decide); replace G_poly_of := G_poly_of.mono (show 1 ≤ 3 by decide)
  exact fm_of F sc_poly_product hm (FunD.bindsN F fun _ _ _ _ _ _ us hl => match us, hl with | [_, _], _ => rfl) rfl rfl fun cdv A outer s H E hr =>
    sm_cons (sm_if (WM.tm (wm_or (tm_not (tm_tru (xm_var 0))) (wm_or1 (tm_not (tm_tru (xm_var 1)))))) (sm_one (sm_ret (xm_tup (am_nil)))) (sm_nil)) (sm_cons (sm_set 2 sc_poly_product.nd (xm_mul (xm_lst (am_cons (xm_glob gc_NOUGHT) (am_nil))) (xm_sub (xm_add (xm_len n_len (xm_var 0)) (xm_len n_len (xm_var 1))) (xm_int)))) (sm_cons (sm_for (passes_of rfl) rfl (im_enum n_enumerate (xm_var 0)) (gm_tup2 (K := K) rfl rfl (gm_name 3 sc_poly_product.nd) (gm_name 4 sc_poly_product.nd)) (sm_one (sm_if (tm_ne (hr) (xm_ix (xm_var 4) (xm_int)) (xm_int)) (sm_one (sm_for (passes_of rfl) rfl (im_enum n_enumerate (xm_var 1)) (gm_tup2 (K := K) rfl rfl (gm_name 5 sc_poly_product.nd) (gm_name 6 sc_poly_product.nd)) (sm_one (sm_ixset (xm_call G_plus (hr) (takes_of rfl rfl rfl rfl) (am_cons (xm_ix (xm_var 2) (xm_add (xm_var 3) (xm_var 5))) (am_cons (xm_call G_times (hr) (takes_of rfl rfl rfl rfl) (am_cons (xm_var 4) (am_cons (xm_var 6) (am_nil)))) (am_nil)))) (xm_var 2) (xm_add (xm_var 3) (xm_var 5)))))) (sm_nil)))) (sm_one (sm_ret (xm_call G_poly_of (hr) (takes_of rfl rfl rfl rfl) (am_cons (xm_var 2) (am_nil)))))))
theorem ok_poly_value (F : FnP K "poly_value" s_poly_value f fd) (hm : mg "poly_value" = some (.ref f)) (gc_NOUGHT : GC K mg "NOUGHT" c_NOUGHT) (G_plus : FM P w K mg base 3 "plus" ["a", "b"] m_plus) (G_times : FM P w K mg base 3 "times" ["a", "b"] m_times) :
    FM P w K mg base 4 "poly_value" ["f", "a"] m_poly_value := by
  replace G_plus := G_plus.mono (show 3 ≤ 3 by decide); replace G_times := G_times.mono (show 3 ≤ 3 by decide)
  exact fm_of F sc_poly_value hm (FunD.bindsN F fun _ _ _ _ _ _ us hl => match us, hl with | [_, _], _ => rfl) rfl rfl fun cdv A outer s H E hr =>
    sm_cons (sm_set 2 sc_poly_value.nd (xm_glob gc_NOUGHT)) (sm_cons (sm_for (passes_of rfl) rfl (im_seq (xm_rev (xm_var 0))) (gm_name 3 sc_poly_value.nd) (sm_one (sm_set 2 sc_poly_value.nd (xm_call G_plus (hr) (takes_of rfl rfl rfl rfl) (am_cons (xm_call G_times (hr) (takes_of rfl rfl rfl rfl) (am_cons (xm_var 2) (am_cons (xm_var 1) (am_nil)))) (am_cons (xm_var 3) (am_nil))))))) (sm_one (sm_ret (xm_var 2))))
theorem ok_derived (F : FnP K "derived" s_derived f fd) (hm : mg "derived" = some (.ref f)) (n_range : mg "range" = none) (n_len : mg "len" = none) (G_poly_of : FM P w K mg base 1 "poly_of" ["row"] m_poly_of) (G_times : FM P w K mg base 3 "times" ["a", "b"] m_times) (G_whole : FM P w K mg base 1 "whole" ["n"] m_whole) :
    FM P w K mg base 4 "derived" ["f"] m_derived := by
  replace G_poly_of := G_poly_of.mono (show 1 ≤ 3 by decide); replace G_times := G_times.mono (show 3 ≤ 3 by decide); replace G_whole := G_whole.mono (show 1 ≤ 3 by decide)
  exact fm_of F sc_derived hm (FunD.bindsN F fun _ _ _ _ _ _ us hl => match us, hl with | [_], _ => rfl) rfl rfl fun cdv A outer s H E hr =>
    sm_one (sm_ret (xm_call G_poly_of (hr) (takes_of rfl rfl rfl rfl) (am_cons (xm_lc rfl sc_derived.nd (im_range2 n_range (xm_int) (xm_len n_len (xm_var 0))) (blkOk_by (own := [(("k" : Str), 1)]) (by show blkC ["f", "k"] (defScope s_derived) _ _ = true; decide +kernel)) (fun s H C cl fp => gm_name 1 sc_derived.nd) (fun s H C cl fp => tms_nil) (fun s H C cl fp => xm_call G_times (hr) takes0 (am_cons (xm_call G_whole (hr) takes0 (am_cons (xm_var 1) (am_nil))) (am_cons (xm_ix (xm_var 0) (xm_var 1)) (am_nil)))) ) (am_nil))))
theorem ok_moved (F : FnP K "moved" s_moved f fd) (hm : mg "moved" = some (.ref f)) (G_poly_of : FM P w K mg base 1 "poly_of" ["row"] m_poly_of) (G_poly_sum : FM P w K mg base 4 "poly_sum" ["f", "g"] m_poly_sum) (G_poly_product : FM P w K mg base 4 "poly_product" ["f", "g"] m_poly_product) :
    FM P w K mg base 5 "moved" ["f", "a", "b"] m_moved := by
  replace G_poly_of := G_poly_of.mono (show 1 ≤ 4 by decide); replace G_poly_sum := G_poly_sum.mono (show 4 ≤ 4 by decide); replace G_poly_product := G_poly_product.mono (show 4 ≤ 4 by decide)
  exact fm_of F sc_moved hm (FunD.bindsN F fun _ _ _ _ _ _ us hl => match us, hl with | [_, _, _], _ => rfl) rfl rfl fun cdv A outer s H E hr =>
    sm_cons (sm_set 3 sc_moved.nd (xm_tup (am_nil))) (sm_cons (sm_set 4 sc_moved.nd (xm_call G_poly_of (hr) (takes_of rfl rfl rfl rfl) (am_cons (xm_lst (am_cons (xm_var 1) (am_cons (xm_var 2) (am_nil)))) (am_nil)))) (sm_cons (sm_for (passes_of rfl) rfl (im_seq (xm_rev (xm_var 0))) (gm_name 5 sc_moved.nd) (sm_one (sm_set 3 sc_moved.nd (xm_call G_poly_sum (hr) (takes_of rfl rfl rfl rfl) (am_cons (xm_call G_poly_product (hr) (takes_of rfl rfl rfl rfl) (am_cons (xm_var 3) (am_cons (xm_var 4) (am_nil)))) (am_cons (xm_call G_poly_of (hr) (takes_of rfl rfl rfl rfl) (am_cons (xm_lst (am_cons (xm_var 5) (am_nil))) (am_nil))) (am_nil))))))) (sm_one (sm_ret (xm_var 3)))))
theorem ok__law_start (F : FnP K "_law_start" s__law_start f fd) (hm : mg "_law_start" = some (.ref f)) (n_list : mg "list" = none) :
    FM P w K mg base 1 "_law_start" ["script"] m__law_start := by
  skip
  exact fm_of F sc__law_start hm (FunD.bindsN F fun _ _ _ _ _ _ us hl => match us, hl with | [_], _ => rfl) rfl rfl fun cdv A outer s H E hr =>
    sm_one (sm_ret (xm_lst (am_cons (xm_list n_list (xm_var 0)) (am_cons (xm_int) (am_cons (xm_int) (am_cons (xm_int) (am_nil)))))))
theorem ok__law_draw (F : FnP K "_law_draw" s__law_draw f fd) (hm : mg "_law_draw" = some (.ref f)) (n_int : mg "int" = none) (n_len : mg "len" = none) (n_abs : mg "abs" = none) :
    FM P w K mg base 1 "_law_draw" ["state", "most"] m__law_draw := by
  skip
  exact fm_of F sc__law_draw hm (FunD.bindsN F fun _ _ _ _ _ _ us hl => match us, hl with | [_, _], _ => rfl) rfl rfl fun cdv A outer s H E hr =>
    sm_cons (sm_ixset (xm_add (xm_ix (xm_var 0) (xm_int)) (xm_int)) (xm_var 0) (xm_int)) (sm_cons (sm_if (tm_gt (xm_ix (xm_var 0) (xm_int)) (xm_int)) (sm_cons (sm_set 4 sc__law_draw.nd (xm_mod (xm_intc n_int (xm_ix (xm_var 0) (xm_int))) (xm_var 1))) (sm_cons (sm_ixset (xm_fdiv (xm_ix (xm_var 0) (xm_int)) (xm_var 1)) (xm_var 0) (xm_int)) (sm_one (sm_ret (xm_var 4))))) (sm_nil)) (sm_cons (sm_set 2 sc__law_draw.nd (xm_int)) (sm_cons (sm_if (tm_gt (xm_len n_len (xm_ix (xm_var 0) (xm_int))) (xm_int)) (sm_one (sm_set 2 sc__law_draw.nd (xm_abs n_abs (xm_ix (xm_ix (xm_var 0) (xm_int)) (xm_mod (xm_intc n_int (xm_ix (xm_var 0) (xm_int))) (xm_len n_len (xm_ix (xm_var 0) (xm_int)))))))) (sm_nil)) (sm_cons (sm_ixset (xm_add (xm_ix (xm_var 0) (xm_int)) (xm_int)) (xm_var 0) (xm_int)) (sm_cons (sm_if (tm_ge (xm_var 2) (xm_pow (xm_int) (xm_int))) (sm_cons (sm_ixset (xm_fdiv (xm_var 2) (xm_var 1)) (xm_var 0) (xm_int)) (sm_one (sm_ret (xm_mod (xm_intc n_int (xm_var 2)) (xm_var 1))))) (sm_nil)) (sm_cons (sm_set 3 sc__law_draw.nd (xm_mod (xm_intc n_int (xm_add (xm_mul (xm_add (xm_var 2) (xm_int)) (xm_int)) (xm_mul (xm_ix (xm_var 0) (xm_int)) (xm_int)))) (xm_int))) (sm_cons (sm_set 3 sc__law_draw.nd (xm_mod (xm_intc n_int (xm_add (xm_add (xm_mul (xm_var 3) (xm_int)) (xm_fdiv (xm_var 2) (xm_int))) (xm_ix (xm_var 0) (xm_int)))) (xm_int))) (sm_one (sm_ret (xm_mod (xm_fdiv (xm_var 3) (xm_int)) (xm_var 1)))))))))))
theorem ok__law_is_int (F : FnP K "_law_is_int" s__law_is_int f fd) (hm : mg "_law_is_int" = some (.ref f)) (n_isinstance : mg "isinstance" = none) (n_int : mg "int" = none) (n_bool : mg "bool" = none) :
    FM P w K mg base 1 "_law_is_int" ["x"] m__law_is_int := by
  skip
  exact fm_of F sc__law_is_int hm (FunD.bindsN F fun _ _ _ _ _ _ us hl => match us, hl with | [_], _ => rfl) rfl rfl fun cdv A outer s H E hr =>
    sm_one (sm_ret (xm_and (xm_isi n_isinstance (xm_var 0) (xm_bty n_int (by decide +kernel))) (xm_one (xm_not (xm_isi n_isinstance (xm_var 0) (xm_bty n_bool (by decide +kernel)))))))
theorem okb__law_same (F : FnP K "_law_same" s__law_same f fd) (hm : mg "_law_same" = some (.ref f)) (n_isinstance : mg "isinstance" = none) (n_tuple : mg "tuple" = none) (n_len : mg "len" = none) (n_all : mg "all" = none) (n_range : mg "range" = none) (n_str : mg "str" = none) (G__law_is_int : FM P w K mg base 1 "_law_is_int" ["x"] m__law_is_int) {j : Nat} (hj : 1 ≤ j) {rec_ : MF} (G__law_same : FM P w K mg base j "_law_same" ["x", "y"] rec_) :
    FM P w K mg base (j + 1) "_law_same" ["x", "y"] (b__law_same rec_) := by
  replace G__law_is_int := G__law_is_int.mono (Nat.le_trans (show 1 ≤ 1 by decide) hj)
  exact fm_of F sc__law_same hm (FunD.bindsN F fun _ _ _ _ _ _ us hl => match us, hl with | [_, _], _ => rfl) rfl rfl fun cdv A outer s H E hr =>
    sm_cons (sm_if (tm_tru (xm_isi n_isinstance (xm_var 1) (xm_bty n_tuple (by decide +kernel)))) (sm_cons (sm_if (WM.tm (wm_or (tm_not (tm_tru (xm_isi n_isinstance (xm_var 0) (xm_bty n_tuple (by decide +kernel))))) (wm_or1 (tm_ne (hr) (xm_len n_len (xm_var 0)) (xm_len n_len (xm_var 1)))))) (sm_one (sm_ret (xm_bl))) (sm_nil)) (sm_one (sm_ret (xm_all n_all rfl (xm_lc rfl sc__law_same.nd (im_range1 n_range (xm_len n_len (xm_var 1))) (blkOk_by (own := [(("k" : Str), 2)]) (by show blkC ["x", "y", "k"] (defScope s__law_same) _ _ = true; decide +kernel)) (fun s H C cl fp => gm_name 2 sc__law_same.nd) (fun s H C cl fp => tms_nil) (fun s H C cl fp => xm_call G__law_same (hr) takes0 (am_cons (xm_ix (xm_var 0) (xm_var 2)) (am_cons (xm_ix (xm_var 1) (xm_var 2)) (am_nil)))) ))))) (sm_nil)) (sm_cons (sm_if (tm_tru (xm_isi n_isinstance (xm_var 1) (xm_bty n_str (by decide +kernel)))) (sm_one (sm_ret (xm_and (xm_isi n_isinstance (xm_var 0) (xm_bty n_str (by decide +kernel))) (xm_one (xm_eq (hr) (xm_var 0) (xm_var 1)))))) (sm_nil)) (sm_one (sm_ret (xm_and (xm_call G__law_is_int (hr) (takes_of rfl rfl rfl rfl) (am_cons (xm_var 0) (am_nil))) (xm_one (xm_eq (hr) (xm_var 0) (xm_var 1)))))))
theorem ok__law_same (F : FnP K "_law_same" s__law_same f fd) (hm : mg "_law_same" = some (.ref f)) (n_isinstance : mg "isinstance" = none) (n_tuple : mg "tuple" = none) (n_len : mg "len" = none) (n_all : mg "all" = none) (n_range : mg "range" = none) (n_str : mg "str" = none) (G__law_is_int : FM P w K mg base 1 "_law_is_int" ["x"] m__law_is_int) : ∀ n : Nat, FM P w K mg base (2 + n) "_law_same" ["x", "y"] (m__law_same n)
  | 0 => fm_fail F hm (FunD.bindsN F fun _ _ _ _ _ _ us hl => match us, hl with | [_, _], _ => rfl)
  | n + 1 => okb__law_same F hm n_isinstance n_tuple n_len n_all n_range n_str G__law_is_int (j := 2 + n) (by omega) (ok__law_same F hm n_isinstance n_tuple n_len n_all n_range n_str G__law_is_int n)
theorem ok__law_low (F : FnP K "_law_low" s__law_low f fd) (hm : mg "_law_low" = some (.ref f)) (n_abs : mg "abs" = none) (n_int : mg "int" = none) :
    FM P w K mg base 1 "_law_low" ["n", "d"] m__law_low := by
  skip
  exact fm_of F sc__law_low hm (FunD.bindsN F fun _ _ _ _ _ _ us hl => match us, hl with | [_, _], _ => rfl) rfl rfl fun cdv A outer s H E hr =>
    sm_cons (sm_par 2 3 rfl sc__law_low.nd (am_cons (xm_abs n_abs (xm_var 0)) (am_cons (xm_abs n_abs (xm_var 1)) (am_nil))) (by decide)) (sm_cons (sm_while (passes_of rfl) (tm_ne (hr) (xm_var 3) (xm_int)) (sm_one (sm_par 2 3 rfl sc__law_low.nd (am_cons (xm_var 3) (am_cons (xm_mod (xm_intc n_int (xm_var 2)) (xm_var 3)) (am_nil))) (by decide)))) (sm_cons (sm_if (tm_lt (xm_var 1) (xm_int)) (sm_one (sm_set 2 sc__law_low.nd (xm_neg (xm_var 2)))) (sm_nil)) (sm_one (sm_ret (xm_tup (am_cons (xm_fdiv (xm_var 0) (xm_var 2)) (am_cons (xm_fdiv (xm_var 1) (xm_var 2)) (am_nil))))))))
theorem ok__law_add (F : FnP K "_law_add" s__law_add f fd) (hm : mg "_law_add" = some (.ref f)) (G__law_low : FM P w K mg base 1 "_law_low" ["n", "d"] m__law_low) :
    FM P w K mg base 2 "_law_add" ["a", "b"] m__law_add := by
  replace G__law_low := G__law_low.mono (show 1 ≤ 1 by decide)
  exact fm_of F sc__law_add hm (FunD.bindsN F fun _ _ _ _ _ _ us hl => match us, hl with | [_, _], _ => rfl) rfl rfl fun cdv A outer s H E hr =>
    sm_one (sm_ret (xm_call G__law_low (hr) (takes_of rfl rfl rfl rfl) (am_cons (xm_add (xm_mul (xm_ix (xm_var 0) (xm_int)) (xm_ix (xm_var 1) (xm_int))) (xm_mul (xm_ix (xm_var 1) (xm_int)) (xm_ix (xm_var 0) (xm_int)))) (am_cons (xm_mul (xm_ix (xm_var 0) (xm_int)) (xm_ix (xm_var 1) (xm_int))) (am_nil)))))
theorem ok__law_mul (F : FnP K "_law_mul" s__law_mul f fd) (hm : mg "_law_mul" = some (.ref f)) (G__law_low : FM P w K mg base 1 "_law_low" ["n", "d"] m__law_low) :
    FM P w K mg base 2 "_law_mul" ["a", "b"] m__law_mul := by
  replace G__law_low := G__law_low.mono (show 1 ≤ 1 by decide)
  exact fm_of F sc__law_mul hm (FunD.bindsN F fun _ _ _ _ _ _ us hl => match us, hl with | [_, _], _ => rfl) rfl rfl fun cdv A outer s H E hr =>
    sm_one (sm_ret (xm_call G__law_low (hr) (takes_of rfl rfl rfl rfl) (am_cons (xm_mul (xm_ix (xm_var 0) (xm_int)) (xm_ix (xm_var 1) (xm_int))) (am_cons (xm_mul (xm_ix (xm_var 0) (xm_int)) (xm_ix (xm_var 1) (xm_int))) (am_nil)))))
theorem ok__law_at (F : FnP K "_law_at" s__law_at f fd) (hm : mg "_law_at" = some (.ref f)) (G__law_add : FM P w K mg base 2 "_law_add" ["a", "b"] m__law_add) (G__law_mul : FM P w K mg base 2 "_law_mul" ["a", "b"] m__law_mul) :
    FM P w K mg base 3 "_law_at" ["f", "a"] m__law_at := by
  replace G__law_add := G__law_add.mono (show 2 ≤ 2 by decide); replace G__law_mul := G__law_mul.mono (show 2 ≤ 2 by decide)
  exact fm_of F sc__law_at hm (FunD.bindsN F fun _ _ _ _ _ _ us hl => match us, hl with | [_, _], _ => rfl) rfl rfl fun cdv A outer s H E hr =>
    sm_cons (sm_set 2 sc__law_at.nd (xm_tup (am_cons (xm_int) (am_cons (xm_int) (am_nil))))) (sm_cons (sm_for (passes_of rfl) rfl (im_seq (xm_rev (xm_var 0))) (gm_name 3 sc__law_at.nd) (sm_one (sm_set 2 sc__law_at.nd (xm_call G__law_add (hr) (takes_of rfl rfl rfl rfl) (am_cons (xm_call G__law_mul (hr) (takes_of rfl rfl rfl rfl) (am_cons (xm_var 2) (am_cons (xm_var 1) (am_nil)))) (am_cons (xm_var 3) (am_nil))))))) (sm_one (sm_ret (xm_var 2))))
theorem ok__law_some_fraction (F : FnP K "_law_some_fraction" s__law_some_fraction f fd) (hm : mg "_law_some_fraction" = some (.ref f)) (G__law_low : FM P w K mg base 1 "_law_low" ["n", "d"] m__law_low) (G__law_draw : FM P w K mg base 1 "_law_draw" ["state", "most"] m__law_draw) :
    FM P w K mg base 2 "_law_some_fraction" ["state", "most"] m__law_some_fraction := by
  replace G__law_low := G__law_low.mono (show 1 ≤ 1 by decide); replace G__law_draw := G__law_draw.mono (show 1 ≤ 1 by decide)
  exact fm_of F sc__law_some_fraction hm (FunD.bindsN F fun _ _ _ _ _ _ us hl => match us, hl with | [_, _], _ => rfl) rfl rfl fun cdv A outer s H E hr =>
    sm_one (sm_ret (xm_call G__law_low (hr) (takes_of rfl rfl rfl rfl) (am_cons (xm_sub (xm_call G__law_draw (hr) (takes_of rfl rfl rfl rfl) (am_cons (xm_var 0) (am_cons (xm_add (xm_mul (xm_int) (xm_var 1)) (xm_int)) (am_nil)))) (xm_var 1)) (am_cons (xm_add (xm_int) (xm_call G__law_draw (hr) (takes_of rfl rfl rfl rfl) (am_cons (xm_var 0) (am_cons (xm_var 1) (am_nil))))) (am_nil)))))
theorem ok__law_said (F : FnP K "_law_said" s__law_said f fd) (hm : mg "_law_said" = some (.ref f)) :
    FM P w K mg base 1 "_law_said" ["found", "due"] m__law_said := by
  skip
  exact fm_of F sc__law_said hm (FunD.bindsN F fun _ _ _ _ _ _ us hl => match us, hl with | [_, _], _ => rfl) rfl rfl fun cdv A outer s H E hr =>
    sm_cons (sm_if (tm_tru (xm_var 1)) (sm_one (sm_ret (xm_is (xm_var 0) (xm_bl)))) (sm_nil)) (sm_one (sm_ret (xm_is (xm_var 0) (xm_bl))))
theorem ok__law_looks_like_one (F : FnP K "_law_looks_like_one" s__law_looks_like_one f fd) (hm : mg "_law_looks_like_one" = some (.ref f)) (n_isinstance : mg "isinstance" = none) (n_tuple : mg "tuple" = none) (n_len : mg "len" = none) (G__law_is_int : FM P w K mg base 1 "_law_is_int" ["x"] m__law_is_int) (G__law_low : FM P w K mg base 1 "_law_low" ["n", "d"] m__law_low) :
    FM P w K mg base 2 "_law_looks_like_one" ["datum"] m__law_looks_like_one := by
  replace G__law_is_int := G__law_is_int.mono (show 1 ≤ 1 by decide); replace G__law_low := G__law_low.mono (show 1 ≤ 1 by decide)
  exact fm_of F sc__law_looks_like_one hm (FunD.bindsN F fun _ _ _ _ _ _ us hl => match us, hl with | [_], _ => rfl) rfl rfl fun cdv A outer s H E hr =>
    sm_cons (sm_if (tm_not (tm_tru (xm_isi n_isinstance (xm_var 0) (xm_bty n_tuple (by decide +kernel))))) (sm_one (sm_ret (xm_bl))) (sm_nil)) (sm_cons (sm_for (passes_of rfl) rfl (im_seq (xm_var 0)) (gm_name 1 sc__law_looks_like_one.nd) (sm_one (sm_if (WM.tm (wm_or (tm_not (tm_tru (xm_isi n_isinstance (xm_var 1) (xm_bty n_tuple (by decide +kernel))))) (wm_or (tm_ne (hr) (xm_len n_len (xm_var 1)) (xm_int)) (wm_or (tm_not (tm_tru (xm_call G__law_is_int (hr) (takes_of rfl rfl rfl rfl) (am_cons (xm_ix (xm_var 1) (xm_int)) (am_nil))))) (wm_or (tm_not (tm_tru (xm_call G__law_is_int (hr) (takes_of rfl rfl rfl rfl) (am_cons (xm_ix (xm_var 1) (xm_int)) (am_nil))))) (wm_or (tm_lt (xm_ix (xm_var 1) (xm_int)) (xm_int)) (wm_or1 (tm_ne (hr) (xm_call G__law_low (hr) (takes_of rfl rfl rfl rfl) (am_cons (xm_ix (xm_var 1) (xm_int)) (am_cons (xm_ix (xm_var 1) (xm_int)) (am_nil)))) (xm_var 1))))))))) (sm_one (sm_ret (xm_bl))) (sm_nil)))) (sm_one (sm_ret (xm_or (xm_eq (hr) (xm_var 0) (xm_tup (am_nil))) (xm_one (xm_ne (hr) (xm_ix (xm_ix (xm_var 0) (xm_neg (xm_int))) (xm_int)) (xm_int)))))))
theorem ok__law_some_row (F : FnP K "_law_some_row" s__law_some_row f fd) (hm : mg "_law_some_row" = some (.ref f)) (n_range : mg "range" = none) (G__law_draw : FM P w K mg base 1 "_law_draw" ["state", "most"] m__law_draw) (G__law_some_fraction : FM P w K mg base 2 "_law_some_fraction" ["state", "most"] m__law_some_fraction) :
    FM P w K mg base 3 "_law_some_row" ["state"] m__law_some_row := by
  replace G__law_draw := G__law_draw.mono (show 1 ≤ 2 by decide); replace G__law_some_fraction := G__law_some_fraction.mono (show 2 ≤ 2 by decide)
  exact fm_of F sc__law_some_row hm (FunD.bindsN F fun _ _ _ _ _ _ us hl => match us, hl with | [_], _ => rfl) rfl rfl fun cdv A outer s H E hr =>
    sm_one (sm_ret (xm_add (xm_lc rfl sc__law_some_row.nd (im_range1 n_range (xm_call G__law_draw (hr) (takes_of rfl rfl rfl rfl) (am_cons (xm_var 0) (am_cons (xm_int) (am_nil))))) (blkOk_by (own := [(("k" : Str), 1)]) (by show blkC ["state", "k"] (defScope s__law_some_row) _ _ = true; decide +kernel)) (fun s H C cl fp => gm_name 1 sc__law_some_row.nd) (fun s H C cl fp => tms_nil) (fun s H C cl fp => xm_call G__law_some_fraction (hr) takes0 (am_cons (xm_var 0) (am_cons (xm_int) (am_nil)))) ) (xm_mul (xm_lst (am_cons (xm_tup (am_cons (xm_int) (am_cons (xm_int) (am_nil)))) (am_nil))) (xm_call G__law_draw (hr) (takes_of rfl rfl rfl rfl) (am_cons (xm_var 0) (am_cons (xm_int) (am_nil)))))))
theorem ok__law_is_worth_all (F : FnP K "_law_is_worth_all" s__law_is_worth_all f fd) (hm : mg "_law_is_worth_all" = some (.ref f)) (n_all : mg "all" = none) (G__law_looks_like_one : FM P w K mg base 2 "_law_looks_like_one" ["datum"] m__law_looks_like_one) (G__law_same : FM P w K mg base 7 "_law_same" ["x", "y"] (m__law_same 5)) (G__law_at : FM P w K mg base 3 "_law_at" ["f", "a"] m__law_at) :
    FM P w K mg base 8 "_law_is_worth_all" ["h", "worths"] m__law_is_worth_all := by
  replace G__law_looks_like_one := G__law_looks_like_one.mono (show 2 ≤ 7 by decide); replace G__law_same := G__law_same.mono (show 7 ≤ 7 by decide); replace G__law_at := G__law_at.mono (show 3 ≤ 7 by decide)
  exact fm_of F sc__law_is_worth_all hm (FunD.bindsN F fun _ _ _ _ _ _ us hl => match us, hl with | [_, _], _ => rfl) rfl rfl fun cdv A outer s H E hr =>
    sm_one (sm_ret (xm_and (xm_call G__law_looks_like_one (hr) (takes_of rfl rfl rfl rfl) (am_cons (xm_var 0) (am_nil))) (xm_one (xm_all n_all rfl (xm_lc rfl sc__law_is_worth_all.nd (im_seq (xm_var 1)) (blkOk_by (own := [(("a" : Str), 2), (("worth" : Str), 3)]) (by show blkC ["h", "worths", "a", "worth"] (defScope s__law_is_worth_all) _ _ = true; decide +kernel)) (fun s H C cl fp => gm_tup2 (K := K) rfl rfl (gm_name 2 sc__law_is_worth_all.nd) (gm_name 3 sc__law_is_worth_all.nd)) (fun s H C cl fp => tms_nil) (fun s H C cl fp => xm_call G__law_same (hr) takes0 (am_cons (xm_call G__law_at (hr) takes0 (am_cons (xm_var 0) (am_cons (xm_var 2) (am_nil)))) (am_cons (xm_var 3) (am_nil)))) )))))
theorem ok__law_places (F : FnP K "_law_places" s__law_places f fd) (hm : mg "_law_places" = some (.ref f)) (n_range : mg "range" = none) (n_int : mg "int" = none) (G__law_low : FM P w K mg base 1 "_law_low" ["n", "d"] m__law_low) (G__law_some_fraction : FM P w K mg base 2 "_law_some_fraction" ["state", "most"] m__law_some_fraction) :
    FM P w K mg base 3 "_law_places" ["state", "many"] m__law_places := by
  replace G__law_low := G__law_low.mono (show 1 ≤ 2 by decide); replace G__law_some_fraction := G__law_some_fraction.mono (show 2 ≤ 2 by decide)
  exact fm_of F sc__law_places hm (FunD.bindsN F fun _ _ _ _ _ _ us hl => match us, hl with | [_, _], _ => rfl) rfl rfl fun cdv A outer s H E hr =>
    sm_one (sm_ret (xm_add (xm_lc rfl sc__law_places.nd (im_range1 n_range (xm_add (xm_mul (xm_int) (xm_var 1)) (xm_int))) (blkOk_by (own := [(("k" : Str), 2)]) (by show blkC ["state", "many", "k"] (defScope s__law_places) _ _ = true; decide +kernel)) (fun s H C cl fp => gm_name 2 sc__law_places.nd) (fun s H C cl fp => tms_nil) (fun s H C cl fp => xm_call G__law_low (hr) takes0 (am_cons (xm_sub (xm_var 2) (xm_fdiv (xm_var 1) (xm_int))) (am_cons (xm_add (xm_int) (xm_mod (xm_intc n_int (xm_var 2)) (xm_int))) (am_nil)))) ) (xm_lst (am_cons (xm_call G__law_some_fraction (hr) (takes_of rfl rfl rfl rfl) (am_cons (xm_var 0) (am_cons (xm_int) (am_nil)))) (am_nil)))))
theorem ok__law_products_fit (F : FnP K "_law_products_fit" s__law_products_fit f fd) (hm : mg "_law_products_fit" = some (.ref f)) (G_derived : FM P w K mg base 4 "derived" ["f"] m_derived) (G_poly_product : FM P w K mg base 4 "poly_product" ["f", "g"] m_poly_product) (G_poly_sum : FM P w K mg base 4 "poly_sum" ["f", "g"] m_poly_sum) (G__law_same : FM P w K mg base 7 "_law_same" ["x", "y"] (m__law_same 5)) (G__law_draw : FM P w K mg base 1 "_law_draw" ["state", "most"] m__law_draw) (G_poly_of : FM P w K mg base 1 "poly_of" ["row"] m_poly_of) :
    FM P w K mg base 8 "_law_products_fit" ["state", "f", "g"] m__law_products_fit := by
  replace G_derived := G_derived.mono (show 4 ≤ 7 by decide); replace G_poly_product := G_poly_product.mono (show 4 ≤ 7 by decide); replace G_poly_sum := G_poly_sum.mono (show 4 ≤ 7 by decide); replace G__law_same := G__law_same.mono (show 7 ≤ 7 by decide); replace G__law_draw := G__law_draw.mono (show 1 ≤ 7 by decide); replace G_poly_of := G_poly_of.mono (show 1 ≤ 7 by decide)
  exact fm_of F sc__law_products_fit hm (FunD.bindsN F fun _ _ _ _ _ _ us hl => match us, hl with | [_, _, _], _ => rfl) rfl rfl fun cdv A outer s H E hr =>
    sm_cons (sm_set 3 sc__law_products_fit.nd (xm_call G_derived (hr) (takes_of rfl rfl rfl rfl) (am_cons (xm_call G_poly_product (hr) (takes_of rfl rfl rfl rfl) (am_cons (xm_var 1) (am_cons (xm_var 2) (am_nil)))) (am_nil)))) (sm_cons (sm_set 4 sc__law_products_fit.nd (xm_call G_poly_sum (hr) (takes_of rfl rfl rfl rfl) (am_cons (xm_call G_poly_product (hr) (takes_of rfl rfl rfl rfl) (am_cons (xm_call G_derived (hr) (takes_of rfl rfl rfl rfl) (am_cons (xm_var 1) (am_nil))) (am_cons (xm_var 2) (am_nil)))) (am_cons (xm_call G_poly_product (hr) (takes_of rfl rfl rfl rfl) (am_cons (xm_var 1) (am_cons (xm_call G_derived (hr) (takes_of rfl rfl rfl rfl) (am_cons (xm_var 2) (am_nil))) (am_nil)))) (am_nil))))) (sm_cons (sm_if (WM.tm (wm_or (tm_not (tm_tru (xm_call G__law_same (hr) (takes_of rfl rfl rfl rfl) (am_cons (xm_var 3) (am_cons (xm_var 4) (am_nil)))))) (wm_or1 (tm_not (tm_tru (xm_call G__law_same (hr) (takes_of rfl rfl rfl rfl) (am_cons (xm_call G_derived (hr) (takes_of rfl rfl rfl rfl) (am_cons (xm_call G_poly_sum (hr) (takes_of rfl rfl rfl rfl) (am_cons (xm_var 1) (am_cons (xm_var 2) (am_nil)))) (am_nil))) (am_cons (xm_call G_poly_sum (hr) (takes_of rfl rfl rfl rfl) (am_cons (xm_call G_derived (hr) (takes_of rfl rfl rfl rfl) (am_cons (xm_var 1) (am_nil))) (am_cons (xm_call G_derived (hr) (takes_of rfl rfl rfl rfl) (am_cons (xm_var 2) (am_nil))) (am_nil)))) (am_nil))))))))) (sm_one (sm_ret (xm_bl))) (sm_nil)) (sm_cons (sm_set 5 sc__law_products_fit.nd (xm_add (xm_int) (xm_call G__law_draw (hr) (takes_of rfl rfl rfl rfl) (am_cons (xm_var 0) (am_cons (xm_int) (am_nil)))))) (sm_cons (sm_set 6 sc__law_products_fit.nd (xm_add (xm_mul (xm_tup (am_cons (xm_tup (am_cons (xm_int) (am_cons (xm_int) (am_nil)))) (am_nil))) (xm_var 5)) (xm_tup (am_cons (xm_tup (am_cons (xm_int) (am_cons (xm_int) (am_nil)))) (am_nil))))) (sm_one (sm_ret (xm_and (xm_call G__law_same (hr) (takes_of rfl rfl rfl rfl) (am_cons (xm_call G_derived (hr) (takes_of rfl rfl rfl rfl) (am_cons (xm_var 6) (am_nil))) (am_cons (xm_add (xm_mul (xm_tup (am_cons (xm_tup (am_cons (xm_int) (am_cons (xm_int) (am_nil)))) (am_nil))) (xm_sub (xm_var 5) (xm_int))) (xm_tup (am_cons (xm_tup (am_cons (xm_var 5) (am_cons (xm_int) (am_nil)))) (am_nil)))) (am_nil)))) (xm_and (xm_call G__law_same (hr) (takes_of rfl rfl rfl rfl) (am_cons (xm_call G_derived (hr) (takes_of rfl rfl rfl rfl) (am_cons (xm_call G_poly_of (hr) (takes_of rfl rfl rfl rfl) (am_cons (xm_sl (xm_var 1) (pm_none) (pm_some (xm_int))) (am_nil))) (am_nil))) (am_cons (xm_tup (am_nil)) (am_nil)))) (xm_one (xm_call G__law_same (hr) (takes_of rfl rfl rfl rfl) (am_cons (xm_call G_derived (hr) (takes_of rfl rfl rfl rfl) (am_cons (xm_tup (am_nil)) (am_nil))) (am_cons (xm_tup (am_nil)) (am_nil)))))))))))))
theorem ok_law (F : FnP K "law" s_law f fd) (n_range : mg "range" = none) (n_len : mg "len" = none) (n_all : mg "all" = none) (G__law_start : FM P w K mg base 1 "_law_start" ["script"] m__law_start) (G__law_some_row : FM P w K mg base 3 "_law_some_row" ["state"] m__law_some_row) (G__law_draw : FM P w K mg base 1 "_law_draw" ["state", "most"] m__law_draw) (G_poly_of : FM P w K mg base 1 "poly_of" ["row"] m_poly_of) (G__law_some_fraction : FM P w K mg base 2 "_law_some_fraction" ["state", "most"] m__law_some_fraction) (G__law_places : FM P w K mg base 3 "_law_places" ["state", "many"] m__law_places) (G__law_is_worth_all : FM P w K mg base 8 "_law_is_worth_all" ["h", "worths"] m__law_is_worth_all) (G__law_at : FM P w K mg base 3 "_law_at" ["f", "a"] m__law_at) (G__law_same : FM P w K mg base 7 "_law_same" ["x", "y"] (m__law_same 5)) (G_poly_value : FM P w K mg base 4 "poly_value" ["f", "a"] m_poly_value) (G__law_add : FM P w K mg base 2 "_law_add" ["a", "b"] m__law_add) (G_poly_sum : FM P w K mg base 4 "poly_sum" ["f", "g"] m_poly_sum) (G__law_mul : FM P w K mg base 2 "_law_mul" ["a", "b"] m__law_mul) (G_poly_times : FM P w K mg base 4 "poly_times" ["a", "f"] m_poly_times) (G_poly_product : FM P w K mg base 4 "poly_product" ["f", "g"] m_poly_product) (G_moved : FM P w K mg base 5 "moved" ["f", "a", "b"] m_moved) (G__law_products_fit : FM P w K mg base 8 "_law_products_fit" ["state", "f", "g"] m__law_products_fit) (G__law_said : FM P w K mg base 1 "_law_said" ["found", "due"] m__law_said) (G__law_looks_like_one : FM P w K mg base 2 "_law_looks_like_one" ["datum"] m__law_looks_like_one) (G_is_poly : FM P w K mg base 5 "is_poly" ["datum"] m_is_poly) :
    FnOk P w K mg base (L2.CX P w) 9 f fd ["script"] (spM K mg m_law) := by
  replace G__law_start := G__law_start.mono (show 1 ≤ 8 by decide); replace G__law_some_row := G__law_some_row.mono (show 3 ≤ 8 by decide); replace G__law_draw := G__law_draw.mono (show 1 ≤ 8 by decide); replace G_poly_of := G_poly_of.mono (show 1 ≤ 8 by decide); replace G__law_some_fraction := G__law_some_fraction.mono (show 2 ≤ 8 by decide); replace G__law_places := G__law_places.mono (show 3 ≤ 8 by decide); replace G__law_is_worth_all := G__law_is_worth_all.mono (show 8 ≤ 8 by decide); replace G__law_at := G__law_at.mono (show 3 ≤ 8 by decide); replace G__law_same := G__law_same.mono (show 7 ≤ 8 by decide); replace G_poly_value := G_poly_value.mono (show 4 ≤ 8 by decide); replace G__law_add := G__law_add.mono (show 2 ≤ 8 by decide); replace G_poly_sum := G_poly_sum.mono (show 4 ≤ 8 by decide); replace G__law_mul := G__law_mul.mono (show 2 ≤ 8 by decide); replace G_poly_times := G_poly_times.mono (show 4 ≤ 8 by decide); replace G_poly_product := G_poly_product.mono (show 4 ≤ 8 by decide); replace G_moved := G_moved.mono (show 5 ≤ 8 by decide); replace G__law_products_fit := G__law_products_fit.mono (show 8 ≤ 8 by decide); replace G__law_said := G__law_said.mono (show 1 ≤ 8 by decide); replace G__law_looks_like_one := G__law_looks_like_one.mono (show 2 ≤ 8 by decide); replace G_is_poly := G_is_poly.mono (show 5 ≤ 8 by decide)
  exact fnok_of F sc_law rfl rfl fun cdv A outer s H E hr =>
    sm_cons (sm_set 1 sc_law.nd (xm_call G__law_start (hr) (takes_of rfl rfl rfl rfl) (am_cons (xm_var 0) (am_nil)))) (sm_cons (sm_for (passes_of rfl) rfl (im_range1 n_range (xm_int)) (gm_name 2 sc_law.nd) (sm_cons (sm_asg (xm_tup (am_cons (xm_call G__law_some_row (hr) (takes_of rfl rfl rfl rfl) (am_cons (xm_var 1) (am_nil))) (am_cons (xm_call G__law_some_row (hr) (takes_of rfl rfl rfl rfl) (am_cons (xm_var 1) (am_nil))) (am_nil)))) (gm_tup2 (K := K) rfl rfl (gm_name 5 sc_law.nd) (gm_name 6 sc_law.nd))) (sm_cons (sm_if (tm_eq (hr) (xm_call G__law_draw (hr) (takes_of rfl rfl rfl rfl) (am_cons (xm_var 1) (am_cons (xm_int) (am_nil)))) (xm_int)) (sm_one (sm_set 6 sc_law.nd (xm_add (xm_sl (xm_var 6) (pm_none) (pm_some (xm_int))) (xm_lc rfl sc_law.nd (im_seq (xm_sl (xm_var 5) (pm_some (xm_int)) (pm_none))) (blkOk_by (own := [(("a" : Str), 9), (("d" : Str), 13)]) (by show blkC ["script", "state", "turn", "places", "data", "row", "other", "f", "g", "a", "b", "y", "datum", "d"] (defScope s_law) _ _ = true; decide +kernel)) (fun s H C cl fp => gm_tup2 (K := K) rfl rfl (gm_name 9 sc_law.nd) (gm_name 13 sc_law.nd)) (fun s H C cl fp => tms_nil) (fun s H C cl fp => xm_tup (am_cons (xm_neg (xm_var 9)) (am_cons (xm_var 13) (am_nil)))) )))) (sm_nil)) (sm_cons (sm_asg (xm_tup (am_cons (xm_call G_poly_of (hr) (takes_of rfl rfl rfl rfl) (am_cons (xm_var 5) (am_nil))) (am_cons (xm_call G_poly_of (hr) (takes_of rfl rfl rfl rfl) (am_cons (xm_var 6) (am_nil))) (am_nil)))) (gm_tup2 (K := K) rfl rfl (gm_name 7 sc_law.nd) (gm_name 8 sc_law.nd))) (sm_cons (sm_asg (xm_tup (am_cons (xm_call G__law_some_fraction (hr) (takes_of rfl rfl rfl rfl) (am_cons (xm_var 1) (am_cons (xm_int) (am_nil)))) (am_cons (xm_call G__law_some_fraction (hr) (takes_of rfl rfl rfl rfl) (am_cons (xm_var 1) (am_cons (xm_int) (am_nil)))) (am_nil)))) (gm_tup2 (K := K) rfl rfl (gm_name 9 sc_law.nd) (gm_name 10 sc_law.nd))) (sm_cons (sm_set 3 sc_law.nd (xm_call G__law_places (hr) (takes_of rfl rfl rfl rfl) (am_cons (xm_var 1) (am_cons (xm_add (xm_len n_len (xm_var 5)) (xm_len n_len (xm_var 6))) (am_nil))))) (sm_cons (sm_if (WM.tm (wm_or (tm_not (tm_tru (xm_call G__law_is_worth_all (hr) (takes_of rfl rfl rfl rfl) (am_cons (xm_var 7) (am_cons (xm_lc rfl sc_law.nd (im_seq (xm_var 3)) (blkOk_by (own := [(("y" : Str), 11)]) (by show blkC ["script", "state", "turn", "places", "data", "row", "other", "f", "g", "a", "b", "y", "datum", "d"] (defScope s_law) _ _ = true; decide +kernel)) (fun s H C cl fp => gm_name 11 sc_law.nd) (fun s H C cl fp => tms_nil) (fun s H C cl fp => xm_tup (am_cons (xm_var 11) (am_cons (xm_call G__law_at (hr) takes0 (am_cons (xm_var 5) (am_cons (xm_var 11) (am_nil)))) (am_nil)))) ) (am_nil)))))) (wm_or1 (tm_not (tm_tru (xm_call G__law_is_worth_all (hr) (takes_of rfl rfl rfl rfl) (am_cons (xm_var 8) (am_cons (xm_lc rfl sc_law.nd (im_seq (xm_var 3)) (blkOk_by (own := [(("y" : Str), 11)]) (by show blkC ["script", "state", "turn", "places", "data", "row", "other", "f", "g", "a", "b", "y", "datum", "d"] (defScope s_law) _ _ = true; decide +kernel)) (fun s H C cl fp => gm_name 11 sc_law.nd) (fun s H C cl fp => tms_nil) (fun s H C cl fp => xm_tup (am_cons (xm_var 11) (am_cons (xm_call G__law_at (hr) takes0 (am_cons (xm_var 6) (am_cons (xm_var 11) (am_nil)))) (am_nil)))) ) (am_nil))))))))) (sm_one (sm_ret (xm_bl))) (sm_nil)) (sm_cons (sm_if (tm_not (tm_tru (xm_all n_all rfl (xm_lc rfl sc_law.nd (im_seq (xm_var 3)) (blkOk_by (own := [(("y" : Str), 11)]) (by show blkC ["script", "state", "turn", "places", "data", "row", "other", "f", "g", "a", "b", "y", "datum", "d"] (defScope s_law) _ _ = true; decide +kernel)) (fun s H C cl fp => gm_name 11 sc_law.nd) (fun s H C cl fp => tms_nil) (fun s H C cl fp => xm_call G__law_same (hr) takes0 (am_cons (xm_call G_poly_value (hr) takes0 (am_cons (xm_var 7) (am_cons (xm_var 11) (am_nil)))) (am_cons (xm_call G__law_at (hr) takes0 (am_cons (xm_var 5) (am_cons (xm_var 11) (am_nil)))) (am_nil)))) )))) (sm_one (sm_ret (xm_bl))) (sm_nil)) (sm_cons (sm_if (tm_not (tm_tru (xm_call G__law_is_worth_all (hr) (takes_of rfl rfl rfl rfl) (am_cons (xm_call G_poly_sum (hr) (takes_of rfl rfl rfl rfl) (am_cons (xm_var 7) (am_cons (xm_var 8) (am_nil)))) (am_cons (xm_lc rfl sc_law.nd (im_seq (xm_var 3)) (blkOk_by (own := [(("y" : Str), 11)]) (by show blkC ["script", "state", "turn", "places", "data", "row", "other", "f", "g", "a", "b", "y", "datum", "d"] (defScope s_law) _ _ = true; decide +kernel)) (fun s H C cl fp => gm_name 11 sc_law.nd) (fun s H C cl fp => tms_nil) (fun s H C cl fp => xm_tup (am_cons (xm_var 11) (am_cons (xm_call G__law_add (hr) takes0 (am_cons (xm_call G__law_at (hr) takes0 (am_cons (xm_var 5) (am_cons (xm_var 11) (am_nil)))) (am_cons (xm_call G__law_at (hr) takes0 (am_cons (xm_var 6) (am_cons (xm_var 11) (am_nil)))) (am_nil)))) (am_nil)))) ) (am_nil)))))) (sm_one (sm_ret (xm_bl))) (sm_nil)) (sm_cons (sm_if (tm_not (tm_tru (xm_call G__law_is_worth_all (hr) (takes_of rfl rfl rfl rfl) (am_cons (xm_call G_poly_times (hr) (takes_of rfl rfl rfl rfl) (am_cons (xm_var 9) (am_cons (xm_var 7) (am_nil)))) (am_cons (xm_lc rfl sc_law.nd (im_seq (xm_var 3)) (blkOk_by (own := [(("y" : Str), 11)]) (by show blkC ["script", "state", "turn", "places", "data", "row", "other", "f", "g", "a", "b", "y", "datum", "d"] (defScope s_law) _ _ = true; decide +kernel)) (fun s H C cl fp => gm_name 11 sc_law.nd) (fun s H C cl fp => tms_nil) (fun s H C cl fp => xm_tup (am_cons (xm_var 11) (am_cons (xm_call G__law_mul (hr) takes0 (am_cons (xm_var 9) (am_cons (xm_call G__law_at (hr) takes0 (am_cons (xm_var 5) (am_cons (xm_var 11) (am_nil)))) (am_nil)))) (am_nil)))) ) (am_nil)))))) (sm_one (sm_ret (xm_bl))) (sm_nil)) (sm_cons (sm_if (tm_not (tm_tru (xm_call G__law_is_worth_all (hr) (takes_of rfl rfl rfl rfl) (am_cons (xm_call G_poly_product (hr) (takes_of rfl rfl rfl rfl) (am_cons (xm_var 7) (am_cons (xm_var 8) (am_nil)))) (am_cons (xm_lc rfl sc_law.nd (im_seq (xm_var 3)) (blkOk_by (own := [(("y" : Str), 11)]) (by show blkC ["script", "state", "turn", "places", "data", "row", "other", "f", "g", "a", "b", "y", "datum", "d"] (defScope s_law) _ _ = true; decide +kernel)) (fun s H C cl fp => gm_name 11 sc_law.nd) (fun s H C cl fp => tms_nil) (fun s H C cl fp => xm_tup (am_cons (xm_var 11) (am_cons (xm_call G__law_mul (hr) takes0 (am_cons (xm_call G__law_at (hr) takes0 (am_cons (xm_var 5) (am_cons (xm_var 11) (am_nil)))) (am_cons (xm_call G__law_at (hr) takes0 (am_cons (xm_var 6) (am_cons (xm_var 11) (am_nil)))) (am_nil)))) (am_nil)))) ) (am_nil)))))) (sm_one (sm_ret (xm_bl))) (sm_nil)) (sm_cons (sm_if (WM.tm (wm_or (tm_not (tm_tru (xm_call G__law_is_worth_all (hr) (takes_of rfl rfl rfl rfl) (am_cons (xm_call G_moved (hr) (takes_of rfl rfl rfl rfl) (am_cons (xm_var 7) (am_cons (xm_var 9) (am_cons (xm_var 10) (am_nil))))) (am_cons (xm_lc rfl sc_law.nd (im_seq (xm_var 3)) (blkOk_by (own := [(("y" : Str), 11)]) (by show blkC ["script", "state", "turn", "places", "data", "row", "other", "f", "g", "a", "b", "y", "datum", "d"] (defScope s_law) _ _ = true; decide +kernel)) (fun s H C cl fp => gm_name 11 sc_law.nd) (fun s H C cl fp => tms_nil) (fun s H C cl fp => xm_tup (am_cons (xm_var 11) (am_cons (xm_call G__law_at (hr) takes0 (am_cons (xm_var 5) (am_cons (xm_call G__law_add (hr) takes0 (am_cons (xm_var 9) (am_cons (xm_call G__law_mul (hr) takes0 (am_cons (xm_var 10) (am_cons (xm_var 11) (am_nil)))) (am_nil)))) (am_nil)))) (am_nil)))) ) (am_nil)))))) (wm_or1 (tm_not (tm_tru (xm_call G__law_products_fit (hr) (takes_of rfl rfl rfl rfl) (am_cons (xm_var 1) (am_cons (xm_var 7) (am_cons (xm_var 8) (am_nil)))))))))) (sm_one (sm_ret (xm_bl))) (sm_nil)) (sm_cons (sm_set 4 sc_law.nd (xm_lst (am_cons (xm_var 7) (am_cons (xm_var 8) (am_cons (xm_add (xm_var 7) (xm_tup (am_cons (xm_tup (am_cons (xm_int) (am_cons (xm_int) (am_nil)))) (am_nil)))) (am_cons (xm_add (xm_var 7) (xm_tup (am_cons (xm_tup (am_cons (xm_int) (am_cons (xm_int) (am_nil)))) (am_nil)))) (am_cons (xm_tup (am_cons (xm_tup (am_cons (xm_int) (am_cons (xm_int) (am_nil)))) (am_nil))) (am_cons (xm_tup (am_cons (xm_tup (am_cons (xm_int) (am_cons (xm_int) (am_nil)))) (am_nil))) (am_cons (xm_tup (am_cons (xm_int) (am_cons (xm_int) (am_nil)))) (am_cons (xm_tup (am_cons (xm_tup (am_cons (xm_int) (am_cons (xm_int) (am_nil)))) (am_cons (xm_int) (am_nil)))) (am_cons (xm_str) (am_cons (xm_int) (am_cons (xm_tup (am_nil)) (am_cons (xm_add (xm_var 7) (xm_tup (am_cons (xm_tup (am_cons (xm_str) (am_cons (xm_int) (am_nil)))) (am_nil)))) (am_cons (xm_tup (am_cons (xm_tup (am_cons (xm_int) (am_cons (xm_int) (am_cons (xm_int) (am_nil))))) (am_nil))) (am_cons (xm_tup (am_cons (xm_tup (am_cons (xm_int) (am_cons (xm_neg (xm_int)) (am_nil)))) (am_nil))) (am_cons (xm_tup (am_cons (xm_var 7) (am_nil))) (am_nil)))))))))))))))))) (sm_one (sm_if (tm_not (tm_tru (xm_all n_all rfl (xm_lc rfl sc_law.nd (im_seq (xm_var 4)) (blkOk_by (own := [(("datum" : Str), 12)]) (by show blkC ["script", "state", "turn", "places", "data", "row", "other", "f", "g", "a", "b", "y", "datum", "d"] (defScope s_law) _ _ = true; decide +kernel)) (fun s H C cl fp => gm_name 12 sc_law.nd) (fun s H C cl fp => tms_nil) (fun s H C cl fp => xm_call G__law_said (hr) takes0 (am_cons (xm_call G_is_poly (hr) takes0 (am_cons (xm_var 12) (am_nil))) (am_cons (xm_call G__law_looks_like_one (hr) takes0 (am_cons (xm_var 12) (am_nil))) (am_nil)))) )))) (sm_one (sm_ret (xm_bl))) (sm_nil)))))))))))))))) (sm_one (sm_ret (xm_bl))))
end
def d_is_integer : He.DefD := ⟨("is_integer", none), "is_integer", "is_integer", defArgs s_is_integer, defBody s_is_integer, defScope s_is_integer, [], []⟩
def d_is_count : He.DefD := ⟨("is_count", none), "is_count", "is_count", defArgs s_is_count, defBody s_is_count, defScope s_is_count, [], []⟩
def d_is_items : He.DefD := ⟨("is_items", none), "is_items", "is_items", defArgs s_is_items, defBody s_is_items, defScope s_is_items, [], []⟩
def d_greatest_divisor : He.DefD := ⟨("greatest_divisor", none), "greatest_divisor", "greatest_divisor", defArgs s_greatest_divisor, defBody s_greatest_divisor, defScope s_greatest_divisor, [], []⟩
def d_fraction : He.DefD := ⟨("fraction", none), "fraction", "fraction", defArgs s_fraction, defBody s_fraction, defScope s_fraction, [], []⟩
def d_whole : He.DefD := ⟨("whole", none), "whole", "whole", defArgs s_whole, defBody s_whole, defScope s_whole, [], []⟩
def d_plus : He.DefD := ⟨("plus", none), "plus", "plus", defArgs s_plus, defBody s_plus, defScope s_plus, [], []⟩
def d_times : He.DefD := ⟨("times", none), "times", "times", defArgs s_times, defBody s_times, defScope s_times, [], []⟩
def d_is_fraction : He.DefD := ⟨("is_fraction", none), "is_fraction", "is_fraction", defArgs s_is_fraction, defBody s_is_fraction, defScope s_is_fraction, [], []⟩
def d_are_fractions : He.DefD := ⟨("are_fractions", none), "are_fractions", "are_fractions", defArgs s_are_fractions, defBody s_are_fractions, defScope s_are_fractions, [], []⟩
def d_poly_of : He.DefD := ⟨("poly_of", none), "poly_of", "poly_of", defArgs s_poly_of, defBody s_poly_of, defScope s_poly_of, [], []⟩
def d_is_poly : He.DefD := ⟨("is_poly", none), "is_poly", "is_poly", defArgs s_is_poly, defBody s_is_poly, defScope s_is_poly, [], []⟩
def d_poly_sum : He.DefD := ⟨("poly_sum", none), "poly_sum", "poly_sum", defArgs s_poly_sum, defBody s_poly_sum, defScope s_poly_sum, [], []⟩
def d_poly_times : He.DefD := ⟨("poly_times", none), "poly_times", "poly_times", defArgs s_poly_times, defBody s_poly_times, defScope s_poly_times, [], []⟩
def d_poly_product : He.DefD := ⟨("poly_product", none), "poly_product", "poly_product", defArgs s_poly_product, defBody s_poly_product, defScope s_poly_product, [], []⟩
def d_poly_value : He.DefD := ⟨("poly_value", none), "poly_value", "poly_value", defArgs s_poly_value, defBody s_poly_value, defScope s_poly_value, [], []⟩
def d_derived : He.DefD := ⟨("derived", none), "derived", "derived", defArgs s_derived, defBody s_derived, defScope s_derived, [], []⟩
def d_moved : He.DefD := ⟨("moved", none), "moved", "moved", defArgs s_moved, defBody s_moved, defScope s_moved, [], []⟩
def d__law_start : He.DefD := ⟨("_law_start", none), "_law_start", "_law_start", defArgs s__law_start, defBody s__law_start, defScope s__law_start, [], []⟩
def d__law_draw : He.DefD := ⟨("_law_draw", none), "_law_draw", "_law_draw", defArgs s__law_draw, defBody s__law_draw, defScope s__law_draw, [], []⟩
def d__law_is_int : He.DefD := ⟨("_law_is_int", none), "_law_is_int", "_law_is_int", defArgs s__law_is_int, defBody s__law_is_int, defScope s__law_is_int, [], []⟩
def d__law_same : He.DefD := ⟨("_law_same", none), "_law_same", "_law_same", defArgs s__law_same, defBody s__law_same, defScope s__law_same, [], []⟩
def d__law_low : He.DefD := ⟨("_law_low", none), "_law_low", "_law_low", defArgs s__law_low, defBody s__law_low, defScope s__law_low, [], []⟩
def d__law_add : He.DefD := ⟨("_law_add", none), "_law_add", "_law_add", defArgs s__law_add, defBody s__law_add, defScope s__law_add, [], []⟩
def d__law_mul : He.DefD := ⟨("_law_mul", none), "_law_mul", "_law_mul", defArgs s__law_mul, defBody s__law_mul, defScope s__law_mul, [], []⟩
def d__law_at : He.DefD := ⟨("_law_at", none), "_law_at", "_law_at", defArgs s__law_at, defBody s__law_at, defScope s__law_at, [], []⟩
def d__law_some_fraction : He.DefD := ⟨("_law_some_fraction", none), "_law_some_fraction", "_law_some_fraction", defArgs s__law_some_fraction, defBody s__law_some_fraction, defScope s__law_some_fraction, [], []⟩
def d__law_said : He.DefD := ⟨("_law_said", none), "_law_said", "_law_said", defArgs s__law_said, defBody s__law_said, defScope s__law_said, [], []⟩
def d__law_looks_like_one : He.DefD := ⟨("_law_looks_like_one", none), "_law_looks_like_one", "_law_looks_like_one", defArgs s__law_looks_like_one, defBody s__law_looks_like_one, defScope s__law_looks_like_one, [], []⟩
def d__law_some_row : He.DefD := ⟨("_law_some_row", none), "_law_some_row", "_law_some_row", defArgs s__law_some_row, defBody s__law_some_row, defScope s__law_some_row, [], []⟩
def d__law_is_worth_all : He.DefD := ⟨("_law_is_worth_all", none), "_law_is_worth_all", "_law_is_worth_all", defArgs s__law_is_worth_all, defBody s__law_is_worth_all, defScope s__law_is_worth_all, [], []⟩
def d__law_places : He.DefD := ⟨("_law_places", none), "_law_places", "_law_places", defArgs s__law_places, defBody s__law_places, defScope s__law_places, [], []⟩
def d__law_products_fit : He.DefD := ⟨("_law_products_fit", none), "_law_products_fit", "_law_products_fit", defArgs s__law_products_fit, defBody s__law_products_fit, defScope s__law_products_fit, [], []⟩
def d_law : He.DefD := ⟨("law", none), "law", "law", defArgs s_law, defBody s_law, defScope s_law, [], []⟩
def fn0 : List He.DefD := [d_is_integer, d_is_count, d_is_items, d_greatest_divisor, d_fraction, d_whole, d_plus, d_times, d_is_fraction, d_are_fractions, d_poly_of, d_is_poly, d_poly_sum, d_poly_times, d_poly_product, d_poly_value, d_derived, d_moved, d__law_start, d__law_draw, d__law_is_int, d__law_same, d__law_low, d__law_add, d__law_mul, d__law_at, d__law_some_fraction, d__law_said, d__law_looks_like_one, d__law_some_row]
def fn1 : List He.DefD := [d__law_is_worth_all, d__law_places, d__law_products_fit, d_law]
def fn : List He.DefD := fn0 ++ fn1
def fa_0 : List He.Fa := [.glo "is_integer", .glo "is_count", .glo "is_items", .glo "greatest_divisor", .glo "fraction", .glo "whole", .glo "plus", .glo "times", .glo "is_fraction", .glo "are_fractions", .glo "poly_of", .glo "is_poly", .glo "poly_sum", .glo "poly_times", .glo "poly_product", .glo "poly_value", .glo "derived", .glo "moved", .glo "_law_start", .glo "_law_draw", .glo "_law_is_int", .glo "_law_same", .glo "_law_low", .glo "_law_add", .glo "_law_mul", .glo "_law_at", .glo "_law_some_fraction", .glo "_law_said", .glo "_law_looks_like_one", .glo "_law_some_row"]
def fa_1 : List He.Fa := [.glo "_law_is_worth_all", .glo "_law_places", .glo "_law_products_fit", .glo "law", .free "isinstance", .free "int", .free "bool", .free "tuple", .free "len", .free "abs", .free "all", .free "max", .free "zip", .free "enumerate", .free "range", .free "list", .free "str"]
def fa_ : List He.Fa := fa_0 ++ fa_1
def cs0 : List (Str × D) := [("NOUGHT", c_NOUGHT)]
def cs : List (Str × D) := cs0
def loose0 : List Str := ["is_integer", "is_count", "is_items", "NOUGHT", "greatest_divisor", "fraction", "whole", "plus", "times", "is_fraction", "are_fractions", "poly_of", "is_poly", "poly_sum", "poly_times", "poly_product", "poly_value", "derived", "moved", "_law_start", "_law_draw", "_law_is_int", "_law_same", "_law_low", "_law_add", "_law_mul", "_law_at", "_law_some_fraction", "_law_said", "_law_looks_like_one"]
def loose1 : List Str := ["_law_some_row", "_law_is_worth_all", "_law_places", "_law_products_fit"]
def loose : List Str := loose0 ++ loose1
abbrev R : PySem.W.OpenRow := PySem.W.OpenLaw.row PySem.Challenge.rw_anymany_k02_polynomials_by_their_worths
abbrev hk : PySem.W.Hook := AM.hookC 5 cs fa_ fn
def ob (s : PySem.W.SharedT) : AM.AlC := AM.obsCG 5 cs fa_ fn (HandSHeadRun.getT s)
theorem ob_eq (s : PySem.W.SharedT) : ob s = hk.obs s.abs := AM.obsCG_eq (HandSHeadRun.getT_eq s)
theorem run (w : World) : HandSHeadRun.RunEq R (PySem.W.view R.prog [38]) hk ob 6000 loose w := by
  intro os
  kernel_rfl
theorem facts {P : Program} {w : World} {K : PySem.W.Frag} {h : Heap} {mg : Str → Option Value} {fa : Addr} (X : K.In h) (G : h.Ns mainGlobals mg) (c : AM.SaysC cs fa_ fn K) (hfa : mg "law" = some (.ref fa)) :
    ∃ fd : FuncData, (∀ (s : Shared) (v : Value), BindsTo s fd ⟨[v], []⟩ [("script", v)]) ∧ ∀ base : Heap, FnOk P w K mg base (L2.CX P w) 9 fa fd ["script"] (spM K mg m_law) := by
  have n_isinstance := He.free_ok X G (c.says.fact 34 (f := .free "isinstance") rfl)
  have n_int := He.free_ok X G (c.says.fact 35 (f := .free "int") rfl)
  have n_bool := He.free_ok X G (c.says.fact 36 (f := .free "bool") rfl)
  have n_tuple := He.free_ok X G (c.says.fact 37 (f := .free "tuple") rfl)
  have n_len := He.free_ok X G (c.says.fact 38 (f := .free "len") rfl)
  have n_abs := He.free_ok X G (c.says.fact 39 (f := .free "abs") rfl)
  have n_all := He.free_ok X G (c.says.fact 40 (f := .free "all") rfl)
  have n_max := He.free_ok X G (c.says.fact 41 (f := .free "max") rfl)
  have n_zip := He.free_ok X G (c.says.fact 42 (f := .free "zip") rfl)
  have n_enumerate := He.free_ok X G (c.says.fact 43 (f := .free "enumerate") rfl)
  have n_range := He.free_ok X G (c.says.fact 44 (f := .free "range") rfl)
  have n_list := He.free_ok X G (c.says.fact 45 (f := .free "list") rfl)
  have n_str := He.free_ok X G (c.says.fact 46 (f := .free "str") rfl)
  have gc_NOUGHT : GC K mg "NOUGHT" c_NOUGHT := c.const X G 0 rfl
  obtain ⟨fd_is_integer, F_is_integer⟩ := c.says.def_ 0 (d := d_is_integer) rfl
  have m_gis_integer := He.glo_ok X G (c.says.fact 0 (f := .glo "is_integer") rfl)
  obtain ⟨fd_is_count, F_is_count⟩ := c.says.def_ 1 (d := d_is_count) rfl
  have m_gis_count := He.glo_ok X G (c.says.fact 1 (f := .glo "is_count") rfl)
  obtain ⟨fd_is_items, F_is_items⟩ := c.says.def_ 2 (d := d_is_items) rfl
  have m_gis_items := He.glo_ok X G (c.says.fact 2 (f := .glo "is_items") rfl)
  obtain ⟨fd_greatest_divisor, F_greatest_divisor⟩ := c.says.def_ 3 (d := d_greatest_divisor) rfl
  have m_ggreatest_divisor := He.glo_ok X G (c.says.fact 3 (f := .glo "greatest_divisor") rfl)
  obtain ⟨fd_fraction, F_fraction⟩ := c.says.def_ 4 (d := d_fraction) rfl
  have m_gfraction := He.glo_ok X G (c.says.fact 4 (f := .glo "fraction") rfl)
  obtain ⟨fd_whole, F_whole⟩ := c.says.def_ 5 (d := d_whole) rfl
  have m_gwhole := He.glo_ok X G (c.says.fact 5 (f := .glo "whole") rfl)
  obtain ⟨fd_plus, F_plus⟩ := c.says.def_ 6 (d := d_plus) rfl
  have m_gplus := He.glo_ok X G (c.says.fact 6 (f := .glo "plus") rfl)
  obtain ⟨fd_times, F_times⟩ := c.says.def_ 7 (d := d_times) rfl
  have m_gtimes := He.glo_ok X G (c.says.fact 7 (f := .glo "times") rfl)
  obtain ⟨fd_is_fraction, F_is_fraction⟩ := c.says.def_ 8 (d := d_is_fraction) rfl
  have m_gis_fraction := He.glo_ok X G (c.says.fact 8 (f := .glo "is_fraction") rfl)
  obtain ⟨fd_are_fractions, F_are_fractions⟩ := c.says.def_ 9 (d := d_are_fractions) rfl
  have m_gare_fractions := He.glo_ok X G (c.says.fact 9 (f := .glo "are_fractions") rfl)
  obtain ⟨fd_poly_of, F_poly_of⟩ := c.says.def_ 10 (d := d_poly_of) rfl
  have m_gpoly_of := He.glo_ok X G (c.says.fact 10 (f := .glo "poly_of") rfl)
  obtain ⟨fd_is_poly, F_is_poly⟩ := c.says.def_ 11 (d := d_is_poly) rfl
  have m_gis_poly := He.glo_ok X G (c.says.fact 11 (f := .glo "is_poly") rfl)
  obtain ⟨fd_poly_sum, F_poly_sum⟩ := c.says.def_ 12 (d := d_poly_sum) rfl
  have m_gpoly_sum := He.glo_ok X G (c.says.fact 12 (f := .glo "poly_sum") rfl)
  obtain ⟨fd_poly_times, F_poly_times⟩ := c.says.def_ 13 (d := d_poly_times) rfl
  have m_gpoly_times := He.glo_ok X G (c.says.fact 13 (f := .glo "poly_times") rfl)
  obtain ⟨fd_poly_product, F_poly_product⟩ := c.says.def_ 14 (d := d_poly_product) rfl
  have m_gpoly_product := He.glo_ok X G (c.says.fact 14 (f := .glo "poly_product") rfl)
  obtain ⟨fd_poly_value, F_poly_value⟩ := c.says.def_ 15 (d := d_poly_value) rfl
  have m_gpoly_value := He.glo_ok X G (c.says.fact 15 (f := .glo "poly_value") rfl)
  obtain ⟨fd_derived, F_derived⟩ := c.says.def_ 16 (d := d_derived) rfl
  have m_gderived := He.glo_ok X G (c.says.fact 16 (f := .glo "derived") rfl)
  obtain ⟨fd_moved, F_moved⟩ := c.says.def_ 17 (d := d_moved) rfl
  have m_gmoved := He.glo_ok X G (c.says.fact 17 (f := .glo "moved") rfl)
  obtain ⟨fd__law_start, F__law_start⟩ := c.says.def_ 18 (d := d__law_start) rfl
  have m_g_law_start := He.glo_ok X G (c.says.fact 18 (f := .glo "_law_start") rfl)
  obtain ⟨fd__law_draw, F__law_draw⟩ := c.says.def_ 19 (d := d__law_draw) rfl
  have m_g_law_draw := He.glo_ok X G (c.says.fact 19 (f := .glo "_law_draw") rfl)
  obtain ⟨fd__law_is_int, F__law_is_int⟩ := c.says.def_ 20 (d := d__law_is_int) rfl
  have m_g_law_is_int := He.glo_ok X G (c.says.fact 20 (f := .glo "_law_is_int") rfl)
  obtain ⟨fd__law_same, F__law_same⟩ := c.says.def_ 21 (d := d__law_same) rfl
  have m_g_law_same := He.glo_ok X G (c.says.fact 21 (f := .glo "_law_same") rfl)
  obtain ⟨fd__law_low, F__law_low⟩ := c.says.def_ 22 (d := d__law_low) rfl
  have m_g_law_low := He.glo_ok X G (c.says.fact 22 (f := .glo "_law_low") rfl)
  obtain ⟨fd__law_add, F__law_add⟩ := c.says.def_ 23 (d := d__law_add) rfl
  have m_g_law_add := He.glo_ok X G (c.says.fact 23 (f := .glo "_law_add") rfl)
  obtain ⟨fd__law_mul, F__law_mul⟩ := c.says.def_ 24 (d := d__law_mul) rfl
  have m_g_law_mul := He.glo_ok X G (c.says.fact 24 (f := .glo "_law_mul") rfl)
  obtain ⟨fd__law_at, F__law_at⟩ := c.says.def_ 25 (d := d__law_at) rfl
  have m_g_law_at := He.glo_ok X G (c.says.fact 25 (f := .glo "_law_at") rfl)
  obtain ⟨fd__law_some_fraction, F__law_some_fraction⟩ := c.says.def_ 26 (d := d__law_some_fraction) rfl
  have m_g_law_some_fraction := He.glo_ok X G (c.says.fact 26 (f := .glo "_law_some_fraction") rfl)
  obtain ⟨fd__law_said, F__law_said⟩ := c.says.def_ 27 (d := d__law_said) rfl
  have m_g_law_said := He.glo_ok X G (c.says.fact 27 (f := .glo "_law_said") rfl)
  obtain ⟨fd__law_looks_like_one, F__law_looks_like_one⟩ := c.says.def_ 28 (d := d__law_looks_like_one) rfl
  have m_g_law_looks_like_one := He.glo_ok X G (c.says.fact 28 (f := .glo "_law_looks_like_one") rfl)
  obtain ⟨fd__law_some_row, F__law_some_row⟩ := c.says.def_ 29 (d := d__law_some_row) rfl
  have m_g_law_some_row := He.glo_ok X G (c.says.fact 29 (f := .glo "_law_some_row") rfl)
  obtain ⟨fd__law_is_worth_all, F__law_is_worth_all⟩ := c.says.def_ 30 (d := d__law_is_worth_all) rfl
  have m_g_law_is_worth_all := He.glo_ok X G (c.says.fact 30 (f := .glo "_law_is_worth_all") rfl)
  obtain ⟨fd__law_places, F__law_places⟩ := c.says.def_ 31 (d := d__law_places) rfl
  have m_g_law_places := He.glo_ok X G (c.says.fact 31 (f := .glo "_law_places") rfl)
  obtain ⟨fd__law_products_fit, F__law_products_fit⟩ := c.says.def_ 32 (d := d__law_products_fit) rfl
  have m_g_law_products_fit := He.glo_ok X G (c.says.fact 32 (f := .glo "_law_products_fit") rfl)
  obtain ⟨fd_law, F_law⟩ := c.says.def_ 33 (d := d_law) rfl
  have m_glaw := He.glo_ok X G (c.says.fact 33 (f := .glo "law") rfl)
  have e := hfa.symm.trans m_glaw
  cases e
  have b := FunD.bindsA (ps := ["script"]) F_law fun _ _ _ _ _ _ us hl => match us, hl with | [_], _ => rfl
  refine ⟨fd_law, fun s v => b s [v] rfl, fun base => ?_⟩
  have G_is_integer : FM P w K mg base 1 "is_integer" ["datum"] AM.k02.m_is_integer := ok_is_integer F_is_integer m_gis_integer n_isinstance n_int n_bool
  have G_is_count : FM P w K mg base 2 "is_count" ["datum", "least"] AM.k02.m_is_count := ok_is_count F_is_count m_gis_count G_is_integer
  have G_is_items : FM P w K mg base 1 "is_items" ["datum", "many"] AM.k02.m_is_items := ok_is_items F_is_items m_gis_items n_isinstance n_tuple n_len
  have G_greatest_divisor : FM P w K mg base 1 "greatest_divisor" ["a", "b"] AM.k02.m_greatest_divisor := ok_greatest_divisor F_greatest_divisor m_ggreatest_divisor n_abs
  have G_fraction : FM P w K mg base 2 "fraction" ["n", "d"] AM.k02.m_fraction := ok_fraction F_fraction m_gfraction G_greatest_divisor
  have G_whole : FM P w K mg base 1 "whole" ["n"] AM.k02.m_whole := ok_whole F_whole m_gwhole
  have G_plus : FM P w K mg base 3 "plus" ["a", "b"] AM.k02.m_plus := ok_plus F_plus m_gplus G_fraction
  have G_times : FM P w K mg base 3 "times" ["a", "b"] AM.k02.m_times := ok_times F_times m_gtimes G_fraction
  have G_is_fraction : FM P w K mg base 3 "is_fraction" ["datum"] AM.k02.m_is_fraction := ok_is_fraction F_is_fraction m_gis_fraction G_is_items G_is_integer G_is_count G_greatest_divisor
  have G_are_fractions : FM P w K mg base 4 "are_fractions" ["datum"] AM.k02.m_are_fractions := ok_are_fractions F_are_fractions m_gare_fractions n_isinstance n_tuple n_all G_is_fraction
  have G_poly_of : FM P w K mg base 1 "poly_of" ["row"] AM.k02.m_poly_of := ok_poly_of F_poly_of m_gpoly_of n_len n_tuple
  have G_is_poly : FM P w K mg base 5 "is_poly" ["datum"] AM.k02.m_is_poly := ok_is_poly F_is_poly m_gis_poly G_are_fractions
  have G_poly_sum : FM P w K mg base 4 "poly_sum" ["f", "g"] AM.k02.m_poly_sum := ok_poly_sum F_poly_sum m_gpoly_sum n_max n_len n_zip gc_NOUGHT G_poly_of G_plus
  have G_poly_times : FM P w K mg base 4 "poly_times" ["a", "f"] AM.k02.m_poly_times := ok_poly_times F_poly_times m_gpoly_times n_tuple G_times
  have G_poly_product : FM P w K mg base 4 "poly_product" ["f", "g"] AM.k02.m_poly_product := ok_poly_product F_poly_product m_gpoly_product n_len n_enumerate gc_NOUGHT G_plus G_times G_poly_of
  have G_poly_value : FM P w K mg base 4 "poly_value" ["f", "a"] AM.k02.m_poly_value := ok_poly_value F_poly_value m_gpoly_value gc_NOUGHT G_plus G_times
  have G_derived : FM P w K mg base 4 "derived" ["f"] AM.k02.m_derived := ok_derived F_derived m_gderived n_range n_len G_poly_of G_times G_whole
  have G_moved : FM P w K mg base 5 "moved" ["f", "a", "b"] AM.k02.m_moved := ok_moved F_moved m_gmoved G_poly_of G_poly_sum G_poly_product
  have G__law_start : FM P w K mg base 1 "_law_start" ["script"] AM.k02.m__law_start := ok__law_start F__law_start m_g_law_start n_list
  have G__law_draw : FM P w K mg base 1 "_law_draw" ["state", "most"] AM.k02.m__law_draw := ok__law_draw F__law_draw m_g_law_draw n_int n_len n_abs
  have G__law_is_int : FM P w K mg base 1 "_law_is_int" ["x"] AM.k02.m__law_is_int := ok__law_is_int F__law_is_int m_g_law_is_int n_isinstance n_int n_bool
  have G__law_same : FM P w K mg base 7 "_law_same" ["x", "y"] (AM.k02.m__law_same 5) := (ok__law_same F__law_same m_g_law_same n_isinstance n_tuple n_len n_all n_range n_str G__law_is_int 5).mono (by decide)
  have G__law_low : FM P w K mg base 1 "_law_low" ["n", "d"] AM.k02.m__law_low := ok__law_low F__law_low m_g_law_low n_abs n_int
  have G__law_add : FM P w K mg base 2 "_law_add" ["a", "b"] AM.k02.m__law_add := ok__law_add F__law_add m_g_law_add G__law_low
  have G__law_mul : FM P w K mg base 2 "_law_mul" ["a", "b"] AM.k02.m__law_mul := ok__law_mul F__law_mul m_g_law_mul G__law_low
  have G__law_at : FM P w K mg base 3 "_law_at" ["f", "a"] AM.k02.m__law_at := ok__law_at F__law_at m_g_law_at G__law_add G__law_mul
  have G__law_some_fraction : FM P w K mg base 2 "_law_some_fraction" ["state", "most"] AM.k02.m__law_some_fraction := ok__law_some_fraction F__law_some_fraction m_g_law_some_fraction G__law_low G__law_draw
  have G__law_said : FM P w K mg base 1 "_law_said" ["found", "due"] AM.k02.m__law_said := ok__law_said F__law_said m_g_law_said
  have G__law_looks_like_one : FM P w K mg base 2 "_law_looks_like_one" ["datum"] AM.k02.m__law_looks_like_one := ok__law_looks_like_one F__law_looks_like_one m_g_law_looks_like_one n_isinstance n_tuple n_len G__law_is_int G__law_low
  have G__law_some_row : FM P w K mg base 3 "_law_some_row" ["state"] AM.k02.m__law_some_row := ok__law_some_row F__law_some_row m_g_law_some_row n_range G__law_draw G__law_some_fraction
  have G__law_is_worth_all : FM P w K mg base 8 "_law_is_worth_all" ["h", "worths"] AM.k02.m__law_is_worth_all := ok__law_is_worth_all F__law_is_worth_all m_g_law_is_worth_all n_all G__law_looks_like_one G__law_same G__law_at
  have G__law_places : FM P w K mg base 3 "_law_places" ["state", "many"] AM.k02.m__law_places := ok__law_places F__law_places m_g_law_places n_range n_int G__law_low G__law_some_fraction
  have G__law_products_fit : FM P w K mg base 8 "_law_products_fit" ["state", "f", "g"] AM.k02.m__law_products_fit := ok__law_products_fit F__law_products_fit m_g_law_products_fit G_derived G_poly_product G_poly_sum G__law_same G__law_draw G_poly_of
  exact ok_law F_law n_range n_len n_all G__law_start G__law_some_row G__law_draw G_poly_of G__law_some_fraction G__law_places G__law_is_worth_all G__law_at G__law_same G_poly_value G__law_add G_poly_sum G__law_mul G_poly_times G_poly_product G_moved G__law_products_fit G__law_said G__law_looks_like_one G_is_poly
end AM.k02
open PySem PySem.W PySem.Calls PyProof.Rows L2
theorem AM.k02.holds (law : ∀ ns : List Int, ns.length ≤ 63 → AM.LawHolds AM.k02.m_law ns) : PySem.Challenge.rw_anymany_k02_polynomials_by_their_worths.Holds := by
  w_on; o_law
  refine HandSHeadRun.head_any (r := OpenLaw.row PySem.Challenge.rw_anymany_k02_polynomials_by_their_worths) (q := view (OpenLaw.row PySem.Challenge.rw_anymany_k02_polynomials_by_their_worths).prog [38]) (H := AM.k02.hk) (ob := AM.k02.ob) (M := 6000) (loose := AM.k02.loose) (d := HandSHeadRun.topDef (OpenLaw.row PySem.Challenge.rw_anymany_k02_polynomials_by_their_worths).prog 38) (kwd := []) AM.k02.ob_eq
    (by kernel_rfl) (fun s => by kernel_rfl) AM.k02.run (by kernel_rfl) (by kernel_rfl) (by kernel_rfl) (by rfl) (by first | assumption | decide +kernel) (by decide +kernel) ⟨rfl, rfl, rfl, rfl, rfl, by decide +kernel⟩ ?hw ?hc
  case hw => w_witness2
  case hc =>
    refine AM.walk_ofM (l := PySem.Challenge.rw_anymany_k02_polynomials_by_their_worths) (n := 63) (k := 9) rfl (by decide) (by kernel_rfl) ⟨rfl, by decide, by decide⟩ law ?F
    intro w mg fa h Y G hmg0
    obtain ⟨K, KX, c⟩ := Y
    have hmg : mg ("law" : PySem.Str) = some (.ref fa) := by
      have e : (HandSHeadRun.topDef (OpenLaw.row PySem.Challenge.rw_anymany_k02_polynomials_by_their_worths).prog 38).name = ("law" : PySem.Str) := by kernel_rfl
      rw [← e]
      exact hmg0
    obtain ⟨fd, hb, hF⟩ := AM.k02.facts (P := (PySem.Challenge.rw_anymany_k02_polynomials_by_their_worths).prog) (w := w) KX G c hmg
    exact ⟨K, KX, fd, hb, hF⟩


theorem PySem.Challenge.cw_anymany_k02_polynomials_by_their_worths_holds : PySem.Challenge.rw_anymany_k02_polynomials_by_their_worths.Holds := by
  exact AM.k02.holds AM.k02.law_holds
