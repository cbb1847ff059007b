import PyProof.Rows.All
import Wide.All
import OpenK.AllK
import Wide.FinOn
import HandS.ForMost
import HandS.ForExc
import HandS.CallSlots
import HandS.Flow
import HandS.ExcInit
import HandS.TupAny
import HandS.TryOnly
import HandS.Zip
import HandS.Wide
import HandS.Deep
import HandS.Style
import HandS.IsInst
import HandS.Keys
import HandS.ExcIs
import HandS.ExcOwn
import HandS.ExcValue
import KE.KExcInit
import PyProof.ReprRoads
import HandS.EndBits
import HandS.Small
import HandS.HeadHook1
import HandS.Head2
import PyProof.P3Eq
import PySem.Challenge.RW_shapelang_k84_errors_and_bounds
set_option Elab.async false
set_option linter.all false
set_option maxRecDepth 100000
set_option maxHeartbeats 2000000
/-! Sx1: data, stores, what represents what; computations; the judgements of the shallow layer. -/
namespace Sx
open PySem PySem.Spec PyProof.Rows L2

/-- data: what a value says, tuples whole; `fl` a list that nobody can change, `kt` a tuple of the text, `ref` an object of the store, `gl` a value of the text (class, def, built-in), `exc` an own exception that is held (its fields, the last one stored first) -/
inductive D where
  | non | bl (b : Bool) | int (i : Int) | str (x : Str) | tup (xs : List D) | fl (xs : List D) | kt (xs : List D) | ref (i : Nat) | gl (i : Nat) | exc (c : Nat) (ns : List Str) (ds : List D)

/-- objects that may change -/
inductive O where
  | lst (xs : List D)
  | dct (kvs : List (Key × D))
  | dtp (kvs : List (List Key × D))
  | ins (c : Nat) (fs : List (Str × D))
abbrev M := List O
/-- the classes and other values of the text, by number -/
structure Sv where
  cls : Nat → Addr
  val : Nat → V
structure G where
  k : PySem.W.Frag
  t : Sv
abbrev kx (X : Cx) (T : Sv) : G := ⟨X.K, T⟩

/-- a list that nobody changes -/
def SqF (K : PySem.W.Frag) (H : Hp) (a : Addr) (xs : List V) : Prop := (∃ o, H a = some (.frz o (.lst xs))) ∨ ∀ H', SqL K H' a xs

mutual
inductive Rp (K : G) (al : List Addr) (H : Hp) : V → D → Prop
  | non : Rp K al H .non .non
  | bl (b : Bool) : Rp K al H (.bl b) (.bl b)
  | int (i : Int) : Rp K al H (.int i) (.int i)
  | str (x : Str) : Rp K al H (.str x) (.str x)
  | tup {a : Addr} {vs : List V} {ds : List D} : H a = some (.tup vs) → RpL K al H vs ds → Rp K al H (.ref a) (.tup ds)
  | kt {a : Addr} {vs : List V} {ds : List D} : (∀ H', SqT K.k H' a vs) → RpL K al H vs ds → Rp K al H (.ref a) (.kt ds)
  | fl {a : Addr} {vs : List V} {ds : List D} : SqF K.k H a vs → RpL K al H vs ds → Rp K al H (.ref a) (.fl ds)
  | ref {a : Addr} {i : Nat} : al[i]? = some a → Rp K al H (.ref a) (.ref i)
  | gl (i : Nat) : Rp K al H (K.t.val i) (.gl i)
  | exc0 {a : Addr} {c : Nat} : H a = some (exo a (K.t.cls c) none) → Rp K al H (.ref a) (.exc c [] [])
  | exc {a dx : Addr} {c : Nat} {ns : List Str} {vs : List V} {ds : List D} : H a = some (exo a (K.t.cls c) (some dx)) → H dx = some (exd dx (ns.zip vs)) → ns.length = vs.length → RpL K al H vs ds → Rp K al H (.ref a) (.exc c ns ds)
inductive RpL (K : G) (al : List Addr) (H : Hp) : List V → List D → Prop
  | nil : RpL K al H [] []
  | cons {v : V} {vs : List V} {d : D} {ds : List D} : Rp K al H v d → RpL K al H vs ds → RpL K al H (v :: vs) (d :: ds)
end

/-- what never changes stays -/
structure Grow (H H' : Hp) : Prop where
  tup : ∀ a xs, H a = some (.tup xs) → H' a = some (.tup xs)
  frz : ∀ a o u, H a = some (.frz o u) → H' a = some (.frz o u)
  ext : ∀ a p, H a = some (.ext p) → H' a = some (.ext p)
theorem Grow.refl (H : Hp) : Grow H H := ⟨fun _ _ h => h, fun _ _ _ h => h, fun _ _ h => h⟩
theorem Grow.trans {H H1 H2 : Hp} (a : Grow H H1) (b : Grow H1 H2) : Grow H H2 := ⟨fun x xs h => b.tup x xs (a.tup x xs h), fun x o u h => b.frz x o u (a.frz x o u h), fun x p h => b.ext x p (a.ext x p h)⟩
theorem Grow.new {H : Hp} {p : Addr} {o : HO} (h : H p = none) : Grow H (upd H p o) :=
  ⟨fun a xs e => by rw [upd_ne (ne_of_none e h)]; exact e, fun a ob u e => by rw [upd_ne (ne_of_none e h)]; exact e, fun a q e => by rw [upd_ne (ne_of_none e h)]; exact e⟩
/-- an object that may change -/
def MutO : HO → Prop
  | .lst _ => True
  | .dK _ => True
  | .dT _ => True
  | .set _ _ => True
  | .ins _ _ _ => True
  | .own _ => True
  | .xd _ => True
  | _ => False
theorem Grow.mut {H : Hp} {p : Addr} {o u : HO} (h : H p = some u) (m : MutO u) : Grow H (upd H p o) :=
  ⟨fun a xs e => by
    by_cases z : a = p
    · subst z
      rw [h] at e
      cases Option.some.inj e
      exact m.elim
    · rw [upd_ne z]
      exact e, fun a ob v e => by
    by_cases z : a = p
    · subst z
      rw [h] at e
      cases Option.some.inj e
      exact m.elim
    · rw [upd_ne z]
      exact e, fun a q e => by
    by_cases z : a = p
    · subst z
      rw [h] at e
      cases Option.some.inj e
      exact m.elim
    · rw [upd_ne z]
      exact e⟩

/-- what stands behind a computation: the store's objects at al (more may have come), all others as they were -/
structure Ext (al : List Addr) (H : Hp) (al' : List Addr) (H' : Hp) : Prop where
  p : al <+: al'
  g : Grow H H'
  k : ∀ a u, H a = some u → a ∉ al → a ∉ al' ∧ H' a = some u
theorem Ext.refl (al : List Addr) (H : Hp) : Ext al H al H := ⟨List.prefix_refl _, Grow.refl _, fun _ _ h n => ⟨n, h⟩⟩
theorem Ext.trans {al al1 al2 : List Addr} {H H1 H2 : Hp} (a : Ext al H al1 H1) (b : Ext al1 H1 al2 H2) : Ext al H al2 H2 :=
  ⟨a.p.trans b.p, a.g.trans b.g, fun x u h n => let ⟨n1, h1⟩ := a.k x u h n; b.k x u h1 n1⟩
theorem Ext.lay {al : List Addr} {H : Hp} {p : Addr} {u : HO} (h : H p = none) : Ext al H al (upd H p u) :=
  ⟨List.prefix_refl _, Grow.new h, fun a w e n => ⟨n, by rw [upd_ne (ne_of_none e h)]; exact e⟩⟩
theorem Ext.add {al : List Addr} {H : Hp} {p : Addr} {u : HO} (h : H p = none) : Ext al H (al ++ [p]) (upd H p u) := by
  refine ⟨⟨_, rfl⟩, Grow.new h, fun a w e n => ⟨fun z => ?_, ?_⟩⟩
  · rcases List.mem_append.mp z with z | z
    · exact n z
    · rw [List.mem_singleton.mp z, h] at e
      cases e
  · rw [upd_ne (ne_of_none e h)]
    exact e
theorem Ext.mut {al : List Addr} {H : Hp} {p : Addr} {u : HO} (h : p ∈ al) (g : Grow H (upd H p u)) : Ext al H al (upd H p u) :=
  ⟨List.prefix_refl _, g, fun a w e n => ⟨n, by
    rw [upd_ne (fun z => n (by rw [z]; exact h))]
    exact e⟩⟩

section
variable {K : G} {al al' al2 : List Addr} {H H' H2 : Hp} {v : V} {d : D} {vs : List V} {ds : List D}
theorem sqT_grow {K : PySem.W.Frag} {a : Addr} (g : Grow H H') (h : SqT K H a vs) : SqT K H' a vs := by
  rcases h with (h | ⟨o, h⟩) | h
  · exact .inl (.inl (g.tup _ _ h))
  · exact .inl (.inr ⟨o, g.frz _ _ _ h⟩)
  · exact .inr h
theorem sqF_grow {K : PySem.W.Frag} {a : Addr} (g : Grow H H') (h : SqF K H a vs) : SqF K H' a vs := by
  rcases h with ⟨o, h⟩ | h
  · exact .inl ⟨o, g.frz _ _ _ h⟩
  · exact .inr h
theorem sqF_sq {K : PySem.W.Frag} {a : Addr} (h : SqF K H a vs) : SqL K H a vs := by
  rcases h with ⟨o, h⟩ | h
  · exact .inl (.inr ⟨o, h⟩)
  · exact h H
theorem pre_get {i : Nat} {a : Addr} (p : al <+: al') (h : al[i]? = some a) : al'[i]? = some a := by
  obtain ⟨t, rfl⟩ := p
  rw [List.getElem?_append_left (List.getElem?_eq_some_iff.mp h).1]
  exact h
mutual
theorem Rp.up {K : G} {al al' : List Addr} {H H' : Hp} {v : V} {d : D} (p : al <+: al') (g : Grow H H') : Rp K al H v d → Rp K al' H' v d
  | .non => .non
  | .bl b => .bl b
  | .int i => .int i
  | .str x => .str x
  | .tup h r => .tup (g.tup _ _ h) (RpL.up p g r)
  | .kt h r => .kt h (RpL.up p g r)
  | .fl h r => .fl (sqF_grow g h) (RpL.up p g r)
  | .ref h => .ref (pre_get p h)
  | .gl i => .gl i
  | .exc0 h => .exc0 (g.ext _ _ h)
  | .exc h1 h2 e r => .exc (g.ext _ _ h1) (g.ext _ _ h2) e (RpL.up p g r)
theorem RpL.up {K : G} {al al' : List Addr} {H H' : Hp} {vs : List V} {ds : List D} (p : al <+: al') (g : Grow H H') : RpL K al H vs ds → RpL K al' H' vs ds
  | .nil => .nil
  | .cons r t => .cons (Rp.up p g r) (RpL.up p g t)
end
theorem Rp.ext (x : Ext al H al' H') (r : Rp K al H v d) : Rp K al' H' v d := r.up x.p x.g
theorem RpL.ext (x : Ext al H al' H') (r : RpL K al H vs ds) : RpL K al' H' vs ds := r.up x.p x.g
theorem RpL.len : ∀ {vs : List V} {ds : List D}, RpL K al H vs ds → vs.length = ds.length
  | _, _, .nil => rfl
  | _, _, .cons _ t => congrArg (· + 1) (RpL.len t)
theorem RpL.get : ∀ {vs : List V} {ds : List D} {i : Nat} {d : D}, RpL K al H vs ds → ds[i]? = some d → ∃ v, vs[i]? = some v ∧ Rp K al H v d
  | _, _, _, _, .nil, e => by simp at e
  | _, _, 0, _, .cons r _, e => by
    simp at e
    subst e
    exact ⟨_, rfl, r⟩
  | _, _, i + 1, _, .cons _ t, e => by
    obtain ⟨v, h1, h2⟩ := RpL.get (i := i) t (by simpa using e)
    exact ⟨v, by simpa using h1, h2⟩
theorem RpL.getV : ∀ {vs : List V} {ds : List D} {i : Nat} {v : V}, RpL K al H vs ds → vs[i]? = some v → ∃ d, ds[i]? = some d ∧ Rp K al H v d
  | _, _, _, _, .nil, e => by simp at e
  | _, _, 0, _, .cons r _, e => by
    simp at e
    subst e
    exact ⟨_, rfl, r⟩
  | _, _, i + 1, _, .cons _ t, e => by
    obtain ⟨v, h1, h2⟩ := RpL.getV (i := i) t (by simpa using e)
    exact ⟨v, by simpa using h1, h2⟩
theorem RpL.app : ∀ {vs ws : List V} {ds es : List D}, RpL K al H vs ds → RpL K al H ws es → RpL K al H (vs ++ ws) (ds ++ es)
  | _, _, _, _, .nil, s => s
  | _, _, _, _, .cons r t, s => .cons r (RpL.app t s)
theorem RpL.take : ∀ {vs : List V} {ds : List D} (n : Nat), RpL K al H vs ds → RpL K al H (vs.take n) (ds.take n)
  | _, _, 0, _ => .nil
  | _, _, _ + 1, .nil => .nil
  | _, _, n + 1, .cons r t => .cons r (RpL.take n t)
theorem RpL.drop : ∀ {vs : List V} {ds : List D} (n : Nat), RpL K al H vs ds → RpL K al H (vs.drop n) (ds.drop n)
  | _, _, 0, r => r
  | _, _, _ + 1, .nil => .nil
  | _, _, n + 1, .cons _ t => RpL.drop n t
theorem RpL.set : ∀ {vs : List V} {ds : List D} {v : V} {d : D} (i : Nat), Rp K al H v d → RpL K al H vs ds → RpL K al H (vs.set i v) (ds.set i d)
  | _, _, _, _, _, _, .nil => .nil
  | _, _, _, _, 0, r, .cons _ t => .cons r t
  | _, _, _, _, i + 1, r, .cons q t => .cons q (RpL.set i r t)
theorem RpL.erase : ∀ {vs : List V} {ds : List D} (i : Nat), RpL K al H vs ds → RpL K al H (vs.eraseIdx i) (ds.eraseIdx i)
  | _, _, _, .nil => .nil
  | _, _, 0, .cons _ t => t
  | _, _, i + 1, .cons q t => .cons q (RpL.erase i t)
theorem RpL.rev : ∀ {vs : List V} {ds : List D}, RpL K al H vs ds → RpL K al H vs.reverse ds.reverse
  | _, _, .nil => .nil
  | _, _, .cons r t => by
    rw [List.reverse_cons, List.reverse_cons]
    exact RpL.app (RpL.rev t) (.cons r .nil)
/-- pairs of a name (a key) and a value -/
inductive RpF {κ : Type} (K : G) (al : List Addr) (H : Hp) : List (κ × V) → List (κ × D) → Prop
  | nil : RpF K al H [] []
  | cons {k : κ} {v : V} {vs : List (κ × V)} {d : D} {ds : List (κ × D)} : Rp K al H v d → RpF K al H vs ds → RpF K al H ((k, v) :: vs) ((k, d) :: ds)
theorem RpF.up {κ : Type} (p : al <+: al') (g : Grow H H') : ∀ {vs : List (κ × V)} {ds : List (κ × D)}, RpF K al H vs ds → RpF K al' H' vs ds
  | _, _, .nil => .nil
  | _, _, .cons r t => .cons (r.up p g) (RpF.up p g t)
theorem RpF.len {κ : Type} : ∀ {vs : List (κ × V)} {ds : List (κ × D)}, RpF K al H vs ds → vs.length = ds.length
  | _, _, .nil => rfl
  | _, _, .cons _ t => congrArg (· + 1) (RpF.len t)
theorem RpF.keys {κ : Type} : ∀ {vs : List (κ × V)} {ds : List (κ × D)}, RpF K al H vs ds → vs.map (·.1) = ds.map (·.1)
  | _, _, .nil => rfl
  | _, _, .cons _ t => by rw [List.map_cons, List.map_cons, RpF.keys t]
theorem RpF.lookup {fs : List (Str × V)} {ds : List (Str × D)} (r : RpF K al H fs ds) (f : Str) : (∃ v d, fs.lookup f = some v ∧ ds.lookup f = some d ∧ Rp K al H v d) ∨ (fs.lookup f = none ∧ ds.lookup f = none) := by
  induction r with
  | nil => exact .inr ⟨rfl, rfl⟩
  | @cons k v vs d ds r t ih =>
    by_cases e : f = k
    · subst e
      exact .inl ⟨v, d, by simp [List.lookup], by simp [List.lookup], r⟩
    · have e' : (f == k) = false := by simpa using e
      simpa [List.lookup, e'] using ih
end

/-- an object of the store as it stands -/
def ORp (K : G) (al : List Addr) (H : Hp) (a : Addr) : O → Prop
  | .lst ds => ∃ vs, H a = some (.lst vs) ∧ RpL K al H vs ds
  | .dct kvs => ∃ ws, H a = some (.dK ws) ∧ RpF K al H ws kvs
  | .dtp kvs => ∃ ws, H a = some (.dT ws) ∧ RpF K al H ws kvs
  | .ins c fs => ∃ dx gs, H a = some (.ins (K.t.cls c) dx gs) ∧ RpF K al H gs fs
theorem ORp.up {K : G} {al al' : List Addr} {H H' : Hp} {a : Addr} {o : O} (p : al <+: al') (g : Grow H H') (e : H' a = H a) (h : ORp K al H a o) : ORp K al' H' a o := by
  cases o with
  | lst ds => obtain ⟨vs, h, r⟩ := h; exact ⟨vs, e.trans h, r.up p g⟩
  | dct kvs => obtain ⟨vs, h, r⟩ := h; exact ⟨vs, e.trans h, r.up p g⟩
  | dtp kvs => obtain ⟨vs, h, r⟩ := h; exact ⟨vs, e.trans h, r.up p g⟩
  | ins C fs => obtain ⟨dx, vs, h, r⟩ := h; exact ⟨dx, vs, e.trans h, r.up p g⟩
theorem ORp.mut {K : G} {al : List Addr} {H : Hp} {a : Addr} {o : O} (h : ORp K al H a o) : ∃ u, H a = some u ∧ MutO u := by
  cases o with
  | lst ds => obtain ⟨vs, h, r⟩ := h; exact ⟨_, h, trivial⟩
  | dct kvs => obtain ⟨vs, h, r⟩ := h; exact ⟨_, h, trivial⟩
  | dtp kvs => obtain ⟨vs, h, r⟩ := h; exact ⟨_, h, trivial⟩
  | ins C fs => obtain ⟨dx, vs, h, r⟩ := h; exact ⟨_, h, trivial⟩

structure Sim (K : G) (al : List Addr) (m : M) (H : Hp) : Prop where
  len : al.length = m.length
  nd : al.Nodup
  ob : ∀ (i : Nat) (o : O) (a : Addr), m[i]? = some o → al[i]? = some a → ORp K al H a o
section
variable {K : G} {al : List Addr} {m : M} {H H' : Hp}
theorem Sim.at (S : Sim K al m H) {i : Nat} {o : O} (h : m[i]? = some o) : ∃ a, al[i]? = some a ∧ ORp K al H a o := by
  have hi : i < al.length := by rw [S.len]; exact (List.getElem?_eq_some_iff.mp h).1
  exact ⟨al[i], List.getElem?_eq_getElem hi, S.ob i o _ h (List.getElem?_eq_getElem hi)⟩
theorem Sim.of (S : Sim K al m H) {i : Nat} {a : Addr} (h : al[i]? = some a) : ∃ o, m[i]? = some o ∧ ORp K al H a o := by
  have hi : i < m.length := by rw [← S.len]; exact (List.getElem?_eq_some_iff.mp h).1
  exact ⟨m[i], List.getElem?_eq_getElem hi, S.ob i _ _ (List.getElem?_eq_getElem hi) h⟩
theorem Sim.there (S : Sim K al m H) {a : Addr} (h : a ∈ al) : ∃ u, H a = some u ∧ MutO u := by
  obtain ⟨i, hi, e⟩ := List.getElem_of_mem h
  obtain ⟨o, _, r⟩ := S.of (i := i) (a := a) (by rw [List.getElem?_eq_getElem hi, e])
  exact r.mut
theorem Sim.keep (S : Sim K al m H) (g : Grow H H') (k : ∀ a ∈ al, H' a = H a) : Sim K al m H' :=
  ⟨S.len, S.nd, fun i o a h1 h2 => (S.ob i o a h1 h2).up (List.prefix_refl _) g (k a (List.mem_of_getElem? h2))⟩
/-- an object that no store object is comes -/
theorem Sim.lay (S : Sim K al m H) {p : Addr} {u : HO} (h : H p = none) : Sim K al m (upd H p u) :=
  S.keep (Grow.new h) fun a ha => upd_ne (by
    obtain ⟨u, e, _⟩ := S.there ha
    exact ne_of_none e h)
/-- a new object of the store -/
theorem Sim.add (S : Sim K al m H) {p : Addr} {u : HO} {o : O} (h : H p = none) (r : ORp K (al ++ [p]) (upd H p u) p o) : Sim K (al ++ [p]) (m ++ [o]) (upd H p u) := by
  have hp : p ∉ al := fun z => by
    obtain ⟨u, e, _⟩ := S.there z
    rw [h] at e
    cases e
  refine ⟨by simp [S.len], List.nodup_append.mpr ⟨S.nd, by simp, fun a ha b hb => by
    rw [List.mem_singleton.mp hb]
    rintro rfl
    exact hp ha⟩, fun i q a h1 h2 => ?_⟩
  by_cases hi : i < m.length
  · rw [List.getElem?_append_left hi] at h1
    rw [List.getElem?_append_left (by rw [S.len]; exact hi)] at h2
    refine (S.ob i q a h1 h2).up ⟨_, rfl⟩ (Grow.new h) (upd_ne ?_)
    rintro rfl
    exact hp (List.mem_of_getElem? h2)
  · have hi' : i = m.length := by
      have := (List.getElem?_eq_some_iff.mp h1).1
      simp at this
      omega
    subst hi'
    rw [List.getElem?_append_right (Nat.le_refl _)] at h1
    rw [← S.len, List.getElem?_append_right (Nat.le_refl _)] at h2
    simp at h1 h2
    subst h1
    subst h2
    exact r
theorem nodup_at {al : List Addr} (nd : al.Nodup) {i j : Nat} {a : Addr} (h1 : al[i]? = some a) (h2 : al[j]? = some a) : i = j := by
  obtain ⟨x1, e1⟩ := List.getElem?_eq_some_iff.mp h1
  obtain ⟨x2, e2⟩ := List.getElem?_eq_some_iff.mp h2
  exact (List.getElem_inj nd).mp (e1.trans e2.symm)
/-- an object of the store is written -/
theorem Sim.write (S : Sim K al m H) {i : Nat} {a : Addr} {u : HO} {o : O} (h : al[i]? = some a) (r : Grow H (upd H a u) → ORp K al (upd H a u) a o) : Grow H (upd H a u) ∧ Sim K al (m.set i o) (upd H a u) := by
  obtain ⟨w, e, mu⟩ := S.there (List.mem_of_getElem? h)
  have g : Grow H (upd H a u) := Grow.mut e mu
  refine ⟨g, ⟨by simp [S.len], S.nd, fun j q b h1 h2 => ?_⟩⟩
  by_cases hj : j = i
  · subst hj
    rw [h] at h2
    cases h2
    have hl : j < m.length := by rw [← S.len]; exact (List.getElem?_eq_some_iff.mp h).1
    rw [List.getElem?_set_self hl] at h1
    cases h1
    exact r g
  · rw [List.getElem?_set_ne (Ne.symm hj)] at h1
    refine (S.ob j q b h1 h2).up (List.prefix_refl _) g (upd_ne ?_)
    rintro rfl
    exact hj (nodup_at S.nd h2 h)
end

/-! ### computations -/
/-- an exception: its class, its fields (none: it has no dict) -/
structure Ex where
  cls : Value
  fs : Option (List (Str × D))
inductive Rs (α : Type) where
  | ok (a : α)
  | ex (e : Ex)
abbrev R (α : Type) := Option (Rs α × M)
abbrev En := List (Option D)
abbrev Cp (α : Type) := En → M → R α
def bind {α β : Type} (c : R α) (f : α → M → R β) : R β :=
  match c with
  | some (.ok a, m) => f a m
  | some (.ex e, m) => some (.ex e, m)
  | none => none
@[simp] theorem bind_ok {α β : Type} (a : α) (m : M) (f : α → M → R β) : bind (some (.ok a, m)) f = f a m := rfl
@[simp] theorem bind_ex {α β : Type} (e : Ex) (m : M) (f : α → M → R β) : bind (some (.ex e, m)) f = some (.ex e, m) := rfl
@[simp] theorem bind_none {α β : Type} (f : α → M → R β) : bind none f = none := rfl

/-- an exception as it flies -/
def XRp (K : G) (al : List Addr) (H : Hp) (c : Value) (dx : Option Addr) (e : Ex) : Prop :=
  c = e.cls ∧ ((dx = none ∧ e.fs = none) ∨ ∃ (d : Addr) (gs : List (Str × V)) (fs : List (Str × D)), dx = some d ∧ e.fs = some fs ∧ H d = some (.xd gs) ∧ (∀ f, (∃ v y, gs.lookup f = some v ∧ fs.lookup f = some y ∧ Rp K al H v y) ∨ (gs.lookup f = none ∧ fs.lookup f = none)))

/-- what must hold of the end of a computation -/
def Fin {W α : Type} (K : G) (rel : List Addr → Hp → W → α → Prop) (E : XK) (al : List Addr) (H : Hp) (Q : W → Hp → Prop) : R α → Prop
  | some (.ok d, m) => ∀ al' H' w, Ext al H al' H' → Sim K al' m H' → rel al' H' w d → Q w H'
  | some (.ex e, m) => ∀ al' H' c dx, Ext al H al' H' → Sim K al' m H' → XRp K al' H' c dx e → E c dx H'
  | none => False
section
variable {K : G} {W U α β : Type} {rel : List Addr → Hp → W → α → Prop} {rel' : List Addr → Hp → U → β → Prop} {E : XK} {al al1 : List Addr} {H H1 : Hp} {Q Q' : W → Hp → Prop} {S : U → Hp → Prop}
theorem Fin.up (p : Ext al H al1 H1) : ∀ {r : R α}, Fin K rel E al H Q r → Fin K rel E al1 H1 Q r
  | some (.ok _, _), f => fun al' H' w p' s q => f al' H' w (p.trans p') s q
  | some (.ex _, _), f => fun al' H' c dx p' s q => f al' H' c dx (p.trans p') s q
  | none, f => f
theorem Fin.mono (k : ∀ w H', Q w H' → Q' w H') : ∀ {r : R α}, Fin K rel E al H Q r → Fin K rel E al H Q' r
  | some (.ok _, _), f => fun al' H' w p' s q => k _ _ (f al' H' w p' s q)
  | some (.ex _, _), f => f
  | none, f => f
/-- what a value of a part is known to be -/
structure Got (K : G) (rel : List Addr → Hp → W → α → Prop) (al : List Addr) (H : Hp) (w : W) (H1 : Hp) (d : α) (m1 : M) (al1 : List Addr) : Prop where
  x : Ext al H al1 H1
  s : Sim K al1 m1 H1
  r : rel al1 H1 w d
theorem Fin.bind {c : R α} {f : α → M → R β} (h : Fin K rel' E al H S (bind c f)) :
    Fin K rel E al H (fun w H1 => ∃ d m1 al1, Got K rel al H w H1 d m1 al1 ∧ Fin K rel' E al1 H1 S (f d m1)) c := by
  rcases c with _ | ⟨_ | _, _⟩
  · exact h
  · exact fun al' H' w p s q => ⟨_, _, al', ⟨p, s, q⟩, Fin.up p h⟩
  · exact h
theorem Fin.ret {a : α} {m : M} {w : W} (h : Fin K rel E al H Q (some (.ok a, m))) (s : Sim K al m H) (q : rel al H w a) : Q w H := h al H w (Ext.refl _ _) s q
end

/-- the frame's names -/
structure Er (K : G) (al : List Addr) (H : Hp) (σ : L2.St) (ρ : En) : Prop where
  len : σ.length = ρ.length
  at_ : ∀ (i : Nat) (d : D), ρ[i]? = some (some d) → ∃ v, σ[i]? = some (some v) ∧ Rp K al H v d
theorem Er.up {K : G} {al al' : List Addr} {H H' : Hp} {σ : L2.St} {ρ : En} (e : Er K al H σ ρ) (x : Ext al H al' H') : Er K al' H' σ ρ :=
  ⟨e.len, fun i d h => let ⟨v, h1, h2⟩ := e.at_ i d h; ⟨v, h1, h2.up x.p x.g⟩⟩
theorem Er.put {K : G} {al : List Addr} {H : Hp} {σ : L2.St} {ρ : En} {i : Nat} {v : V} {d : D} (e : Er K al H σ ρ) (r : Rp K al H v d) : Er K al H (σ.set i (some v)) (ρ.set i (some d)) := by
  refine ⟨by simp [e.len], fun j x h => ?_⟩
  by_cases hj : j = i
  · subst hj
    have hl : j < ρ.length := by
      have := (List.getElem?_eq_some_iff.mp h).1
      simpa using this
    rw [List.getElem?_set_self hl] at h
    cases h
    exact ⟨v, by rw [List.getElem?_set_self (by rw [e.len]; exact hl)], r⟩
  · rw [List.getElem?_set_ne (Ne.symm hj)] at h
    rw [List.getElem?_set_ne (Ne.symm hj)]
    exact e.at_ j x h
theorem Er.del {K : G} {al : List Addr} {H : Hp} {σ : L2.St} {ρ : En} {i : Nat} (e : Er K al H σ ρ) : Er K al H (σ.set i none) (ρ.set i none) := by
  refine ⟨by simp [e.len], fun j x h => ?_⟩
  by_cases hj : j = i
  · subst hj
    have hl : j < ρ.length := by
      have := (List.getElem?_eq_some_iff.mp h).1
      simpa using this
    rw [List.getElem?_set_self hl] at h
    cases h
  · rw [List.getElem?_set_ne (Ne.symm hj)] at h
    rw [List.getElem?_set_ne (Ne.symm hj)]
    exact e.at_ j x h

/-! ### the judgements. W: what is wished of an exception, with the slots -/
def tD (K : G) (W : WX) (c : Cp D) : TE := fun σ H Q => ∃ ρ m al, Er K al H σ ρ ∧ Sim K al m H ∧ Fin K (Rp K) (fun c d H' => W c d σ H') al H Q (c ρ m)
def tBD (K : G) (W : WX) (c : Cp Bool) : TT := fun σ H Q => ∃ ρ m al, Er K al H σ ρ ∧ Sim K al m H ∧ Fin K (fun _ _ (x : Bool) y => x = y) (fun c d H' => W c d σ H') al H Q (c ρ m)
def tAD (K : G) (W : WX) (c : Cp (List D)) : TA := fun σ H Q => ∃ ρ m al, Er K al H σ ρ ∧ Sim K al m H ∧ Fin K (RpL K) (fun c d H' => W c d σ H') al H Q (c ρ m)
structure IE (T : Sv) (X : Cx) (W : WX) (e : Expr) (c : Cp D) : Prop where
  pe : PE X e (tD (kx X T) W c)
structure IT (T : Sv) (X : Cx) (W : WX) (e : Expr) (c : Cp Bool) : Prop where
  pt : PT X e (tBD (kx X T) W c)
structure IW (T : Sv) (X : Cx) (W : WX) (e : Expr) (c : Cp Bool) : Prop where
  pw : PW X e (tBD (kx X T) W c)
structure IA (T : Sv) (X : Cx) (W : WX) (es : List Expr) (c : Cp (List D)) : Prop where
  pa : PA X es (tAD (kx X T) W c)
theorem PE.weak {X : Cx} {e : Expr} {t t' : TE} (h : PE X e t) (w : ∀ σ H Q, t' σ H Q → t σ H Q) : PE X e t' := ⟨fun pins s σ H Q I q => h.run pins s σ H Q I (w _ _ _ q)⟩
theorem PT.weak {X : Cx} {e : Expr} {t t' : TT} (h : PT X e t) (w : ∀ σ H Q, t' σ H Q → t σ H Q) : PT X e t' := ⟨fun pins s σ H Q I q => h.run pins s σ H Q I (w _ _ _ q)⟩
theorem PW.weak {X : Cx} {e : Expr} {t t' : TT} (h : PW X e t) (w : ∀ σ H Q, t' σ H Q → t σ H Q) : PW X e t' := ⟨fun wh pins s σ H Q I q => h.run wh pins s σ H Q I (w _ _ _ q)⟩
theorem PA.weak {X : Cx} {e : List Expr} {t t' : TA} (h : PA X e t) (w : ∀ σ H Q, t' σ H Q → t σ H Q) : PA X e t' := ⟨fun pos pins s σ H Q I q => h.run pos pins s σ H Q I (w _ _ _ q)⟩
theorem PS.weak {X : Cx} {e : Stmt} {t t' : TS} (h : PS X e t) (w : ∀ D σ H, t' D σ H → t D σ H) : PS X e t' := ⟨fun pins s σ H D I q => h.run pins s σ H D I (w _ _ _ q)⟩
theorem PSs.weak {X : Cx} {e : List Stmt} {t t' : TS} (h : PSs X e t) (w : ∀ D σ H, t' D σ H → t D σ H) : PSs X e t' := ⟨fun pins s σ H D I q => h.run pins s σ H D I (w _ _ _ q)⟩

/-! statements -/
inductive Fl where
  | nx (ρ : En)
  | rt (d : D)
  | bk (ρ : En)
  | ct (ρ : En)
  | ex (e : Ex) (ρ : En)
abbrev RS := Option (Fl × M)
abbrev Cs := En → M → RS
def FinS (K : G) (W : WX) (al : List Addr) (H : Hp) (D : Ends) : RS → Prop
  | some (.nx ρ, m) => ∀ al' H' σ', Ext al H al' H' → Sim K al' m H' → Er K al' H' σ' ρ → D.nx σ' H'
  | some (.bk ρ, m) => ∀ al' H' σ', Ext al H al' H' → Sim K al' m H' → Er K al' H' σ' ρ → D.bk σ' H'
  | some (.ct ρ, m) => ∀ al' H' σ', Ext al H al' H' → Sim K al' m H' → Er K al' H' σ' ρ → D.ct σ' H'
  | some (.rt d, m) => ∀ al' H' v, Ext al H al' H' → Sim K al' m H' → Rp K al' H' v d → D.rt v H'
  | some (.ex e ρ, m) => ∀ al' H' σ' c dx, Ext al H al' H' → Sim K al' m H' → Er K al' H' σ' ρ → XRp K al' H' c dx e → W c dx σ' H'
  | none => False
theorem FinS.up {K : G} {W : WX} {al al1 : List Addr} {H H1 : Hp} {D : Ends} (p : Ext al H al1 H1) : ∀ {r : RS}, FinS K W al H D r → FinS K W al1 H1 D r
  | some (.nx _, _), f => fun al' H' w p' s q => f al' H' w (p.trans p') s q
  | some (.bk _, _), f => fun al' H' w p' s q => f al' H' w (p.trans p') s q
  | some (.ct _, _), f => fun al' H' w p' s q => f al' H' w (p.trans p') s q
  | some (.rt _, _), f => fun al' H' w p' s q => f al' H' w (p.trans p') s q
  | some (.ex _ _, _), f => fun al' H' σ' c dx p' s e q => f al' H' σ' c dx (p.trans p') s e q
  | none, f => f
def tSD (K : G) (W : WX) (c : Cs) : TS := fun D σ H => ∃ ρ m al, Er K al H σ ρ ∧ Sim K al m H ∧ FinS K W al H D (c ρ m)
structure IS (T : Sv) (X : Cx) (W : WX) (st : Stmt) (c : Cs) : Prop where
  ps : PS X st (tSD (kx X T) W c)
structure ISs (T : Sv) (X : Cx) (W : WX) (st : List Stmt) (c : Cs) : Prop where
  ps : PSs X st (tSD (kx X T) W c)
end Sx

set_option Elab.async false
set_option linter.all false
set_option maxRecDepth 100000
set_option maxHeartbeats 2000000
/-! Sx2: expressions: names, constants, operators, tests, displays, subscripts, slices. -/
namespace Sx
open PySem PySem.Spec PyProof.Rows L2

abbrev lim : Nat := 1000000
theorem lim_ok {n : Nat} (h : n ≤ lim) : n ≤ sizeLine := Nat.le_trans h (by decide)
theorem lim_lt {n : Nat} (h : n < lim) : n < sizeLine := Nat.lt_of_lt_of_le h (by decide)

/-- a value, the store as it is -/
abbrev ok {α : Type} (a : α) (m : M) : R α := some (.ok a, m)
/-- a new object -/
abbrev new (o : O) (m : M) : R D := some (.ok (.ref m.length), m ++ [o])

section
variable {T : Sv} {X : Cx} {W : WX} {e a b c : Expr} {ca cb cc : Cp D} {pos : Pos} {K : G} {al : List Addr} {H : Hp} {Q : VK} {m : M} {E : XK}
theorem fin_new {o : O} {p : Addr} {u : HO} (f : Fin K (Rp K) E al H Q (new o m)) (s : Sim K al m H) (h : H p = none) (r : ORp K (al ++ [p]) (upd H p u) p o) : Q (.ref p) (upd H p u) :=
  f _ _ _ (Ext.add h) (s.add h r) (.ref (by rw [← s.len, List.getElem?_append_right (Nat.le_refl _)]; simp))
theorem fin_tup {vs : List V} {ds : List D} {p : Addr} (f : Fin K (Rp K) E al H Q (ok (.tup ds) m)) (s : Sim K al m H) (h : H p = none) (r : RpL K al H vs ds) : Q (.ref p) (upd H p (.tup vs)) :=
  f _ _ _ (Ext.lay h) (s.lay h) (.tup upd_same (r.up (List.prefix_refl _) (Grow.new h)))
theorem fin_set {d : D} {v : V} {i : Nat} {p : Addr} {o : O} {u : HO} (f : Fin K (Rp K) E al H Q (ok d (m.set i o))) (s : Sim K al m H) (h : al[i]? = some p) (r : Grow H (upd H p u) → ORp K al (upd H p u) p o) (q : Grow H (upd H p u) → Rp K al (upd H p u) v d) : Q v (upd H p u) := by
  obtain ⟨g, s'⟩ := s.write h r
  exact f _ _ _ (Ext.mut (List.mem_of_getElem? h) g) s' (q g)

/-! names, constants -/
def cVar (i : Nat) : Cp D := fun ρ m => match ρ[i]? with
  | some (some d) => ok d m
  | _ => none
theorem ie_var {i : Nat} (h : PE X e (tVar i)) : IE T X W e (cVar i) := ⟨PE.weak h fun σ H Q ⟨ρ, m, al, er, s, f⟩ => by
  unfold cVar at f
  rcases hh : ρ[i]? with _ | _ | d
  · rw [hh] at f; exact f.elim
  · rw [hh] at f; exact f.elim
  · rw [hh] at f
    obtain ⟨v, h1, h2⟩ := er.at_ i d hh
    exact ⟨v, h1, f.ret s h2⟩⟩
def cC (d : D) : Cp D := fun _ m => ok d m
theorem ie_c {v : V} {d : D} (h : PE X e (tC v)) (r : ∀ al H, Rp (kx X T) al H v d) : IE T X W e (cC d) := ⟨PE.weak h fun σ H Q ⟨ρ, m, al, er, s, f⟩ => f.ret s (r al H)⟩
theorem ie_int {i : Int} {j} : IE T X W (.Constant (.int i) j pos) (cC (.int i)) := ie_c pe_int fun _ _ => .int i
theorem ie_bl {i : Bool} {j} : IE T X W (.Constant (.bool i) j pos) (cC (.bl i)) := ie_c pe_bl fun _ _ => .bl i
theorem ie_non {j} : IE T X W (.Constant .none j pos) (cC .non) := ie_c pe_non fun _ _ => .non
theorem ie_str {i : Str} {j} : IE T X W (.Constant (.str i) j pos) (cC (.str i)) := ie_c pe_str fun _ _ => .str i
/-- a tuple of the text, as data -/
theorem rp_glT {K : G} {a : Addr} {vs : List V} {ds : List D} (h : ∀ H, SqT K.k H a vs) (r : ∀ al H, RpL K al H vs ds) (al : List Addr) (H : Hp) : Rp K al H (.ref a) (.kt ds) := .kt h (r al H)

/-! operators -/
def cBin (g : D → D → M → R D) (ca cb : Cp D) : Cp D := fun ρ m => bind (ca ρ m) fun x m1 => bind (cb ρ m1) fun y m2 => g x y m2
def cUn (g : D → M → R D) (ca : Cp D) : Cp D := fun ρ m => bind (ca ρ m) fun x m1 => g x m1
def rD (K : G) (E : XK) (g : D → D → M → R D) : R2 := fun x y H Q => ∃ d e m al, Sim K al m H ∧ Rp K al H x d ∧ Rp K al H y e ∧ Fin K (Rp K) E al H Q (g d e m)
/-- an operation of two values does what g says -/
def OpD (T : Sv) (X : Cx) (f : Value → Value → Sem Value) (g : D → D → M → R D) : Prop := ∀ E, OpR X f (rD (kx X T) E g)
def UnD (T : Sv) (X : Cx) (f : Value → Sem Value) (g : D → M → R D) : Prop := ∀ E, UnR X f fun x H Q => ∃ d m al, Sim (kx X T) al m H ∧ Rp (kx X T) al H x d ∧ Fin (kx X T) (Rp (kx X T)) E al H Q (g d m)
theorem bin_w {g : D → D → M → R D} {K : G} (σ : L2.St) (H : Hp) (Q : VK) (h : tD K W (cBin g ca cb) σ H Q) : tOp (rD K (fun c d H' => W c d σ H') g) (tD K W ca) (tD K W cb) σ H Q := by
  obtain ⟨ρ, m, al, er, s, f⟩ := h
  refine ⟨ρ, m, al, er, s, Fin.mono (fun x H1 h1 => ?_) (Fin.bind (rel := Rp K) f)⟩
  obtain ⟨d, m1, al1, g1, f1⟩ := h1
  refine ⟨ρ, m1, al1, er.up g1.x, g1.s, Fin.mono (fun y H2 h2 => ?_) (Fin.bind (rel := Rp K) f1)⟩
  obtain ⟨e, m2, al2, g2, f2⟩ := h2
  exact ⟨d, e, m2, al2, g2.s, g1.r.ext g2.x, g2.r, f2⟩
end
/-- the wish of two places: x op y at values, in the wish of the slots -/
theorem pe_opW {T : Sv} {X : Cx} {W : WX} {a b : Expr} {ca cb : Cp D} {pos : Pos} {op : Operator} {g : D → D → M → R D} (ho : OpD T X (binaryOp op) g) (ha : IE T X W a ca) (hb : IE T X W b cb) : IE T X W (.BinOp a op b pos) (cBin g ca cb) :=
  ⟨⟨fun pins s σ H Q I q => (pe_op (ho _) ha.pe hb.pe).run pins s σ H Q I (bin_w σ H Q q)⟩⟩
section
variable {T : Sv} {X : Cx} {W : WX} {e a b c : Expr} {ca cb cc : Cp D} {pos : Pos}
theorem ie_un {op : UnaryOp} {g : D → M → R D} (ho : UnD T X (unaryOp op) g) (ha : IE T X W a ca) : IE T X W (.UnaryOp op a pos) (cUn g ca) :=
  ⟨⟨fun pins s σ H Q I q => (pe_un (ho fun c d H' => W c d σ H') ha.pe).run pins s σ H Q I (by
    obtain ⟨ρ, m, al, er, s, f⟩ := q
    refine ⟨ρ, m, al, er, s, Fin.mono (fun x H1 h1 => ?_) (Fin.bind (rel := Rp (kx X T)) f)⟩
    obtain ⟨d, m1, al1, g1, f1⟩ := h1
    exact ⟨d, m1, al1, g1.s, g1.r, f1⟩)⟩⟩
theorem ie_cmp {op : CmpOp} {g : D → D → M → R D} (ho : OpD T X (compareOp op) g) (ha : IE T X W a ca) (hb : IE T X W b cb) (hm : behindInMarks op b = false) : IE T X W (.Compare a [op] [b] pos) (cBin g ca cb) :=
  ⟨⟨fun pins s σ H Q I q => (pe_cmpR (ho _) ha.pe hb.pe hm).run pins s σ H Q I (bin_w σ H Q q)⟩⟩
/-- the truth that a comparison gives -/
def asB (d : D) (m : M) : R Bool := match d with
  | .bl b => ok b m
  | _ => none
def cB (c : Cp D) : Cp Bool := fun ρ m => bind (c ρ m) asB
theorem fin_asB {K : G} {E : XK} {al : List Addr} {H : Hp} {Q : Bool → Hp → Prop} {r : R D} (f : Fin K (fun _ _ (x : Bool) y => x = y) E al H Q (bind r asB)) :
    Fin K (Rp K) E al H (fun x H' => ∃ k, x = .bl k ∧ Q k H') r := by
  refine Fin.mono (fun x H1 h1 => ?_) (Fin.bind (rel := Rp K) f)
  obtain ⟨d, m1, al1, g1, f1⟩ := h1
  have r1 := g1.r
  cases r1 with
  | bl k => exact ⟨k, rfl, f1.ret g1.s rfl⟩
  | _ => exact f1.elim
theorem it_cmp {op : CmpOp} {g : D → D → M → R D} (ho : OpD T X (compareOp op) g) (ha : IE T X W a ca) (hb : IE T X W b cb) (hm : behindInMarks op b = false) : IT T X W (.Compare a [op] [b] pos) (cB (cBin g ca cb)) :=
  ⟨⟨fun pins s σ H Q I q => (pt_cmpR (ho fun c d H' => W c d σ H') ha.pe hb.pe hm).run pins s σ H Q I (by
    obtain ⟨ρ, m, al, er, s, f⟩ := q
    exact bin_w σ H _ ⟨ρ, m, al, er, s, fin_asB f⟩)⟩⟩
/-- a < b < c -/
def cChain (g h : D → D → M → R D) (ca cb cc : Cp D) : Cp D := fun ρ m => bind (ca ρ m) fun x m1 => bind (cb ρ m1) fun y m2 => bind (g x y m2) fun z m3 => bind (asB z m3) fun k m4 =>
  if k = true then bind (cc ρ m4) fun w m5 => h y w m5 else ok (.bl false) m4
theorem ie_chain {op op' : CmpOp} {g h : D → D → M → R D} (ho : OpD T X (compareOp op) g) (ho' : OpD T X (compareOp op') h) (ha : IE T X W a ca) (hb : IE T X W b cb) (hc : IE T X W c cc)
    (hm : lastMarks [op, op'] [b, c] = false := by with_unfolding_all rfl) : IE T X W (.Compare a [op, op'] [b, c] pos) (cChain g h ca cb cc) :=
  ⟨⟨fun pins s σ H Q I q => (pe_chain (ho fun c d H' => W c d σ H') (ho' fun c d H' => W c d σ H') ha.pe hb.pe hc.pe hm).run pins s σ H Q I (by
    obtain ⟨ρ, m, al, er, s, f⟩ := q
    refine ⟨ρ, m, al, er, s, Fin.mono (fun x H1 h1 => ?_) (Fin.bind (rel := Rp (kx X T)) f)⟩
    obtain ⟨d, m1, al1, g1, f1⟩ := h1
    refine ⟨ρ, m1, al1, er.up g1.x, g1.s, Fin.mono (fun y H2 h2 => ?_) (Fin.bind (rel := Rp (kx X T)) f1)⟩
    obtain ⟨e, m2, al2, g2, f2⟩ := h2
    refine ⟨d, e, m2, al2, g2.s, g1.r.ext g2.x, g2.r, Fin.mono (fun z H3 h3 => ?_) (Fin.bind (rel := Rp (kx X T)) f2)⟩
    obtain ⟨w, m3, al3, g3, f3⟩ := h3
    have r3 := g3.r
    cases r3 with
    | bl k =>
      refine ⟨k, rfl, ?_⟩
      cases k with
      | false => exact f3.ret g3.s (.bl false)
      | true =>
        refine ⟨ρ, m3, al3, ((er.up g1.x).up g2.x).up g3.x, g3.s, Fin.mono (fun u H4 h4 => ?_) (Fin.bind (rel := Rp (kx X T)) f3)⟩
        obtain ⟨dw, m4, al4, g4, f4⟩ := h4
        exact ⟨e, dw, m4, al4, g4.s, (g2.r.ext g3.x).ext g4.x, g4.r, f4⟩
    | _ => exact f3.elim)⟩⟩
theorem it_chain {op op' : CmpOp} {g h : D → D → M → R D} (ho : OpD T X (compareOp op) g) (ho' : OpD T X (compareOp op') h) (ha : IE T X W a ca) (hb : IE T X W b cb) (hc : IE T X W c cc)
    (hm : lastMarks [op, op'] [b, c] = false := by with_unfolding_all rfl) : IT T X W (.Compare a [op, op'] [b, c] pos) (cB (cChain g h ca cb cc)) :=
  ⟨⟨fun pins s σ H Q I q => (pt_chain (ho fun c d H' => W c d σ H') (ho' fun c d H' => W c d σ H') ha.pe hb.pe hc.pe hm).run pins s σ H Q I (by
    obtain ⟨ρ, m, al, er, s, f⟩ := q
    have f := fin_asB f
    refine ⟨ρ, m, al, er, s, Fin.mono (fun x H1 h1 => ?_) (Fin.bind (rel := Rp (kx X T)) f)⟩
    obtain ⟨d, m1, al1, g1, f1⟩ := h1
    refine ⟨ρ, m1, al1, er.up g1.x, g1.s, Fin.mono (fun y H2 h2 => ?_) (Fin.bind (rel := Rp (kx X T)) f1)⟩
    obtain ⟨e, m2, al2, g2, f2⟩ := h2
    refine ⟨d, e, m2, al2, g2.s, g1.r.ext g2.x, g2.r, Fin.mono (fun z H3 h3 => ?_) (Fin.bind (rel := Rp (kx X T)) f2)⟩
    obtain ⟨w, m3, al3, g3, f3⟩ := h3
    have r3 := g3.r
    cases r3 with
    | bl k =>
      refine ⟨k, rfl, ?_⟩
      cases k with
      | false =>
        exact f3.ret g3.s (.bl false)
      | true =>
        refine ⟨ρ, m3, al3, ((er.up g1.x).up g2.x).up g3.x, g3.s, Fin.mono (fun u H4 h4 => ?_) (Fin.bind (rel := Rp (kx X T)) f3)⟩
        obtain ⟨dw, m4, al4, g4, f4⟩ := h4
        exact ⟨e, dw, m4, al4, g4.s, (g2.r.ext g3.x).ext g4.x, g4.r, f4⟩
    | _ => exact f3.elim)⟩⟩

/-! truth -/
def truD (d : D) (m : M) : R Bool := match d with
  | .non => ok false m
  | .bl b => ok b m
  | .int i => ok (i != 0) m
  | .str x => if x.length ≤ lim then ok ((x.length : Int) != 0) m else none
  | .tup xs => ok (!xs.isEmpty) m
  | .fl xs => ok (!xs.isEmpty) m
  | .kt xs => ok (!xs.isEmpty) m
  | .ref i => match m[i]? with
    | some (.lst xs) => ok (!xs.isEmpty) m
    | some (.dct xs) => ok (!xs.isEmpty) m
    | _ => none
  | _ => none
theorem RpL.emp {K : G} {al : List Addr} {H : Hp} {vs : List V} {ds : List D} (r : RpL K al H vs ds) : vs.isEmpty = ds.isEmpty := by cases r <;> rfl
theorem RpF.emp {κ : Type} {K : G} {al : List Addr} {H : Hp} {vs : List (κ × V)} {ds : List (κ × D)} (r : RpF K al H vs ds) : vs.isEmpty = ds.isEmpty := by cases r <;> rfl
theorem tru_v {K : G} {E : XK} {al : List Addr} {H : Hp} {Q : Bool → Hp → Prop} {x : V} {d : D} {m : M} (s : Sim K al m H) (r : Rp K al H x d) (f : Fin K (fun _ _ (x : Bool) y => x = y) E al H Q (truD d m)) : ∃ k, TruV K.k x H k ∧ Q k H := by
  cases r with
  | non => exact ⟨false, rfl, f.ret s rfl⟩
  | bl b => exact ⟨b, rfl, f.ret s rfl⟩
  | int i => exact ⟨_, rfl, f.ret s rfl⟩
  | str x =>
    unfold truD at f
    dsimp only at f
    split at f
    · rename_i hl
      exact ⟨_, ⟨lim_ok hl, rfl⟩, f.ret s rfl⟩
    · exact f.elim
  | tup h t => exact ⟨_, .inr (.inl ⟨_, SqT.of h, rfl⟩), f.ret s (by rw [t.emp])⟩
  | kt h t => exact ⟨_, .inr (.inl ⟨_, h H, rfl⟩), f.ret s (by rw [t.emp])⟩
  | fl h t => exact ⟨_, .inl ⟨_, sqF_sq h, rfl⟩, f.ret s (by rw [t.emp])⟩
  | ref h =>
    obtain ⟨o, ho, ro⟩ := s.of h
    unfold truD at f
    dsimp only at f
    rw [ho] at f
    cases o with
    | lst xs =>
      obtain ⟨vs, hv, t⟩ := ro
      exact ⟨_, .inl ⟨_, SqL.of hv, rfl⟩, f.ret s (by rw [t.emp])⟩
    | dct xs =>
      obtain ⟨vs, hv, t⟩ := ro
      exact ⟨_, .inr (.inr ⟨_, hv, rfl⟩), f.ret s (by rw [t.emp])⟩
    | dtp xs => exact f.elim
    | ins C fs => exact f.elim
  | gl v => exact f.elim
  | exc0 _ => exact f.elim
  | exc _ _ _ _ => exact f.elim
def cTru (c : Cp D) : Cp Bool := fun ρ m => bind (c ρ m) truD
theorem it_tru (ha : IE T X W a ca) (he : ∀ whole, isTrue a X.env whole = (do let v ← whole; standAt a.pos; holding [v] (truthy v)) := by intro _; rfl) : IT T X W a (cTru ca) :=
  ⟨⟨fun pins s σ H Q I q => (pt_truth ha.pe he).run pins s σ H Q I (by
    obtain ⟨ρ, m, al, er, s, f⟩ := q
    refine ⟨ρ, m, al, er, s, Fin.mono (fun x H1 h1 => ?_) (Fin.bind (rel := Rp (kx X T)) f)⟩
    obtain ⟨d, m1, al1, g1, f1⟩ := h1
    exact tru_v g1.s g1.r f1)⟩⟩
def cNot (c : Cp Bool) : Cp Bool := fun ρ m => bind (c ρ m) fun b m1 => ok (!b) m1
def cAnd (c d : Cp Bool) : Cp Bool := fun ρ m => bind (c ρ m) fun b m1 => if b = true then d ρ m1 else ok false m1
def cOr (c d : Cp Bool) : Cp Bool := fun ρ m => bind (c ρ m) fun b m1 => if b = true then ok true m1 else d ρ m1
variable {ta tb : Cp Bool} {rest : List Expr}
theorem it_not (ha : IT T X W a ta) : IT T X W (.UnaryOp .Not a pos) (cNot ta) := ⟨PT.weak (pt_not ha.pt) fun σ H Q ⟨ρ, m, al, er, s, f⟩ => by
  refine ⟨ρ, m, al, er, s, Fin.mono (fun x H1 h1 => ?_) (Fin.bind (rel := fun _ _ (x : Bool) y => x = y) f)⟩
  obtain ⟨d, m1, al1, g1, f1⟩ := h1
  have e := g1.r
  subst e
  exact f1.ret g1.s rfl⟩
theorem iw_and1 (ha : IT T X W a ta) : IW T X W (.BoolOp .And [a] pos) ta := ⟨pw_and1 ha.pt⟩
theorem iw_or1 (ha : IT T X W a ta) : IW T X W (.BoolOp .Or [a] pos) ta := ⟨pw_or1 ha.pt⟩
theorem iw_and (ha : IT T X W a ta) (hb : IW T X W (.BoolOp .And (b :: rest) pos) tb) : IW T X W (.BoolOp .And (a :: b :: rest) pos) (cAnd ta tb) := ⟨PW.weak (pw_and ha.pt hb.pw) fun σ H Q ⟨ρ, m, al, er, s, f⟩ => by
  refine ⟨ρ, m, al, er, s, Fin.mono (fun x H1 h1 => ?_) (Fin.bind (rel := fun _ _ (x : Bool) y => x = y) f)⟩
  obtain ⟨d, m1, al1, g1, f1⟩ := h1
  have e := g1.r
  subst e
  cases x with
  | true => exact ⟨ρ, m1, al1, er.up g1.x, g1.s, f1⟩
  | false => exact f1.ret g1.s rfl⟩
theorem iw_or (ha : IT T X W a ta) (hb : IW T X W (.BoolOp .Or (b :: rest) pos) tb) : IW T X W (.BoolOp .Or (a :: b :: rest) pos) (cOr ta tb) := ⟨PW.weak (pw_or ha.pt hb.pw) fun σ H Q ⟨ρ, m, al, er, s, f⟩ => by
  refine ⟨ρ, m, al, er, s, Fin.mono (fun x H1 h1 => ?_) (Fin.bind (rel := fun _ _ (x : Bool) y => x = y) f)⟩
  obtain ⟨d, m1, al1, g1, f1⟩ := h1
  have e := g1.r
  subst e
  cases x with
  | true => exact f1.ret g1.s rfl
  | false => exact ⟨ρ, m1, al1, er.up g1.x, g1.s, f1⟩⟩
theorem it_w (h : IW T X W a ta) : IT T X W a ta := ⟨h.pw.pt⟩
/-! and, or, not as values -/
def cAndV (ca cb : Cp D) : Cp D := fun ρ m => bind (ca ρ m) fun x m1 => bind (truD x m1) fun k m2 => if k = true then cb ρ m2 else ok x m2
def cOrV (ca cb : Cp D) : Cp D := fun ρ m => bind (ca ρ m) fun x m1 => bind (truD x m1) fun k m2 => if k = true then ok x m2 else cb ρ m2
def cNotV (ca : Cp D) : Cp D := fun ρ m => bind (ca ρ m) fun x m1 => bind (truD x m1) fun k m2 => ok (.bl (!k)) m2
theorem truD_m {d : D} {m m2 : M} {k : Bool} (h : truD d m = ok k m2) : m2 = m := by
  cases d <;> simp only [truD] at h <;> (try split at h) <;> simp_all
theorem truD_ex {d : D} {m m2 : M} {e : Ex} (h : truD d m = some (.ex e, m2)) : False := by
  cases d <;> simp only [truD] at h <;> (try split at h) <;> simp_all
theorem tru_b {K : G} {E : XK} {al : List Addr} {H : Hp} {x : V} {d : D} {m : M} {β U : Type} {rel' : List Addr → Hp → U → β → Prop} {S : U → Hp → Prop} {g : Bool → M → R β} (s : Sim K al m H) (r : Rp K al H x d)
    (f : Fin K rel' E al H S (bind (truD d m) g)) : ∃ k, TruV K.k x H k ∧ Fin K rel' E al H S (g k m) := by
  rcases h : truD d m with _ | ⟨k | e, m2⟩
  · rw [h] at f; exact f.elim
  · have e := truD_m h
    subst e
    rw [h] at f
    obtain ⟨k', h1, h2⟩ := tru_v (E := E) (Q := fun k' _ => k' = k) s r (by rw [h]; exact fun _ _ _ _ _ z => z)
    subst h2
    exact ⟨k', h1, f⟩
  · exact (truD_ex h).elim
theorem ie_one {op} (ha : IE T X W a ca) : IE T X W (.BoolOp op [a] pos) ca := ⟨pe_one ha.pe⟩
theorem ie_and (ha : IE T X W a ca) (hb : IE T X W (.BoolOp .And (b :: rest) pos) cb) : IE T X W (.BoolOp .And (a :: b :: rest) pos) (cAndV ca cb) := ⟨PE.weak (pe_andT ha.pe hb.pe) fun σ H Q ⟨ρ, m, al, er, s, f⟩ => by
  refine ⟨ρ, m, al, er, s, Fin.mono (fun x H1 h1 => ?_) (Fin.bind (rel := Rp (kx X T)) f)⟩
  obtain ⟨d, m1, al1, g1, f1⟩ := h1
  obtain ⟨k, h2, f2⟩ := tru_b g1.s g1.r f1
  refine ⟨k, h2, ?_⟩
  cases k with
  | true => exact ⟨ρ, m1, al1, er.up g1.x, g1.s, f2⟩
  | false => exact f2.ret g1.s g1.r⟩
theorem ie_or (ha : IE T X W a ca) (hb : IE T X W (.BoolOp .Or (b :: rest) pos) cb) : IE T X W (.BoolOp .Or (a :: b :: rest) pos) (cOrV ca cb) := ⟨PE.weak (pe_orT ha.pe hb.pe) fun σ H Q ⟨ρ, m, al, er, s, f⟩ => by
  refine ⟨ρ, m, al, er, s, Fin.mono (fun x H1 h1 => ?_) (Fin.bind (rel := Rp (kx X T)) f)⟩
  obtain ⟨d, m1, al1, g1, f1⟩ := h1
  obtain ⟨k, h2, f2⟩ := tru_b g1.s g1.r f1
  refine ⟨k, h2, ?_⟩
  cases k with
  | true => exact f2.ret g1.s g1.r
  | false => exact ⟨ρ, m1, al1, er.up g1.x, g1.s, f2⟩⟩
theorem ie_not (ha : IE T X W a ca) : IE T X W (.UnaryOp .Not a pos) (cNotV ca) := ⟨PE.weak (pe_notT ha.pe) fun σ H Q ⟨ρ, m, al, er, s, f⟩ => by
  refine ⟨ρ, m, al, er, s, Fin.mono (fun x H1 h1 => ?_) (Fin.bind (rel := Rp (kx X T)) f)⟩
  obtain ⟨d, m1, al1, g1, f1⟩ := h1
  obtain ⟨k, h2, f2⟩ := tru_b g1.s g1.r f1
  exact ⟨k, h2, f2.ret g1.s (.bl _)⟩⟩
def cIf (t : Cp Bool) (ca cb : Cp D) : Cp D := fun ρ m => bind (t ρ m) fun k m1 => if k = true then ca ρ m1 else cb ρ m1
theorem ie_if {t : Cp Bool} (hc : IT T X W c t) (ha : IE T X W a ca) (hb : IE T X W b cb) : IE T X W (.IfExp c a b pos) (cIf t ca cb) := ⟨PE.weak (pe_ifExp hc.pt ha.pe hb.pe) fun σ H Q ⟨ρ, m, al, er, s, f⟩ => by
  refine ⟨ρ, m, al, er, s, Fin.mono (fun x H1 h1 => ?_) (Fin.bind (rel := fun _ _ (x : Bool) y => x = y) f)⟩
  obtain ⟨d, m1, al1, g1, f1⟩ := h1
  have e := g1.r
  subst e
  cases x with
  | true => exact ⟨ρ, m1, al1, er.up g1.x, g1.s, f1⟩
  | false => exact ⟨ρ, m1, al1, er.up g1.x, g1.s, f1⟩⟩

/-! argument lists, displays -/
def cNil : Cp (List D) := fun _ m => ok [] m
def cCons (ca : Cp D) (cr : Cp (List D)) : Cp (List D) := fun ρ m => bind (ca ρ m) fun x m1 => bind (cr ρ m1) fun xs m2 => ok (x :: xs) m2
variable {es : List Expr} {cs : Cp (List D)}
theorem ia_nil : IA T X W [] cNil := ⟨PA.weak pa_nil fun σ H Q ⟨ρ, m, al, er, s, f⟩ => f.ret s .nil⟩
theorem ia_cons (ha : IE T X W e ca) (hr : IA T X W es cs) (hs : starEach (e :: es) X.env = (false, eval e X.env) :: starEach es X.env := by rfl) : IA T X W (e :: es) (cCons ca cs) := ⟨PA.weak (pa_cons ha.pe hr.pa hs) fun σ H Q ⟨ρ, m, al, er, s, f⟩ => by
  refine ⟨ρ, m, al, er, s, Fin.mono (fun x H1 h1 => ?_) (Fin.bind (rel := Rp (kx X T)) f)⟩
  obtain ⟨d, m1, al1, g1, f1⟩ := h1
  refine ⟨ρ, m1, al1, er.up g1.x, g1.s, Fin.mono (fun y H2 h2 => ?_) (Fin.bind (rel := RpL (kx X T)) f1)⟩
  obtain ⟨e, m2, al2, g2, f2⟩ := h2
  exact f2.ret g2.s (.cons (g1.r.ext g2.x) g2.r)⟩
def cTup (cs : Cp (List D)) : Cp D := fun ρ m => bind (cs ρ m) fun xs m1 => if xs.length ≤ lim then ok (.tup xs) m1 else none
def cLst (cs : Cp (List D)) : Cp D := fun ρ m => bind (cs ρ m) fun xs m1 => if xs.length ≤ lim then new (.lst xs) m1 else none
theorem ie_tup {x1} (h : IA T X W es cs) : IE T X W (.Tuple es x1 pos) (cTup cs) := ⟨PE.weak (pe_tup h.pa) fun σ H Q ⟨ρ, m, al, er, s, f⟩ => by
  refine ⟨ρ, m, al, er, s, Fin.mono (fun x H1 h1 => ?_) (Fin.bind (rel := RpL (kx X T)) f)⟩
  obtain ⟨d, m1, al1, g1, f1⟩ := h1
  split at f1
  · rename_i hl
    exact ⟨by rw [g1.r.len]; exact lim_ok hl, fun p hp => fin_tup f1 g1.s hp g1.r⟩
  · exact f1.elim⟩
theorem ie_lst (h : IA T X W es cs) : IE T X W (.List es pos) (cLst cs) := ⟨PE.weak (pe_lst h.pa) fun σ H Q ⟨ρ, m, al, er, s, f⟩ => by
  refine ⟨ρ, m, al, er, s, Fin.mono (fun x H1 h1 => ?_) (Fin.bind (rel := RpL (kx X T)) f)⟩
  obtain ⟨d, m1, al1, g1, f1⟩ := h1
  split at f1
  · rename_i hl
    exact ⟨by rw [g1.r.len]; exact lim_ok hl, fun p hp => fin_new f1 g1.s hp ⟨_, upd_same, g1.r.up ⟨_, rfl⟩ (Grow.new hp)⟩⟩
  · exact f1.elim⟩

/-! subscripts, slices -/
def ixD (d i : D) (m : M) : R D := match d, i with
  | .tup xs, .int k => match atI xs k with
    | some v => ok v m
    | none => none
  | .fl xs, .int k => match atI xs k with
    | some v => ok v m
    | none => none
  | .kt xs, .int k => match atI xs k with
    | some v => ok v m
    | none => none
  | .str x, .int k => if x.length ≤ lim then (match atI x.cps.toList k with
    | some c => ok (.str ⟨#[c]⟩) m
    | none => none) else none
  | .ref j, .int k => match m[j]? with
    | some (.lst xs) => (match atI xs k with
      | some v => ok v m
      | none => none)
    | _ => none
  | _, _ => none
theorem atI_rp {K : G} {al : List Addr} {H : Hp} {vs : List V} {ds : List D} {k : Int} {d : D} (r : RpL K al H vs ds) (h : atI ds k = some d) : ∃ v, atI vs k = some v ∧ Rp K al H v d := by
  unfold atI at h ⊢
  rw [r.len]
  cases e : ixN ds.length k with
  | none => rw [e] at h; cases h
  | some j =>
    rw [e] at h
    exact r.get h
theorem ix_d : ∀ E, IxR X (rD (kx X T) E ixD) := by
  intro E va sl pins s σ H x y v u Q I rx ry ⟨d, i, m, al, S, r1, r2, f⟩ hs
  unfold ixD at f
  cases r1 <;> cases r2 <;> try (exact f.elim)
  case str.int z k =>
    dsimp only at f
    split at f
    · rename_i hl
      cases e : atI z.cps.toList k with
      | none => rw [e] at f; exact f.elim
      | some c =>
        rw [e] at f
        exact ix_str va sl pins s σ H _ _ v u Q I rx ry ⟨z, k, c, rfl, rfl, lim_ok hl, e, f.ret S (.str _)⟩ hs
    · exact f.elim
  case tup.int a vs ds h t k =>
    dsimp only at f
    cases e : atI ds k with
    | none => rw [e] at f; exact f.elim
    | some w =>
      rw [e] at f
      obtain ⟨z, h1, h2⟩ := atI_rp t e
      exact ix_tup va sl pins s σ H _ _ v u Q I rx ry ⟨a, vs, k, z, rfl, rfl, SqT.of h, h1, f.ret S h2⟩ hs
  case kt.int a vs ds h t k =>
    dsimp only at f
    cases e : atI ds k with
    | none => rw [e] at f; exact f.elim
    | some w =>
      rw [e] at f
      obtain ⟨z, h1, h2⟩ := atI_rp t e
      exact ix_tup va sl pins s σ H _ _ v u Q I rx ry ⟨a, vs, k, z, rfl, rfl, h H, h1, f.ret S h2⟩ hs
  case fl.int a vs ds h t k =>
    dsimp only at f
    cases e : atI ds k with
    | none => rw [e] at f; exact f.elim
    | some w =>
      rw [e] at f
      obtain ⟨z, h1, h2⟩ := atI_rp t e
      exact ix_list va sl pins s σ H _ _ v u Q I rx ry ⟨a, vs, k, z, rfl, rfl, sqF_sq h, h1, f.ret S h2⟩ hs
  case ref.int a j h k =>
    dsimp only at f
    obtain ⟨o, ho, ro⟩ := S.of h
    rw [ho] at f
    cases o <;> try (exact f.elim)
    case lst ds =>
      obtain ⟨vs, hv, t⟩ := ro
      dsimp only at f
      cases e : atI ds k with
      | none => rw [e] at f; exact f.elim
      | some w =>
        rw [e] at f
        obtain ⟨z, h1, h2⟩ := atI_rp t e
        exact ix_list va sl pins s σ H _ _ v u Q I rx ry ⟨a, vs, k, z, rfl, rfl, SqL.of hv, h1, f.ret S h2⟩ hs
theorem ie_ix {g : D → D → M → R D} (hg : ∀ E, IxR X (rD (kx X T) E g)) (ha : IE T X W a ca) (hb : IE T X W b cb) (hs : PlainIx b := by exact fun _ _ => rfl) : IE T X W (.Subscript a b pos) (cBin g ca cb) :=
  ⟨⟨fun pins s σ H Q I q => (pe_ix (hg fun c d H' => W c d σ H') ha.pe hb.pe hs).run pins s σ H Q I (bin_w σ H Q q)⟩⟩
/-! slices -/
def cNoP : Cp (Option Int) := fun _ m => ok none m
def cPart (c : Cp D) : Cp (Option Int) := fun ρ m => bind (c ρ m) fun d m1 => match d with
  | .int i => ok (some i) m1
  | _ => none
def tOD (K : G) (W : WX) (c : Cp (Option Int)) : TO := fun σ H Q => ∃ ρ m al, Er K al H σ ρ ∧ Sim K al m H ∧ Fin K (fun _ _ (x : Option Int) y => x = y) (fun c d H' => W c d σ H') al H Q (c ρ m)
structure IO (T : Sv) (X : Cx) (W : WX) (e : Option Expr) (c : Cp (Option Int)) : Prop where
  po : PO X e (tOD (kx X T) W c)
theorem io_none : IO T X W none cNoP := ⟨⟨fun pins s σ H Q I q => po_none.run pins s σ H Q I (by
  obtain ⟨ρ, m, al, er, S, f⟩ := q
  exact f.ret S rfl)⟩⟩
theorem io_some (h : IE T X W e ca) : IO T X W (some e) (cPart ca) := ⟨⟨fun pins s σ H Q I q => (po_some h.pe).run pins s σ H Q I (by
  obtain ⟨ρ, m, al, er, S, f⟩ := q
  refine ⟨ρ, m, al, er, S, Fin.mono (fun x H1 h1 => ?_) (Fin.bind (rel := Rp (kx X T)) f)⟩
  obtain ⟨d, m1, al1, g1, f1⟩ := h1
  have r1 := g1.r
  cases r1 with
  | int i => exact ⟨i, rfl, f1.ret g1.s rfl⟩
  | _ => exact f1.elim)⟩⟩
def cutD {α : Type} (xs : List α) (lo hi : Option Int) : List α := (xs.drop (HT.sIx xs.length 0 lo)).take (HT.sIx xs.length xs.length hi - HT.sIx xs.length 0 lo)
theorem cut_rp {K : G} {al : List Addr} {H : Hp} {vs : List V} {ds : List D} (lo hi : Option Int) (r : RpL K al H vs ds) : RpL K al H (cutV vs lo hi) (cutD ds lo hi) := by
  unfold cutV cutD
  rw [r.len]
  exact (r.drop _).take _
def slD (d : D) (lo hi : Option Int) (m : M) : R D := match d with
  | .str x => if x.length ≤ lim then ok (.str (cutS x lo hi)) m else none
  | .tup xs => ok (.tup (cutD xs lo hi)) m
  | .fl xs => new (.lst (cutD xs lo hi)) m
  | .ref j => match m[j]? with
    | some (.lst xs) => new (.lst (cutD xs lo hi)) m
    | _ => none
  | _ => none
def cSl (c : Cp D) (lo hi : Cp (Option Int)) : Cp D := fun ρ m => bind (c ρ m) fun x m1 => bind (lo ρ m1) fun l m2 => bind (hi ρ m2) fun h m3 => slD x l h m3
end
end Sx

set_option Elab.async false
set_option linter.all false
set_option maxRecDepth 100000
set_option maxHeartbeats 2000000
/-! Sx3: slices, targets, statements, loops. -/
namespace Sx
open PySem PySem.Spec PyProof.Rows L2
section
variable {T : Sv} {X : Cx} {W : WX} {e a b c : Expr} {ca cb cc : Cp D} {pos p2 : Pos} {lo hi : Option Expr} {cl ch : Cp (Option Int)}
theorem sl_d (E : XK) : SlR X fun x lo hi H Q => ∃ d m al, Sim (kx X T) al m H ∧ Rp (kx X T) al H x d ∧ Fin (kx X T) (Rp (kx X T)) E al H Q (slD d lo hi m) := by
  intro pins s σ H x v vl vu lo hi sl Q I rx hs pl pu ⟨d, m, al, S, r, f⟩
  unfold slD at f
  cases r with
  | str z =>
    dsimp only at f
    split at f
    · rename_i hl
      exact sl_str pins s σ H _ v vl vu lo hi sl Q I rx hs pl pu ⟨z, rfl, lim_ok hl, f.ret S (.str _)⟩
    · exact f.elim
  | tup h t =>
    rename_i a vs ds
    dsimp only at f
    refine sl_tupA pins s σ H _ v vl vu lo hi sl Q I rx hs pl pu ⟨a, vs, rfl, SqT.of h, fun z => ?_, fun _ p hp => fin_tup f S hp (cut_rp lo hi t)⟩
    refine f.ret S ?_
    have e : cutD ds lo hi = ds := by
      unfold cutD
      rw [← t.len, z.1, z.2]
      simp [t.len]
    rw [e]
    exact .tup h t
  | fl h t =>
    rename_i a vs ds
    dsimp only at f
    exact sl_list pins s σ H _ v vl vu lo hi sl Q I rx hs pl pu ⟨a, vs, rfl, sqF_sq h, fun p hp => fin_new f S hp ⟨_, upd_same, (cut_rp lo hi t).up ⟨_, rfl⟩ (Grow.new hp)⟩⟩
  | ref h =>
    obtain ⟨o, ho, ro⟩ := S.of h
    dsimp only at f
    rw [ho] at f
    cases o with
    | lst xs =>
      obtain ⟨vs, hv, t⟩ := ro
      exact sl_list pins s σ H _ v vl vu lo hi sl Q I rx hs pl pu ⟨_, vs, rfl, SqL.of hv, fun p hp => fin_new f S hp ⟨_, upd_same, (cut_rp lo hi t).up ⟨_, rfl⟩ (Grow.new hp)⟩⟩
    | _ => exact f.elim
  | _ => exact f.elim
theorem ie_sl (ha : IE T X W e ca) (hl : IO T X W lo cl) (hh : IO T X W hi ch) : IE T X W (.Subscript e (.Slice lo hi none p2) pos) (cSl ca cl ch) :=
  ⟨⟨fun pins s σ H Q I q => (pe_slice (sl_d fun c d H' => W c d σ H') ha.pe hl.po hh.po).run pins s σ H Q I (by
    obtain ⟨ρ, m, al, er, s, f⟩ := q
    refine ⟨ρ, m, al, er, s, Fin.mono (fun x H1 h1 => ?_) (Fin.bind (rel := Rp (kx X T)) f)⟩
    obtain ⟨d, m1, al1, g1, f1⟩ := h1
    refine ⟨ρ, m1, al1, er.up g1.x, g1.s, Fin.mono (fun y H2 h2 => ?_) (Fin.bind (rel := fun _ _ (x : Option Int) y => x = y) f1)⟩
    obtain ⟨l, m2, al2, g2, f2⟩ := h2
    refine ⟨ρ, m2, al2, (er.up g1.x).up g2.x, g2.s, Fin.mono (fun z H3 h3 => ?_) (Fin.bind (rel := fun _ _ (x : Option Int) y => x = y) f2)⟩
    obtain ⟨u, m3, al3, g3, f3⟩ := h3
    have e2 := g2.r
    have e3 := g3.r
    subst e2
    subst e3
    exact ⟨d, m3, al3, g3.s, (g1.r.ext g2.x).ext g3.x, f3⟩)⟩⟩
end

/-! ### targets: names, tuples of targets -/
inductive TP where
  | nm (i : Nat)
  | tp (ts : List TP)
/-- the items that are unpacked -/
def itemsD (d : D) (m : M) : Option (List D) := match d with
  | .tup xs => some xs
  | .kt xs => some xs
  | .fl xs => some xs
  | .ref i => match m[i]? with
    | some (.lst xs) => some xs
    | _ => none
  | _ => none
mutual
def asgT (m : M) : TP → D → En → Option En
  | .nm i, d, ρ => some (ρ.set i (some d))
  | .tp ts, d, ρ => match itemsD d m with
    | some xs => if xs.length = ts.length then asgTs m ts xs ρ else none
    | none => none
def asgTs (m : M) : List TP → List D → En → Option En
  | [], [], ρ => some ρ
  | t :: ts, x :: xs, ρ => match asgT m t x ρ with
    | some ρ' => asgTs m ts xs ρ'
    | none => none
  | _, _, _ => none
end
mutual
def varsT : TP → List Nat
  | .nm i => [i]
  | .tp ts => varsTs ts
def varsTs : List TP → List Nat
  | [] => []
  | t :: ts => varsT t ++ varsTs ts
end
/-- the slots but these are the same -/
def SameBut (vs : List Nat) (σ σ' : L2.St) : Prop := σ'.length = σ.length ∧ ∀ j, j ∉ vs → σ'[j]? = σ[j]?
theorem SameBut.trans {vs ws : List Nat} {σ σ1 σ2 : L2.St} (a : SameBut vs σ σ1) (b : SameBut ws σ1 σ2) : SameBut (vs ++ ws) σ σ2 :=
  ⟨b.1.trans a.1, fun j h => (b.2 j fun z => h (List.mem_append_right _ z)).trans (a.2 j fun z => h (List.mem_append_left _ z))⟩
def gD (K : G) (t : TP) : TG := fun v σ H Q => ∃ d ρ m al, Rp K al H v d ∧ Er K al H σ ρ ∧ Sim K al m H ∧ ∃ ρ', asgT m t d ρ = some ρ' ∧ ∀ σ', Er K al H σ' ρ' → SameBut (varsT t) σ σ' → Q σ' H
def gDs (K : G) (ts : List TP) : TGs := fun vs σ H Q => ∃ ds ρ m al, RpL K al H vs ds ∧ Er K al H σ ρ ∧ Sim K al m H ∧ ∃ ρ', asgTs m ts ds ρ = some ρ' ∧ ∀ σ', Er K al H σ' ρ' → SameBut (varsTs ts) σ σ' → Q σ' H
structure IG (T : Sv) (X : Cx) (tg : Expr) (t : TP) : Prop where
  pg : PG X tg (gD (kx X T) t)
structure IGs (T : Sv) (X : Cx) (tg : List Expr) (ts : List TP) : Prop where
  pg : PGs X tg (gDs (kx X T) ts)
theorem PG.weak {X : Cx} {e : Expr} {t t' : TG} (h : PG X e t) (w : ∀ v σ H Q, t' v σ H Q → t v σ H Q) : PG X e t' := ⟨fun pins s σ H v u Q I r q => h.run pins s σ H v u Q I r (w _ _ _ _ q)⟩
section
variable {T : Sv} {X : Cx} {pos : Pos} {x : Str} {i : Nat} {e : Expr} {es : List Expr} {t : TP} {ts : List TP}
theorem ig_name (hN : X.N.Nodup) (hi : X.N[i]? = some x := by rfl) (hx : Loc X.env.scope x := by first | exact Or.inl rfl | exact Or.inr rfl) (hf : X.fn x = true ∨ X.env.scope.names.lookup x = some .local := by first | exact .inl rfl | exact .inr rfl) : IG T X (.Name x pos) (.nm i) :=
  ⟨PG.weak (pg_name hN hi hx hf) fun v σ H Q ⟨d, ρ, m, al, r, er, s, ρ', h, k⟩ => by
    unfold asgT at h
    cases h
    exact k _ (er.put r) ⟨by simp, fun j hj => by
      rw [List.getElem?_set_ne]
      intro z
      exact hj (by unfold varsT; rw [z]; exact List.mem_singleton_self _)⟩⟩
theorem igs_nil : IGs T X [] [] := ⟨⟨fun pins s σ H vs us Q I r ⟨ds, ρ, m, al, rl, er, S, ρ', h, k⟩ => by
  cases rl with
  | nil =>
    unfold asgTs at h
    cases h
    exact pgs_nil.run pins s σ H [] us Q I r ⟨rfl, k σ er ⟨rfl, fun _ _ => rfl⟩⟩
  | cons _ _ => cases h⟩⟩
theorem igs_cons (h1 : IG T X e t) (h2 : IGs T X es ts) (hs : (assignEach (e :: es) X.env).map (·.2) = assign e X.env :: (assignEach es X.env).map (·.2) := by rfl) : IGs T X (e :: es) (t :: ts) :=
  ⟨⟨fun pins s σ H vs us Q I r ⟨ds, ρ, m, al, rl, er, S, ρ', h, k⟩ => by
    cases rl with
    | nil => cases h
    | @cons v vs d ds rv rvs =>
      unfold asgTs at h
      cases hh : asgT m t d ρ with
      | none => rw [hh] at h; cases h
      | some ρ1 =>
        rw [hh] at h
        refine (pgs_cons h1.pg h2.pg hs).run pins s σ H _ us Q I r ⟨v, vs, rfl, d, ρ, m, al, rv, er, S, ρ1, hh, fun σ1 er1 sb1 => ?_⟩
        exact ⟨ds, ρ1, m, al, rvs, er1, S, ρ', h, fun σ2 er2 sb2 => k σ2 er2 (by unfold varsTs; exact sb1.trans sb2)⟩⟩⟩
theorem ig_tup {kk : Nat} {n : Nat} (hc : X.calm = true) (h : IGs T X es ts) (hn : (assignEach es X.env).length = n := by rfl) (hl : ts.length = n := by rfl) (hst : (assignEach es X.env).findIdx? (·.1) = none := by rfl) :
    IG T X (.Tuple es kk pos) (.tp ts) := ⟨⟨fun pins s σ H v u Q I r ⟨d, ρ, m, al, rd, er, S, ρ', hh, k⟩ => by
  unfold asgT at hh
  have fin : ∀ {vs : List V} {ds : List D}, RpL (kx X T) al H vs ds → (if ds.length = ts.length then asgTs m ts ds ρ else none) = some ρ' → vs.length = n ∧ gDs (kx X T) ts vs σ H Q := fun {vs ds} rl z => by
    by_cases c : ds.length = ts.length
    · rw [if_pos c] at z
      exact ⟨by rw [rl.len, c, hl], ds, ρ, m, al, rl, er, S, ρ', z, fun σ' e' sb => k σ' e' (by unfold varsT; exact sb)⟩
    · rw [if_neg c] at z
      cases z
  cases rd with
  | tup h1 t1 =>
    obtain ⟨z1, z2⟩ := fin t1 hh
    exact (pg_tup hc h.pg hn hst).run pins s σ H _ u Q I r ⟨_, _, rfl, SqT.of h1, z1, z2⟩
  | kt h1 t1 =>
    obtain ⟨z1, z2⟩ := fin t1 hh
    exact (pg_tup hc h.pg hn hst).run pins s σ H _ u Q I r ⟨_, _, rfl, h1 H, z1, z2⟩
  | fl h1 t1 =>
    obtain ⟨z1, z2⟩ := fin t1 hh
    exact (pg_lst hc h.pg hn hst).run pins s σ H _ u Q I r ⟨_, _, rfl, sqF_sq h1, z1, z2⟩
  | ref h1 =>
    obtain ⟨o, ho, ro⟩ := S.of h1
    unfold itemsD at hh
    dsimp only at hh
    rw [ho] at hh
    cases o with
    | lst xs =>
      obtain ⟨vs, hv, t1⟩ := ro
      obtain ⟨z1, z2⟩ := fin t1 hh
      exact (pg_lst hc h.pg hn hst).run pins s σ H _ u Q I r ⟨_, _, rfl, SqL.of hv, z1, z2⟩
    | _ => cases hh
  | _ => cases hh⟩⟩
end

/-! ### statements -/
def sNext : Cs := fun ρ m => some (.nx ρ, m)
def sSeq (c d : Cs) : Cs := fun ρ m => match c ρ m with
  | some (.nx ρ', m') => d ρ' m'
  | r => r
/-- of an expression's end, as a statement -/
def lift {α : Type} (ρ : En) (r : R α) (k : α → M → RS) : RS := match r with
  | some (.ok a, m) => k a m
  | some (.ex e, m) => some (.ex e ρ, m)
  | none => none
@[simp] theorem lift_ok {α : Type} (ρ : En) (a : α) (m : M) (k : α → M → RS) : lift ρ (some (.ok a, m)) k = k a m := rfl
@[simp] theorem lift_ex {α : Type} (ρ : En) (e : Ex) (m : M) (k : α → M → RS) : lift ρ (some (.ex e, m)) k = some (.ex e ρ, m) := rfl
@[simp] theorem lift_none {α : Type} (ρ : En) (k : α → M → RS) : lift ρ none k = none := rfl
theorem FinS.lift {K : G} {U α : Type} {rel : List Addr → Hp → U → α → Prop} {W : WX} {al : List Addr} {H : Hp} {D : Ends} {σ : L2.St} {ρ : En} {r : R α} {k : α → M → RS} (er : Er K al H σ ρ) (h : FinS K W al H D (lift ρ r k)) :
    Fin K rel (fun c d H' => W c d σ H') al H (fun w H1 => ∃ d m1 al1, Got K rel al H w H1 d m1 al1 ∧ FinS K W al1 H1 D (k d m1)) r := by
  rcases r with _ | ⟨_ | _, _⟩
  · exact h
  · exact fun al' H' w p s q => ⟨_, _, al', ⟨p, s, q⟩, FinS.up p h⟩
  · exact fun al' H' c dx p s q => h al' H' σ c dx p s (er.up p) q
def sExpr (c : Cp D) : Cs := fun ρ m => lift ρ (c ρ m) fun _ m1 => some (.nx ρ, m1)
def sRet (c : Cp D) : Cs := fun ρ m => lift ρ (c ρ m) fun d m1 => some (.rt d, m1)
def sRetN : Cs := fun ρ m => some (.rt .non, m)
def sIf (t : Cp Bool) (c d : Cs) : Cs := fun ρ m => lift ρ (t ρ m) fun k m1 => if k = true then c ρ m1 else d ρ m1
def sAsg (t : TP) (c : Cp D) : Cs := fun ρ m => lift ρ (c ρ m) fun d m1 => match asgT m1 t d ρ with
  | some ρ' => some (.nx ρ', m1)
  | none => none
def sSet (i : Nat) (c : Cp D) : Cs := fun ρ m => lift ρ (c ρ m) fun d m1 => some (.nx (ρ.set i (some d)), m1)
section
variable {T : Sv} {X : Cx} {W : WX} {e a b : Expr} {ca cb : Cp D} {pos pos' : Pos} {st : Stmt} {sts sts' : List Stmt} {cs ct : Cs} {i : Nat} {x : Str}
theorem is_pass : IS T X W (.Pass pos) sNext := ⟨PS.weak ps_pass fun D σ H ⟨ρ, m, al, er, s, f⟩ => f al H σ (Ext.refl _ _) s er⟩
theorem is_doc {y j p} : IS T X W (.Expr (.Constant (.str y) j pos) p) sNext := ⟨PS.weak ps_doc fun D σ H ⟨ρ, m, al, er, s, f⟩ => f al H σ (Ext.refl _ _) s er⟩
theorem is_break : IS T X W (.Break pos) (fun ρ m => some (.bk ρ, m)) := ⟨PS.weak ps_break fun D σ H ⟨ρ, m, al, er, s, f⟩ => f al H σ (Ext.refl _ _) s er⟩
theorem is_cont : IS T X W (.Continue pos) (fun ρ m => some (.ct ρ, m)) := ⟨PS.weak ps_continue fun D σ H ⟨ρ, m, al, er, s, f⟩ => f al H σ (Ext.refl _ _) s er⟩
theorem iss_nil : ISs T X W [] sNext := ⟨PSs.weak pss_nil fun D σ H ⟨ρ, m, al, er, s, f⟩ => f al H σ (Ext.refl _ _) s er⟩
theorem iss_one (h : IS T X W st cs) : ISs T X W [st] cs := ⟨pss_one h.ps⟩
theorem iss_cons (h : IS T X W st cs) (h2 : ISs T X W sts ct) : ISs T X W (st :: sts) (sSeq cs ct) := ⟨PSs.weak (pss_cons h.ps h2.ps) fun D σ H ⟨ρ, m, al, er, s, f⟩ => by
  refine ⟨ρ, m, al, er, s, ?_⟩
  unfold sSeq at f
  cases hc : cs ρ m with
  | none => rw [hc] at f; exact f
  | some r =>
    obtain ⟨fl, m'⟩ := r
    rw [hc] at f
    cases fl with
    | nx ρ' => exact fun al' H' σ' p s' er' => ⟨ρ', m', al', er', s', FinS.up p f⟩
    | _ => exact f⟩
theorem is_expr (h : IE T X W e ca) (hs : swapsWith e none pos.line X.env = pure false := by rfl) : IS T X W (.Expr e pos) (sExpr ca) := ⟨PS.weak (ps_expr h.pe hs) fun D σ H ⟨ρ, m, al, er, s, f⟩ => by
  refine ⟨ρ, m, al, er, s, Fin.mono (fun x H1 h1 => ?_) (FinS.lift (rel := Rp (kx X T)) er f)⟩
  obtain ⟨d, m1, al1, g1, f1⟩ := h1
  exact f1 al1 H1 σ (Ext.refl _ _) g1.s (er.up g1.x)⟩
theorem is_ret (h : IE T X W e ca) : IS T X W (.Return (some e) pos) (sRet ca) := ⟨PS.weak (ps_ret h.pe) fun D σ H ⟨ρ, m, al, er, s, f⟩ => by
  refine ⟨ρ, m, al, er, s, Fin.mono (fun x H1 h1 => ?_) (FinS.lift (rel := Rp (kx X T)) er f)⟩
  obtain ⟨d, m1, al1, g1, f1⟩ := h1
  exact f1 al1 H1 x (Ext.refl _ _) g1.s g1.r⟩
theorem is_retN : IS T X W (.Return none pos) sRetN := ⟨PS.weak ps_retN fun D σ H ⟨ρ, m, al, er, s, f⟩ => f al H .non (Ext.refl _ _) s .non⟩
theorem is_if {c : Expr} {t : Cp Bool} (hc : IT T X W c t) (ha : ISs T X W sts cs) (hb : ISs T X W sts' ct) : IS T X W (.If c sts sts' pos) (sIf t cs ct) := ⟨PS.weak (ps_if hc.pt ha.ps hb.ps) fun D σ H ⟨ρ, m, al, er, s, f⟩ => by
  refine ⟨ρ, m, al, er, s, Fin.mono (fun x H1 h1 => ?_) (FinS.lift (rel := fun _ _ (x : Bool) y => x = y) er f)⟩
  obtain ⟨d, m1, al1, g1, f1⟩ := h1
  have z := g1.r
  subst z
  cases x with
  | true => exact ⟨ρ, m1, al1, er.up g1.x, g1.s, f1⟩
  | false => exact ⟨ρ, m1, al1, er.up g1.x, g1.s, f1⟩⟩
theorem is_set (hN : X.N.Nodup) (h : IE T X W e ca) (hi : X.N[i]? = some x := by rfl) (hx : Loc X.env.scope x := by first | exact Or.inl rfl | exact Or.inr rfl)
    (hs : swapsWith e (some (.Name x pos')) pos.line X.env = pure false := by rfl) (hf : X.fn x = true ∨ X.env.scope.names.lookup x = some .local := by first | exact .inl rfl | exact .inr rfl) : IS T X W (.Assign [.Name x pos'] e pos) (sSet i ca) :=
  ⟨PS.weak (ps_set hN hi hx h.pe hs hf) fun D σ H ⟨ρ, m, al, er, s, f⟩ => by
    refine ⟨ρ, m, al, er, s, Fin.mono (fun x H1 h1 => ?_) (FinS.lift (rel := Rp (kx X T)) er f)⟩
    obtain ⟨d, m1, al1, g1, f1⟩ := h1
    exact f1 al1 H1 _ (Ext.refl _ _) g1.s ((er.up g1.x).put g1.r)⟩
theorem is_asg {tg : Expr} {t : TP} (h : IE T X W e ca) (hg : IG T X tg t) (hs : swapsWithSole [tg] e pos.line X.env = pure false := by rfl) (hw : swappedStores [tg] e X.env = pure none := by rfl)
    (h1 : (assignEach [tg] X.env).map (·.2) = [assign tg X.env] := by rfl) : IS T X W (.Assign [tg] e pos) (sAsg t ca) := ⟨PS.weak (ps_asg h.pe hg.pg hs hw h1) fun D σ H ⟨ρ, m, al, er, s, f⟩ => by
  refine ⟨ρ, m, al, er, s, Fin.mono (fun x H1 h1 => ?_) (FinS.lift (rel := Rp (kx X T)) er f)⟩
  obtain ⟨d, m1, al1, g1, f1⟩ := h1
  cases hh : asgT m1 t d ρ with
  | none => rw [hh] at f1; exact f1.elim
  | some ρ' =>
    rw [hh] at f1
    exact ⟨d, ρ, m1, al1, g1.r, er.up g1.x, g1.s, ρ', hh, fun σ' er' _ => f1 al1 H1 σ' (Ext.refl _ _) g1.s er'⟩⟩
/-- x, y = a, b of plain names -/
def sPar (i j : Nat) (ca : Cp (List D)) : Cs := fun ρ m => lift ρ (ca ρ m) fun ds m1 => match ds with
  | [v, w] => some (.nx ((ρ.set i (some v)).set j (some w)), m1)
  | _ => none
theorem is_par {j : Nat} {y : Str} {px py pt : Pos} {kt k2 pt2} {cas : Cp (List D)} (hc : X.calm = true) (hN : X.N.Nodup) (ha : IA T X W [a, b] cas) (hi : X.N[i]? = some x := by rfl) (hj : X.N[j]? = some y := by rfl) (hij : i ≠ j := by decide)
    (hx : X.env.scope.names.lookup x = some .local := by rfl) (hy : X.env.scope.names.lookup y = some .local := by rfl)
    (hw : swappedStores [.Tuple [.Name x px, .Name y py] kt pt] (.Tuple [a, b] k2 pt2) X.env = pure (some [x, y]) := by rfl)
    (hs : swapsWithSole [.Tuple [.Name x px, .Name y py] kt pt] (.Tuple [a, b] k2 pt2) pos.line X.env = pure false := by rfl) :
    IS T X W (.Assign [.Tuple [.Name x px, .Name y py] kt pt] (.Tuple [a, b] k2 pt2) pos) (sPar i j cas) := ⟨PS.weak (ps_par hc hN hi hj hij hx hy ha.pa hw hs) fun D σ H ⟨ρ, m, al, er, s, f⟩ => by
  refine ⟨ρ, m, al, er, s, Fin.mono (fun x H1 h1 => ?_) (FinS.lift (rel := RpL (kx X T)) er f)⟩
  obtain ⟨d, m1, al1, g1, f1⟩ := h1
  have r := g1.r
  cases r with
  | nil => exact f1.elim
  | cons r1 r =>
    cases r with
    | nil => exact f1.elim
    | cons r2 r =>
      cases r with
      | cons _ _ => exact f1.elim
      | nil => exact ⟨_, _, rfl, f1 al1 H1 _ (Ext.refl _ _) g1.s (((er.up g1.x).put r1).put r2)⟩⟩

/-! ### while -/
/-- at most n turns -/
def sWhileN (t : Cp Bool) (b : Cs) : Nat → Cs
  | 0, _, _ => none
  | n + 1, ρ, m => lift ρ (t ρ m) fun k m1 => if k = true then (match b ρ m1 with
      | some (.nx ρ', m') => sWhileN t b n ρ' m'
      | some (.ct ρ', m') => sWhileN t b n ρ' m'
      | some (.bk ρ', m') => some (.nx ρ', m')
      | r => r) else some (.nx ρ, m1)
theorem is_while {c : Expr} {t : Cp Bool} (hp : PassesOwn (model X.prog X.w) X.A X.env X.xe) (hc : IT T X W c t) (hb : ISs T X W sts cs) (n : Nat) : IS T X W (.While c sts [] pos) (sWhileN t cs n) :=
  ⟨PS.weak (ps_while hp hc.pt hb.ps) fun D σ H ⟨ρ, m, al, er, s, f⟩ => by
    refine ⟨fun k σ H => ∃ ρ m al, Er (kx X T) al H σ ρ ∧ Sim (kx X T) al m H ∧ FinS (kx X T) W al H D (sWhileN t cs k ρ m), ⟨n, ρ, m, al, er, s, f⟩, ?_⟩
    rintro k σ1 H1 ⟨ρ1, m1, al1, er1, s1, f1⟩
    cases k with
    | zero => exact f1.elim
    | succ k =>
      unfold sWhileN at f1
      refine ⟨ρ1, m1, al1, er1, s1, Fin.mono (fun x H2 h2 => ?_) (FinS.lift (rel := fun _ _ (x : Bool) y => x = y) er1 f1)⟩
      obtain ⟨d, m2, al2, g2, f2⟩ := h2
      have z := g2.r
      subst z
      cases x with
      | false => exact f2 al2 H2 σ1 (Ext.refl _ _) g2.s (er1.up g2.x)
      | true =>
        rw [if_pos rfl] at f2
        rw [if_pos rfl]
        refine ⟨fun σ H => ∃ ρ m al, Er (kx X T) al H σ ρ ∧ Sim (kx X T) al m H ∧ FinS (kx X T) W al H D (sWhileN t cs k ρ m), fun σ' H' h' => ⟨k, Nat.lt_succ_self k, h'⟩, ρ1, m2, al2, er1.up g2.x, g2.s, ?_⟩
        cases hh : cs ρ1 m2 with
        | none => rw [hh] at f2; exact f2
        | some r =>
          obtain ⟨fl, m'⟩ := r
          rw [hh] at f2
          cases fl with
          | nx ρ' => exact fun al' H' σ' p s' er' => ⟨ρ', m', al', er', s', FinS.up p f2⟩
          | ct ρ' => exact fun al' H' σ' p s' er' => ⟨ρ', m', al', er', s', FinS.up p f2⟩
          | bk ρ' => exact f2
          | _ => exact f2⟩

/-! ### what is walked -/
/-- an iterator: at turn i, in the store m: the item, or the end; none: it cannot be told -/
abbrev Wk := Nat → M → Option (Option D)
/-- a walk as the hand layer has it -/
def WkAt (K : G) (al : List Addr) (m : M) (H : Hp) (J : It) (i : Nat) : Option (Option D) → Prop
  | some (some d) => J.go i H ∧ ∀ x H2, J.yld i H x H2 → Ext al H al H2 ∧ Sim K al m H2 ∧ Rp K al H2 x d
  | some none => J.stop i H
  | none => True
def WkOk (K : G) (al : List Addr) (H : Hp) (J : It) (w : Wk) : Prop :=
  ∀ (i : Nat) (m : M) (al' : List Addr) (H' : Hp), Ext al H al' H' → Sim K al' m H' → WkAt K al' m H' J i (w i m)
def tID (K : G) (W : WX) (c : Cp Wk) : TI := fun σ H R => ∃ ρ m al, Er K al H σ ρ ∧ Sim K al m H ∧ Fin K (fun al' H' J w => WkOk K al' H' J w) (fun c d H' => W c d σ H') al H R (c ρ m)
structure II (T : Sv) (X : Cx) (W : WX) (tg e : Expr) (c : Cp Wk) : Prop where
  pi : PI X tg e (tID (kx X T) W c)
/-- the turns of a for: at most n -/
def sForN (w : Wk) (t : TP) (b : Cs) : Nat → Nat → En → M → RS
  | 0, _, _, _ => none
  | n + 1, i, ρ, m => match w i m with
    | none => none
    | some none => some (.nx ρ, m)
    | some (some d) => match asgT m t d ρ with
      | none => none
      | some ρ1 => match b ρ1 m with
        | some (.nx ρ', m') => sForN w t b n (i + 1) ρ' m'
        | some (.ct ρ', m') => sForN w t b n (i + 1) ρ' m'
        | some (.bk ρ', m') => some (.nx ρ', m')
        | r => r
def sFor (n : Nat) (c : Cp Wk) (t : TP) (b : Cs) : Cs := fun ρ m => lift ρ (c ρ m) fun w m1 => sForN w t b n 0 ρ m1
theorem is_for {tg it : Expr} {t : TP} {cw : Cp Wk} (n : Nat) (hp : PassesOwn (model X.prog X.w) X.A X.env X.xe) (hc : X.calm = true) (hi : II T X W tg it cw) (hg : IG T X tg t) (hb : ISs T X W sts cs)
    (hs : ∀ x, foldedSetIterable it X.env x = pure x := by intro _; rfl) : IS T X W (.For tg it sts [] pos) (sFor n cw t cs) :=
  ⟨PS.weak (ps_for hp hc hi.pi hg.pg hb.ps hs) fun D σ H ⟨ρ, m, al, er, s, f⟩ => by
    refine ⟨ρ, m, al, er, s, Fin.mono (fun J H1 h1 => ?_) (FinS.lift (rel := fun al' H' J w => WkOk (kx X T) al' H' J w) er f)⟩
    obtain ⟨w, m1, al1, g1, f1⟩ := h1
    refine ⟨fun i k σ H => ∃ ρ m al, Ext al1 H1 al H ∧ Er (kx X T) al H σ ρ ∧ Sim (kx X T) al m H ∧ FinS (kx X T) W al H D (sForN w t cs k i ρ m), ⟨n, ρ, m1, al1, Ext.refl _ _, er.up g1.x, g1.s, f1⟩, ?_⟩
    rintro i k σ2 H2 ⟨ρ2, m2, al2, p2, er2, s2, f2⟩
    cases k with
    | zero => exact f2.elim
    | succ k =>
      have wk := g1.r i m2 al2 H2 p2 s2
      unfold sForN at f2
      cases hw : w i m2 with
      | none => rw [hw] at f2; exact f2.elim
      | some o =>
        rw [hw] at wk f2
        cases o with
        | none => exact .inl ⟨wk, f2 al2 H2 σ2 (Ext.refl _ _) s2 er2⟩
        | some d =>
          refine .inr ⟨wk.1, fun σ H => ∃ ρ m al, Ext al1 H1 al H ∧ Er (kx X T) al H σ ρ ∧ Sim (kx X T) al m H ∧ FinS (kx X T) W al H D (sForN w t cs k (i + 1) ρ m), fun σ' H' h' => ⟨k, Nat.lt_succ_self k, h'⟩, fun x H3 hy => ?_⟩
          obtain ⟨gr3, s3, r3⟩ := wk.2 x H3 hy
          dsimp only at f2
          cases ha : asgT m2 t d ρ2 with
          | none => rw [ha] at f2; exact f2.elim
          | some ρ3 =>
            rw [ha] at f2
            refine ⟨d, ρ2, m2, al2, r3, er2.up gr3, s3, ρ3, ha, fun σ3 er3 _ => ⟨ρ3, m2, al2, er3, s3, ?_⟩⟩
            have f2 := FinS.up gr3 f2
            dsimp only at f2
            cases hh : cs ρ3 m2 with
            | none => rw [hh] at f2; exact f2
            | some r =>
              obtain ⟨fl, m'⟩ := r
              rw [hh] at f2
              cases fl with
              | nx ρ' => exact fun al' H' σ' p s' er' => ⟨ρ', m', al', (p2.trans gr3).trans p, er', s', FinS.up p f2⟩
              | ct ρ' => exact fun al' H' σ' p s' er' => ⟨ρ', m', al', (p2.trans gr3).trans p, er', s', FinS.up p f2⟩
              | bk ρ' => exact f2
              | _ => exact f2⟩
end
end Sx

set_option Elab.async false
set_option linter.all false
set_option maxRecDepth 100000
set_option maxHeartbeats 2000000
/-! Sx4: walks, comprehensions, defs and their calls. -/
namespace Sx
open PySem PySem.Spec PyProof.Rows L2

/-! ### walks -/
def wkD (d : D) (m : M) : R Wk := match d with
  | .tup xs => ok (fun i _ => some xs[i]?) m
  | .kt xs => ok (fun i _ => some xs[i]?) m
  | .fl xs => ok (fun i _ => some xs[i]?) m
  | .str x => ok (fun i _ => some ((x.cps[i]?).map fun c => .str ⟨#[c]⟩)) m
  | .ref j => match m[j]? with
    | some (.lst _) => ok (fun i m => match m[j]? with
      | some (.lst xs) => some xs[i]?
      | _ => none) m
    | _ => none
  | _ => none
def cWk (c : Cp D) : Cp Wk := fun ρ m => bind (c ρ m) wkD
section
variable {K : G} {al : List Addr} {H : Hp} {a : Addr} {vs : List V} {ds : List D}
theorem wk_tup (h : ∀ H', Grow H H' → SqT K.k H' a vs) (r : RpL K al H vs ds) : WkOk K al H (Itt K.k a) (fun i _ => some ds[i]?) := fun i m al' H' p s => by
  have h' := h H' p.g
  have r' := r.ext p
  show WkAt K al' m H' _ i (some ds[i]?)
  cases e : ds[i]? with
  | none =>
    refine ⟨vs, h', ?_⟩
    have := List.getElem?_eq_none_iff.mp e
    rw [r.len]
    exact this
  | some d =>
    obtain ⟨v, h1, h2⟩ := r'.get e
    refine ⟨⟨vs, v, h', h1⟩, fun x H2 ⟨e2, hx⟩ => ?_⟩
    subst e2
    have := hx vs h'
    rw [h1] at this
    cases this
    exact ⟨Ext.refl _ _, s, h2⟩
theorem wk_fl (h : SqF K.k H a vs) (r : RpL K al H vs ds) : WkOk K al H (Itl K.k a) (fun i _ => some ds[i]?) := fun i m al' H' p s => by
  have h' := sqF_sq (sqF_grow p.g h)
  have r' := r.ext p
  show WkAt K al' m H' _ i (some ds[i]?)
  cases e : ds[i]? with
  | none =>
    refine ⟨vs, h', ?_⟩
    have := List.getElem?_eq_none_iff.mp e
    rw [r.len]
    exact this
  | some d =>
    obtain ⟨v, h1, h2⟩ := r'.get e
    refine ⟨⟨vs, v, h', h1⟩, fun x H2 ⟨e2, hx⟩ => ?_⟩
    subst e2
    have := hx vs h'
    rw [h1] at this
    cases this
    exact ⟨Ext.refl _ _, s, h2⟩
theorem wk_lst {j : Nat} (h : al[j]? = some a) : WkOk K al H (Itl K.k a) (fun i m => match m[j]? with
      | some (.lst xs) => some xs[i]?
      | _ => none) := fun i m al' H' p s => by
  obtain ⟨o, ho, ro⟩ := s.of (pre_get p.p h)
  show WkAt K al' m H' _ i (match m[j]? with
      | some (.lst xs) => some xs[i]?
      | _ => none)
  rw [ho]
  cases o with
  | lst ds =>
    obtain ⟨vs, hv, r⟩ := ro
    have h' : SqL K.k H' a vs := SqL.of hv
    dsimp only
    cases e : ds[i]? with
    | none =>
      refine ⟨vs, h', ?_⟩
      have := List.getElem?_eq_none_iff.mp e
      rw [r.len]
      exact this
    | some d =>
      obtain ⟨v, h1, h2⟩ := r.get e
      refine ⟨⟨vs, v, h', h1⟩, fun x H2 ⟨e2, hx⟩ => ?_⟩
      subst e2
      have := hx vs h'
      rw [h1] at this
      cases this
      exact ⟨Ext.refl _ _, s, h2⟩
  | _ => exact trivial
theorem wk_str {x : Str} : WkOk K al H (Its x) (fun i _ => some ((x.cps[i]?).map fun c => .str ⟨#[c]⟩)) := fun i m al' H' p s => by
  show WkAt K al' m H' _ i (some ((x.cps[i]?).map fun c => .str ⟨#[c]⟩))
  cases e : x.cps[i]? with
  | none =>
    have := Array.getElem?_eq_none_iff.mp e
    exact this
  | some c =>
    obtain ⟨hi, _⟩ := Array.getElem?_eq_some_iff.mp e
    refine ⟨hi, fun v H2 ⟨e2, c', hc, hv⟩ => ?_⟩
    subst e2
    rw [e] at hc
    cases hc
    subst hv
    exact ⟨Ext.refl _ _, s, .str _⟩
end
section
variable {T : Sv} {X : Cx} {W : WX} {e e2 tg : Expr} {ca cb cc : Cp D} {pos p tpos : Pos} {cs : Cp (List D)} {elts : List Expr} {kk : Nat}
theorem ii_any (ha : IE T X W e ca) : II T X W tg e (cWk ca) := ⟨⟨fun pins s σ H R I ⟨ρ, m, al, er, S, f⟩ => by
  refine thn (ha.pe.run pins s σ H _ I ⟨ρ, m, al, er, S, Fin.bind (rel := Rp (kx X T)) f⟩) fun v s1 ⟨x, H1, I1, r1, d, m1, al1, g1, f1⟩ => ?_
  have rd := g1.r
  unfold wkD at f1
  cases rd with
  | tup h t =>
    cases r1
    obtain ⟨its, rv, p, hz⟩ := I1.tuple (SqT.of h)
    refine wpAny_pyIter_tuple (show s1.heap.IsTuple _ its.toArray from p) ?_
    exact pi_one (tk := s1.toks) I1 _ (turn_tuple _ _) ⟨_, Heap.get?_push_size _ rfl, rfl, rfl⟩ (f1 al1 H1 (Itt X.K _) (Ext.refl _ _) g1.s (wk_tup (fun _ g => SqT.of (g.tup _ _ h)) t))
  | kt h t =>
    cases r1
    obtain ⟨its, rv, p, hz⟩ := I1.tuple (h H1)
    refine wpAny_pyIter_tuple (show s1.heap.IsTuple _ its.toArray from p) ?_
    exact pi_one (tk := s1.toks) I1 _ (turn_tuple _ _) ⟨_, Heap.get?_push_size _ rfl, rfl, rfl⟩ (f1 al1 H1 (Itt X.K _) (Ext.refl _ _) g1.s (wk_tup (fun _ _ => h _) t))
  | fl h t =>
    cases r1
    obtain ⟨its, rv, p, hz⟩ := I1.list (sqF_sq h)
    refine wpAny_pyIter_list p.isList ?_
    exact pi_one (tk := s1.toks) I1 _ (turn_list _ _) ⟨_, Heap.get?_push_size _ rfl, rfl, rfl⟩ (f1 al1 H1 (Itl X.K _) (Ext.refl _ _) g1.s (wk_fl h t))
  | ref h =>
    obtain ⟨o, ho, ro⟩ := g1.s.of h
    dsimp only at f1
    rw [ho] at f1
    cases o with
    | lst ds =>
      obtain ⟨vs, hv, r⟩ := ro
      cases r1
      obtain ⟨its, rv, p, hz⟩ := I1.list (SqL.of hv)
      refine wpAny_pyIter_list p.isList ?_
      exact pi_one (tk := s1.toks) I1 _ (turn_list _ _) ⟨_, Heap.get?_push_size _ rfl, rfl, rfl⟩ (f1 al1 H1 (Itl X.K _) (Ext.refl _ _) g1.s (wk_lst h))
    | _ => exact f1.elim
  | str x =>
    obtain ⟨t, rfl⟩ := r1
    have q := f1 al1 H1 (Its x) (Ext.refl _ _) g1.s wk_str
    cases ha : x.cps.all (· < 128)
    · exact wpAny_pyIter_wide ha (pi_one (tk := s1.toks) I1 _ (turn_str _ x t "str_iterator" (.inr rfl)) ⟨_, Heap.get?_push_size _ rfl, rfl, rfl⟩ q)
    · exact wpAny_pyIter_ascii ha (pi_one (tk := s1.toks) I1 _ (turn_str _ x t "str_ascii_iterator" (.inl rfl)) ⟨_, Heap.get?_push_size _ rfl, rfl, rfl⟩ q)
  | _ => exact f1.elim⟩⟩
theorem PI.weak {X : Cx} {tg e : Expr} {t t' : TI} (h : PI X tg e t) (w : ∀ σ H R, t' σ H R → t σ H R) : PI X tg e t' := ⟨fun pins s σ H R I q => h.run pins s σ H R I (w _ _ _ q)⟩
/-- range of one, of two numbers -/
def bigI : Int := 1000000000000000
def wkR (a n : Int) : Wk := fun i _ => if a + (i : Int) < n then some (some (.int (a + (i : Int)))) else some none
theorem wk_rng {K : G} {al : List Addr} {H : Hp} (a n : Int) : WkOk K al H (Itr a (n - a).toNat) (wkR a n) := fun i m al' H' p s => by
  show WkAt K al' m H' _ i (if a + (i : Int) < n then some (some (.int (a + (i : Int)))) else some none)
  by_cases h : a + (i : Int) < n
  · rw [if_pos h]
    refine ⟨show i < (n - a).toNat by omega, fun x H2 ⟨e1, e2⟩ => ?_⟩
    subst e1
    subst e2
    exact ⟨Ext.refl _ _, s, .int _⟩
  · rw [if_neg h]
    show (n - a).toNat ≤ i
    omega
def rngD1 (d : D) (m : M) : R Wk := match d with
  | .int n => if -bigI ≤ n ∧ n ≤ bigI then ok (wkR 0 n) m else none
  | _ => none
def rngD2 (d e : D) (m : M) : R Wk := match d, e with
  | .int a, .int n => if (-bigI ≤ a ∧ a ≤ bigI) ∧ -bigI ≤ n ∧ n ≤ bigI then ok (wkR a n) m else none
  | _, _ => none
def cRng1 (ca : Cp D) : Cp Wk := fun ρ m => bind (ca ρ m) rngD1
def cRng2 (ca cb : Cp D) : Cp Wk := fun ρ m => bind (ca ρ m) fun x m1 => bind (cb ρ m1) fun y m2 => rngD2 x y m2
theorem ii_rng1 {a : Expr} (hg : Gl X "range") (hm : X.mg "range" = none) (ha : IE T X W a ca) (hs : starEach [a] X.env = [(false, eval a X.env)] := by rfl) : II T X W tg (.Call (.Name "range" p) [a] [] pos) (cRng1 ca) :=
  ⟨PI.weak (pi_range1 hg hm (pa_cons ha.pe pa_nil hs) hs) fun σ H R ⟨ρ, m, al, er, S, f⟩ => by
    refine ⟨ρ, m, al, er, S, Fin.mono (fun x H1 h1 => ?_) (Fin.bind (rel := Rp (kx X T)) f)⟩
    obtain ⟨d, m1, al1, g1, f1⟩ := h1
    have r := g1.r
    unfold rngD1 at f1
    cases r with
    | int n =>
      dsimp only at f1
      split at f1
      · rename_i hb
        unfold bigI at hb
        refine ⟨n, rfl, by omega, by omega, f1 al1 H1 _ (Ext.refl _ _) g1.s ?_⟩
        have := wk_rng (K := (kx X T)) (al := al1) (H := H1) 0 n
        rw [Int.sub_zero] at this
        exact this
      · exact f1.elim
    | _ => exact f1.elim⟩
theorem ii_rng2 {a b : Expr} (hg : Gl X "range") (hm : X.mg "range" = none) (ha : IE T X W a ca) (hb : IE T X W b cb) (hs : starEach [a, b] X.env = [(false, eval a X.env), (false, eval b X.env)] := by rfl) (hs2 : starEach [b] X.env = [(false, eval b X.env)] := by rfl) :
    II T X W tg (.Call (.Name "range" p) [a, b] [] pos) (cRng2 ca cb) :=
  ⟨PI.weak (pi_range2 hg hm (pa_cons ha.pe (pa_cons hb.pe pa_nil hs2) (by rw [hs, hs2])) hs hs2) fun σ H R ⟨ρ, m, al, er, S, f⟩ => by
    refine ⟨ρ, m, al, er, S, Fin.mono (fun x H1 h1 => ?_) (Fin.bind (rel := Rp (kx X T)) f)⟩
    obtain ⟨d, m1, al1, g1, f1⟩ := h1
    refine ⟨ρ, m1, al1, er.up g1.x, g1.s, Fin.mono (fun y H2 h2 => ?_) (Fin.bind (rel := Rp (kx X T)) f1)⟩
    obtain ⟨e, m2, al2, g2, f2⟩ := h2
    have r := g1.r
    have r2 := g2.r
    unfold rngD2 at f2
    cases r <;> cases r2 <;> try (exact f2.elim)
    case int.int a n =>
      dsimp only at f2
      split at f2
      · rename_i hb
        unfold bigI at hb
        exact ⟨a, n, rfl, by omega, f2 al2 H2 _ (Ext.refl _ _) g2.s (wk_rng a n)⟩
      · exact f2.elim⟩
/-- enumerate of a list -/
def wkE (w : Wk) : Wk := fun i m => match w i m with
  | some (some d) => some (some (.tup [.int (i : Int), d]))
  | some none => some none
  | none => none
def enumL (d : D) (m : M) : R Wk := match d with
  | .fl xs => ok (wkE fun i _ => some xs[i]?) m
  | .ref j => match m[j]? with
    | some (.lst _) => ok (wkE fun i m => match m[j]? with
      | some (.lst xs) => some xs[i]?
      | _ => none) m
    | _ => none
  | _ => none
def cEnL (c : Cp D) : Cp Wk := fun ρ m => bind (c ρ m) enumL
theorem wk_enum {K : G} {al : List Addr} {H : Hp} {a : Addr} {w : Wk} (h : WkOk K al H (Itl K.k a) w) : WkOk K al H (Ite K.k a) (wkE w) := fun i m al' H' p s => by
  have q := h i m al' H' p s
  show WkAt K al' m H' _ i (match w i m with
    | some (some d) => some (some (.tup [.int (i : Int), d]))
    | some none => some none
    | none => none)
  cases hw : w i m with
  | none => exact trivial
  | some o =>
    rw [hw] at q
    cases o with
    | none => exact q
    | some d =>
      obtain ⟨⟨xs, x, hq, hx⟩, q2⟩ := q
      refine ⟨⟨xs, x, hq, hx⟩, fun v H2 ⟨T, y, e1, e2, e3, e4⟩ => ?_⟩
      subst e1
      subst e3
      obtain ⟨_, _, r⟩ := q2 y H' ⟨rfl, e4⟩
      exact ⟨Ext.lay e2, s.lay e2, .tup upd_same (.cons (.int _) (.cons (r.up (List.prefix_refl _) (Grow.new e2)) .nil))⟩
theorem ii_enumL (hg : Gl X "enumerate") (hm : X.mg "enumerate" = none) (ha : IE T X W e ca) (hs : starEach [e] X.env = [(false, eval e X.env)] := by rfl) : II T X W (.Tuple elts kk tpos) (.Call (.Name "enumerate" p) [e] [] pos) (cEnL ca) :=
  ⟨PI.weak (pi_enum hg hm (pa_cons ha.pe pa_nil hs) hs) fun σ H R ⟨ρ, m, al, er, S, f⟩ => by
    refine ⟨ρ, m, al, er, S, Fin.mono (fun x H1 h1 => ?_) (Fin.bind (rel := Rp (kx X T)) f)⟩
    obtain ⟨d, m1, al1, g1, f1⟩ := h1
    have r := g1.r
    unfold enumL at f1
    cases r with
    | fl h t => exact ⟨_, _, rfl, sqF_sq h, f1 al1 H1 _ (Ext.refl _ _) g1.s (wk_enum (wk_fl h t))⟩
    | ref h =>
      obtain ⟨o, ho, ro⟩ := g1.s.of h
      dsimp only at f1
      rw [ho] at f1
      cases o with
      | lst ds =>
        obtain ⟨vs, hv, r⟩ := ro
        exact ⟨_, _, rfl, SqL.of hv, f1 al1 H1 _ (Ext.refl _ _) g1.s (wk_enum (wk_lst h))⟩
      | _ => exact f1.elim
    | _ => exact f1.elim⟩
end

/-! ### list comprehensions -/
/-- the names of the block forgotten -/
def wipeD (ρ : En) : List Nat → En
  | [] => ρ
  | v :: vs => (wipeD ρ vs).set v none
theorem er_wipe {K : G} {al : List Addr} {H : Hp} {σ : L2.St} {ρ : En} (e : Er K al H σ ρ) : ∀ vs : List Nat, Er K al H (wipe σ vs) (wipeD ρ vs)
  | [] => e
  | _ :: vs => (er_wipe e vs).del
theorem wipe_get {σ : L2.St} : ∀ {vs : List Nat} {j : Nat}, j ∉ vs → (wipe σ vs)[j]? = σ[j]?
  | [], _, _ => rfl
  | v :: vs, j, h => by
    unfold wipe
    rw [List.getElem?_set_ne (fun z => h (by rw [z]; exact List.mem_cons_self ..))]
    exact wipe_get fun z => h (List.mem_cons_of_mem _ z)
theorem wipe_in {σ : L2.St} : ∀ {vs : List Nat} {j : Nat}, j ∈ vs → j < σ.length → (wipe σ vs)[j]? = some none
  | [], _, h, _ => nomatch h
  | v :: vs, j, h, hl => by
    unfold wipe
    by_cases z : j = v
    · subst z
      rw [List.getElem?_set_self (by rw [wipe_length]; exact hl)]
    · rw [List.getElem?_set_ne (Ne.symm z)]
      exact wipe_in ((List.mem_cons.mp h).resolve_left z) hl
theorem wipe_same {vs ws : List Nat} {σ σ' : L2.St} (h : SameBut ws (wipe σ vs) σ') (hw : ∀ j ∈ ws, j ∈ vs) : wipe σ' vs = wipe σ vs := by
  have hl : σ'.length = σ.length := by rw [h.1, wipe_length]
  apply List.ext_getElem?
  intro j
  by_cases z : j ∈ vs
  · by_cases c : j < σ.length
    · rw [wipe_in z c, wipe_in z (by rw [hl]; exact c)]
    · rw [List.getElem?_eq_none (by rw [wipe_length, hl]; omega), List.getElem?_eq_none (by rw [wipe_length]; omega)]
  · rw [wipe_get z, h.2 j fun q => z (hw j q)]
/-- the turns of a comprehension: at most n -/
def lcN (w : Wk) (t : TP) (tt : Cp Bool) (te : Cp D) (ρ : En) : Nat → Nat → List D → M → R (List D)
  | 0, _, _, _ => none
  | n + 1, i, acc, m => match w i m with
    | none => none
    | some none => ok acc m
    | some (some d) => match asgT m t d ρ with
      | none => none
      | some ρ1 => match tt ρ1 m with
        | some (.ok k, m1) => if k = true then (match te ρ1 m1 with
            | some (.ok y, m2) => if acc.length < lim then lcN w t tt te ρ n (i + 1) (acc ++ [y]) m2 else none
            | _ => none) else lcN w t tt te ρ n (i + 1) acc m1
        | _ => none
def cLc (n : Nat) (cw : Cp Wk) (t : TP) (tt : Cp Bool) (te : Cp D) (vs : List Nat) : Cp D := fun ρ m => bind (cw ρ m) fun w m1 => bind (lcN w t tt te (wipeD ρ vs) n 0 [] m1) fun xs m2 => new (.lst xs) m2
theorem Er.grow {K : G} {al al' : List Addr} {H H' : Hp} {σ : L2.St} {ρ : En} (e : Er K al H σ ρ) (p : al <+: al') (g : Grow H H') : Er K al' H' σ ρ :=
  ⟨e.len, fun i d h => let ⟨v, h1, h2⟩ := e.at_ i d h; ⟨v, h1, h2.up p g⟩⟩
/-- an object of ours that the store did not know is taken into it -/
theorem Sim.adopt {K : G} {al : List Addr} {m : M} {H : Hp} {p : Addr} {o : O} (S : Sim K al m H) (hp : p ∉ al) (r : ORp K (al ++ [p]) H p o) : Sim K (al ++ [p]) (m ++ [o]) H := by
  refine ⟨by simp [S.len], List.nodup_append.mpr ⟨S.nd, by simp, fun a ha b hb => by
    rw [List.mem_singleton.mp hb]
    rintro rfl
    exact hp ha⟩, fun i q a h1 h2 => ?_⟩
  by_cases hi : i < m.length
  · rw [List.getElem?_append_left hi] at h1
    rw [List.getElem?_append_left (by rw [S.len]; exact hi)] at h2
    exact (S.ob i q a h1 h2).up ⟨_, rfl⟩ (Grow.refl _) rfl
  · have hi' : i = m.length := by
      have := (List.getElem?_eq_some_iff.mp h1).1
      simp at this
      omega
    subst hi'
    rw [List.getElem?_append_right (Nat.le_refl _)] at h1
    rw [← S.len, List.getElem?_append_right (Nat.le_refl _)] at h2
    simp at h1 h2
    subst h1
    subst h2
    exact r
abbrev WF : WX := fun _ _ _ _ => False
structure ITs (T : Sv) (X : Cx) (W : WX) (ifs : List Expr) (c : Cp Bool) : Prop where
  pt : PTs X ifs (tBD (kx X T) W c)
def cYes : Cp Bool := fun _ m => ok true m
theorem its_nil {T : Sv} {X : Cx} {W : WX} : ITs T X W [] cYes := ⟨⟨fun pins s σ H Q I ⟨ρ, m, al, er, S, f⟩ => pts_nil.run pins s σ H Q I (f.ret S rfl)⟩⟩
theorem its_one {T : Sv} {X : Cx} {W : WX} {c : Expr} {t : Cp Bool} (h : IT T X W c t) : ITs T X W [c] t := ⟨pts_one h.pt⟩
section
variable {T : Sv} {X : Cx} {W : WX}
theorem lc_w {wi : TI} {cw : Cp Wk} {t : TP} {tt : Cp Bool} {te : Cp D} {vs : List Nat} {n : Nat} (hv : ∀ j ∈ varsT t, j ∈ vs) (hwi : ∀ σ H R, tID (kx X T) W cw σ H R → wi σ H R) (σ : L2.St) (H : Hp) (Q : VK) (h : tD (kx X T) W (cLc n cw t tt te vs) σ H Q) :
    tLc wi (gD (kx X T) t) (tBD (kx X T) WF tt) (tD (kx X T) WF te) vs σ H Q := by
  obtain ⟨ρ, m, al, er, s, f⟩ := h
  refine hwi _ _ _ ⟨ρ, m, al, er, s, Fin.mono (fun J H1 h1 => ?_) (Fin.bind (rel := fun al' H' J w => WkOk (kx X T) al' H' J w) f)⟩
  obtain ⟨w, m1, al1, g1, f1⟩ := h1
  intro Dl hD
  have hDal : Dl ∉ al1 := fun z => by
    obtain ⟨u, e, _⟩ := g1.s.there z
    rw [hD] at e
    cases e
  have er1 := er.up g1.x
  refine ⟨fun i k H2 => ∃ (ws : List V) (acc : List D) (m2 : M) (al2 : List Addr), H2 Dl = some (.lst ws) ∧ Dl ∉ al2 ∧ RpL (kx X T) al2 H2 ws acc ∧ Sim (kx X T) al2 m2 H2 ∧ Ext al1 H1 al2 H2 ∧
    Fin (kx X T) (Rp (kx X T)) (fun c d H' => W c d σ H') al1 H1 Q (bind (lcN w t tt te (wipeD ρ vs) k i acc m2) fun xs m2 => new (.lst xs) m2), ⟨n, [], [], m1, al1, upd_same, hDal, .nil, g1.s.lay hD, Ext.lay hD, f1⟩, ?_⟩
  rintro i k H2 ⟨ws, acc, m2, al2, hl, hn, ra, s2, x2, f2⟩
  cases k with
  | zero => exact f2.elim
  | succ k =>
    have wk := g1.r i m2 al2 H2 x2 s2
    unfold lcN at f2
    cases hw : w i m2 with
    | none => rw [hw] at f2; exact f2.elim
    | some o =>
      rw [hw] at wk f2
      cases o with
      | none =>
        refine .inl ⟨wk, f2 (al2 ++ [Dl]) H2 (.ref Dl) ⟨x2.p.trans ⟨_, rfl⟩, x2.g, fun a u h nn => ?_⟩ (s2.adopt hn ⟨ws, hl, ra.up ⟨_, rfl⟩ (Grow.refl _)⟩) (.ref (by rw [← s2.len, List.getElem?_append_right (Nat.le_refl _)]; simp))⟩
        obtain ⟨n1, h1⟩ := x2.k a u h nn
        refine ⟨fun z => ?_, h1⟩
        rcases List.mem_append.mp z with z | z
        · exact n1 z
        · rw [List.mem_singleton.mp z, hD] at h
          cases h
      | some d =>
        refine .inr ⟨wk.1, fun H3 => ∃ (ws : List V) (acc : List D) (m2 : M) (al2 : List Addr), H3 Dl = some (.lst ws) ∧ Dl ∉ al2 ∧ RpL (kx X T) al2 H3 ws acc ∧ Sim (kx X T) al2 m2 H3 ∧ Ext al1 H1 al2 H3 ∧
          Fin (kx X T) (Rp (kx X T)) (fun c d H' => W c d σ H') al1 H1 Q (bind (lcN w t tt te (wipeD ρ vs) k (i + 1) acc m2) fun xs m2 => new (.lst xs) m2), fun H' h' => ⟨k, Nat.lt_succ_self k, h'⟩, fun x H3 hy => ?_⟩
        obtain ⟨x3, s3, r3⟩ := wk.2 x H3 hy
        dsimp only at f2
        cases ha : asgT m2 t d (wipeD ρ vs) with
        | none => rw [ha] at f2; exact f2.elim
        | some ρ1 =>
          rw [ha] at f2
          obtain ⟨n3, hl3⟩ := x3.k Dl _ hl hn
          have x13 := x2.trans x3
          have erw : Er (kx X T) al2 H3 (wipe σ vs) (wipeD ρ vs) := er_wipe (er1.up x13) vs
          refine ⟨d, wipeD ρ vs, m2, al2, r3, erw, s3, ρ1, ha, fun σ3 er3 sb => ⟨wipe_same sb hv, ρ1, m2, al2, er3, s3, ?_⟩⟩
          dsimp only at f2
          rcases ht : tt ρ1 m2 with _ | ⟨b | ex, m4⟩
          · rw [ht] at f2; exact f2.elim
          · rw [ht] at f2
            intro al4 H4 b' x4 s4 eb
            subst eb
            obtain ⟨n4, hl4⟩ := x4.k Dl _ hl3 n3
            have x14 := x13.trans x4
            dsimp only at f2
            cases b' with
            | false => exact ⟨ws, acc, m4, al4, hl4, n4, (ra.ext x3).ext x4, s4, x14, f2⟩
            | true =>
              rw [if_pos rfl] at f2
              rw [if_pos rfl]
              refine ⟨ρ1, m4, al4, er3.up x4, s4, ?_⟩
              rcases hy2 : te ρ1 m4 with _ | ⟨y | ex, m5⟩
              · rw [hy2] at f2; exact f2.elim
              · rw [hy2] at f2
                dsimp only at f2
                split at f2
                · rename_i hlim
                  intro al5 H5 v x5 s5 r5
                  obtain ⟨n5, hl5⟩ := x5.k Dl _ hl4 n4
                  have gm : Grow H5 (upd H5 Dl (.lst (ws ++ [v]))) := Grow.mut hl5 trivial
                  have x15 := x14.trans x5
                  refine ⟨ws, hl5, lim_lt (by rw [ra.len]; exact hlim), ws ++ [v], acc ++ [y], m5, al5, upd_same, n5, (((((ra.ext x3).ext x4).ext x5)).app (.cons r5 .nil)).up (List.prefix_refl _) gm, s5.keep gm fun a ha => upd_ne (fun z => n5 (by rw [← z]; exact ha)), ⟨x15.p, x15.g.trans gm, fun a u h nn => ?_⟩, f2⟩
                  obtain ⟨q1, q2⟩ := x15.k a u h nn
                  exact ⟨q1, by rw [upd_ne (ne_of_none h hD)]; exact q2⟩
                · exact f2.elim
              · rw [hy2] at f2; exact f2.elim
          · rw [ht] at f2; exact f2.elim
variable {elt tg iter : Expr} {ifs : List Expr} {scope : Scope} {own : List (Str × Nat)} {pos spos py : Pos} {cw : Cp Wk} {t : TP} {tt : Cp Bool} {te : Cp D} {y : Str} {i : Nat}
theorem ie_lc (n : Nat) (hc : X.calm = true) (hN : X.N.Nodup) (hi : II T X W tg iter cw) (ok : BlkOk X.N X.env.scope scope own) (hv : ∀ j ∈ varsT t, j ∈ own.map (·.2))
    (hg : ∀ (s : Shared) (H : Hp) (C : Addr) (cl : List (Str × Addr)) (fp : List Addr), IG T (X.blk s H scope (compEnvC scope cl C X.env) fp) tg t) (ht : ∀ (s : Shared) (H : Hp) (C : Addr) (cl : List (Str × Addr)) (fp : List Addr), ITs T (X.blk s H scope (compEnvC scope cl C X.env) fp) WF ifs tt)
    (he : ∀ (s : Shared) (H : Hp) (C : Addr) (cl : List (Str × Addr)) (fp : List Addr), IE T (X.blk s H scope (compEnvC scope cl C X.env) fp) WF elt te) (hs : ∀ x, foldedSetIterable iter X.env x = pure x := by intro _; rfl) :
    IE T X W (.ListComp elt [⟨tg, iter, ifs, 0⟩] scope pos) (cLc n cw t tt te (own.map (·.2))) :=
  ⟨PE.weak (pe_lc hc hN hi.pi ok (fun s H C cl fp => (hg s H C cl fp).pg) (fun s H C cl fp => (ht s H C cl fp).pt) (fun s H C cl fp => (he s H C cl fp).pe) hs) fun σ H Q h => lc_w hv (fun _ _ _ z => z) σ H Q h⟩
theorem is_setLc (n : Nat) (hc : X.calm = true) (hN : X.N.Nodup) (hi : II T X W tg iter cw) (ok : BlkOk X.N X.env.scope scope own) (hv : ∀ j ∈ varsT t, j ∈ own.map (·.2))
    (hg : ∀ (s : Shared) (H : Hp) (C : Addr) (cl : List (Str × Addr)) (fp : List Addr), IG T (X.blk s H scope (compEnvC scope cl C X.env) fp) tg t) (ht : ∀ (s : Shared) (H : Hp) (C : Addr) (cl : List (Str × Addr)) (fp : List Addr), ITs T (X.blk s H scope (compEnvC scope cl C X.env) fp) WF ifs tt)
    (he : ∀ (s : Shared) (H : Hp) (C : Addr) (cl : List (Str × Addr)) (fp : List Addr), IE T (X.blk s H scope (compEnvC scope cl C X.env) fp) WF elt te)
    (hsw : swapsWith (.ListComp elt [⟨tg, iter, ifs, 0⟩] scope pos) (some (.Name y py)) spos.line X.env = pure true) (hy : X.N[i]? = some y := by rfl) (hyl : X.env.scope.names.lookup y = some .local := by rfl) (hs : ∀ x, foldedSetIterable iter X.env x = pure x := by intro _; rfl) :
    IS T X W (.Assign [.Name y py] (.ListComp elt [⟨tg, iter, ifs, 0⟩] scope pos) spos) (sSet i (cLc n cw t tt te (own.map (·.2)))) :=
  ⟨PS.weak (ps_setLc hc hN hy hyl hsw hi.pi ok (fun s H C cl fp => (hg s H C cl fp).pg) (fun s H C cl fp => (ht s H C cl fp).pt) (fun s H C cl fp => (he s H C cl fp).pe) hs) fun D σ H ⟨ρ, m, al, er, s, f⟩ => by
    refine lc_w hv (fun _ _ _ z => z) σ H _ ⟨ρ, m, al, er, s, Fin.mono (fun x H1 h1 => ?_) (FinS.lift (rel := Rp (kx X T)) er f)⟩
    obtain ⟨d, m1, al1, g1, f1⟩ := h1
    exact f1 al1 H1 _ (Ext.refl _ _) g1.s ((er.up g1.x).put g1.r)⟩
end
end Sx

set_option Elab.async false
set_option linter.all false
set_option maxRecDepth 100000
set_option maxHeartbeats 2000000
/-! Sx5: defs and their calls, instances, fields, methods. -/
namespace Sx
open PySem PySem.Spec PyProof.Rows L2

/-- as the hand layer's FnOk, where it is known that no repr is running -/
structure FnA (P : Program) (w : World) (K : PySem.W.Frag) (mg : Str → Option Value) (base : Heap) (k : Nat) (f : Addr) (fd : FuncData) (ps : List Str) (sp : Sp) : Prop where
  len : ∀ vs H Q E, sp vs H Q E → vs.length = ps.length
  run : ∀ (A : Around) (outer : List Env) (s : Shared) (H : Hp) (args : Args) (us : List Value) (vs : List V) (Q : VK) (E : XK), A.guards = some [] → Room k A → Env0 P w K mg base A outer s H → BindsTo s fd args (ps.zip us) → Vals vs us → sp vs H Q E →
    codeAny (model P w) A (.call (.ref f) args) (CR (L2.CX P w) outer P w H s Q E) s
theorem FnA.mono {P : Program} {w : World} {K : PySem.W.Frag} {mg : Str → Option Value} {base : Heap} {j k : Nat} {f : Addr} {fd : FuncData} {ps : List Str} {sp : Sp} (F : FnA P w K mg base j f fd ps sp) (h : j ≤ k) : FnA P w K mg base k f fd ps sp :=
  ⟨F.len, fun A outer s H args us vs Q E hg hr => F.run A outer s H args us vs Q E hg (hr.mono h)⟩
theorem FnA.of {P : Program} {w : World} {K : PySem.W.Frag} {mg : Str → Option Value} {base : Heap} {k : Nat} {f : Addr} {fd : FuncData} {ps : List Str} {sp : Sp} (F : FnOk P w K mg base (L2.CX P w) k f fd ps sp) : FnA P w K mg base k f fd ps sp :=
  ⟨F.len, fun A outer s H args us vs Q E _ hr => F.run A outer s H args us vs Q E hr⟩
theorem make_guards {A : Around} {C : Addr} {us : List Value} {kw : List (Str × Value)} (h : A.guards = some []) : (A.under (.builtin "type.__call__" ⟨.ref C :: us, kw⟩)).guards = some [] := by
  first
    | exact h
    | (show PySem.pushGuards _ A.guards = some []; rw [h]; rfl)
    | simp [Around.under, Code.guards, Code.isGuard, guardIds, pushGuards, h]
section
variable {X : Cx} {k : Nat} {f : Addr} {fd : FuncData} {ps : List Str} {sp : Sp} {E : L2.St → XK}
/-- the callee runs -/
theorem run_fnA {pins : List (Addr × Obj)} {σ : L2.St} {H : Hp} {s : Shared} {Q : VK} {us : List Value} {vs : List V} (F : FnA X.prog X.w X.K X.mg X.base k f fd ps sp) (gd : X.A.guards = some []) (hr : Room k X.A) (hb : Binds X.K fd ps []) (hx : PassesAt (L2.CX X.prog X.w) X σ (E σ))
    (I : Inv X pins σ H s) (r : Vals vs us) (h : sp vs H Q (E σ)) : wpAny (model X.prog X.w) X.A (call (.ref f) us) (EP X pins σ Q) X.xe s := by
  have b := hb s us I.kIn (by rw [List.append_nil, ← r.length, F.len _ _ _ _ h])
  rw [List.append_nil] at b
  refine wpAny_call (codeAny_mono (F.run X.A X.stack s H ⟨us, []⟩ us vs Q (E σ) gd hr I.env0 b r h) ?_)
  intro r' s' hq
  rcases r' with e | fl
  · exact hx pins H s e s' I hq
  · cases fl <;> first
      | exact I.after hq
      | exact hq.elim
end
/-- a def's promise: it does what g does -/
def SpD (K : G) (n : Nat) (g : List D → M → R D) : Sp := fun vs H Q E => vs.length = n ∧ ∃ ds m al, RpL K al H vs ds ∧ Sim K al m H ∧ Fin K (Rp K) E al H Q (g ds m)
/-- the slots at the entry: n names, the parameters first -/
def ent (n : Nat) (ds : List D) : En := ds.map some ++ List.replicate (n - ds.length) none
/-- a body's end as a call's -/
def fnR : RS → R D
  | some (.nx _, m) => ok .non m
  | some (.rt d, m) => ok d m
  | some (.ex e _, m) => some (.ex e, m)
  | _ => none
def fnB (n : Nat) (c : Cs) : List D → M → R D := fun ds m => fnR (c (ent n ds) m)
theorem er_ent {K : G} {al : List Addr} {H : Hp} {vs : List V} {ds : List D} (N : List Str) (r : RpL K al H vs ds) : Er K al H (L2.start N vs) (ent N.length ds) := by
  refine ⟨by simp [L2.start, ent, r.len], fun i d h => ?_⟩
  unfold ent at h
  unfold L2.start
  by_cases hi : i < ds.length
  · rw [List.getElem?_append_left (by simpa using hi), List.getElem?_map] at h
    cases e : ds[i]? with
    | none => rw [e] at h; cases h
    | some x =>
      rw [e] at h
      cases h
      obtain ⟨v, h1, h2⟩ := r.get e
      exact ⟨v, by rw [List.getElem?_append_left (by simpa [r.len] using hi), List.getElem?_map, h1] <;> rfl, h2⟩
  · rw [List.getElem?_append_right (by simpa using hi), List.getElem?_replicate] at h
    split at h <;> cases h
section
variable {P : Program} {w : World} {K : PySem.W.Frag} {mg : Str → Option Value} {base : Heap} {T : Sv}
theorem fn_zero {k : Nat} {f : Addr} {fd : FuncData} {ps : List Str} : FnA P w K mg base k f fd ps (SpD ⟨K, T⟩ ps.length fun _ _ => none) :=
  ⟨fun vs H Q E h => h.1, fun A outer s H args us vs Q E _ hr e0 hb r h => by
    obtain ⟨_, _, _, _, _, _, f⟩ := h
    exact f.elim⟩
/-- the wish of a def's body -/
abbrev WD (E : XK) : WX := fun c d _ H => E c d H
theorem fn_ok {x qual : Str} {st : Stmt} {f : Addr} {fd : FuncData} {N ps : List Str} {k : Nat} {c : Cs} (F : Fun K x qual st f fd) (S : FnScope N ps (defScope st))
    (hb : ∀ (cdv : Value) (A : Around) (outer : List Env) (s : Shared) (H : Hp) (E : XK), A.guards = some [] → Room k (A.deeper (envOfC qual (defScope st) s.heap.objs.size f cdv)) →
      ISs T (cxOf (L2.CX P w) P w K mg base N qual (defScope st) f cdv A outer s H E) (WD E) (defBody st) c) :
    FnA P w K mg base (k + 1) f fd ps (SpD ⟨K, T⟩ ps.length (fnB N.length c)) := by
  obtain ⟨oc, od, kV, doc, pm, an, cdv, ct, osl, rfl, lk, hcd⟩ := F.ex
  refine ⟨fun vs H Q E h => h.1, fun A outer s H args us vs Q E hg hr e0 hbd r hsp => ?_⟩
  have hl : vs.length = ps.length := hsp.1
  have stay : ∀ b o, base.get? b = some o → s.heap.get? b = some o := fun b o e => (e0.bs b o e).1
  have KX : K.In s.heap := e0.mod.kin.keeps stay
  have kinds : ∀ y ∈ ps.zip us, (defScope st).names.lookup y.1 = some .local ∨ ((defScope st).names.lookup y.1 = some .cell ∧ ((cellsFrom (s.heap.objs.size + 1) (defScope st).names []).lookup y.1).isSome = true) := by
    rintro ⟨n, v⟩ hy
    exact (S.par n (List.of_mem_zip hy).1).imp (fun q => q) fun q => ⟨q, PySem.W.cellsFrom_some _ _ _ (.inl q)⟩
  refine codeAny_call_function hr.depth (KX _ _ lk) rfl S.co S.gen rfl (PySem.W.codeRec_of KX hcd) (hbd _ _ _ _ ?_)
  refine wpAny_newFunctionEnv_cells S.kind kinds fun env he s1 x => ?_
  subst he
  refine ⟨(e0.mod.nolimit.keeps stay).keeps x.toInCall.keep, codeAny_func ?_⟩
  have I : Inv (cxOf (L2.CX P w) P w K mg base N qual (defScope st) f cdv A outer s H E) [] (L2.start N vs) H s1 := inv_start S hr.hd e0 hl r x
  obtain ⟨_, ds, m, al, rl, sm, fi⟩ := hsp
  have body : tSD ⟨K, T⟩ (WD E) c { nx := fun _ H' => Q .non H', rt := Q } (L2.start N vs) H := by
    refine ⟨ent N.length ds, m, al, er_ent N rl, sm, ?_⟩
    unfold fnB at fi
    rcases hc : c (ent N.length ds) m with _ | ⟨fl, m'⟩
    · rw [hc] at fi
      exact fi
    · rw [hc] at fi
      cases fl with
      | nx ρ => exact fun al' H' σ' x s' _ => fi al' H' .non x s' .non
      | rt d => exact fi
      | bk ρ => exact fi.elim
      | ct ρ => exact fi.elim
      | ex e ρ => exact fun al' H' σ' c dx x s' _ q => fi al' H' c dx x s' q
  refine wpAny_mono (((hb cdv A outer s H E hg (hr.deeper _)).ps).run [] s1 _ H _ I body) ?_ fun e s' hs => hs
  intro fl s' hs
  cases fl with
  | ret u =>
    obtain ⟨v, σ', H', J, rv, q⟩ := hs
    exact ⟨v, H', J.os, J.bare, J.base, J.hok, rv, q⟩
  | next =>
    obtain ⟨σ', H', J, q⟩ := hs
    exact ⟨.non, H', J.os, J.bare, J.base, J.hok, rfl, q⟩
  | brk =>
    obtain ⟨_, _, _, q⟩ := hs
    exact q.elim
  | cont =>
    obtain ⟨_, _, _, q⟩ := hs
    exact q.elim
theorem takes_def {N : List Str} {qual : Str} {sc : Scope} {f : Addr} {cdv : Value} {A : Around} {outer : List Env} {s : Shared} {H : Hp} {E : XK} : Takes (cxOf (L2.CX P w) P w K mg base N qual sc f cdv A outer s H E) (WD E) := takes_of rfl rfl rfl rfl
theorem passes_def {N : List Str} {qual : Str} {sc : Scope} {f : Addr} {cdv : Value} {A : Around} {outer : List Env} {s : Shared} {H : Hp} {E : XK} : PassesOwn (model P w) (A.deeper (envOfC qual sc s.heap.objs.size f cdv)) (envOfC qual sc s.heap.objs.size f cdv) (cxOf (L2.CX P w) P w K mg base N qual sc f cdv A outer s H E).xe := passes_of rfl
end

/-! ### calls -/
def cCall (n : Nat) (g : List D → M → R D) (cs : Cp (List D)) : Cp D := fun ρ m => bind (cs ρ m) fun ds m1 => if ds.length = n then g ds m1 else none
section
variable {T : Sv} {X : Cx} {W : WX} {k : Nat} {f C : Addr} {fd : FuncData} {ps : List Str} {n : Nat} {g : List D → M → R D} {x : Str} {p pos apos : Pos} {e o : Expr} {es : List Expr} {cs : Cp (List D)} {co cv : Cp D}
theorem ie_call (F : FnA X.prog X.w X.K X.mg X.base k f fd ps (SpD (kx X T) n g)) (gd : X.A.guards = some []) (hr : Room k X.A) (hm : X.mg x = some (.ref f)) (hk : PySem.W.keepIn X.K (.ref f) = true) (hb : Binds X.K fd ps []) (tk : Takes X W) (ha : IA T X W (e :: es) cs)
    (hg : Gl X x := by rfl) (hdb : (x == ("__debug__" : Str)) = false := by decide) (he : starEach (e :: es) X.env = (false, eval e X.env) :: starEach es X.env := by rfl) (hpl : (backTo pos (starEach es X.env)).any (·.1) = false := by rfl) :
    IE T X W (.Call (.Name x p) (e :: es) [] pos) (cCall n g cs) := ⟨⟨fun pins s σ H Q I ⟨ρ, m, al, er, S, fi⟩ => by
  refine wpAny_Call_Name_kw (ld_glob I hg hm ?_ hdb)
  refine PySem.W.callWith_K (h₀ := X.base) I.ok.mod.kin hk (thn (ha.pa.run pos pins s σ H _ I ⟨ρ, m, al, er, S, Fin.bind (rel := RpL (kx X T)) fi⟩) fun us s1 ⟨vs, H1, I1, r, ds, m1, al1, g1, f1⟩ => ⟨I1.kIn, ?_⟩) he hpl
  split at f1
  · rename_i hl
    exact run_fnA (E := WE W) F gd hr hb (passAt tk σ) I1 r ⟨by rw [g1.r.len, hl], ds, m1, al1, g1.r, g1.s, f1⟩
  · exact f1.elim⟩⟩
theorem ie_call0 (F : FnA X.prog X.w X.K X.mg X.base k f fd ps (SpD (kx X T) 0 g)) (gd : X.A.guards = some []) (hr : Room k X.A) (hm : X.mg x = some (.ref f)) (hk : PySem.W.keepIn X.K (.ref f) = true) (hb : Binds X.K fd ps []) (tk : Takes X W)
    (hg : Gl X x := by rfl) (hdb : (x == ("__debug__" : Str)) = false := by decide) : IE T X W (.Call (.Name x p) [] [] pos) (fun _ m => g [] m) := ⟨⟨fun pins s σ H Q I ⟨ρ, m, al, er, S, fi⟩ => by
  refine wpAny_Call_Name_kw (ld_glob I hg hm ?_ hdb)
  exact PySem.W.callWith_K0 I.kIn hk (run_fnA (E := WE W) (us := []) F gd hr hb (passAt tk σ) I .nil ⟨rfl, [], m, al, .nil, S, fi⟩)⟩⟩

/-! instances -/
def putFD (f : Str) (d : D) : List (Str × D) → List (Str × D)
  | [] => [(f, d)]
  | (g, e) :: r => if g = f then (g, d) :: r else (g, e) :: putFD f d r
theorem rpf_put {K : G} {al : List Addr} {H : Hp} {f : Str} {v : V} {d : D} (r : Rp K al H v d) : ∀ {gs : List (Str × V)} {fs : List (Str × D)}, RpF K al H gs fs → RpF K al H (putF f v gs) (putFD f d fs)
  | _, _, .nil => .cons r .nil
  | _, _, @RpF.cons _ _ _ _ k w gs e fs q t => by
    by_cases h : k = f
    · have e1 : putF f v ((k, w) :: gs) = (k, v) :: gs := by
        show (if k = f then (k, v) :: gs else (k, w) :: putF f v gs) = _
        rw [if_pos h]
      have e2 : putFD f d ((k, e) :: fs) = (k, d) :: fs := by
        show (if k = f then (k, d) :: fs else (k, e) :: putFD f d fs) = _
        rw [if_pos h]
      rw [e1, e2]
      exact .cons r t
    · have e1 : putF f v ((k, w) :: gs) = (k, w) :: putF f v gs := by
        show (if k = f then (k, v) :: gs else (k, w) :: putF f v gs) = _
        rw [if_neg h]
      have e2 : putFD f d ((k, e) :: fs) = (k, e) :: putFD f d fs := by
        show (if k = f then (k, d) :: fs else (k, e) :: putFD f d fs) = _
        rw [if_neg h]
      rw [e1, e2]
      exact .cons q (rpf_put r t)
/-- the instance that a value is -/
def insD (d : D) (m : M) : Option (Nat × Nat × List (Str × D)) := match d with
  | .ref i => match m[i]? with
    | some (.ins c fs) => some (i, c, fs)
    | _ => none
  | _ => none
theorem ins_rp {K : G} {al : List Addr} {H : Hp} {v : V} {d : D} {m : M} {i c : Nat} {fs : List (Str × D)} (S : Sim K al m H) (r : Rp K al H v d) (h : insD d m = some (i, c, fs)) :
    ∃ a dx gs, d = .ref i ∧ m[i]? = some (.ins c fs) ∧ v = .ref a ∧ al[i]? = some a ∧ H a = some (.ins (K.t.cls c) dx gs) ∧ RpF K al H gs fs := by
  cases r with
  | ref ha =>
    obtain ⟨o, ho, ro⟩ := S.of ha
    unfold insD at h
    dsimp only at h
    rw [ho] at h
    cases o with
    | ins c' fs' =>
      cases h
      obtain ⟨dx, gs, h1, h2⟩ := ro
      exact ⟨_, dx, gs, rfl, ho, rfl, ha, h1, h2⟩
    | _ => cases h
  | _ => cases h
/-- o.f: okc tells the classes whose instances have it as a field -/
def fldD (okc : Nat → Bool) (f : Str) (d : D) (m : M) : R D := match insD d m with
  | some (_, c, fs) => if okc c = true then (match fs.lookup f with
    | some v => ok v m
    | none => none) else none
  | none => none
def cFld (okc : Nat → Bool) (f : Str) (co : Cp D) : Cp D := fun ρ m => bind (co ρ m) (fldD okc f)
theorem ie_fld {okc : Nat → Bool} {f : Str} (hc : ∀ c, okc c = true → Cls X.K (T.cls c) ∧ NoAttr X.K (T.cls c) f) (he : IE T X W e co) (hb : attributeBase e f X.env (eval e X.env) = eval e X.env := by rfl) : IE T X W (.Attribute e f pos) (cFld okc f co) :=
  ⟨PE.weak (pe_fld he.pe hb) fun σ H Q ⟨ρ, m, al, er, s, fi⟩ => by
    refine ⟨ρ, m, al, er, s, Fin.mono (fun v H1 h1 => ?_) (Fin.bind (rel := Rp (kx X T)) fi)⟩
    obtain ⟨d, m1, al1, g1, f1⟩ := h1
    unfold fldD at f1
    cases hi : insD d m1 with
    | none => rw [hi] at f1; exact f1.elim
    | some q =>
      obtain ⟨i, c, fs⟩ := q
      obtain ⟨a, dx, gs, _, _, ev, _, ha, rf⟩ := ins_rp g1.s g1.r hi
      rw [hi] at f1
      dsimp only at f1
      split at f1
      · rename_i hok
        obtain ⟨h1, h2⟩ := hc c hok
        rcases rf.lookup f with ⟨v', y, l1, l2, ry⟩ | ⟨_, l2⟩
        · rw [l2] at f1
          exact ⟨a, _, dx, gs, v', ev, ha, h1, h2, l1, f1.ret g1.s ry⟩
        · rw [l2] at f1
          exact f1.elim
      · exact f1.elim⟩
def sFldD (okc : Nat → Bool) (f : Str) (co cv : Cp D) : Cs := fun ρ m => lift ρ (cv ρ m) fun y m1 => lift ρ (co ρ m1) fun o m2 => match insD o m2 with
  | some (i, c, fs) => if okc c = true ∧ fs.length < 1000 then some (.nx ρ, m2.set i (.ins c (putFD f y fs))) else none
  | none => none
theorem is_fld {okc : Nat → Bool} {f : Str} {pos' : Pos} (hc : ∀ c, okc c = true → Cls X.K (T.cls c) ∧ NoAttr X.K (T.cls c) f) (ho : IE T X W o co) (hv : IE T X W e cv) (hs : swapsWith e (some (.Attribute o f pos')) pos.line X.env = pure false := by rfl) :
    IS T X W (.Assign [.Attribute o f pos'] e pos) (sFldD okc f co cv) := ⟨PS.weak (ps_fld ho.pe hv.pe hs) fun D σ H ⟨ρ, m, al, er, s, fi⟩ => by
  refine ⟨ρ, m, al, er, s, Fin.mono (fun y H1 h1 => ?_) (FinS.lift (rel := Rp (kx X T)) er fi)⟩
  obtain ⟨d, m1, al1, g1, f1⟩ := h1
  refine ⟨ρ, m1, al1, er.up g1.x, g1.s, Fin.mono (fun x H2 h2 => ?_) (FinS.lift (rel := Rp (kx X T)) (er.up g1.x) f1)⟩
  obtain ⟨d2, m2, al2, g2, f2⟩ := h2
  cases hi : insD d2 m2 with
  | none => rw [hi] at f2; exact f2.elim
  | some q =>
    obtain ⟨i, c, fs⟩ := q
    obtain ⟨a, dx, gs, _, _, ev, hal, ha, rf⟩ := ins_rp g2.s g2.r hi
    rw [hi] at f2
    dsimp only at f2
    split at f2
    · rename_i hok
      obtain ⟨h1, h2⟩ := hc c hok.1
      refine ⟨a, _, dx, gs, ev, ha, h1, h2, by rw [rf.len]; exact hok.2, ?_⟩
      obtain ⟨gr, sm⟩ := g2.s.write (u := .ins (T.cls c) dx (putF f y gs)) (o := .ins c (putFD f d fs)) hal fun gr => ⟨dx, _, upd_same, (rpf_put (g1.r.ext g2.x) rf).up (List.prefix_refl _) gr⟩
      have xx : Ext al2 H2 al2 (upd H2 a (.ins (T.cls c) dx (putF f y gs))) := Ext.mut (List.mem_of_getElem? hal) gr
      exact f2 al2 _ σ xx sm (((er.up g1.x).up g2.x).up xx)
    · exact f2.elim⟩
/-- C(..): a new instance, then __init__ -/
def cMake (c n : Nat) (g : List D → M → R D) (cs : Cp (List D)) : Cp D := fun ρ m => bind (cs ρ m) fun ds m1 => if ds.length + 1 = n then bind (g (.ref m1.length :: ds) (m1 ++ [.ins c []])) fun r m2 => (match r with
  | .non => ok (.ref m1.length) m2
  | _ => none) else none
theorem make_w {c : Nat} {ds : List D} {m1 : M} {al1 : List Addr} {H1 : Hp} {vs : List V} {Q : VK} {E : XK} (s1 : Sim (kx X T) al1 m1 H1) (r1 : RpL (kx X T) al1 H1 vs ds)
    (f1 : Fin (kx X T) (Rp (kx X T)) E al1 H1 Q (if ds.length + 1 = n then bind (g (.ref m1.length :: ds) (m1 ++ [.ins c []])) fun r m2 => (match r with
      | .non => ok (.ref m1.length) m2
      | _ => none) else none)) :
    ∀ x dx, H1 x = none → H1 dx = none → dx ≠ x → SpD (kx X T) n g (.ref x :: (vs ++ [])) (upd (upd H1 dx (.own x)) x (.ins (T.cls c) dx [])) (fun v H2 => v = .non ∧ Q (.ref x) H2) E := by
  intro x dx hx hdx ne
  rw [List.append_nil]
  split at f1
  · rename_i hl
    have hx' : upd H1 dx (.own x) x = none := by rw [upd_ne (Ne.symm ne)]; exact hx
    have x1 : Ext al1 H1 al1 (upd H1 dx (.own x)) := Ext.lay hdx
    have x2 : Ext al1 (upd H1 dx (.own x)) (al1 ++ [x]) (upd (upd H1 dx (.own x)) x (.ins (T.cls c) dx [])) := Ext.add hx'
    have sm : Sim (kx X T) (al1 ++ [x]) (m1 ++ [.ins c []]) (upd (upd H1 dx (.own x)) x (.ins (T.cls c) dx [])) := (s1.lay hdx).add hx' ⟨dx, [], upd_same, .nil⟩
    have rx : Rp (kx X T) (al1 ++ [x]) (upd (upd H1 dx (.own x)) x (.ins (T.cls c) dx [])) (.ref x) (.ref m1.length) := .ref (by rw [← s1.len, List.getElem?_append_right (Nat.le_refl _)]; simp)
    refine ⟨by rw [List.length_cons, r1.len]; exact hl, .ref m1.length :: ds, _, _, .cons rx (r1.ext (x1.trans x2)), sm, ?_⟩
    refine Fin.mono (fun v H2 h2 => ?_) (Fin.bind (rel := Rp (kx X T)) (Fin.up (x1.trans x2) f1))
    obtain ⟨d, m2, al2, g2, f2⟩ := h2
    have r2 := g2.r
    cases r2 with
    | non => exact ⟨rfl, f2.ret g2.s (rx.ext g2.x)⟩
    | _ => exact f2.elim
  · exact f1.elim
/-- C(..) by values -/
theorem run_makeA {c : Nat} {pins : List (Addr × Obj)} {σ : L2.St} {H : Hp} {s : Shared} {Q : VK} {us : List Value} {vs : List V} {sp : Sp} (Mk' : Mk X.K C f) (F : FnA X.prog X.w X.K X.mg X.base k f fd ps sp) (gd : X.A.guards = some []) (hr : Room (k + 1) X.A) (hb : Binds X.K fd ps []) (tk : Takes X W)
    (I : Inv X pins σ H s) (r : Vals vs us) (h : ∀ x dx, H x = none → H dx = none → dx ≠ x → sp (.ref x :: (vs ++ [])) (upd (upd H dx (.own x)) x (.ins C dx [])) (fun v H2 => v = .non ∧ Q (.ref x) H2) (WE W σ)) :
    wpAny (model X.prog X.w) X.A (call (.ref C) us) (EP X pins σ Q) X.xe s := by
  have hq := h (s.heap.objs.size + 1) s.heap.objs.size (I.hok.fresh (Nat.le_succ _)) (I.hok.fresh (Nat.le_refl _)) (Nat.ne_of_lt (Nat.lt_succ_self _))
  rw [List.append_nil] at hq
  have I2 := Inv.made (C := C) I
  have r2 : Vals (V.ref (s.heap.objs.size + 1) :: vs) (Value.ref (s.heap.objs.size + 1) :: us) := .cons rfl r
  have hl := r2.length.symm.trans (F.len _ _ _ _ hq)
  have b := hb _ (Value.ref (s.heap.objs.size + 1) :: us) I2.kIn (by rw [List.append_nil]; exact hl)
  rw [List.append_nil] at b
  refine wpAny_call (make_map (f := f) I.kIn Mk'.makes Mk'.init (beq_iff_eq.mp Mk'.fn) (codeAny_mono (F.run _ X.stack _ _ _ _ _ _ (WE W σ) (make_guards gd) (hr.make C us []) (I2.env0.make C us []) b r2 hq) ?_))
  intro r' s' hq'
  rcases r' with e | fl
  · exact passAt tk σ pins _ _ e s' I2 hq'
  · cases fl with
    | ret u =>
      obtain ⟨v, H', I3, rv, ev, q3⟩ := I2.after hq'
      subst ev
      exact ⟨rv, V.ref (s.heap.objs.size + 1), H', I3, rfl, q3⟩
    | _ => exact hq'.elim
theorem ie_make {c : Nat} (Mk' : Mk X.K (T.cls c) f) (F : FnA X.prog X.w X.K X.mg X.base k f fd ps (SpD (kx X T) n g)) (gd : X.A.guards = some []) (hr : Room (k + 1) X.A) (hm : X.mg x = some (.ref (T.cls c))) (hb : Binds X.K fd ps []) (tk : Takes X W) (ha : IA T X W (e :: es) cs)
    (hg : Gl X x := by rfl) (hdb : (x == ("__debug__" : Str)) = false := by decide) (he : starEach (e :: es) X.env = (false, eval e X.env) :: starEach es X.env := by rfl) (hpl : (backTo pos (starEach es X.env)).any (·.1) = false := by rfl) :
    IE T X W (.Call (.Name x p) (e :: es) [] pos) (cMake c n g cs) := ⟨⟨fun pins s σ H Q I ⟨ρ, m, al, er, S, fi⟩ => by
  refine wpAny_Call_Name_kw (ld_glob I hg hm ?_ hdb)
  refine PySem.W.callWith_K (h₀ := X.base) I.ok.mod.kin Mk'.kp (thn (ha.pa.run pos pins s σ H _ I ⟨ρ, m, al, er, S, Fin.bind (rel := RpL (kx X T)) fi⟩) fun us s1 ⟨vs, H1, I1, r, ds, m1, al1, g1, f1⟩ => ⟨I1.kIn, ?_⟩) he hpl
  exact run_makeA (c := c) Mk' F gd hr hb tk I1 r (make_w g1.s g1.r f1)⟩⟩
theorem ie_make0 {c : Nat} (Mk' : Mk X.K (T.cls c) f) (F : FnA X.prog X.w X.K X.mg X.base k f fd ps (SpD (kx X T) n g)) (gd : X.A.guards = some []) (hr : Room (k + 1) X.A) (hm : X.mg x = some (.ref (T.cls c))) (hb : Binds X.K fd ps []) (tk : Takes X W)
    (hg : Gl X x := by rfl) (hdb : (x == ("__debug__" : Str)) = false := by decide) : IE T X W (.Call (.Name x p) [] [] pos) (cMake c n g cNil) := ⟨⟨fun pins s σ H Q I ⟨ρ, m, al, er, S, fi⟩ => by
  refine wpAny_Call_Name_kw (ld_glob I hg hm ?_ hdb)
  exact PySem.W.callWith_K0 I.kIn Mk'.kp (run_makeA (c := c) (us := []) Mk' F gd hr hb tk I .nil (make_w S .nil fi))⟩⟩
/-- o.m(..): disp gives the method of a class -/
def cMeth (m : Str) (n : Nat) (disp : Nat → Option (List D → M → R D)) (co : Cp D) (cs : Cp (List D)) : Cp D := fun ρ mm => bind (co ρ mm) fun o m1 => match insD o m1 with
  | some (_, c, fs) => (match fs.lookup m with
    | some _ => none
    | none => match disp c with
      | none => none
      | some g => bind (cs ρ m1) fun ds m2 => if ds.length + 1 = n then g (o :: ds) m2 else none)
  | none => none
/-- the method of the class with number c -/
structure MOk (T : Sv) (X : Cx) (m : Str) (n : Nat) (c : Nat) (g : List D → M → R D) : Prop where
  cl : Cls X.K (T.cls c)
  ex : ∃ k f fd ps, Room k X.A ∧ Meth X.K (T.cls c) m f ∧ FnA X.prog X.w X.K X.mg X.base k f fd ps (SpD (kx X T) n g) ∧ Binds X.K fd ps []
theorem pe_methD {m : Str} {disp : Nat → Option (List D → M → R D)} {pl : Sem Bool} (hd : ∀ c g, disp c = some g → MOk T X m n c g) (gd : X.A.guards = some []) (tk : Takes X W) (ho : IE T X W o co) (ha : IA T X W es cs)
    (hst : ∀ {σ : L2.St} {H : Hp} {s : Shared} {Q : List V → Hp → Prop} {Q' : Value → Shared → Prop} {pins : List (Addr × Obj)} {fa : Addr} {a : Addr}, PySem.W.keepIn X.K (.ref fa) = true → Inv X pins σ H s → tAD (kx X T) W cs σ H Q →
      (∀ us vs s1 H1, Inv X pins σ H1 s1 → Vals vs us → Q vs H1 → wpAny (model X.prog X.w) X.A (call (.ref fa) (.ref a :: us)) Q' X.xe s1) →
      wpAny (model X.prog X.w) X.A (callWith pos (.ref fa) [.ref a] (backTo pos (starEach es X.env)) (backToKw pos (keywordEach [] X.env))) Q' X.xe s)
    (ht : eval (.Call (.Attribute o m apos) es [] pos) X.env = (do
      let ov ← eval o X.env
      standAt apos.atName
      let (f, first) ← holding [ov] (getMethod ov m pl)
      callWith pos f first (backTo pos (starEach es X.env)) (backToKw pos (keywordEach [] X.env)))) :
    IE T X W (.Call (.Attribute o m apos) es [] pos) (cMeth m n disp co cs) := by
  refine ⟨⟨fun pins s σ H Q I ⟨ρ, mm, al, er, S, fi⟩ => ?_⟩⟩
  refine PySem.W.methodCall_KW (pl := pl) (thn (ho.pe.run pins s σ H _ I ⟨ρ, mm, al, er, S, Fin.bind (rel := Rp (kx X T)) fi⟩) fun u s1 ⟨x, H1, I1, rx, d, m1, al1, g1, f1⟩ => ?_) ht
  cases hi : insD d m1 with
  | none => rw [hi] at f1; exact f1.elim
  | some q =>
    obtain ⟨i, c, fs⟩ := q
    obtain ⟨a, dx, gs, ed, _, ev, hal, ha1, rf⟩ := ins_rp g1.s g1.r hi
    rw [hi] at f1
    dsimp only at f1
    subst ev
    obtain rfl : u = Value.ref a := rx
    rcases rf.lookup m with ⟨v', y, l1, l2, ry⟩ | ⟨l1, l2⟩
    · rw [l2] at f1
      exact f1.elim
    · rw [l2] at f1
      dsimp only at f1
      cases hdc : disp c with
      | none => rw [hdc] at f1; exact f1.elim
      | some g' =>
        rw [hdc] at f1
        dsimp only at f1
        obtain ⟨cl, k', f', fd', ps', hr', mt, F', hb'⟩ := hd c g' hdc
        refine getmeth_ok I1 ha1 cl mt l1 ?_
        refine hst mt.kp I1 ⟨ρ, m1, al1, er.up g1.x, g1.s, Fin.bind (rel := RpL (kx X T)) f1⟩ fun us vs s2 H2 I2 rv h2 => ?_
        obtain ⟨ds, m2, al2, g2, f2⟩ := h2
        split at f2
        · rename_i hl
          refine run_fnA (E := WE W) F' gd hr' hb' (passAt tk σ) I2 (vs := .ref a :: vs) (.cons rfl rv) ⟨by rw [List.length_cons, g2.r.len]; exact hl, d :: ds, m2, al2, .cons (g1.r.ext g2.x) g2.r, g2.s, f2⟩
        · exact f2.elim
theorem ie_meth {m : Str} {disp : Nat → Option (List D → M → R D)} {pl : Sem Bool} (hd : ∀ c g, disp c = some g → MOk T X m n c g) (gd : X.A.guards = some []) (tk : Takes X W) (ho : IE T X W o co) (ha : IA T X W (e :: es) cs)
    (hst : starEach (e :: es) X.env = (false, eval e X.env) :: starEach es X.env := by rfl) (hpl : (backTo pos (starEach es X.env)).any (·.1) = false := by rfl)
    (ht : eval (.Call (.Attribute o m apos) (e :: es) [] pos) X.env = (do
      let ov ← eval o X.env
      standAt apos.atName
      let (f, first) ← holding [ov] (getMethod ov m pl)
      callWith pos f first (backTo pos (starEach (e :: es) X.env)) (backToKw pos (keywordEach [] X.env))) := by rfl) :
    IE T X W (.Call (.Attribute o m apos) (e :: es) [] pos) (cMeth m n disp co cs) :=
  pe_methD (pl := pl) hd gd tk ho ha (fun {σ H s Q Q' pins fa a} hk I h k => PySem.W.callWith_K (first := [.ref a]) (h₀ := X.base) I.ok.mod.kin hk (thn (ha.pa.run pos pins s σ H _ I h) fun us s1 ⟨vs, H1, I1, r, q⟩ => ⟨I1.kIn, k us vs s1 H1 I1 r q⟩) hst hpl) ht
theorem ie_meth0 {m : Str} {disp : Nat → Option (List D → M → R D)} {pl : Sem Bool} (hd : ∀ c g, disp c = some g → MOk T X m n c g) (gd : X.A.guards = some []) (tk : Takes X W) (ho : IE T X W o co)
    (ht : eval (.Call (.Attribute o m apos) [] [] pos) X.env = (do
      let ov ← eval o X.env
      standAt apos.atName
      let (f, first) ← holding [ov] (getMethod ov m pl)
      callWith pos f first (backTo pos (starEach [] X.env)) (backToKw pos (keywordEach [] X.env))) := by rfl) :
    IE T X W (.Call (.Attribute o m apos) [] [] pos) (cMeth m n disp co cNil) :=
  pe_methD (pl := pl) hd gd tk ho ia_nil (fun {σ H s Q Q' pins fa a} hk I h k => PySem.W.callWith_K0 (first := [.ref a]) I.kIn hk (by
    obtain ⟨ρ, m, al, er, S, f⟩ := h
    exact k [] [] s H I .nil (f.ret S .nil))) ht
end
end Sx

set_option Elab.async false
set_option linter.all false
set_option maxRecDepth 100000
set_option maxHeartbeats 2000000
/-! Sx6: operators on data, equality, membership. -/
namespace Sx
open PySem PySem.Spec PyProof.Rows L2

/-! ### data as the model's own data -/
mutual
/-- lists of the store by f -/
def pyD (f : Nat → Option PyData) : D → Option PyData
  | .non => some .none
  | .bl b => some (.bool b)
  | .int i => some (.int i)
  | .str x => some (.str x)
  | .tup xs => (pyDs f xs).map .tuple
  | .fl xs => (pyDs f xs).map .list
  | .kt xs => (pyDs f xs).map .tuple
  | .ref i => f i
  | .gl _ => none
  | .exc _ _ _ => none
def pyDs (f : Nat → Option PyData) : List D → Option (List PyData)
  | [] => some []
  | d :: ds => match pyD f d with
    | some p => (match pyDs f ds with
      | some ps => some (p :: ps)
      | none => none)
    | none => none
end
/-- lists nested at most n deep -/
def lstP (m : M) : Nat → Nat → Option PyData
  | 0, _ => none
  | n + 1, i => match m[i]? with
    | some (.lst xs) => (pyDs (lstP m n) xs).map .list
    | _ => none
def toPy (m : M) (d : D) : Option PyData := pyD (lstP m 8) d
section
variable {K : G} {al : List Addr} {H : Hp} {m : M}
mutual
theorem dp_d {f : Nat → Option PyData} (hf : ∀ i a p, al[i]? = some a → f i = some p → Dp K.k H (.ref a) p) : ∀ {v : V} {d : D} {p : PyData}, Rp K al H v d → pyD f d = some p → Dp K.k H v p
  | _, .non, _, .non, h => by cases h; exact .non
  | _, .bl b, _, .bl _, h => by cases h; exact .bl b
  | _, .int i, _, .int _, h => by cases h; exact .int i
  | _, .str x, _, .str _, h => by cases h; exact .str x
  | _, .tup xs, p, .tup hs r, h => by
    unfold pyD at h
    cases e : pyDs f xs with
    | none => rw [e] at h; cases h
    | some ps =>
      rw [e] at h
      cases h
      exact .tup (SqT.of hs) (dp_ds hf r e)
  | _, .kt xs, p, .kt hs r, h => by
    unfold pyD at h
    cases e : pyDs f xs with
    | none => rw [e] at h; cases h
    | some ps =>
      rw [e] at h
      cases h
      exact .tup (hs H) (dp_ds hf r e)
  | _, .fl xs, p, .fl hs r, h => by
    unfold pyD at h
    cases e : pyDs f xs with
    | none => rw [e] at h; cases h
    | some ps =>
      rw [e] at h
      cases h
      exact .lst (sqF_sq hs) (dp_ds hf r e)
  | _, .ref i, p, .ref hi, h => hf i _ p hi h
  | _, .gl _, _, .gl _, h => by cases h
  | _, .exc _ _ _, _, _, h => by cases h
theorem dp_ds {f : Nat → Option PyData} (hf : ∀ i a p, al[i]? = some a → f i = some p → Dp K.k H (.ref a) p) : ∀ {vs : List V} {ds : List D} {ps : List PyData}, RpL K al H vs ds → pyDs f ds = some ps → DpAll K.k H vs ps
  | _, [], _, .nil, h => by cases h; exact .nil
  | _, d :: ds, ps, .cons r t, h => by
    unfold pyDs at h
    cases e : pyD f d with
    | none => rw [e] at h; cases h
    | some p =>
      rw [e] at h
      dsimp only at h
      cases e2 : pyDs f ds with
      | none => rw [e2] at h; cases h
      | some qs =>
        rw [e2] at h
        cases h
        exact .cons (dp_d hf r e) (dp_ds hf t e2)
end
theorem dp_l (S : Sim K al m H) : ∀ (n i : Nat) (a : Addr) (p : PyData), al[i]? = some a → lstP m n i = some p → Dp K.k H (.ref a) p
  | 0, _, _, _, _, h => by cases h
  | n + 1, i, a, p, hi, h => by
    obtain ⟨o, ho, ro⟩ := S.of hi
    unfold lstP at h
    rw [ho] at h
    cases o with
    | lst xs =>
      obtain ⟨vs, hv, r⟩ := ro
      dsimp only at h
      cases e : pyDs (lstP m n) xs with
      | none => rw [e] at h; cases h
      | some ps =>
        rw [e] at h
        cases h
        exact .lst (SqL.of hv) (dp_ds (dp_l S n) r e)
    | _ => cases h
theorem dp_of (S : Sim K al m H) {v : V} {d : D} {p : PyData} (r : Rp K al H v d) (h : toPy m d = some p) : Dp K.k H v p := dp_d (dp_l S 8) r h
end
/-- data that may be compared: no dict within, not too deep -/
def okP (p : PyData) : Bool := p.canLay0 && decide (p.depth ≤ 150)
def eqG (d e : D) (m : M) : Option Bool := match toPy m d, toPy m e with
  | some p, some q => if okP p && okP q then some (PyData.eqv p q) else none
  | _, _ => none
/-- == -/
def eqB (d e : D) (m : M) : Option Bool := match d, e with
  | .int i, .int j => some (decide (i = j))
  | .str x, .str y => some (decide (x = y))
  | .bl x, .bl y => some (decide (x = y))
  | .non, .non => some true
  | _, _ => eqG d e m
def eqD (d e : D) (m : M) : R D := match eqB d e m with
  | some b => ok (.bl b) m
  | none => none
def neD (d e : D) (m : M) : R D := match eqB d e m with
  | some b => ok (.bl (!b)) m
  | none => none
section
variable {T : Sv} {X : Cx}
theorem eqG_ok {pins : List (Addr × Obj)} {s : Shared} {σ : L2.St} {H : Hp} {al : List Addr} {m : M} {x y : V} {v u : Value} {d e : D} {b : Bool} (I : Inv X pins σ H s) (S : Sim (kx X T) al m H) (rx : RelV x v) (ry : RelV y u) (r1 : Rp (kx X T) al H x d) (r2 : Rp (kx X T) al H y e) (h : eqG d e m = some b) :
    ∃ p q as bs, Reads s.heap v p as ∧ Reads s.heap u q bs ∧ p.canLay0 = true ∧ q.canLay0 = true ∧ p.depth ≤ 150 ∧ PyData.eqv p q = b := by
  unfold eqG at h
  cases e1 : toPy m d with
  | none => rw [e1] at h; cases h
  | some p =>
    cases e2 : toPy m e with
    | none => rw [e1, e2] at h; cases h
    | some q =>
      rw [e1, e2] at h
      dsimp only at h
      split at h
      · rename_i hok
        cases h
        obtain ⟨o1, o2⟩ := Bool.and_eq_true_iff.mp hok
        obtain ⟨c1, c2⟩ := Bool.and_eq_true_iff.mp o1
        obtain ⟨c3, _⟩ := Bool.and_eq_true_iff.mp o2
        obtain ⟨as, q1⟩ := Dp.reads I p x v (dp_of S r1 e1) rx
        obtain ⟨bs, q2⟩ := Dp.reads I q y u (dp_of S r2 e2) ry
        exact ⟨p, q, as, bs, q1, q2, c1, c3, of_decide_eq_true c2, rfl⟩
      · cases h
theorem eq_bl {i j : Bool} : decide (V.bl i = V.bl j) = decide (i = j) := by cases i <;> cases j <;> rfl
theorem eq_in {i j : Int} : decide (V.int i = V.int j) = decide (i = j) := by
  by_cases h : i = j
  · subst h; simp
  · simp [h]
theorem eq_st {i j : Str} : decide (V.str i = V.str j) = decide (i = j) := by
  by_cases h : i = j
  · subst h; simp
  · simp [h]
theorem od_eq (hu : X.A.units + 160 < cLine) : OpD T X (compareOp .Eq) eqD := by
  intro E pins s σ H x y v u Q I rx ry ⟨d, e, m, al, S, r1, r2, f⟩
  unfold eqD at f
  cases hb : eqB d e m with
  | none => rw [hb] at f; exact f.elim
  | some b =>
    rw [hb] at f
    have q := f.ret S (.bl b)
    have gen : eqG d e m = some b → wpAny (model X.prog X.w) X.A (compareOp .Eq v u) (EP X pins σ Q) X.xe s := fun h => by
      obtain ⟨p, p', as, bs, h1, h2, h3, h4, h5, h6⟩ := eqG_ok I S rx ry r1 r2 h
      refine SeqAt.compareEq_reads h1 h2 h3 h4 (by have := Nat.min_le_left p.depth p'.depth; omega) ?_
      rw [h6]
      exact ⟨.bl b, H, I, rfl, q⟩
    unfold eqB at hb
    split at hb
    · cases hb
      cases r1; cases r2
      exact op_eq pins s σ H _ _ v u Q I rx ry ⟨rfl, by rw [eq_in]; exact q⟩
    · cases hb
      cases r1; cases r2
      exact op_eq pins s σ H _ _ v u Q I rx ry ⟨rfl, by rw [eq_st]; exact q⟩
    · cases hb
      cases r1; cases r2
      exact op_eq pins s σ H _ _ v u Q I rx ry ⟨rfl, by rw [eq_bl]; exact q⟩
    · cases hb
      cases r1; cases r2
      exact op_eq pins s σ H _ _ v u Q I rx ry ⟨rfl, q⟩
    · exact gen hb
theorem od_ne (hu : X.A.units + 160 < cLine) : OpD T X (compareOp .NotEq) neD := by
  intro E pins s σ H x y v u Q I rx ry ⟨d, e, m, al, S, r1, r2, f⟩
  unfold neD at f
  cases hb : eqB d e m with
  | none => rw [hb] at f; exact f.elim
  | some b =>
    rw [hb] at f
    have q := f.ret S (.bl (!b))
    have gen : eqG d e m = some b → wpAny (model X.prog X.w) X.A (compareOp .NotEq v u) (EP X pins σ Q) X.xe s := fun h => by
      obtain ⟨p, p', as, bs, h1, h2, h3, h4, h5, h6⟩ := eqG_ok I S rx ry r1 r2 h
      refine SeqAt.compareNe_reads h1 h2 h3 h4 (by have := Nat.min_le_left p.depth p'.depth; omega) ?_
      rw [h6]
      exact ⟨.bl (!b), H, I, rfl, q⟩
    unfold eqB at hb
    split at hb
    · cases hb
      cases r1; cases r2
      exact op_ne pins s σ H _ _ v u Q I rx ry ⟨rfl, by rw [eq_in]; exact q⟩
    · cases hb
      cases r1; cases r2
      exact op_ne pins s σ H _ _ v u Q I rx ry ⟨rfl, by rw [eq_st]; exact q⟩
    · cases hb
      cases r1; cases r2
      exact op_ne pins s σ H _ _ v u Q I rx ry ⟨rfl, by rw [eq_bl]; exact q⟩
    · cases hb
      cases r1; cases r2
      exact op_ne pins s σ H _ _ v u Q I rx ry ⟨rfl, q⟩
    · exact gen hb

/-! ### numbers -/
def iiD (g : Int → Int → D) (d e : D) (m : M) : R D := match d, e with
  | .int i, .int j => ok (g i j) m
  | _, _ => none
theorem od_ii {f : Value → Value → Sem Value} {g : Int → Int → V} {h : Int → Int → D} (hf : OpR X f (rI0 g)) (hr : ∀ i j al H, Rp (kx X T) al H (g i j) (h i j)) : OpD T X f (iiD h) := by
  intro E pins s σ H x y v u Q I rx ry ⟨d, e, m, al, S, r1, r2, f⟩
  unfold iiD at f
  split at f
  · cases r1; cases r2
    exact hf pins s σ H _ _ v u Q I rx ry ⟨_, _, rfl, rfl, f.ret S (hr _ _ _ _)⟩
  · exact f.elim
abbrev ltD := iiD fun i j => .bl (decide (i < j))
abbrev leD := iiD fun i j => .bl (decide (i ≤ j))
abbrev gtD := iiD fun i j => .bl (decide (j < i))
abbrev geD := iiD fun i j => .bl (decide (j ≤ i))
theorem od_lt : OpD T X (compareOp .Lt) ltD := od_ii op_lt fun _ _ _ _ => .bl _
theorem od_le : OpD T X (compareOp .LtE) leD := od_ii op_le fun _ _ _ _ => .bl _
theorem od_gt : OpD T X (compareOp .Gt) gtD := od_ii op_gt fun _ _ _ _ => .bl _
theorem od_ge : OpD T X (compareOp .GtE) geD := od_ii op_ge fun _ _ _ _ => .bl _
abbrev subD := iiD fun i j => .int (i - j)
theorem od_sub : OpD T X (binaryOp .Sub) subD := od_ii op_sub fun _ _ _ _ => .int _
/-- + -/
def addD (d e : D) (m : M) : R D := match d, e with
  | .int i, .int j => ok (.int (i + j)) m
  | .str x, .str y => if x.length + y.length ≤ lim then ok (.str (x ++ y)) m else none
  | .tup xs, .tup ys => if xs.length + ys.length ≤ lim then ok (.tup (xs ++ ys)) m else none
  | .ref i, .ref j => match m[i]?, m[j]? with
    | some (.lst xs), some (.lst ys) => if xs.length + ys.length ≤ lim then new (.lst (xs ++ ys)) m else none
    | _, _ => none
  | _, _ => none
theorem od_add : OpD T X (binaryOp .Add) addD := by
  intro E pins s σ H x y v u Q I rx ry ⟨d, e, m, al, S, r1, r2, f⟩
  unfold addD at f
  split at f
  · cases r1; cases r2
    exact op_add pins s σ H _ _ v u Q I rx ry ⟨_, _, rfl, rfl, f.ret S (.int _)⟩
  · split at f
    · rename_i hl
      cases r1; cases r2
      exact op_add_str pins s σ H _ _ v u Q I rx ry ⟨_, _, rfl, rfl, lim_ok hl, f.ret S (.str _)⟩
    · exact f.elim
  · split at f
    · rename_i xs ys hl
      cases r1 with
      | tup h1 t1 =>
        cases r2 with
        | tup h2 t2 =>
          refine op_catA pins s σ H _ _ v u Q I rx ry ⟨_, _, _, _, rfl, rfl, SqT.of h1, SqT.of h2, by rw [t1.len, t2.len]; exact lim_ok hl, fun z => ?_, fun _ z => ?_, fun _ _ p hp => fin_tup f S hp (t1.app t2)⟩
          · have e : xs = [] := List.eq_nil_of_length_eq_zero (by rw [← t1.len, z]; rfl)
            subst e
            exact f.ret S (.tup h2 t2)
          · have e : ys = [] := List.eq_nil_of_length_eq_zero (by rw [← t2.len, z]; rfl)
            subst e
            rw [List.append_nil] at f
            exact f.ret S (.tup h1 t1)
    · exact f.elim
  · cases r1 with
    | ref h1 =>
      cases r2 with
      | ref h2 =>
        obtain ⟨o1, ho1, ro1⟩ := S.of h1
        obtain ⟨o2, ho2, ro2⟩ := S.of h2
        rw [ho1, ho2] at f
        cases o1 <;> cases o2 <;> try (exact f.elim)
        case lst.lst xs ys =>
          obtain ⟨vs, hv, t1⟩ := ro1
          obtain ⟨ws, hw, t2⟩ := ro2
          dsimp only at f
          split at f
          · rename_i hl
            exact op_cat pins s σ H _ _ v u Q I rx ry ⟨_, _, vs, ws, rfl, rfl, hv, hw, by rw [t1.len, t2.len]; exact lim_ok hl, fun p hp => fin_new f S hp ⟨_, upd_same, (t1.app t2).up ⟨_, rfl⟩ (Grow.new hp)⟩⟩
          · exact f.elim
  · exact f.elim
/-- * -/
def bigM (i j : Int) : Bool := decide (i.natAbs.log2 + j.natAbs.log2 < 134000000)
theorem mul_ok {i j : Int} (h : bigM i j = true) : IntMulOk i j := by
  have b : ∀ x : Int, Builtin.Int.intBits x ≤ x.natAbs.log2 + 1 := fun x => by
    unfold Builtin.Int.intBits
    split <;> omega
  have h1 := b i
  have h2 := b j
  have h3 : i.natAbs.log2 + j.natAbs.log2 < 134000000 := of_decide_eq_true h
  have e : bitsLine = 134217728 := by decide
  intro z
  rw [Bool.and_eq_true] at z
  have z3 := of_decide_eq_true (show Builtin.Int.intTooBig _ = true from z.2)
  rw [e] at z3
  omega
def rep {α : Type} (n : Nat) (xs : List α) : List α := (List.replicate n xs).flatten
theorem rep_rp {K : G} {al : List Addr} {H : Hp} {vs : List V} {ds : List D} (r : RpL K al H vs ds) : ∀ n, RpL K al H (List.replicate n vs).flatten (rep n ds)
  | 0 => .nil
  | n + 1 => by
    unfold rep
    rw [List.replicate_succ, List.replicate_succ, List.flatten_cons, List.flatten_cons]
    exact r.app (rep_rp r n)
def mulD (d e : D) (m : M) : R D := match d, e with
  | .int i, .int j => if bigM i j = true then ok (.int (i * j)) m else none
  | .ref i, .int k => match m[i]? with
    | some (.lst xs) => if (-bigI ≤ k ∧ k ≤ bigI) ∧ xs.length * k.toNat ≤ lim then new (.lst (rep k.toNat xs)) m else none
    | _ => none
  | _, _ => none
theorem od_mul : OpD T X (binaryOp .Mult) mulD := by
  intro E pins s σ H x y v u Q I rx ry ⟨d, e, m, al, S, r1, r2, f⟩
  unfold mulD at f
  split at f
  · split at f
    · rename_i hb
      cases r1; cases r2
      exact (opI (C := fun i j => IntMulOk i j) fun _ _ _ _ _ _ _ hc q => mul_int q hc) pins s σ H _ _ v u Q I rx ry ⟨_, _, rfl, rfl, mul_ok hb, f.ret S (.int _)⟩
    · exact f.elim
  · cases r1 with
    | ref h1 =>
      cases r2
      obtain ⟨o1, ho1, ro1⟩ := S.of h1
      rw [ho1] at f
      cases o1 with
      | lst xs =>
        obtain ⟨vs, hv, t1⟩ := ro1
        dsimp only at f
        split at f
        · rename_i hl
          have hb := hl.1
          unfold bigI at hb
          exact op_rep pins s σ H _ _ v u Q I rx ry ⟨_, _, vs, rfl, rfl, hv, by omega, by omega, by rw [t1.len]; exact lim_ok hl.2, fun p hp => fin_new f S hp ⟨_, upd_same, (rep_rp t1 _).up ⟨_, rfl⟩ (Grow.new hp)⟩⟩
        · exact f.elim
      | _ => exact f.elim
  · exact f.elim
/-- // and % by a positive number -/
def divD (d e : D) (m : M) : R D := match d, e with
  | .int i, .int j => if 0 < j ∧ j < 1073741824 then ok (.int (i / j)) m else none
  | _, _ => none
def modD (d e : D) (m : M) : R D := match d, e with
  | .int i, .int j => if 0 < j then ok (.int (i % j)) m else none
  | _, _ => none
def powD (d e : D) (m : M) : R D := match d, e with
  | .int i, .int j => if 0 ≤ j ∧ j ≤ 1000000 ∧ i.natAbs < 2 ^ 64 then ok (.int (i ^ j.toNat)) m else none
  | _, _ => none
theorem od_div : OpD T X (binaryOp .FloorDiv) divD := by
  intro E pins s σ H x y v u Q I rx ry ⟨d, e, m, al, S, r1, r2, f⟩
  unfold divD at f
  split at f
  · split at f
    · rename_i hb
      cases r1; cases r2
      exact op_fdiv pins s σ H _ _ v u Q I rx ry ⟨_, _, rfl, rfl, hb, f.ret S (.int _)⟩
    · exact f.elim
  · exact f.elim
theorem od_mod : OpD T X (binaryOp .Mod) modD := by
  intro E pins s σ H x y v u Q I rx ry ⟨d, e, m, al, S, r1, r2, f⟩
  unfold modD at f
  split at f
  · split at f
    · rename_i hb
      cases r1; cases r2
      exact op_mod pins s σ H _ _ v u Q I rx ry ⟨_, _, rfl, rfl, hb, f.ret S (.int _)⟩
    · exact f.elim
  · exact f.elim
theorem od_pow : OpD T X (binaryOp .Pow) powD := by
  intro E pins s σ H x y v u Q I rx ry ⟨d, e, m, al, S, r1, r2, f⟩
  unfold powD at f
  split at f
  · split at f
    · rename_i hb
      cases r1; cases r2
      exact op_pow pins s σ H _ _ v u Q I rx ry ⟨_, _, rfl, rfl, hb, f.ret S (.int _)⟩
    · exact f.elim
  · exact f.elim
def negD (d : D) (m : M) : R D := match d with
  | .int i => ok (.int (-i)) m
  | _ => none
theorem ud_neg : UnD T X (unaryOp .USub) negD := by
  intro E pins s σ H x v Q I rx ⟨d, m, al, S, r1, f⟩
  unfold negD at f
  split at f
  · cases r1
    exact un_neg pins s σ H _ v Q I rx ⟨_, rfl, f.ret S (.int _)⟩
  · exact f.elim
/-- is None; nothing is said of values of the text -/
def isNB : D → Option Bool
  | .non => some true
  | .gl _ => none
  | _ => some false
def isND (d e : D) (m : M) : R D := match e, isNB d with
  | .non, some b => ok (.bl b) m
  | _, _ => none
def notND (d e : D) (m : M) : R D := match e, isNB d with
  | .non, some b => ok (.bl (!b)) m
  | _, _ => none
theorem isN_v {K : G} {al : List Addr} {H : Hp} {x : V} {d : D} {b : Bool} (r : Rp K al H x d) (h : isNB d = some b) : decide (x = .non) = b := by
  cases r <;> cases h <;> rfl
theorem od_isN : OpD T X (compareOp .Is) isND := by
  intro E pins s σ H x y v u Q I rx ry ⟨d, e, m, al, S, r1, r2, f⟩
  unfold isND at f
  split at f
  · rename_i b hb
    cases r2
    exact op_isN pins s σ H _ _ v u Q I rx ry ⟨rfl, by rw [isN_v r1 hb]; exact f.ret S (.bl _)⟩
  · exact f.elim
theorem od_notN : OpD T X (compareOp .IsNot) notND := by
  intro E pins s σ H x y v u Q I rx ry ⟨d, e, m, al, S, r1, r2, f⟩
  unfold notND at f
  split at f
  · rename_i b hb
    cases r2
    exact op_notN pins s σ H _ _ v u Q I rx ry ⟨rfl, by rw [isN_v r1 hb]; exact f.ret S (.bl _)⟩
  · exact f.elim
end
end Sx

set_option Elab.async false
set_option linter.all false
set_option maxRecDepth 100000
set_option maxHeartbeats 2000000
/-! Sx7: membership, built-in functions, methods of built-in types. -/
namespace Sx
open PySem PySem.Spec PyProof.Rows L2

/-! ### in -/
def flatB : D → Bool
  | .non => true
  | .bl _ => true
  | .int _ => true
  | .str _ => true
  | _ => false
/-- == of flat data -/
def eqF : D → D → Bool
  | .non, .non => true
  | .bl a, .bl b => a == b
  | .bl a, .int b => (if a then 1 else 0) == b
  | .int a, .bl b => a == (if b then 1 else 0)
  | .int a, .int b => a == b
  | .str a, .str b => a == b
  | _, _ => false
def inF (d : D) (xs : List D) : Bool := xs.any fun y => eqF y d
section
variable {K : G} {al : List Addr} {H : Hp}
theorem flat_rp {x : V} {d : D} (r : Rp K al H x d) (h : flatB d = true) : flatV x = true := by
  cases r <;> first
    | rfl
    | cases h
theorem eqF_rp {x y : V} {d e : D} (r : Rp K al H x d) (r2 : Rp K al H y e) (h : flatB d = true) (h2 : flatB e = true) : eqV y x = eqF e d := by
  cases r <;> first
    | (cases h; done)
    | (cases r2 <;> first
      | rfl
      | (cases h2; done))
theorem allF_rp {vs : List V} {ds : List D} (r : RpL K al H vs ds) (h : ds.all flatB = true) : vs.all flatV = true := by
  cases r with
  | nil => rfl
  | cons r t =>
    rw [List.all_cons, Bool.and_eq_true] at h ⊢
    exact ⟨flat_rp r h.1, allF_rp t h.2⟩
theorem inF_rp {x : V} {d : D} (r : Rp K al H x d) (h : flatB d = true) : ∀ {vs : List V} {ds : List D}, RpL K al H vs ds → ds.all flatB = true → inV x vs = inF d ds
  | _, _, .nil, _ => rfl
  | _, _, .cons r2 t, hh => by
    rw [List.all_cons, Bool.and_eq_true] at hh
    unfold inV inF
    rw [List.any_cons, List.any_cons, eqF_rp r r2 h hh.1]
    have := inF_rp r h t hh.2
    unfold inV inF at this
    rw [this]
end
/-- a key of a dict -/
def keyD : D → Option Key
  | .int i => some (.inl i)
  | .str x => some (.inr x)
  | _ => none
theorem key_rp {K : G} {al : List Addr} {H : Hp} {x : V} {d : D} {k : Key} (r : Rp K al H x d) (h : keyD d = some k) : x = kV k := by
  cases r <;> cases h <;> rfl
/-- what a dict holds -/
def valD {κ : Type} [DecidableEq κ] (kvs : List (κ × D)) (k : κ) : Option D := (kvs.find? fun kv => decide (kv.1 = k)).map (·.2)
theorem valD_rp {κ : Type} [DecidableEq κ] {K : G} {al : List Addr} {H : Hp} {ws : List (κ × V)} {kvs : List (κ × D)} (r : RpF K al H ws kvs) (k : κ) : (∃ v d, valV ws k = some v ∧ valD kvs k = some d ∧ Rp K al H v d) ∨ (valV ws k = none ∧ valD kvs k = none) := by
  induction r with
  | nil => exact .inr ⟨rfl, rfl⟩
  | @cons j v ws d kvs r t ih =>
    by_cases e : j = k
    · exact .inl ⟨v, d, valV_pos e, by simp [valD, List.find?_cons, e], r⟩
    · rw [valV_neg e]
      have : valD ((j, d) :: kvs) k = valD kvs k := by simp [valD, List.find?_cons, e]
      rw [this]
      exact ih
/-- keys that are tuples of numbers and texts -/
def keyT : D → Option (List Key)
  | .tup xs => xs.mapM keyD
  | _ => none
theorem keys_rp {K : G} {al : List Addr} {H : Hp} : ∀ {vs : List V} {ds : List D} {ks : List Key}, RpL K al H vs ds → ds.mapM keyD = some ks → vs = ks.map kV
  | _, _, _, .nil, h => by
    simp at h
    subst h
    rfl
  | _, d :: ds, ks, .cons r t, h => by
    rw [List.mapM_cons] at h
    cases e : keyD d with
    | none => rw [e] at h; cases h
    | some k =>
      rw [e] at h
      cases e2 : ds.mapM keyD with
      | none => rw [e2] at h; cases h
      | some ks' =>
        rw [e2] at h
        cases h
        rw [List.map_cons, key_rp r e, keys_rp t e2]
/-- the look into a dict: none: it cannot be told -/
def lookD (d k : D) (m : M) : Option (Option D) := match d with
  | .ref i => match m[i]? with
    | some (.dct kvs) => (keyD k).map fun q => valD kvs q
    | some (.dtp kvs) => (keyT k).map fun q => valD kvs q
    | _ => none
  | _ => none
theorem look_rp {K : G} {al : List Addr} {H : Hp} {x y : V} {d k : D} {m : M} {o : Option D} (S : Sim K al m H) (r1 : Rp K al H x d) (r2 : Rp K al H y k) (h : lookD d k m = some o) :
    ∃ a z, x = .ref a ∧ DGet H a y z ∧ ((∃ v e, z = some v ∧ o = some e ∧ Rp K al H v e) ∨ (z = none ∧ o = none)) := by
  unfold lookD at h
  split at h
  · cases r1 with
    | ref hi =>
      obtain ⟨ob, ho, ro⟩ := S.of hi
      rw [ho] at h
      cases ob with
      | dct kvs =>
        obtain ⟨ws, hw, rf⟩ := ro
        dsimp only at h
        cases e : keyD k with
        | none => rw [e] at h; cases h
        | some q =>
          rw [e] at h
          cases h
          rw [key_rp r2 e]
          rcases valD_rp rf q with ⟨v, e', h1, h2, rr⟩ | ⟨h1, h2⟩
          · exact ⟨_, _, rfl, DGet.k hw, .inl ⟨v, e', h1, h2, rr⟩⟩
          · exact ⟨_, _, rfl, DGet.k hw, .inr ⟨h1, h2⟩⟩
      | dtp kvs =>
        obtain ⟨ws, hw, rf⟩ := ro
        dsimp only at h
        cases e : keyT k with
        | none => rw [e] at h; cases h
        | some q =>
          rw [e] at h
          cases h
          cases r2 with
          | tup hs t =>
            have hb := hs
            rw [keys_rp t e] at hb
            rcases valD_rp rf q with ⟨v, e', h1, h2, rr⟩ | ⟨h1, h2⟩
            · exact ⟨_, _, rfl, DGet.t hw hb, .inl ⟨v, e', h1, h2, rr⟩⟩
            · exact ⟨_, _, rfl, DGet.t hw hb, .inr ⟨h1, h2⟩⟩
          | _ => cases e
      | _ => cases h
  · cases h
end Sx

set_option Elab.async false
set_option linter.all false
set_option maxRecDepth 100000
set_option maxHeartbeats 2000000
/-! Sx8: in, built-in functions and methods, subscript stores, dicts. -/
namespace Sx
open PySem PySem.Spec PyProof.Rows L2

/-! ### in -/
/-- the items of a list or tuple -/
def seqD (d : D) (m : M) : Option (List D) := match d with
  | .tup xs => some xs
  | .kt xs => some xs
  | .fl xs => some xs
  | .ref i => match m[i]? with
    | some (.lst xs) => some xs
    | _ => none
  | _ => none
theorem seq_rp {K : G} {al : List Addr} {H : Hp} {m : M} {v : V} {d : D} {xs : List D} (S : Sim K al m H) (r : Rp K al H v d) (h : seqD d m = some xs) : ∃ a vs, v = .ref a ∧ (SqL K.k H a vs ∨ SqT K.k H a vs) ∧ RpL K al H vs xs := by
  cases r with
  | tup hs t => cases h; exact ⟨_, _, rfl, .inr (SqT.of hs), t⟩
  | kt hs t => cases h; exact ⟨_, _, rfl, .inr (hs H), t⟩
  | fl hs t => cases h; exact ⟨_, _, rfl, .inl (sqF_sq hs), t⟩
  | ref hi =>
    obtain ⟨o, ho, ro⟩ := S.of hi
    unfold seqD at h
    dsimp only at h
    rw [ho] at h
    cases o with
    | lst ys =>
      cases h
      obtain ⟨vs, hv, t⟩ := ro
      exact ⟨_, vs, rfl, .inl (SqL.of hv), t⟩
    | _ => cases h
  | _ => cases h
/-- a list's data, compared item by item -/
def inG (d : D) (xs : List D) (m : M) : Option Bool := match toPy m d, pyDs (lstP m 8) xs with
  | some p, some ps => if okP p && okP (.list ps) then some (ps.any fun z => PyData.eqv z p) else none
  | _, _ => none
/-- x in y; only a list may hold what is not flat -/
def isLst (d : D) : Bool := match d with
  | .tup _ => false
  | .kt _ => false
  | _ => true
def inB (d e : D) (m : M) : Option Bool := match d, e with
  | .str x, .str z => if x.cps.size = 1 then some (decide (x.cps.getD 0 0 ∈ z.cps.toList)) else none
  | _, _ => match seqD e m with
    | some xs => if flatB d && xs.all flatB then some (inF d xs) else if isLst e then inG d xs m else none
    | none => match lookD e d m with
      | some o => some o.isSome
      | none => none
def inD (d e : D) (m : M) : R D := match inB d e m with
  | some b => ok (.bl b) m
  | none => none
def notInD (d e : D) (m : M) : R D := match inB d e m with
  | some b => ok (.bl (!b)) m
  | none => none
theorem dp_seq {K : G} {al : List Addr} {H : Hp} {m : M} {v : V} {d : D} {xs : List D} {ps : List PyData} (S : Sim K al m H) (r : Rp K al H v d) (h : seqD d m = some xs) (hl : isLst d = true) (hp : pyDs (lstP m 8) xs = some ps) : Dp K.k H v (.list ps) := by
  cases r with
  | fl hs t =>
    cases h
    exact .lst (sqF_sq hs) (dp_ds (dp_l S 8) t hp)
  | ref hi =>
    obtain ⟨o, ho, ro⟩ := S.of hi
    unfold seqD at h
    dsimp only at h
    rw [ho] at h
    cases o with
    | lst ys =>
      cases h
      obtain ⟨ws, hw, t⟩ := ro
      exact .lst (SqL.of hw) (dp_ds (dp_l S 8) t hp)
    | _ => cases h
  | tup _ _ => cases hl
  | kt _ _ => cases hl
  | _ => cases h
theorem one_sign {x : Str} (h : x.cps.size = 1) : x = ⟨#[x.cps.getD 0 0]⟩ := by
  obtain ⟨⟨l⟩⟩ := x
  match l, h with
  | [c], _ => rfl
section
variable {T : Sv} {X : Cx}
theorem inB_ok (hu : X.A.units + 160 < cLine) {pins : List (Addr × Obj)} {s : Shared} {σ : L2.St} {H : Hp} {al : List Addr} {m : M} {x y : V} {v u : Value} {d e : D} {b : Bool} (I : Inv X pins σ H s) (S : Sim (kx X T) al m H) (rx : RelV x v) (ry : RelV y u) (r1 : Rp (kx X T) al H x d) (r2 : Rp (kx X T) al H y e)
    (h : inB d e m = some b) : (∀ Q : VK, Q (.bl b) H → wpAny (model X.prog X.w) X.A (compareOp .In v u) (EP X pins σ Q) X.xe s) ∧ (∀ Q : VK, Q (.bl (!b)) H → wpAny (model X.prog X.w) X.A (compareOp .NotIn v u) (EP X pins σ Q) X.xe s) := by
  unfold inB at h
  split at h
  · split at h
    · rename_i x' z' hc
      cases h
      cases r1; cases r2
      have e1 := one_sign hc
      constructor
      · intro Q q
        refine op_in_sign pins s σ H _ _ v u Q I rx ry ⟨x'.cps.getD 0 0, z', by rw [← e1], rfl, q⟩
      · intro Q q
        refine op_notIn_sign pins s σ H _ _ v u Q I rx ry ⟨x'.cps.getD 0 0, z', by rw [← e1], rfl, q⟩
    · cases h
  · cases hs : seqD e m with
    | some xs =>
      rw [hs] at h
      obtain ⟨a, vs, ev, hq, t⟩ := seq_rp S r2 hs
      subst ev
      dsimp only at h
      split at h
      · rename_i hf
        obtain ⟨f1, f2⟩ := Bool.and_eq_true_iff.mp hf
        cases h
        have e1 := inF_rp r1 f1 t f2
        have g1 := flat_rp r1 f1
        have g2 := allF_rp t f2
        constructor
        · intro Q q
          exact op_in_seq pins s σ H _ _ v u Q I rx ry ⟨a, vs, rfl, hq, g1, g2, by rw [e1]; exact q⟩
        · intro Q q
          exact op_notIn_seq pins s σ H _ _ v u Q I rx ry ⟨a, vs, rfl, hq, g1, g2, by rw [e1]; exact q⟩
      · split at h
        · rename_i hl
          unfold inG at h
          cases e1 : toPy m d with
          | none => rw [e1] at h; cases h
          | some p =>
            cases e2 : pyDs (lstP m 8) xs with
            | none => rw [e1, e2] at h; cases h
            | some ps =>
              rw [e1, e2] at h
              dsimp only at h
              split at h
              · rename_i hok
                cases h
                obtain ⟨o1, o2⟩ := Bool.and_eq_true_iff.mp hok
                obtain ⟨c1, c2⟩ := Bool.and_eq_true_iff.mp o1
                obtain ⟨c3, _⟩ := Bool.and_eq_true_iff.mp o2
                have dep : p.depth ≤ 150 := of_decide_eq_true c2
                obtain ⟨as, q1⟩ := Dp.reads I p x v (dp_of S r1 e1) rx
                have dl : Dp X.K H (.ref a) (.list ps) := dp_seq S r2 hs hl e2
                obtain ⟨bs, q2⟩ := Dp.reads I (.list ps) _ u dl ry
                have room : X.A.units + 1 + min (PyData.depthAll ps) p.depth < cLine := by
                  have := Nat.min_le_right (PyData.depthAll ps) p.depth
                  omega
                constructor
                · intro Q q
                  exact SeqAt.in_list_reads q2 q1 c3 c1 room ⟨.bl _, H, I, rfl, q⟩
                · intro Q q
                  exact SeqAt.notIn_list_reads q2 q1 c3 c1 room ⟨.bl _, H, I, rfl, q⟩
              · cases h
        · cases h
    | none =>
      rw [hs] at h
      dsimp only at h
      cases hl : lookD e d m with
      | none => rw [hl] at h; cases h
      | some o =>
        rw [hl] at h
        cases h
        obtain ⟨a, z, ev, dg, hz⟩ := look_rp S r2 r1 hl
        subst ev
        obtain rfl : u = Value.ref a := ry
        have e1 : z.isSome = o.isSome := by
          rcases hz with ⟨v, e, h1, h2, _⟩ | ⟨h1, h2⟩
          · rw [h1, h2] <;> rfl
          · rw [h1, h2] <;> rfl
        constructor
        · intro Q q
          exact d_in (by omega) I dg rx fun s' I' => ⟨.bl z.isSome, H, I', rfl, by rw [e1]; exact q⟩
        · intro Q q
          exact d_notIn (by omega) I dg rx fun s' I' => ⟨.bl (!z.isSome), H, I', rfl, by rw [e1]; exact q⟩
theorem od_in (hu : X.A.units + 160 < cLine) : OpD T X (compareOp .In) inD := by
  intro E pins s σ H x y v u Q I rx ry ⟨d, e, m, al, S, r1, r2, f⟩
  unfold inD at f
  cases hb : inB d e m with
  | none => rw [hb] at f; exact f.elim
  | some b =>
    rw [hb] at f
    exact (inB_ok hu I S rx ry r1 r2 hb).1 Q (f.ret S (.bl b))
theorem od_notIn (hu : X.A.units + 160 < cLine) : OpD T X (compareOp .NotIn) notInD := by
  intro E pins s σ H x y v u Q I rx ry ⟨d, e, m, al, S, r1, r2, f⟩
  unfold notInD at f
  cases hb : inB d e m with
  | none => rw [hb] at f; exact f.elim
  | some b =>
    rw [hb] at f
    exact (inB_ok hu I S rx ry r1 r2 hb).2 Q (f.ret S (.bl (!b)))

/-! ### built-in functions -/
def CD (T : Sv) (X : Cx) (f : Value) (g : List D → M → R D) : Prop := ∀ E, CallR X f fun xs H Q => ∃ ds m al, Sim (kx X T) al m H ∧ RpL (kx X T) al H xs ds ∧ Fin (kx X T) (Rp (kx X T)) E al H Q (g ds m)
def cBi (g : List D → M → R D) (cs : Cp (List D)) : Cp D := fun ρ m => bind (cs ρ m) g
variable {W : WX} {x : Str} {p pos : Pos} {e : Expr} {es : List Expr} {cs : Cp (List D)} {id : String} {g : List D → M → R D}
theorem ie_bi (hc : CD T X (.builtin id) g) (hm : X.mg x = none) (hv : bootBuiltins x = some (.builtin id)) (ha : IA T X W (e :: es) cs) (hg : Gl X x := by rfl) (hn : x ≠ "__name__" := by decide) (hdb : (x == ("__debug__" : Str)) = false := by decide)
    (he : starEach (e :: es) X.env = (false, eval e X.env) :: starEach es X.env := by rfl) (hpl : (backTo pos (starEach es X.env)).any (·.1) = false := by rfl) : IE T X W (.Call (.Name x p) (e :: es) [] pos) (cBi g cs) :=
  ⟨⟨fun pins s σ H Q I ⟨ρ, m, al, er, S, f⟩ => (pe_callB (hc fun c d H' => W c d σ H') hg hm hv ha.pa hn hdb he hpl).run pins s σ H Q I ⟨ρ, m, al, er, S, Fin.mono (fun vs H1 ⟨ds, m1, al1, g1, f1⟩ => ⟨ds, m1, al1, g1.s, g1.r, f1⟩) (Fin.bind (rel := RpL (kx X T)) f)⟩⟩⟩
theorem ie_ty (hc : CD T X (.type id) g) (hm : X.mg x = none) (hv : bootBuiltins x = some (.type id)) (ha : IA T X W (e :: es) cs) (hg : Gl X x := by rfl) (hn : x ≠ "__name__" := by decide) (hdb : (x == ("__debug__" : Str)) = false := by decide)
    (he : starEach (e :: es) X.env = (false, eval e X.env) :: starEach es X.env := by rfl) (hpl : (backTo pos (starEach es X.env)).any (·.1) = false := by rfl) : IE T X W (.Call (.Name x p) (e :: es) [] pos) (cBi g cs) :=
  ⟨⟨fun pins s σ H Q I ⟨ρ, m, al, er, S, f⟩ => (pe_callTy (hc fun c d H' => W c d σ H') hg hm hv ha.pa hn hdb he hpl).run pins s σ H Q I ⟨ρ, m, al, er, S, Fin.mono (fun vs H1 ⟨ds, m1, al1, g1, f1⟩ => ⟨ds, m1, al1, g1.s, g1.r, f1⟩) (Fin.bind (rel := RpL (kx X T)) f)⟩⟩⟩
/-- len -/
def lenD (xs : List D) (m : M) : R D := match xs with
  | [.str x] => if x.length ≤ lim then ok (.int x.length) m else none
  | [.ref i] => match m[i]? with
    | some (.lst ys) => ok (.int ys.length) m
    | some (.dct ys) => ok (.int ys.length) m
    | _ => none
  | [d] => match seqD d m with
    | some ys => ok (.int ys.length) m
    | none => none
  | _ => none
theorem rpl1 {K : G} {al : List Addr} {H : Hp} {vs : List V} {d : D} (r : RpL K al H vs [d]) : ∃ v, vs = [v] ∧ Rp K al H v d := by
  cases r with
  | cons r t => cases t; exact ⟨_, rfl, r⟩
theorem rpl2 {K : G} {al : List Addr} {H : Hp} {vs : List V} {d e : D} (r : RpL K al H vs [d, e]) : ∃ v w, vs = [v, w] ∧ Rp K al H v d ∧ Rp K al H w e := by
  cases r with
  | cons r t =>
    obtain ⟨w, rfl, r2⟩ := rpl1 t
    exact ⟨_, _, rfl, r, r2⟩
theorem len_seq {E : XK} {pins : List (Addr × Obj)} {s : Shared} {σ : L2.St} {H : Hp} {al : List Addr} {m : M} {v : V} {d : D} {us : List Value} {ys : List D} {Q : VK} (I : Inv X pins σ H s) (S : Sim (kx X T) al m H) (rv : Vals [v] us) (r : Rp (kx X T) al H v d) (h : seqD d m = some ys) (q : Q (.int ys.length) H) :
    wpAny (model X.prog X.w) X.A (call (.builtin "len") us) (EP X pins σ Q) X.xe s := by
  obtain ⟨a, vs, rfl, hs, t⟩ := seq_rp S r h
  rw [← t.len] at q
  exact call_len_seq pins s σ H _ us Q I rv ⟨a, vs, rfl, hs, q⟩
theorem cd_len : CD T X (.builtin "len") lenD := by
  intro E pins s σ H xs us Q I rv ⟨ds, m, al, S, r, f⟩
  unfold lenD at f
  split at f
  · split at f
    · rename_i hl
      obtain ⟨v, rfl, r1⟩ := rpl1 r
      cases r1
      exact call_len_str pins s σ H _ us Q I rv ⟨_, rfl, lim_ok hl, f.ret S (.int _)⟩
    · exact f.elim
  · obtain ⟨v, rfl, r1⟩ := rpl1 r
    cases r1 with
    | ref hi =>
      obtain ⟨o, ho, ro⟩ := S.of hi
      rw [ho] at f
      cases o with
      | lst ys =>
        obtain ⟨vs, hv, t⟩ := ro
        exact call_len_seq pins s σ H _ us Q I rv ⟨_, vs, rfl, .inl (SqL.of hv), by rw [t.len]; exact f.ret S (.int _)⟩
      | dct ys =>
        obtain ⟨ws, hw, t⟩ := ro
        obtain ⟨u, rfl, ru⟩ := Vals.one rv
        cases ru
        refine d_len I (.inl hw) fun tk s' I' => ⟨.int _, H, I', ⟨tk, rfl⟩, ?_⟩
        rw [t.len]
        exact f.ret S (.int _)
      | _ => exact f.elim
  · split at f
    · rename_i hs
      obtain ⟨v, rfl, r1⟩ := rpl1 r
      exact len_seq (E := E) I S rv r1 hs (f.ret S (.int _))
    · exact f.elim
  · exact f.elim
/-- int of a number, of a truth value -/
def intD (xs : List D) (m : M) : R D := match xs with
  | [.int i] => ok (.int i) m
  | [.bl b] => ok (.int (if b then 1 else 0)) m
  | _ => none
theorem cd_int : CD T X (.type "int") intD := by
  intro E pins s σ H xs us Q I rv ⟨ds, m, al, S, r, f⟩
  unfold intD at f
  split at f
  · obtain ⟨v, rfl, r1⟩ := rpl1 r
    cases r1
    exact call_int1 pins s σ H _ us Q I rv (.inl ⟨_, rfl, f.ret S (.int _)⟩)
  · obtain ⟨v, rfl, r1⟩ := rpl1 r
    cases r1
    exact call_int1 pins s σ H _ us Q I rv (.inr ⟨_, rfl, f.ret S (.int _)⟩)
  · exact f.elim
def absD (xs : List D) (m : M) : R D := match xs with
  | [.int i] => ok (.int (if i < 0 then -i else i)) m
  | _ => none
theorem cd_abs : CD T X (.builtin "abs") absD := by
  intro E pins s σ H xs us Q I rv ⟨ds, m, al, S, r, f⟩
  unfold absD at f
  split at f
  · obtain ⟨v, rfl, r1⟩ := rpl1 r
    cases r1
    exact call_abs pins s σ H _ us Q I rv ⟨_, rfl, f.ret S (.int _)⟩
  · exact f.elim
def tupD (xs : List D) (m : M) : R D := match xs with
  | [.tup ys] => ok (.tup ys) m
  | [.kt ys] => ok (.kt ys) m
  | [.fl ys] => ok (.tup ys) m
  | [.ref i] => match m[i]? with
    | some (.lst ys) => ok (.tup ys) m
    | _ => none
  | _ => none
theorem cd_tuple : CD T X (.type "tuple") tupD := by
  intro E pins s σ H xs us Q I rv ⟨ds, m, al, S, r, f⟩
  unfold tupD at f
  split at f
  · obtain ⟨v, rfl, r1⟩ := rpl1 r
    cases r1 with
    | tup h t => exact call_tuple_of pins s σ H _ us Q I rv ⟨_, _, rfl, .inr ⟨SqT.of h, f.ret S (.tup h t)⟩⟩
  · obtain ⟨v, rfl, r1⟩ := rpl1 r
    cases r1 with
    | kt h t => exact call_tuple_of pins s σ H _ us Q I rv ⟨_, _, rfl, .inr ⟨h H, f.ret S (.kt h t)⟩⟩
  · obtain ⟨v, rfl, r1⟩ := rpl1 r
    cases r1 with
    | fl h t => exact call_tuple_of pins s σ H _ us Q I rv ⟨_, _, rfl, .inl ⟨sqF_sq h, fun p hp => fin_tup f S hp t⟩⟩
  · obtain ⟨v, rfl, r1⟩ := rpl1 r
    cases r1 with
    | ref hi =>
      obtain ⟨o, ho, ro⟩ := S.of hi
      rw [ho] at f
      cases o with
      | lst ys =>
        obtain ⟨vs, hv, t⟩ := ro
        exact call_tuple_of pins s σ H _ us Q I rv ⟨_, _, rfl, .inl ⟨SqL.of hv, fun p hp => fin_tup f S hp t⟩⟩
      | _ => exact f.elim
  · exact f.elim
def listD (xs : List D) (m : M) : R D := match xs with
  | [d] => match seqD d m with
    | some ys => new (.lst ys) m
    | none => none
  | _ => none
theorem cd_list : CD T X (.type "list") listD := by
  intro E pins s σ H xs us Q I rv ⟨ds, m, al, S, r, f⟩
  unfold listD at f
  split at f
  · split at f
    · rename_i hs
      obtain ⟨v, rfl, r1⟩ := rpl1 r
      obtain ⟨a, vs, rfl, hq, t⟩ := seq_rp S r1 hs
      exact call_list_of pins s σ H _ us Q I rv ⟨_, _, rfl, hq, fun p hp => fin_new f S hp ⟨_, upd_same, t.up ⟨_, rfl⟩ (Grow.new hp)⟩⟩
    · exact f.elim
  · exact f.elim
/-- a list of numbers, of truth values -/
def intsD : List D → Option (List Int)
  | [] => some []
  | .int i :: r => (intsD r).map (i :: ·)
  | _ => none
def blsD : List D → Option (List Bool)
  | [] => some []
  | .bl i :: r => (blsD r).map (i :: ·)
  | _ => none
theorem ints_rp {K : G} {al : List Addr} {H : Hp} : ∀ {vs : List V} {ds : List D} {ns : List Int}, RpL K al H vs ds → intsD ds = some ns → vs = ns.map V.int
  | _, [], _, .nil, h => by cases h; rfl
  | _, .int i :: ds, ns, .cons r t, h => by
    cases e : intsD ds with
    | none => unfold intsD at h; rw [e] at h; cases h
    | some ks =>
      unfold intsD at h
      rw [e] at h
      cases h
      cases r
      rw [ints_rp t e] <;> rfl
  | _, .non :: _, _, _, h => by cases h
  | _, .bl _ :: _, _, _, h => by cases h
  | _, .str _ :: _, _, _, h => by cases h
  | _, .tup _ :: _, _, _, h => by cases h
  | _, .fl _ :: _, _, _, h => by cases h
  | _, .kt _ :: _, _, _, h => by cases h
  | _, .ref _ :: _, _, _, h => by cases h
  | _, .gl _ :: _, _, _, h => by cases h
theorem bls_rp {K : G} {al : List Addr} {H : Hp} : ∀ {vs : List V} {ds : List D} {ns : List Bool}, RpL K al H vs ds → blsD ds = some ns → vs = ns.map V.bl
  | _, [], _, .nil, h => by cases h; rfl
  | _, .bl i :: ds, ns, .cons r t, h => by
    cases e : blsD ds with
    | none => unfold blsD at h; rw [e] at h; cases h
    | some ks =>
      unfold blsD at h
      rw [e] at h
      cases h
      cases r
      rw [bls_rp t e] <;> rfl
  | _, .non :: _, _, _, h => by cases h
  | _, .int _ :: _, _, _, h => by cases h
  | _, .str _ :: _, _, _, h => by cases h
  | _, .tup _ :: _, _, _, h => by cases h
  | _, .fl _ :: _, _, _, h => by cases h
  | _, .kt _ :: _, _, _, h => by cases h
  | _, .ref _ :: _, _, _, h => by cases h
  | _, .gl _ :: _, _, _, h => by cases h
def lstOf (d : D) (m : M) : Option (List D) := match d with
  | .ref i => match m[i]? with
    | some (.lst xs) => some xs
    | _ => none
  | _ => none
theorem lst_rp {K : G} {al : List Addr} {H : Hp} {m : M} {v : V} {d : D} {xs : List D} (S : Sim K al m H) (r : Rp K al H v d) (h : lstOf d m = some xs) : ∃ i a vs, d = .ref i ∧ m[i]? = some (.lst xs) ∧ al[i]? = some a ∧ v = .ref a ∧ H a = some (.lst vs) ∧ RpL K al H vs xs := by
  cases r with
  | ref hi =>
    obtain ⟨o, ho, ro⟩ := S.of hi
    unfold lstOf at h
    dsimp only at h
    rw [ho] at h
    cases o with
    | lst ys =>
      cases h
      obtain ⟨vs, hv, t⟩ := ro
      exact ⟨_, _, vs, rfl, ho, hi, rfl, hv, t⟩
    | _ => cases h
  | _ => cases h
def sumD (xs : List D) (m : M) : R D := match xs with
  | [d] => match lstOf d m with
    | some ys => (match intsD ys with
      | some ns => ok (.int ns.sum) m
      | none => none)
    | none => none
  | _ => none
theorem cd_sum (hc : X.calm = true) : CD T X (.builtin "sum") sumD := by
  intro E pins s σ H xs us Q I rv ⟨ds, m, al, S, r, f⟩
  unfold sumD at f
  split at f
  · split at f
    · rename_i hl
      split at f
      · rename_i hn
        obtain ⟨v, rfl, r1⟩ := rpl1 r
        obtain ⟨i, a, vs, _, _, _, rfl, hv, t⟩ := lst_rp S r1 hl
        have e := ints_rp t hn
        subst e
        exact cr_sum hc pins s σ H _ us Q I rv ⟨a, _, rfl, SqL.of hv, f.ret S (.int _)⟩
      · exact f.elim
    · exact f.elim
  · exact f.elim
def allD (xs : List D) (m : M) : R D := match xs with
  | [d] => match lstOf d m with
    | some ys => (match blsD ys with
      | some ns => ok (.bl (ns.all _root_.id)) m
      | none => none)
    | none => none
  | _ => none
theorem cd_all (hc : X.calm = true) : CD T X (.builtin "all") allD := by
  intro E pins s σ H xs us Q I rv ⟨ds, m, al, S, r, f⟩
  unfold allD at f
  split at f
  · split at f
    · rename_i hl
      split at f
      · rename_i hn
        obtain ⟨v, rfl, r1⟩ := rpl1 r
        obtain ⟨i, a, vs, _, _, _, rfl, hv, t⟩ := lst_rp S r1 hl
        have e := bls_rp t hn
        subst e
        exact cr_all hc pins s σ H _ us Q I rv ⟨a, _, rfl, SqL.of hv, f.ret S (.bl _)⟩
      · exact f.elim
    · exact f.elim
  · exact f.elim
/-- max, min of two numbers, or of a list of numbers -/
def maxL : List Int → Int
  | [] => 0
  | [a] => a
  | a :: r => if a < maxL r then maxL r else a
def minL : List Int → Int
  | [] => 0
  | [a] => a
  | a :: r => if minL r < a then minL r else a
theorem maxL_mem : ∀ (l : List Int), l ≠ [] → maxL l ∈ l ∧ ∀ y ∈ l, y ≤ maxL l
  | [], h => absurd rfl h
  | [a], _ => ⟨by simp [maxL], by simp [maxL]⟩
  | a :: b :: r, _ => by
    obtain ⟨h1, h2⟩ := maxL_mem (b :: r) (by simp)
    have e : maxL (a :: b :: r) = if a < maxL (b :: r) then maxL (b :: r) else a := rfl
    rw [e]
    split
    · rename_i hlt
      exact ⟨List.mem_cons_of_mem _ h1, fun y hy => by
        rcases List.mem_cons.mp hy with rfl | hy
        · omega
        · exact h2 y hy⟩
    · rename_i hlt
      exact ⟨List.mem_cons_self .., fun y hy => by
        rcases List.mem_cons.mp hy with rfl | hy
        · exact Int.le_refl _
        · have := h2 y hy; omega⟩
theorem minL_mem : ∀ (l : List Int), l ≠ [] → minL l ∈ l ∧ ∀ y ∈ l, minL l ≤ y
  | [], h => absurd rfl h
  | [a], _ => ⟨by simp [minL], by simp [minL]⟩
  | a :: b :: r, _ => by
    obtain ⟨h1, h2⟩ := minL_mem (b :: r) (by simp)
    have e : minL (a :: b :: r) = if minL (b :: r) < a then minL (b :: r) else a := rfl
    rw [e]
    split
    · rename_i hlt
      exact ⟨List.mem_cons_of_mem _ h1, fun y hy => by
        rcases List.mem_cons.mp hy with rfl | hy
        · omega
        · exact h2 y hy⟩
    · rename_i hlt
      exact ⟨List.mem_cons_self .., fun y hy => by
        rcases List.mem_cons.mp hy with rfl | hy
        · exact Int.le_refl _
        · have := h2 y hy; omega⟩
def maxD (xs : List D) (m : M) : R D := match xs with
  | [.int i, .int j] => ok (.int (if j > i then j else i)) m
  | [d] => match lstOf d m with
    | some ys => (match intsD ys with
      | some (n :: ns) => ok (.int (maxL (n :: ns))) m
      | _ => none)
    | none => none
  | _ => none
def minD (xs : List D) (m : M) : R D := match xs with
  | [.int i, .int j] => ok (.int (if j < i then j else i)) m
  | [d] => match lstOf d m with
    | some ys => (match intsD ys with
      | some (n :: ns) => ok (.int (minL (n :: ns))) m
      | _ => none)
    | none => none
  | _ => none
theorem cd_max (hc : X.calm = true) : CD T X (.builtin "max") maxD := by
  intro E pins s σ H xs us Q I rv ⟨ds, m, al, S, r, f⟩
  unfold maxD at f
  split at f
  · obtain ⟨v, w, rfl, r1, r2⟩ := rpl2 r
    cases r1; cases r2
    exact call_max2 hc pins s σ H _ us Q I rv ⟨_, _, rfl, f.ret S (.int _)⟩
  · split at f
    · rename_i hl
      split at f
      · rename_i n ns hn
        obtain ⟨v, rfl, r1⟩ := rpl1 r
        obtain ⟨i, a, vs, _, _, _, rfl, hv, t⟩ := lst_rp S r1 hl
        have e := ints_rp t hn
        subst e
        obtain ⟨h1, h2⟩ := maxL_mem (n :: ns) (by simp)
        refine cr_max hc pins s σ H _ us Q I rv ⟨a, _, rfl, SqL.of hv, by simp, fun k hk hle => ?_⟩
        have : k = maxL (n :: ns) := Int.le_antisymm (h2 k hk) (hle _ h1)
        rw [this]
        exact f.ret S (.int _)
      · exact f.elim
    · exact f.elim
  · exact f.elim
theorem cd_min (hc : X.calm = true) : CD T X (.builtin "min") minD := by
  intro E pins s σ H xs us Q I rv ⟨ds, m, al, S, r, f⟩
  unfold minD at f
  split at f
  · obtain ⟨v, w, rfl, r1, r2⟩ := rpl2 r
    cases r1; cases r2
    exact call_min2 hc pins s σ H _ us Q I rv ⟨_, _, rfl, f.ret S (.int _)⟩
  · split at f
    · rename_i hl
      split at f
      · rename_i n ns hn
        obtain ⟨v, rfl, r1⟩ := rpl1 r
        obtain ⟨i, a, vs, _, _, _, rfl, hv, t⟩ := lst_rp S r1 hl
        have e := ints_rp t hn
        subst e
        obtain ⟨h1, h2⟩ := minL_mem (n :: ns) (by simp)
        refine cr_min hc pins s σ H _ us Q I rv ⟨a, _, rfl, SqL.of hv, by simp, fun k hk hle => ?_⟩
        have : k = minL (n :: ns) := Int.le_antisymm (hle _ h1) (h2 k hk)
        rw [this]
        exact f.ret S (.int _)
      · exact f.elim
    · exact f.elim
  · exact f.elim
/-- str of a number -/
def strD (xs : List D) (m : M) : R D := match xs with
  | [.int i] => if i.natAbs.log2 < 1920 then ok (.str (toString i)) m else none
  | _ => none
theorem cd_str : CD T X (.type "str") strD := by
  intro E pins s σ H xs us Q I rv ⟨ds, m, al, S, r, f⟩
  unfold strD at f
  split at f
  · split at f
    · rename_i hl
      obtain ⟨v, rfl, r1⟩ := rpl1 r
      cases r1
      exact call_str_int pins s σ H _ us Q I rv ⟨_, rfl, hl, f.ret S (.str _)⟩
    · exact f.elim
  · exact f.elim
end
end Sx

set_option Elab.async false
set_option linter.all false
set_option maxRecDepth 100000
set_option maxHeartbeats 2000000
/-! Sx9: own exceptions that are held as data. -/
namespace Sx
open PySem PySem.Spec PyProof.Rows L2

/-- what the written part says of an own exception class, over whatever built-in -/
structure EB (K : PySem.W.Frag) (C : Addr) : Prop where
  ex : ∃ (B nid iid : String) (bm : List Value), ExcBaseFacts B nid iid bm ∧ StoreFacts B bm "object.__setattr__" "object" ∧ PySem.W.excInitIn K C bm nid = true ∧ PySem.W.excOver K C bm = true
  sa : PySem.W.findIn K (.ref C) "__setattr__" = some (some (.builtin "object.__setattr__"))
  kp : PySem.W.keepIn K (.ref C) = true
  ec : ExcC K C
section
variable {X : Cx} {pins : List (Addr × Obj)} {σ : L2.St} {H : Hp} {s : Shared} {a C dx : Addr} {f : Str} {y : V} {u : Value} {fs : List (Str × V)} {Q : Unit → Shared → Prop} {E : Value → Shared → Prop} {A : Around}
open PySem.Builtin PySem.Builtin.ObjectAttr
/-- an empty dict as a namespace -/
theorem ns_dict0 {h : Heap} {d : Addr} {o : Obj} (e : h.get? d = some o) (hd : o.data = .dict #[] 0) : h.Ns1 d fun _ => none :=
  Heap.Ns1.of_empty ⟨o, #[], 0, e, hd, fun x z => absurd z (by simp), fun _ => rfl⟩
theorem est_new (T : EB X.K C) (I : Inv X pins σ H s) (e : H a = some (exo a C none)) (no : PySem.W.findIn X.K (.ref C) f = some none) (ry : RelV y u)
    (h : ∀ dx s' H', H dx = none → dx ≠ a → H' a = some (exo a C (some dx)) → H' dx = some (exd dx [(f, y)]) → (∀ b, b ≠ a → b ≠ dx → H' b = H b) → Inv X pins σ H' s' → Q () s') : wpAny (model X.prog X.w) A (setAttr (.ref a) f u) Q E s := by
  obtain ⟨B, nid, iid, bm, FB, SF, q, ov⟩ := T.ex
  obtain ⟨t1, ho⟩ := exo_at I.hok e
  obtain ⟨cd, hc, hd⟩ := PySem.W.any_some T.ec.hd
  obtain ⟨hp, g, d, t, os⟩ := s
  have ia : PySem.W.InstAt hp a _ C none := ⟨ho, rfl, rfl, trivial⟩
  refine PySem.W.set_plain (od := none) I.kIn ia T.sa ?_
  refine PySem.W.osa_openX (od := none) (r := none) SF I.kIn ia ov (by unfold PySem.W.takerIn; rw [no]; rfl) fun b => ?_
  refine wpAny_bind (wpAny_pure (wpAny_bind (PySem.W.instanceDict_exc (t := t1) (c2 := .none) ho (PySem.W.looks_clsIn I.kIn hc) hd ?_)))
  -- the dict is laid, then hung in
  have sz : hp.objs.size ≤ hp.objs.size := Nat.le_refl _
  have na : a ≠ hp.objs.size := Nat.ne_of_lt (Heap.lt_size ho)
  have k1 : ∀ b o, hp.get? b = some o → (hp.push (PySem.W.dictOf [] 0)).get? b = some o := fun b o z => Heap.get?_push_of_some _ z
  have g1 : (hp.push (PySem.W.dictOf [] 0)).get? hp.objs.size = some (PySem.W.dictOf [] 0) := Heap.get?_push_at rfl rfl
  have I1 := I.laid (t' := t) (a := hp.objs.size) (o := exd hp.objs.size []) k1 sz (exd_ok (ns_dict0 g1 rfl) fun _ => True.intro)
  have ho1 := k1 _ _ ho
  have I2 := Inv.write (t' := t) (x := a) (e := a) (o := exo a C (some hp.objs.size)) (h' := (hp.push (PySem.W.dictOf [] 0)).update a fun o => { o with dict := some hp.objs.size }) I1
    (by rw [upd_ne na, e]; exact True.intro) (.inl rfl) (fun b o nb z => (Heap.get?_update_ne _ _ _ _ nb).trans z) ⟨_, Heap.get?_update_self _ ho1 rfl⟩ (exo_ok (t1 := t1) (Heap.get?_update_self _ ho1 rfl))
  have g2 : ((hp.push (PySem.W.dictOf [] 0)).update a fun o => { o with dict := some hp.objs.size }).get? hp.objs.size = some (PySem.W.dictOf [] 0) := (Heap.get?_update_ne _ _ _ _ (Ne.symm na)).trans g1
  refine PySem.OEX.store_in_old (m0 := fun _ => none) (ns := []) (ns_dict0 g2 rfl) Within.nil (Nat.zero_le _) fun h' tk' hn hs => ?_
  have I3 := Inv.write (t' := tk') (x := hp.objs.size) (e := hp.objs.size) (o := exd hp.objs.size [(f, y)]) (h' := h') I2
    (by rw [upd_ne (Ne.symm na), upd_same]; exact True.intro) (.inl rfl) (fun b o nb z => (hs.2 b nb).trans z) (by obtain ⟨o, _, _, z, _⟩ := hn; exact ⟨o, z⟩) (exd_ok hn (relO_put (fs := []) ry fun _ => True.intro))
  exact h _ _ _ (I.hok.fresh sz) (Ne.symm na) (by rw [upd_ne na, upd_same]) upd_same (fun b n1 n2 => by rw [upd_ne n2, upd_ne n1, upd_ne n2]) I3
theorem est_old (T : EB X.K C) (I : Inv X pins σ H s) (e : H a = some (exo a C (some dx))) (ed : H dx = some (exd dx fs)) (hl : fs.length ≤ 900) (no : PySem.W.findIn X.K (.ref C) f = some none) (ry : RelV y u)
    (h : ∀ s', Inv X pins σ (upd H dx (exd dx ((f, y) :: fs))) s' → Q () s') : wpAny (model X.prog X.w) A (setAttr (.ref a) f u) Q E s := by
  obtain ⟨B, nid, iid, bm, FB, SF, q, ov⟩ := T.ex
  obtain ⟨t1, ho⟩ := exo_at I.hok e
  obtain ⟨mA, hns, rel⟩ := exd_at I.hok ed
  obtain ⟨cd, hc, hd⟩ := PySem.W.any_some T.ec.hd
  obtain ⟨hp, g, d, t, os⟩ := s
  have wi := within_of rel
  obtain ⟨oD, _, _, hoD, _, _⟩ := hns.count wi
  have ia : PySem.W.InstAt hp a _ C (some oD) := ⟨ho, rfl, rfl, hoD⟩
  refine PySem.W.set_plain (od := some oD) I.kIn ia T.sa ?_
  refine PySem.W.osa_openX (od := some oD) (r := none) SF I.kIn ia ov (by unfold PySem.W.takerIn; rw [no]; rfl) fun b => ?_
  refine wpAny_bind (wpAny_pure (wpAny_bind (wpAny_bind (wpAny_loadPart ho (wpAny_bind ((PySem.W.looks_clsIn I.kIn hc).at ?_))))))
  rw [hd]
  refine wpAny_pure (a := some dx) ?_
  refine PySem.OEX.store_in_old hns wi (by rw [List.length_map]; omega) fun h' tk' hn hs => ?_
  exact h _ (Inv.write (t' := tk') (x := dx) (e := dx) (o := exd dx ((f, y) :: fs)) (h' := h') I (by rw [ed]; exact True.intro) (.inl rfl) (fun b o nb z => (hs.2 b nb).trans z) (by obtain ⟨o, _, _, z, _⟩ := hn; exact ⟨o, z⟩) (exd_ok hn (relO_put ry rel)))
end

/-! ### isinstance of such an object -/
section
variable {prog : Program} {w : World} {A : Around} {E : Value → Shared → Prop} {s : Shared} {K : PySem.W.Frag} {x D : Addr} {ox : Obj} {od : Option Obj}
open PySem.W PySem.Calls
/-- its __class__ -/
theorem cls_exc {Q : Option Value → Shared → Prop} (T : ExcC K D) (hX : K.In s.heap) (hI : InstAt s.heap x ox D od) (fin : Q (some (.ref D)) { s with toks := s.toks + 1 }) : wpAny (model prog w) A (getAttr? (.ref x) "__class__") Q E s := by
  have fo : findObj K D od "__class__" = some (.bind (.builtin "getset_descriptor.__get__") (.builtin "object.__class__")) := by
    obtain ⟨cd, hc, _⟩ := any_some T.hd
    unfold findObj
    rw [hc, Option.bind_some, T.ha, Option.bind_some]
    simp [T.hn, T.ht]
  obtain ⟨hp, g, d, t, os⟩ := s
  have l0 := hI.type (M := model prog w)
  have l1 := looks_findIn (M := model prog w) hX T.hg
  have l2 := looks_findIn (M := model prog w) hX T.hk
  have l3 := looks_find (M := model prog w) hX hI fo
  have isB : Looks (model prog w) hp (isInstance (.ref x) (.type "BaseException")) true := l0.andThen (looks_subIn hX T.hs)
  have q2 : (Value.builtin "BaseException.__getattribute__" == Value.builtin "object.__getattribute__") = false := by decide +kernel
  have q1 : (onTheHeap (Value.ref D) && Value.builtin "BaseException.__getattribute__" == Value.builtin "object.__getattribute__") = false := by rw [q2]; rfl
  have q0 : (false && onTheHeap (Value.builtin "BaseException.__getattribute__")) = false := rfl
  unfold getAttr? getAttrBy? getAttrBy
  refine wpAny_bind (wpAny_mkText (wpAny_bind (wpAny_attempt (wpAny_holding (wpAny_bind (l0.at (wpAny_bind (l1.at ?_))))))))
  show wpAny _ _ (if (onTheHeap (Value.ref D) && Value.builtin "BaseException.__getattribute__" == Value.builtin "object.__getattribute__") = true then _ else _) _ _ _
  rw [q1, if_neg Bool.false_ne_true]
  unfold getAttrByItsOwn hookBefore
  refine wpAny_bind ?_
  rw [if_pos (show onTheHeap (Value.ref D) = true by rfl)]
  refine l2.at (wpAny_bind (wpAny_attempt (wpAny_holding ?_)))
  unfold callGetattribute
  rw [q0, if_neg Bool.false_ne_true]
  unfold boundAndCalled
  rw [PySem.F.excAttr_ValueError.ga.bind (.ref x)]
  refine wpAny_bind (wpAny_pure ?_)
  show wpAny _ _ (call (.builtin "BaseException.__getattribute__") [.ref x, .str "__class__" t]) _ _ _
  refine wpAny_call (codeAny_call_builtin PySem.F.excAttr_ValueError.ga.plain PySem.F.entry_bexc_ga (@check_slot (model prog w) _ _ ⟨hp, g, d, t + 1, os⟩ "BaseException.__getattribute__" "BaseException" "__getattribute__" (.ref x) [.str "__class__" t] [] _ (by decide +kernel) (by decide +kernel) isB (PySem.F.args_bexc_ga (.ref x) (.str "__class__" t)) ?_))
  unfold Builtin.«object.__getattribute__»
  refine wpAny_bind (wpAny_of_eq (a := ((Value.ref x : Value), [Value.str "__class__" t])) (by first | rfl | (simp only [slotArgs]; rfl)) (wpAny_bind (wpAny_pure (wpAny_bind (l0.at (wpAny_bind (l3.at ?_)))))))
  show wpAny _ _ (holding [Value.builtin "object.__class__"] (call (.builtin "getset_descriptor.__get__") [.builtin "object.__class__", .ref x, .ref D]) >>= ret) _ _ _
  refine wpAny_bind (wpAny_holding (wpAny_call (class_get (s := ⟨hp, g, d, t + 1, os⟩) (ox := ox) (od := od) hX hI T.hm (wpAny_pure ?_))))
  show wpAny _ _ (handedOut (.ref D)) _ _ _
  rw [handedOut_of (v := .ref D) rfl]
  first
    | exact wpAny_pure (wpAny_pure fin)
    | exact wpAny_pure fin
    | exact wpAny_pure (wpAny_bind (wpAny_pure (wpAny_pure fin)))
theorem kit_excE (T : ExcC K D) : KitX K (.ref x) (.ref D) fun h => InstAt h x ox D od where
  ty := fun _ _ _ I => I.type
  it := fun _ _ hX _ => by
    obtain ⟨cd, hc, _⟩ := any_some T.hd
    unfold clsIn at hc
    split at hc
    · rename_i ho
      intro A' Q' E' s' k q
      unfold isType loadHead
      exact wpAny_bind (wpAny_loadPart (k _ _ (hX _ _ ho)) (wpAny_pure q))
    · cases hc
  ne := fun h tp dd its n sl hX htp => by
    obtain ⟨cd, hc, _⟩ := any_some T.hd
    refine Bool.eq_false_iff.mpr fun q => ?_
    obtain rfl : D = tp := Value.ref.inj (beq_iff_eq.mp q)
    unfold clsIn at hc
    split at hc
    · rename_i ho
      cases (hX _ _ ho).symm.trans htp
    · cases hc
  ca := fun hX hI k => cls_exc T hX hI k
end

/-! ### made, read, asked -/
/-- self.f = e on an exception that is being made -/
def tEst (K : PySem.W.Frag) (f : Str) (to te : TE) : TS := fun D σ H => te σ H fun y H1 => to σ H1 fun x H2 => ∃ a C : Addr, x = .ref a ∧ EB K C ∧ PySem.W.findIn K (.ref C) f = some none ∧
  ((H2 a = some (exo a C none) ∧ ∀ dx H', H2 dx = none → dx ≠ a → H' a = some (exo a C (some dx)) → H' dx = some (exd dx [(f, y)]) → (∀ b, b ≠ a → b ≠ dx → H' b = H2 b) → D.nx σ H') ∨
    ∃ (dx : Addr) (fs : List (Str × V)), H2 a = some (exo a C (some dx)) ∧ H2 dx = some (exd dx fs) ∧ fs.length ≤ 900 ∧ D.nx σ (upd H2 dx (exd dx ((f, y) :: fs))))
theorem ps_est {X : Cx} {o e : Expr} {to te : TE} {f : Str} {p' pos : Pos} (ho : PE X o to) (he : PE X e te) (hs : swapsWith e (some (.Attribute o f p')) pos.line X.env = pure false := by rfl) : PS X (.Assign [.Attribute o f p'] e pos) (tEst X.K f to te) := by
  refine ⟨fun pins s σ H D I h => ?_⟩
  refine plainObj_wpAny_Assign_Attribute (thn (he.run pins s σ H _ I h) fun v s1 h1 => ?_) hs
  obtain ⟨y, H1, I1, r1, q1⟩ := h1
  refine thn (ho.run pins s1 σ H1 _ I1 q1) fun u s2 h2 => ?_
  obtain ⟨x, H2, I2, r2, a, C, ex, T, no, q⟩ := h2
  subst ex
  obtain rfl : u = Value.ref a := r2
  rcases q with ⟨ea, q⟩ | ⟨dx, fs, ea, ed, hl, q⟩
  · exact est_new T I2 ea no r1 fun dx s' H' n ne e1 e2 k J => ⟨σ, _, J, q dx H' n ne e1 e2 k⟩
  · exact est_old T I2 ea ed hl no r1 fun s' J => ⟨σ, _, J, q⟩
/-- an __init__ that stores its parameters under the names ns, in this order -/
def spEI (C : Addr) (ns : List Str) : Sp := fun vs H Q _ => ∃ (a : Addr) (ws : List V), vs = .ref a :: ws ∧ ws.length = ns.length ∧ H a = some (exo a C none) ∧
  ∀ dx H', H dx = none → dx ≠ a → H' a = some (exo a C (some dx)) → H' dx = some (exd dx (ns.reverse.zip ws.reverse)) → (∀ b, b ≠ a → b ≠ dx → H' b = H b) → Q .non H'
theorem spEI_len {C : Addr} {ns ps : List Str} {vs : List V} {H : Hp} {Q : VK} {E : XK} (hl : ps.length = ns.length + 1) (h : spEI C ns vs H Q E) : vs.length = ps.length := by
  obtain ⟨a, ws, rfl, hw, _⟩ := h
  rw [List.length_cons, hw, hl]
/-- a store further -/
theorem ei_step {K : PySem.W.Frag} {C a dx : Addr} {f : Str} {to te : TE} {D : Ends} {σ : L2.St} {H : Hp} {y : V} {fs : List (Str × V)} (T : EB K C) (no : PySem.W.findIn K (.ref C) f = some none) (ht : ∀ Q, Q y H → te σ H Q) (ho : ∀ Q, Q (.ref a) H → to σ H Q)
    (ea : H a = some (exo a C (some dx))) (ed : H dx = some (exd dx fs)) (hl : fs.length ≤ 900) (h : D.nx σ (upd H dx (exd dx ((f, y) :: fs)))) : tEst K f to te D σ H :=
  ht _ (ho _ ⟨a, C, rfl, T, no, .inr ⟨dx, fs, ea, ed, hl, h⟩⟩)
theorem ei_first {K : PySem.W.Frag} {C a : Addr} {f : Str} {to te : TE} {D : Ends} {σ : L2.St} {H : Hp} {y : V} (T : EB K C) (no : PySem.W.findIn K (.ref C) f = some none) (ht : ∀ Q, Q y H → te σ H Q) (ho : ∀ Q, Q (.ref a) H → to σ H Q)
    (ea : H a = some (exo a C none)) (h : ∀ dx H', H dx = none → dx ≠ a → H' a = some (exo a C (some dx)) → H' dx = some (exd dx [(f, y)]) → (∀ b, b ≠ a → b ≠ dx → H' b = H b) → D.nx σ H') : tEst K f to te D σ H :=
  ht _ (ho _ ⟨a, C, rfl, T, no, .inl ⟨ea, h⟩⟩)
section
variable {T : Sv} {X : Cx} {W : WX} {k : Nat} {fI C : Addr} {fd : FuncData} {ps ns : List Str} {x f : Str} {p pos : Pos} {e : Expr} {es : List Expr} {cs : Cp (List D)} {co : Cp D}
theorem run_mkE {pins : List (Addr × Obj)} {σ : L2.St} {H : Hp} {s : Shared} {us : List Value} {vs : List V} {Q : VK} (T' : EB X.K C) (iC : PySem.W.findIn X.K (.ref C) "__init__" = some (some (.ref fI))) (tI : PySem.W.typeIn X.K (.ref fI) = some (.type "function")) (F : FnA X.prog X.w X.K X.mg X.base k fI fd ps (spEI C ns))
    (gd : X.A.guards = some []) (hr : Room (k + 1) X.A) (hb : Binds X.K fd ps []) (tk : Takes X W) (I : Inv X pins σ H s) (r : Vals vs us) (hl : vs.length = ns.length) (hz : ns.length ≤ 1000)
    (h : ∀ a dx H', H a = none → H dx = none → dx ≠ a → H' a = some (exo a C (some dx)) → H' dx = some (exd dx (ns.reverse.zip vs.reverse)) → (∀ b, b ≠ a → b ≠ dx → H' b = H b) → Q (.ref a) H') :
    wpAny (model X.prog X.w) X.A (call (.ref C) us) (EP X pins σ Q) X.xe s := by
  obtain ⟨B, nid, iid, bm, FB, SF, q, ov⟩ := T'.ex
  obtain ⟨nm, N, qn, bs, bm2, hdct, sn, sub, ab, col, dd, k0, k1, k2, k3, k5, hC, hT⟩ := PySem.W.excInit_of I.kIn q
  obtain ⟨hp, g, dr, tt, os⟩ := s
  have ks : ∀ b o, hp.get? b = some o → ((hp.push (PySem.W.kdv_tup us)).push (PySem.HandSPX.excO C hp.objs.size)).get? b = some o := fun b o z => Heap.get?_push_of_some _ (Heap.get?_push_of_some _ z)
  have ge : ((hp.push (PySem.W.kdv_tup us)).push (PySem.HandSPX.excO C hp.objs.size)).get? (hp.objs.size + 1) = some (PySem.HandSPX.excO C hp.objs.size) := by heap_get
  have le1 : hp.objs.size ≤ hp.objs.size + 1 := Nat.le_succ _
  have hn := I.hok.fresh le1
  have I2 := I.laid (t' := tt) (a := hp.objs.size + 1) (o := exo (hp.objs.size + 1) C none) ks le1 (exo_ok ge)
  have r2 : Vals (V.ref (hp.objs.size + 1) :: vs) (Value.ref (hp.objs.size + 1) :: us) := .cons rfl r
  have hu : us.length ≤ sizeLine := by rw [← r.length, hl, sizeLine_eq]; omega
  have hsp : spEI C ns (V.ref (hp.objs.size + 1) :: vs) (upd H (hp.objs.size + 1) (exo (hp.objs.size + 1) C none)) (fun v H2 => v = .non ∧ Q (.ref (hp.objs.size + 1)) H2) (fun _ _ _ => False) :=
    ⟨_, vs, rfl, hl, upd_same, fun dx H' n1 n2 e1 e2 kk => ⟨rfl, h _ dx H' hn (by rw [upd_ne n2] at n1; exact n1) n2 e1 e2 fun b b1 b2 => by rw [kk b b1 b2, upd_ne b1]⟩⟩
  have lp := r2.length.symm.trans (F.len _ _ _ _ hsp)
  have b := hb _ (Value.ref (hp.objs.size + 1) :: us) I2.kIn (by rw [List.append_nil]; exact lp)
  rw [List.append_nil] at b
  refine wpAny_call (PySem.HandSPX.call_own FB hT hC (PySem.W.looks_findIn I.kIn iC) (fun self => PySem.W.bind_fn I.kIn self tI) hu (codeAny_mono (F.run _ X.stack _ _ _ _ _ _ _ (make_guards gd) (hr.make C us []) (I2.env0.make C us []) b r2 hsp) fun r' s' hq => ?_))
  rcases r' with er | fl
  · exact passes_call tk (fun _ _ _ _ z => z.elim) pins _ _ _ er s' I2 hq
  · cases fl with
    | ret u =>
      obtain ⟨v, H', I3, rv, ev, q3⟩ := I2.after hq
      subst ev
      exact ⟨rv, V.ref (hp.objs.size + 1), H', I3, rfl, q3⟩
    | _ => exact hq.elim
def cMkE (c : Nat) (ns : List Str) (cs : Cp (List D)) : Cp D := fun ρ m => bind (cs ρ m) fun ds m1 => if ds.length = ns.length then ok (.exc c ns.reverse ds.reverse) m1 else none
theorem ie_mkE {c : Nat} (T' : EB X.K (T.cls c)) (iC : PySem.W.findIn X.K (.ref (T.cls c)) "__init__" = some (some (.ref fI))) (tI : PySem.W.typeIn X.K (.ref fI) = some (.type "function")) (F : FnA X.prog X.w X.K X.mg X.base k fI fd ps (spEI (T.cls c) ns))
    (gd : X.A.guards = some []) (hr : Room (k + 1) X.A) (hm : X.mg x = some (.ref (T.cls c))) (hb : Binds X.K fd ps []) (tk : Takes X W) (ha : IA T X W (e :: es) cs)
    (hz : ns.length ≤ 1000 := by decide) (hg : Gl X x := by rfl) (hdb : (x == ("__debug__" : Str)) = false := by decide) (he : starEach (e :: es) X.env = (false, eval e X.env) :: starEach es X.env := by rfl) (hpl : (backTo pos (starEach es X.env)).any (·.1) = false := by rfl) :
    IE T X W (.Call (.Name x p) (e :: es) [] pos) (cMkE c ns cs) := ⟨⟨fun pins s σ H Q I ⟨ρ, m, al, er, S, fi⟩ => by
  refine wpAny_Call_Name_kw (ld_glob I hg hm ?_ hdb)
  refine PySem.W.callWith_K (h₀ := X.base) I.ok.mod.kin T'.kp (thn (ha.pa.run pos pins s σ H _ I ⟨ρ, m, al, er, S, Fin.bind (rel := RpL (kx X T)) fi⟩) fun us s1 ⟨vs, H1, I1, r, ds, m1, al1, g1, f1⟩ => ⟨I1.kIn, ?_⟩) he hpl
  split at f1
  · rename_i hl
    refine run_mkE T' iC tI F gd hr hb tk I1 r (by rw [g1.r.len, hl]) hz fun a dx H' na nd ne e1 e2 kk => ?_
    have xx : Ext al1 H1 al1 H' := by
      have nal : ∀ {b : Addr} {o : HO}, H1 b = some o → b ≠ a ∧ b ≠ dx := fun {b o} z => ⟨ne_of_none z na, ne_of_none z nd⟩
      have kp : ∀ {b : Addr} {o : HO}, H1 b = some o → H' b = some o := fun {b o} z => (kk b (nal z).1 (nal z).2).trans z
      exact ⟨List.prefix_refl _, ⟨fun b o z => kp z, fun b o u z => kp z, fun b q z => kp z⟩, fun b u z n => ⟨n, kp z⟩⟩
    refine f1 al1 H' (.ref a) xx (g1.s.keep xx.g fun b hb => ?_) (.exc e1 e2 (by rw [List.length_reverse, List.length_reverse, g1.r.len, hl]) (g1.r.ext xx).rev)
    obtain ⟨u, z, _⟩ := g1.s.there hb
    exact kk b (ne_of_none z na) (ne_of_none z nd)
  · exact f1.elim⟩⟩
/-- a class without own __init__, called with nothing -/
theorem ie_mkE0 {c : Nat} {B nid iid : String} {bm : List Value} (FB : ExcBaseFacts B nid iid bm) (q : PySem.W.excIn X.K (T.cls c) bm nid = true) (kp : PySem.W.keepIn X.K (.ref (T.cls c)) = true) (hm : X.mg x = some (.ref (T.cls c)))
    (hg : Gl X x := by rfl) (hdb : (x == ("__debug__" : Str)) = false := by decide) : IE T X W (.Call (.Name x p) [] [] pos) (fun _ m => ok (.exc c [] []) m) := ⟨⟨fun pins s σ H Q I ⟨ρ, m, al, er, S, fi⟩ => by
  refine wpAny_Call_Name_kw (ld_glob I hg hm ?_ hdb)
  refine PySem.W.callWith_K0 I.kIn kp ?_
  obtain ⟨bm2, N, nm, qn, bs, hdct, sn, sub, ab, col, dd, k0, k1, k2, k3, k5, mN, hC, hN, hni, OT⟩ := exc_obj I.kIn q
  refine wpAny_call_exc_subT FB OT hC hN hni (fun h' a hm => ?_) (Nat.zero_le _)
  obtain ⟨t1, he, _, _⟩ := hm.there
  have na := I.hok.gone hm.new
  have I2 := Inv.laidN (t' := s.toks) (o := exo a (T.cls c) none) I hm.keeps hm.new na (exo_ok he)
  exact ⟨V.ref a, _, I2, rfl, fi _ _ _ (Ext.lay na) (S.lay na) (.exc0 upd_same)⟩⟩⟩
/-- e.f of such an object; okc: the classes that say nothing of f themselves -/
def fldE (okc : Nat → Bool) (f : Str) (d : D) (m : M) : R D := match d with
  | .exc c ns ds => if okc c = true then (match (ns.zip ds).lookup f with
    | some v => ok v m
    | none => none) else none
  | _ => none
def cFldE (okc : Nat → Bool) (f : Str) (co : Cp D) : Cp D := fun ρ m => bind (co ρ m) (fldE okc f)
theorem zip_rp {K : G} {al : List Addr} {H : Hp} : ∀ {ns : List Str} {vs : List V} {ds : List D}, RpL K al H vs ds → RpF K al H (ns.zip vs) (ns.zip ds)
  | [], _, _, _ => by rw [List.zip_nil_left, List.zip_nil_left]; exact .nil
  | _ :: _, _, _, .nil => by rw [List.zip_nil_right, List.zip_nil_right]; exact .nil
  | _ :: _, _, _, .cons r t => .cons r (zip_rp t)
theorem ie_fldE {okc : Nat → Bool} (hc : ∀ c, okc c = true → EB X.K (T.cls c) ∧ PySem.W.findIn X.K (.ref (T.cls c)) f = some none) (he : IE T X W e co) (hb : attributeBase e f X.env (eval e X.env) = eval e X.env := by rfl) : IE T X W (.Attribute e f pos) (cFldE okc f co) :=
  ⟨⟨fun pins s σ H Q I ⟨ρ, m, al, er, S, fi⟩ => by
  refine attr_of hb (thn (he.pe.run pins s σ H _ I ⟨ρ, m, al, er, S, Fin.bind (rel := Rp (kx X T)) fi⟩) fun u s1 ⟨v, H1, I1, rx, d, m1, al1, g1, f1⟩ => ?_)
  obtain ⟨_, s1', r1⟩ := g1
  cases r1 with
  | @exc a dx c ns vs ds e1 e2 hl t =>
    obtain rfl : u = Value.ref a := rx
    unfold fldE at f1
    dsimp only at f1
    split at f1
    · rename_i hok
      obtain ⟨T', no⟩ := hc c hok
      rcases (zip_rp (ns := ns) t).lookup f with ⟨v', y, l1, l2, ry⟩ | ⟨_, l2⟩
      · rw [l2] at f1
        obtain ⟨t1, ho⟩ := exo_at I1.hok e1
        obtain ⟨mA, hns, rel⟩ := exd_at I1.hok e2
        obtain ⟨od, hod, hlk⟩ := lookIn_ns hns
        have rf := rel f
        rw [l1] at rf
        obtain ⟨w', hw, rw'⟩ := RelO.some_of (v := v') (o := mA f) rf
        have J : PySem.W.InstAt s1.heap a { cls := .ref (T.cls c), dict := some dx, data := .fields #[.ref t1, .none, .none, .none, .bool false, .none] } (T.cls c) (some od) := ⟨ho, rfl, rfl, hod⟩
        have ff := PySem.W.findObj_own (K := X.K) (C := T.cls c) (name := f) (od := od) (v := w') T'.ec.hd no rfl (by rw [hlk, hw])
        exact PySem.HandSPX.exc_get I1.kIn J T'.ec.hg T'.ec.hk T'.ec.hs ff (handed_of rw') ⟨v', H1, I1.tok _, rw', f1.ret s1' ry⟩
      · rw [l2] at f1
        exact f1.elim
    · exact f1.elim
  | exc0 e1 =>
    unfold fldE at f1
    dsimp only at f1
    split at f1
    · exact f1.elim
    · exact f1.elim
  | _ => exact f1.elim⟩⟩
end
end Sx

set_option Elab.async false
set_option linter.all false
set_option maxRecDepth 100000
set_option maxHeartbeats 2000000
/-! Sx10: repr; isinstance; names of the text as values. -/
namespace Sx
open PySem PySem.Spec PyProof.Rows L2

/-! ### data with dicts within, read -/
def keyP : Key → PyData
  | .inl i => .int i
  | .inr x => .str x
def pyKv (f : Nat → Option PyData) : List (Key × D) → Option (List (PyData × PyData))
  | [] => some []
  | (k, d) :: r => match pyD f d with
    | some p => (match pyKv f r with
      | some ps => some ((keyP k, p) :: ps)
      | none => none)
    | none => none
def lstR (m : M) : Nat → Nat → Option PyData
  | 0, _ => none
  | n + 1, i => match m[i]? with
    | some (.lst xs) => (pyDs (lstR m n) xs).map .list
    | some (.dct kvs) => (pyKv (lstR m n) kvs).map .dict
    | _ => none
def toPyR (m : M) (d : D) : Option PyData := pyD (lstR m 8) d
/-- the table of the modules is a dict -/
def SysD (h : Heap) : Prop := ∃ (o : Obj) (es : Array DictEntry) (n : Nat), h.get? sysModules = some o ∧ o.data = .dict es n
theorem not_sys {h : Heap} (Y : SysD h) {a : Addr} {o : Obj} {vs : Array Value} {n : Nat} (e : h.get? a = some o) (d : o.data = .seq vs n) : sysModules ≠ a := fun z => by
  obtain ⟨o', es, k, e', d'⟩ := Y
  rw [z, e] at e'
  cases e'
  rw [d] at d'
  cases d'
theorem nin {a b : Addr} {l : List Addr} (h : a ≠ b) (n : a ∉ l) : a ∉ b :: l := fun z => (List.mem_cons.mp z).elim h n
section
variable {X : Cx} {T : Sv} {pins : List (Addr × Obj)} {σ : L2.St} {H : Hp} {s : Shared} {al : List Addr} {m : M}
mutual
theorem rd_d (I : Inv X pins σ H s) (Y : SysD s.heap) {f : Nat → Option PyData} (hf : ∀ i a p, al[i]? = some a → f i = some p → ∃ as, Reads s.heap (.ref a) p as ∧ sysModules ∉ as) :
    ∀ {v : V} {d : D} {p : PyData} {u : Value}, Rp (kx X T) al H v d → pyD f d = some p → RelV v u → ∃ as, Reads s.heap u p as ∧ sysModules ∉ as
  | _, .non, _, _, .non, h, r => by cases h; cases r; exact ⟨_, .none, by simp⟩
  | _, .bl b, _, _, .bl _, h, r => by cases h; cases r; exact ⟨_, .bool b, by simp⟩
  | _, .int i, _, _, .int _, h, r => by
    cases h
    obtain ⟨t, rfl⟩ := r
    exact ⟨_, .int i t, by simp⟩
  | _, .str x, _, _, .str _, h, r => by
    cases h
    obtain ⟨t, rfl⟩ := r
    exact ⟨_, .str x t, by simp⟩
  | _, .tup xs, p, _, .tup hs q, h, r => by
    unfold pyD at h
    obtain ⟨ps, e, rfl⟩ := Option.map_eq_some_iff.mp h
    cases r
    obtain ⟨its, rv, ⟨o, ho, hc, n, hd⟩, _⟩ := I.tuple (SqT.of hs)
    obtain ⟨as, hr, na⟩ := rd_ds I Y hf q e rv
    exact ⟨_, .tuple ho hc hd hr, na⟩
  | _, .kt xs, p, _, .kt hs q, h, r => by
    unfold pyD at h
    obtain ⟨ps, e, rfl⟩ := Option.map_eq_some_iff.mp h
    cases r
    obtain ⟨its, rv, ⟨o, ho, hc, n, hd⟩, _⟩ := I.tuple (hs H)
    obtain ⟨as, hr, na⟩ := rd_ds I Y hf q e rv
    exact ⟨_, .tuple ho hc hd hr, na⟩
  | _, .fl xs, p, _, .fl hs q, h, r => by
    unfold pyD at h
    obtain ⟨ps, e, rfl⟩ := Option.map_eq_some_iff.mp h
    cases r
    obtain ⟨its, rv, ⟨o, n, ho, hc, _, hd⟩, _⟩ := I.list (sqF_sq hs)
    obtain ⟨as, hr, na⟩ := rd_ds I Y hf q e rv
    exact ⟨_, .list ho hc hd hr, nin (not_sys Y ho hd) na⟩
  | _, .ref i, p, _, .ref hi, h, r => by
    cases r
    exact hf i _ p hi h
  | _, .gl _, _, _, .gl _, h, _ => by cases h
  | _, .exc _ _ _, _, _, _, h, _ => by cases h
theorem rd_ds (I : Inv X pins σ H s) (Y : SysD s.heap) {f : Nat → Option PyData} (hf : ∀ i a p, al[i]? = some a → f i = some p → ∃ as, Reads s.heap (.ref a) p as ∧ sysModules ∉ as) :
    ∀ {vs : List V} {ds : List D} {ps : List PyData} {us : List Value}, RpL (kx X T) al H vs ds → pyDs f ds = some ps → Vals vs us → ∃ as, ReadsAll s.heap us ps as ∧ sysModules ∉ as
  | _, [], _, _, .nil, h, r => by cases h; cases r; exact ⟨_, .nil, by simp⟩
  | _, d :: ds, _, _, .cons q t, h, .cons r r2 => by
    unfold pyDs at h
    cases e : pyD f d with
    | none => rw [e] at h; cases h
    | some p =>
      rw [e] at h
      dsimp only at h
      cases e2 : pyDs f ds with
      | none => rw [e2] at h; cases h
      | some qs =>
        rw [e2] at h
        cases h
        obtain ⟨as, q1, n1⟩ := rd_d I Y hf q e r
        obtain ⟨bs, q2, n2⟩ := rd_ds I Y hf t e2 r2
        exact ⟨_, .cons q1 q2, by simp [n1, n2]⟩
end
theorem key_read {P : Program} {w : World} {k : Key} {v : Value} (h : keyIs k v = true) (hp : Heap) : Reads hp v (keyP k) [] := by
  rcases keyIs_shape h with ⟨i, t, rfl, rfl⟩ | ⟨x, t, rfl, rfl⟩
  · exact .int i t
  · exact .str x t
theorem kv_reads (I : Inv X pins σ H s) (Y : SysD s.heap) {f : Nat → Option PyData} (hf : ∀ i a p, al[i]? = some a → f i = some p → ∃ as, Reads s.heap (.ref a) p as ∧ sysModules ∉ as) :
    ∀ {ws : List (Key × V)} {kvs : List (Key × D)} {vs : List (Key × Value)} {es : List DictEntry} {ps : List (PyData × PyData)}, RpF (kx X T) al H ws kvs → KV ws vs → Pairs (mixKind X.prog X.w) es vs → pyKv f kvs = some ps →
      ∃ as bs, ReadsAll s.heap (es.map (·.key)) (ps.map (·.1)) as ∧ ReadsAll s.heap (es.map (·.val)) (ps.map (·.2)) bs ∧ sysModules ∉ as ∧ sysModules ∉ bs
  | _, [], _, _, _, .nil, .nil, .nil, h => by cases h; exact ⟨[], [], .nil, .nil, by simp, by simp⟩
  | _, (k, d) :: r, _, _, _, .cons q t, .cons hk tk, .cons h1 h2 tp, h => by
    unfold pyKv at h
    cases e : pyD f d with
    | none => rw [e] at h; cases h
    | some p =>
      rw [e] at h
      dsimp only at h
      cases e2 : pyKv f r with
      | none => rw [e2] at h; cases h
      | some qs =>
        rw [e2] at h
        cases h
        obtain ⟨as, bs, q1, q2, n1, n2⟩ := kv_reads I Y hf t tk tp e2
        obtain ⟨cs, q3, n3⟩ := rd_d I Y hf q e hk.2
        have hk1 := hk.1
        dsimp only at hk1
        subst hk1
        rw [← h2] at q3
        exact ⟨[] ++ as, cs ++ bs, .cons (key_read (P := X.prog) (w := X.w) h1 s.heap) q1, .cons q3 q2, by simpa using n1, by simp [n3, n2]⟩
theorem rd_l (I : Inv X pins σ H s) (Y : SysD s.heap) (S : Sim (kx X T) al m H) : ∀ (n i : Nat) (a : Addr) (p : PyData), al[i]? = some a → lstR m n i = some p → ∃ as, Reads s.heap (.ref a) p as ∧ sysModules ∉ as
  | 0, _, _, _, _, h => by cases h
  | n + 1, i, a, p, hi, h => by
    obtain ⟨o, ho, ro⟩ := S.of hi
    unfold lstR at h
    rw [ho] at h
    cases o with
    | lst xs =>
      obtain ⟨vs, hv, r⟩ := ro
      obtain ⟨ps, e, rfl⟩ := Option.map_eq_some_iff.mp h
      obtain ⟨its, rv, ⟨o, n', hg, hc, _, hd⟩, _⟩ := I.list (SqL.of hv)
      obtain ⟨as, hr, na⟩ := rd_ds I Y (rd_l I Y S n) r e rv
      exact ⟨_, .list hg hc hd hr, nin (not_sys Y hg hd) na⟩
    | dct kvs =>
      obtain ⟨ws, hw, r⟩ := ro
      obtain ⟨ps, e, rfl⟩ := Option.map_eq_some_iff.mp h
      obtain ⟨_, ns, vs, rk, od, es, ep, hg, hx, hd, _, hp, _⟩ := dk_of I.hok hw
      obtain ⟨as, bs, q1, q2, n1, n2⟩ := kv_reads I Y (rd_l I Y S n) r rk hp e
      exact ⟨_, .dict hg hx.1 hd q1 q2, by simp [n1, n2, Ne.symm (beq_eq_false_iff_ne.mp ns)]⟩
    | _ => cases h
theorem rd_of (I : Inv X pins σ H s) (Y : SysD s.heap) (S : Sim (kx X T) al m H) {v : V} {d : D} {p : PyData} {u : Value} (r : Rp (kx X T) al H v d) (h : toPyR m d = some p) (ru : RelV v u) : ∃ as, Reads s.heap u p as ∧ sysModules ∉ as := rd_d I Y (rd_l I Y S 8) r h ru
end
def heapD : D → Bool
  | .tup _ => true
  | .kt _ => true
  | .fl _ => true
  | .ref _ => true
  | _ => false
theorem heap_rp {K : G} {al : List Addr} {H : Hp} {v : V} {d : D} (r : Rp K al H v d) (h : heapD d = true) : ∃ a, v = .ref a := by
  cases r <;> first | exact ⟨_, rfl⟩ | cases h
def shOk (p : PyData) : Bool := p.showable && decide (p.depth ≤ 150) && decide (p.shown.length ≤ lim)
def reprD : List D → M → R D
  | [d], m => match toPyR m d with
    | some p => if (heapD d && shOk p) = true then ok (.str p.shown) m else none
    | none => none
  | _, _ => none
section
variable {T : Sv} {X : Cx}
theorem cd_repr (gd : X.A.guards = some []) (hu : X.A.units + 160 < cLine) (Y : SysD X.base) : CD T X (.builtin "repr") reprD := by
  intro E pins s σ H xs us Q I r ⟨ds, m, al, S, rp, f⟩
  cases rp with
  | nil => exact f.elim
  | @cons v vs d ds rd t =>
    cases t with
    | cons _ _ => exact f.elim
    | nil =>
      unfold reprD at f
      dsimp only at f
      cases e : toPyR m d with
      | none => rw [e] at f; exact f.elim
      | some p =>
        rw [e] at f
        dsimp only at f
        split at f
        · rename_i hk
          obtain ⟨h1, h2⟩ := Bool.and_eq_true_iff.mp hk
          unfold shOk at h2
          simp only [Bool.and_eq_true, decide_eq_true_eq] at h2
          obtain ⟨⟨c1, c2⟩, c3⟩ := h2
          obtain ⟨a, rfl⟩ := heap_rp rd h1
          cases r with
          | @cons _ u _ us' ru rn =>
            cases rn
            have ys : SysD s.heap := let ⟨o, es, n, z, d⟩ := Y; ⟨o, es, n, I.bk _ _ z, d⟩
            obtain ⟨as, q, na⟩ := rd_of I ys S rd e ru
            obtain rfl : u = Value.ref a := ru
            exact repr_of_reads' q c1 (fun _ => na) gd (by omega) (fun _ _ z => z) (fun h' u tk hk => ⟨.str p.shown, H, I.kept hk, ⟨u, rfl⟩, f.ret S (.str _)⟩) (Nat.le_trans c3 (by rw [sizeLine_eq]; decide))
        · exact f.elim
/-- isinstance of a held exception and a class of the text: tb tells -/
def isiE (tb : Nat → Nat → Option Bool) : List D → M → R D
  | [.exc c _ _, .gl i], m => match tb c i with
    | some b => ok (.bl b) m
    | none => none
  | _, _ => none
theorem exc_inst {pins : List (Addr × Obj)} {σ : L2.St} {H : Hp} {s : Shared} {al : List Addr} {v : V} {c : Nat} {ns : List Str} {ds : List D} (I : Inv X pins σ H s) (r : Rp (kx X T) al H v (.exc c ns ds)) : ∃ a ox od, v = .ref a ∧ PySem.W.InstAt s.heap a ox (T.cls c) od := by
  cases r with
  | exc0 e =>
    obtain ⟨t1, ho⟩ := exo_at I.hok e
    exact ⟨_, _, none, rfl, ho, rfl, rfl, trivial⟩
  | exc e1 e2 _ _ =>
    obtain ⟨t1, ho⟩ := exo_at I.hok e1
    obtain ⟨mA, hns, rel⟩ := exd_at I.hok e2
    obtain ⟨od, hod, hlk⟩ := lookIn_ns hns
    exact ⟨_, _, some od, rfl, ho, rfl, rfl, hod⟩
theorem cd_isiE {tb : Nat → Nat → Option Bool} (ht : ∀ c i b, tb c i = some b → ExcC X.K (T.cls c) ∧ ∃ u, ClsV (T.val i) u ∧ PySem.W.kitOne X.K (.ref (T.cls c)) u = some b) : CD T X (.builtin "isinstance") (isiE tb) := by
  intro E pins s σ H xs us Q I r ⟨ds, m, al, S, rp, f⟩
  unfold isiE at f
  split at f
  · rename_i c ns ds i
    cases rp with
    | cons rd t =>
      cases t with
      | cons rg t =>
        cases t
        split at f
        · rename_i b hb
          obtain ⟨T', u, hc, hk⟩ := ht c i b hb
          obtain ⟨a, ox, od, rfl, J⟩ := exc_inst I rd
          cases rg
          obtain ⟨u1, u2, rfl, r1, r2⟩ := vals2 r
          have e2 := hc.eq r2
          subst e2
          obtain rfl : u1 = Value.ref a := r1
          exact PySem.W.kia_one (kit_excE T') I.kIn J hk (fun z => nomatch z) fun tk => ⟨.bl b, H, I.tok tk, rfl, f.ret S (.bl b)⟩
        · exact f.elim
  · exact f.elim
variable {W : WX} {x : Str} {p : Pos}
/-- a name of the text: a class, a constant that is numbered -/
theorem ie_gl {i : Nat} {u : Value} (hm : X.mg x = some u) (hr : RelV (T.val i) u) (hg : Gl X x := by rfl) (hdb : (x == ("__debug__" : Str)) = false := by decide) : IE T X W (.Name x p) (fun _ m => ok (.gl i) m) :=
  ⟨⟨fun pins s σ H Q I ⟨ρ, m, al, er, S, f⟩ => ld_glob I hg hm ⟨T.val i, H, I, hr, f.ret S (.gl i)⟩ hdb⟩⟩
theorem ie_glB {i : Nat} {u : Value} (hm : X.mg x = none) (hv : bootBuiltins x = some u) (hr : RelV (T.val i) u) (hg : Gl X x := by rfl) (hn : x ≠ "__name__" := by decide) (hdb : (x == ("__debug__" : Str)) = false := by decide) : IE T X W (.Name x p) (fun _ m => ok (.gl i) m) :=
  ⟨⟨fun pins s σ H Q I ⟨ρ, m, al, er, S, f⟩ => ld_blt I hg hm hv ⟨T.val i, H, I, hr, f.ret S (.gl i)⟩ hn hdb⟩⟩
end
end Sx

set_option Elab.async false
set_option linter.all false
set_option maxRecDepth 100000
set_option maxHeartbeats 2000000
/-! Sx11: the law is called: from a def's mirror to the statement. -/
namespace Sx
open PySem PySem.Spec PyProof.Rows L2

/-- the abstract heap in which the script alone is told, or nothing -/
structure Told (K : PySem.W.Frag) (s : Shared) (a : Addr) (vs : List Value) (ns : List Int) (H : Hp) : Prop where
  at_ : ∀ b u, H b = some u → b = a ∧ K.lookup a = none ∧ u = .frz { cls := .type "list", data := .seq vs.toArray } (.lst (ns.map V.int))
  seq : SqF K H a (ns.map V.int)
theorem told {K : PySem.W.Frag} {s : Shared} {a : Addr} {vs : List Value} {ns : List Int} (KX : K.In s.heap) (ha : s.heap.get? a = some { cls := .type "list", data := .seq vs.toArray }) (hi : IntsAre vs ns) (hl : ns.length ≤ sizeLine) : ∃ H, Told K s a vs ns H := by
  have len := hi.length
  cases hk : K.lookup a with
  | none => exact ⟨fun b => if b = a then some (.frz { cls := .type "list", data := .seq vs.toArray } (.lst (ns.map V.int))) else none, ⟨fun b u z => by
      by_cases hb : b = a
      · exact ⟨hb, hk, (Option.some.inj ((if_pos hb).symm.trans z)).symm⟩
      · exact absurd ((if_neg hb).symm.trans z) (by simp), .inl ⟨_, if_pos rfl⟩⟩⟩
  | some o =>
    have e := (KX a o hk).symm.trans ha
    cases e
    exact ⟨fun _ => none, ⟨fun b u z => (by cases (show (none : Option HO) = some u from z)), .inr fun H' => .inr ⟨_, vs.toArray, _, hk, rfl, rfl, rfl, by rw [List.size_toArray, len]; exact hl, by simpa using vals_ints hi⟩⟩⟩
theorem law_callA {P : Program} {w : World} {K : PySem.W.Frag} {mg mb mm : Str → Option Value} {k : Nat} {fa a : Addr} {fd : FuncData} {x : Str} {T : Sv} {g : List D → M → R D} {m' : M} {s : Shared} {vs : List Value} {ns : List Int}
    (KX : K.In s.heap) (hns : s.heap.Ns mainGlobals mg) (hb : s.heap.Ns builtinsNs mb) (hbb : ∀ x : Str, x ≠ "__name__" → mb x = bootBuiltins x) (hlim : s.heap.NoLimit) (hmm : s.heap.Ns sysModules mm) (hg : s.gens = #[])
    (ha : s.heap.get? a = some { cls := .type "list", data := .seq vs.toArray }) (hi : IntsAre vs ns) (hl : ns.length ≤ sizeLine) (hr : Room k callerA)
    (F : ∀ base : Heap, K.In base → base.Ns mainGlobals mg → SysD base → FnA P w K mg base k fa fd [x] (SpD ⟨K, T⟩ 1 g)) (hbind : ∀ (s : Shared) (u : Value), BindsTo s fd ⟨[u], []⟩ [(x, u)])
    (hq : g [.fl (ns.map D.int)] [] = some (.ok (.bl true), m')) :
    codeAny (model P w) callerA (.call (.ref fa) ⟨[.ref a], []⟩) (fun r s' => r = .ok (.ret (.bool true)) ∧ OldK s.heap s'.heap ∧ s'.os = s.os ∧ AllBare s'.gens) s := by
  obtain ⟨H, O⟩ := told (s := s) KX ha hi hl
  -- what is not told stays in the ground
  have off : ∀ {b : Addr}, (∀ u, H b ≠ some u) → H b = none := fun {b} n => by
    cases q : H b with
    | none => rfl
    | some u => exact absurd q (n u)
  have dicts : ∀ {b : Addr} {m : Str → Option Value}, s.heap.Ns b m → (hidT s.heap H).Ns b m := fun {b m} ⟨o, es, ep, e, d, r⟩ => ⟨o, es, ep, hidT_get e (off fun u z => by
    obtain ⟨rfl, _, _⟩ := O.at_ b u z
    rw [ha] at e
    cases e
    have d' : Data.seq vs.toArray _ = Data.dict es ep := d
    cases d'), d, r⟩
  have KB : K.In (hidT s.heap H) := fun b o e => hidT_get (KX b o e) (off fun u z => by
    obtain ⟨rfl, n, _⟩ := O.at_ b u z
    rw [n] at e
    cases e)
  have ok : HOk P w H s.heap := fun b u z => by
    obtain ⟨rfl, _, rfl⟩ := O.at_ b u z
    exact ⟨ha, by rw [List.length_map]; exact hl, vs, _, vals_ints hi, ha⟩
  have md : Mod K mg (hidT s.heap H) := ⟨KB, dicts hns, ⟨mb, dicts hb, hbb⟩, let ⟨mc, h1, h2⟩ := hlim; ⟨mc, dicts h1, h2⟩⟩
  have ev : Env0 P w K mg (hidT s.heap H) callerA [] s H := ⟨rfl, md, fun b o e => of_hidT e, Nat.le_of_eq (hidT_size _ _), trivial, fun b hb => (List.not_mem_nil (show b ∈ ([] : List Addr) from hb)).elim, ok, .of_eq hg⟩
  have sy : SysD (hidT s.heap H) := by
    obtain ⟨o, es, ep, e, d, _⟩ := dicts hmm
    exact ⟨o, es, ep, e, d⟩
  have intL : ∀ l : List Int, RpL ⟨K, T⟩ [] H (l.map V.int) (l.map D.int) := fun l => by
    induction l with
    | nil => exact .nil
    | cons n l ih => exact .cons (.int n) ih
  have sp : SpD ⟨K, T⟩ 1 g [.ref a] H (fun v _ => v = .bl true) (fun _ _ _ => False) := ⟨rfl, [.fl (ns.map D.int)], [], [], .cons (.fl O.seq (intL ns)) .nil, ⟨rfl, List.nodup_nil, fun i o b h _ => by simp at h⟩, by
    rw [hq]
    intro al' H' v _ _ rv
    cases rv
    rfl⟩
  refine codeAny_mono ((F _ KB (dicts hns) sy).run callerA [] s H ⟨[.ref a], []⟩ [.ref a] [.ref a] _ _ rfl hr ev (hbind s (.ref a)) (.cons rfl .nil) sp) fun r s' h => ?_
  rcases r with e | fl
  · obtain ⟨_, _, _, _, _, _, _, _, _, _, _, _, z⟩ := h
    exact z.elim
  · cases fl with
    | ret u =>
      obtain ⟨v, H', os, bare, un, hok', r', rfl⟩ := h
      obtain rfl : u = Value.bool true := r'
      refine ⟨rfl, OldK.of_keep fun b o e => ?_, os, bare⟩
      cases q : H b with
      | none => exact un.keep b o e q (fun z => (List.not_mem_nil (show b ∈ ([] : List Addr) from z)).elim) (by simp)
      | some u =>
        obtain ⟨rfl, _, rfl⟩ := O.at_ b u q
        rw [ha] at e
        cases e
        exact (hok' _ _ (un.frzs _ _ _ q)).1
    | _ => exact False.elim h
/-- the goal that the head leaves -/
theorem walk_ofA {l : PySem.W.OpenLaw} {n k : Nat} {q : Program} {loose : List Str} {XP : (Str → Option Value) → Heap → Prop} {YP : World → Heap → Prop} {d : DefRec} {K : Params → PySem.W.Frag} {x : Str} {g : List D → M → R D}
    (hn : l.most = some n) (hn2 : n ≤ sizeLine) (hdf : d.params.defaults = []) (hr : Room k callerA) (hi : importsNone q = true)
    (hY : ∀ (w : World) (h : Heap), YP w h → (K w.params).In h)
    (F : ∀ (w : World) (mg : Str → Option Value) (fa : Addr) (h : Heap), (K w.params).In h → h.Ns mainGlobals mg → mg d.name = some (.ref fa) →
      ∃ (fd : FuncData) (T : Sv), (∀ (s : Shared) (u : Value), BindsTo s fd ⟨[u], []⟩ [(x, u)]) ∧
        ∀ base : Heap, (K w.params).In base → base.Ns mainGlobals mg → SysD base → FnA l.prog w (K w.params) mg base k fa fd [x] (SpD ⟨K w.params, T⟩ 1 g))
    (hq : ∀ ns : List Int, ns.length ≤ n → (∀ z ∈ ns, Builtin.Int.intBits z ≤ 1048576) → ∃ m', g [.fl (ns.map D.int)] [] = some (.ok (.bl true), m')) :
    PySem.W.WalkO q loose XP YP l.row.toRowW d [] (fun f vs => PySem.call f vs) := by
  refine Att.attach_callB hn hdf fun w s0 s1 mg mb fa o pm cd doc a vs ns G Y ho hd hcd hmg hobj hints hlen hbits hg => ?_
  obtain ⟨fd, T, hb, hF⟩ := F w mg fa _ (hY w _ Y) G.T.g hmg
  obtain ⟨mm, hmm, _⟩ := (G.T.seer hi).mods
  obtain ⟨m', e⟩ := hq ns hlen hbits
  exact law_callA (hY w _ Y) G.T.g G.T.b G.T.builtins G.T.nolimit hmm hg hobj hints (Nat.le_trans hlen hn2) hr hF hb e
/-- the same where the head gives some written part -/
theorem walk_ofX {l : PySem.W.OpenLaw} {n k : Nat} {q : Program} {loose : List Str} {XP : (Str → Option Value) → Heap → Prop} {YP : World → Heap → Prop} {d : DefRec} {x : Str} {g : List D → M → R D}
    (hn : l.most = some n) (hn2 : n ≤ sizeLine) (hdf : d.params.defaults = []) (hr : Room k callerA) (hi : importsNone q = true)
    (F : ∀ (w : World) (mg : Str → Option Value) (fa : Addr) (h : Heap), YP w h → h.Ns mainGlobals mg → mg d.name = some (.ref fa) →
      ∃ (K : PySem.W.Frag) (fd : FuncData) (T : Sv), K.In h ∧ (∀ (s : Shared) (u : Value), BindsTo s fd ⟨[u], []⟩ [(x, u)]) ∧
        ∀ base : Heap, K.In base → base.Ns mainGlobals mg → SysD base → FnA l.prog w K mg base k fa fd [x] (SpD ⟨K, T⟩ 1 g))
    (hq : ∀ ns : List Int, ns.length ≤ n → (∀ z ∈ ns, Builtin.Int.intBits z ≤ 1048576) → ∃ m', g [.fl (ns.map D.int)] [] = some (.ok (.bl true), m')) :
    PySem.W.WalkO q loose XP YP l.row.toRowW d [] (fun f vs => PySem.call f vs) := by
  refine Att.attach_callB hn hdf fun w s0 s1 mg mb fa o pm cd doc a vs ns G Y ho hd hcd hmg hobj hints hlen hbits hg => ?_
  obtain ⟨K, fd, T, hK, hb, hF⟩ := F w mg fa _ Y G.T.g hmg
  obtain ⟨mm, hmm, _⟩ := (G.T.seer hi).mods
  obtain ⟨m', e⟩ := hq ns hlen hbits
  exact law_callA hK G.T.g G.T.b G.T.builtins G.T.nolimit hmm hg hobj hints (Nat.le_trans hlen hn2) hr hF hb e
end Sx

set_option Elab.async false
set_option linter.all false
set_option maxRecDepth 100000
set_option maxHeartbeats 2000000
/-! Sx12: methods of lists, displays of dicts, stores at a subscript, constants of the text. -/
namespace Sx
open PySem PySem.Spec PyProof.Rows L2

/-! ### a dict written -/
def putD {κ : Type} [DecidableEq κ] (kvs : List (κ × D)) (k : κ) (v : D) : List (κ × D) :=
  if (kvs.any fun kv => decide (kv.1 = k)) = true then kvs.map (fun kv => if kv.1 = k then (kv.1, v) else kv) else kvs ++ [(k, v)]
section
variable {κ : Type} [DecidableEq κ] {K : G} {al : List Addr} {H : Hp}
theorem any_rp {k : κ} : ∀ {ws : List (κ × V)} {kvs : List (κ × D)}, RpF K al H ws kvs → (ws.any fun kv => decide (kv.1 = k)) = kvs.any fun kv => decide (kv.1 = k)
  | _, _, .nil => rfl
  | _, _, .cons r t => by rw [List.any_cons, List.any_cons, any_rp t]
theorem repl_rp {k : κ} {v : V} {d : D} (r : Rp K al H v d) : ∀ {ws : List (κ × V)} {kvs : List (κ × D)}, RpF K al H ws kvs → RpF K al H (ws.map fun kv => if kv.1 = k then (kv.1, v) else kv) (kvs.map fun kv => if kv.1 = k then (kv.1, d) else kv)
  | _, _, .nil => .nil
  | _, _, @RpF.cons _ _ _ _ j w ws e kvs q t => by
    rw [List.map_cons, List.map_cons]
    by_cases h : j = k
    · rw [if_pos h, if_pos h]
      exact .cons r (repl_rp r t)
    · rw [if_neg h, if_neg h]
      exact .cons q (repl_rp r t)
theorem snoc_rp {k : κ} {v : V} {d : D} (r : Rp K al H v d) : ∀ {ws : List (κ × V)} {kvs : List (κ × D)}, RpF K al H ws kvs → RpF K al H (ws ++ [(k, v)]) (kvs ++ [(k, d)])
  | _, _, .nil => .cons r .nil
  | _, _, .cons q t => .cons q (snoc_rp r t)
theorem put_rp {k : κ} {v : V} {d : D} {ws : List (κ × V)} {kvs : List (κ × D)} (r : Rp K al H v d) (q : RpF K al H ws kvs) : RpF K al H (putK ws k v) (putD kvs k d) := by
  unfold putK putD
  rw [any_rp q]
  split
  · exact repl_rp r q
  · exact snoc_rp r q
end
def setD (d k y : D) (m : M) : Option M := match d with
  | .ref i => match m[i]? with
    | some (.lst xs) => (match k with
      | .int z => (match ixN xs.length z with
        | some j => some (m.set i (.lst (xs.set j y)))
        | none => none)
      | _ => none)
    | some (.dct kvs) => (match keyD k with
      | some q => if kvs.length < lim then some (m.set i (.dct (putD kvs q y))) else none
      | none => none)
    | some (.dtp kvs) => (match keyT k with
      | some q => if kvs.length < lim then some (m.set i (.dtp (putD kvs q y))) else none
      | none => none)
    | _ => none
  | _ => none
def rSetX (T : Sv) (X : Cx) : TSet := fun o i v H Q => ∃ d k y m m' al, Sim (kx X T) al m H ∧ Rp (kx X T) al H o d ∧ Rp (kx X T) al H i k ∧ Rp (kx X T) al H v y ∧ setD d k y m = some m' ∧ ∀ H', Ext al H al H' → Sim (kx X T) al m' H' → Q H'
section
variable {T : Sv} {X : Cx} {W : WX}
theorem pset_d (hu : X.A.units + 160 < cLine) : PSet X (rSetX T X) := by
  intro pins s σ H o i v ov iv u Q I ro ri rv ⟨d, k, y, m, m', al, S, rd, rk, ry, h, q⟩
  unfold setD at h
  split at h
  · rename_i j
    cases rd with
    | @ref a _ hi =>
      have ha := List.mem_of_getElem? hi
      split at h
      · rename_i xs ho
        obtain ⟨_, ho', ro'⟩ := S.of hi
        rw [ho] at ho'
        cases ho'
        obtain ⟨vs, hv, t⟩ := ro'
        split at h
        · rename_i z
          split at h
          · rename_i n hn
            cases h
            cases rk
            refine set_list pins s σ H _ _ v ov iv u Q I ro ri rv ⟨a, vs, z, n, rfl, rfl, hv, by rw [t.len]; exact hn, ?_⟩
            obtain ⟨g, S'⟩ := S.write (u := .lst (vs.set n v)) (o := .lst (xs.set n y)) hi fun g => ⟨_, upd_same, (t.set n ry).up (List.prefix_refl _) g⟩
            exact q _ (Ext.mut ha g) S'
          · cases h
        · cases h
      · rename_i kvs ho
        obtain ⟨_, ho', ro'⟩ := S.of hi
        rw [ho] at ho'
        cases ho'
        obtain ⟨ws, hw, t⟩ := ro'
        split at h
        · rename_i kq hk
          split at h
          · rename_i hl
            cases h
            rw [key_rp rk hk] at ri
            obtain ⟨g, S'⟩ := S.write (u := .dK (putK ws kq v)) (o := .dct (putD kvs kq y)) hi fun g => ⟨_, upd_same, (put_rp ry t).up (List.prefix_refl _) g⟩
            exact set_dict (by omega) pins s σ H _ _ v ov iv u Q I ro ri rv ⟨a, _, rfl, DPut.k hw (by rw [t.len]; exact Nat.lt_of_lt_of_le hl (by rw [sizeLine_eq]; decide)), q _ (Ext.mut ha g) S'⟩
          · cases h
        · cases h
      · rename_i kvs ho
        obtain ⟨_, ho', ro'⟩ := S.of hi
        rw [ho] at ho'
        cases ho'
        obtain ⟨ws, hw, t⟩ := ro'
        split at h
        · rename_i kq hk
          split at h
          · rename_i hl
            cases h
            cases rk with
            | tup hs tt =>
              rw [keys_rp tt hk] at hs
              obtain ⟨g, S'⟩ := S.write (u := .dT (putK ws kq v)) (o := .dtp (putD kvs kq y)) hi fun g => ⟨_, upd_same, (put_rp ry t).up (List.prefix_refl _) g⟩
              exact set_dict (by omega) pins s σ H _ _ v ov iv u Q I ro ri rv ⟨a, _, rfl, .inr ⟨ws, kq, _, hw, rfl, hs, by rw [t.len]; exact Nat.lt_of_lt_of_le hl (by rw [sizeLine_eq]; decide), rfl⟩, q _ (Ext.mut ha g) S'⟩
            | _ => cases hk
          · cases h
        · cases h
      · cases h
  · cases h
/-- o[i] = e -/
def sSub (ce co ci : Cp D) : Cs := fun ρ m => lift ρ (ce ρ m) fun y m1 => lift ρ (co ρ m1) fun o m2 => lift ρ (ci ρ m2) fun i m3 => match setD o i y m3 with
  | some m4 => some (.nx ρ, m4)
  | none => none
theorem is_sub {e o i : Expr} {ce co ci : Cp D} {p' pos : Pos} (hu : X.A.units + 160 < cLine) (he : IE T X W e ce) (ho : IE T X W o co) (hi : IE T X W i ci)
    (ha : ∀ v, assign (.Subscript o i p') X.env v = (do
      let ov ← holding [v] (eval o X.env)
      let iv ← holding [v, ov] (eval i X.env)
      standAt p'
      holding [v, ov, iv] (setItem ov iv v)
      release [v, ov, iv] []) := by intro _; rfl)
    (hs : swapsWithSole [.Subscript o i p'] e pos.line X.env = pure false := by rfl) (hw : swappedStores [.Subscript o i p'] e X.env = pure none := by rfl)
    (h1 : (assignEach [.Subscript o i p'] X.env).map (·.2) = [assign (.Subscript o i p') X.env] := by rfl) : IS T X W (.Assign [.Subscript o i p'] e pos) (sSub ce co ci) :=
  ⟨PS.weak (ps_asg he.pe (pg_sub ho.pe hi.pe (pset_d (T := T) hu) ha) hs hw h1) fun D σ H ⟨ρ, m, al, er, S, fi⟩ => by
  refine ⟨ρ, m, al, er, S, Fin.mono (fun y H1 h1 => ?_) (FinS.lift (rel := Rp (kx X T)) er fi)⟩
  obtain ⟨dy, m1, al1, g1, f1⟩ := h1
  have er1 := er.up g1.x
  refine ⟨ρ, m1, al1, er1, g1.s, Fin.mono (fun x H2 h2 => ?_) (FinS.lift (rel := Rp (kx X T)) er1 f1)⟩
  obtain ⟨dx, m2, al2, g2, f2⟩ := h2
  have er2 := er1.up g2.x
  refine ⟨ρ, m2, al2, er2, g2.s, Fin.mono (fun z H3 h3 => ?_) (FinS.lift (rel := Rp (kx X T)) er2 f2)⟩
  obtain ⟨dz, m3, al3, g3, f3⟩ := h3
  split at f3
  · rename_i m4 h4
    exact ⟨dx, dz, dy, m3, m4, al3, g3.s, g2.r.ext g3.x, g3.r, (g1.r.ext g2.x).ext g3.x, h4, fun H' x S' => f3 al3 H' σ x S' ((er2.up g3.x).up x)⟩
  · exact f3.elim⟩

/-! ### methods of built-in objects -/
/-- what the method id does with the object and its arguments -/
def MD (T : Sv) (X : Cx) (id : String) (g : List D → M → R D) : Prop := ∀ E, MtR X id fun x xs H Q => ∃ d ds m al, Sim (kx X T) al m H ∧ Rp (kx X T) al H x d ∧ RpL (kx X T) al H xs ds ∧ Fin (kx X T) (Rp (kx X T)) E al H Q (g (d :: ds) m)
def isL (d : D) (m : M) : Bool := match d with
  | .fl _ => true
  | .ref i => match m[i]? with
    | some (.lst _) => true
    | _ => false
  | _ => false
def isDc (d : D) (m : M) : Bool := match d with
  | .ref i => match m[i]? with
    | some (.dct _) => true
    | some (.dtp _) => true
    | _ => false
  | _ => false
def isSt (d : D) (_ : M) : Bool := match d with
  | .str _ => true
  | _ => false
theorem ty_l {K : G} {al : List Addr} {m : M} {H : Hp} {v : V} {d : D} (S : Sim K al m H) (r : Rp K al H v d) (h : isL d m = true) : tyV K.k "list" v H := by
  cases r with
  | fl hs _ => exact .inl ⟨rfl, _, sqF_sq hs⟩
  | ref hi =>
    obtain ⟨o, ho, ro⟩ := S.of hi
    unfold isL at h
    dsimp only at h
    rw [ho] at h
    cases o with
    | lst xs => obtain ⟨vs, hv, _⟩ := ro; exact .inl ⟨rfl, _, SqL.of hv⟩
    | _ => cases h
  | _ => cases h
theorem ty_d {K : G} {al : List Addr} {m : M} {H : Hp} {v : V} {d : D} (S : Sim K al m H) (r : Rp K al H v d) (h : isDc d m = true) : tyV K.k "dict" v H := by
  cases r with
  | ref hi =>
    obtain ⟨o, ho, ro⟩ := S.of hi
    unfold isDc at h
    dsimp only at h
    rw [ho] at h
    cases o with
    | dct xs => obtain ⟨vs, hv, _⟩ := ro; exact .inr (.inr (.inl ⟨rfl, .inl ⟨_, hv⟩⟩))
    | dtp xs => obtain ⟨vs, hv, _⟩ := ro; exact .inr (.inr (.inl ⟨rfl, .inr ⟨_, hv⟩⟩))
    | _ => cases h
  | _ => cases h
theorem ty_s {K : G} {al : List Addr} {m : M} {H : Hp} {v : V} {d : D} (S : Sim K al m H) (r : Rp K al H v d) (h : isSt d m = true) : tyV K.k "str" v H := by
  cases r <;> first | exact rfl | cases h
def cBM (ty : D → M → Bool) (g : List D → M → R D) (co : Cp D) (cs : Cp (List D)) : Cp D := fun ρ m => bind (co ρ m) fun o m1 => if ty o m1 = true then bind (cs ρ m1) fun ds m2 => g (o :: ds) m2 else none
section
variable {o e : Expr} {es : List Expr} {co : Cp D} {cs : Cp (List D)} {name : Str} {apos cpos : Pos} {Ty id : String} {g : List D → M → R D} {ty : D → M → Bool}
theorem ie_bm0 (hg : MD T X id g) (ht : ∀ {K : G} {al : List Addr} {m : M} {H : Hp} {v : V} {d : D}, Sim K al m H → Rp K al H v d → ty d m = true → tyV K.k Ty v H) (pa : PlainAttrs Ty) (slot : Slot Ty name id) (hty : typeOf (.builtin id) = pure (.type "method_descriptor")) (ho : IE T X W o co)
    (hbase : attributeBase o name X.env (eval o X.env) = eval o X.env := by rfl) (hline : (apos.endLine == cpos.line) = true := by rfl) : IE T X W (.Call (.Attribute o name apos) [] [] cpos) (cBM ty g co cNil) :=
  ⟨⟨fun pins s σ H Q I ⟨ρ, m, al, er, S, fi⟩ => (pe_bm0 pa slot hty (hg (WE W σ)) ho.pe hbase hline).run pins s σ H Q I ⟨ρ, m, al, er, S, Fin.mono (fun x H1 h1 => by
    obtain ⟨d, m1, al1, g1, f1⟩ := h1
    split at f1
    · rename_i hk
      exact ⟨ht g1.s g1.r hk, d, [], m1, al1, g1.s, g1.r, .nil, f1⟩
    · exact f1.elim) (Fin.bind (rel := Rp (kx X T)) fi)⟩⟩⟩
theorem ie_bm (hg : MD T X id g) (ht : ∀ {K : G} {al : List Addr} {m : M} {H : Hp} {v : V} {d : D}, Sim K al m H → Rp K al H v d → ty d m = true → tyV K.k Ty v H) (pa : PlainAttrs Ty) (slot : Slot Ty name id) (hty : typeOf (.builtin id) = pure (.type "method_descriptor")) (ho : IE T X W o co) (ha : IA T X W (e :: es) cs)
    (hbase : attributeBase o name X.env (eval o X.env) = eval o X.env := by rfl)
    (hfew : ((backTo cpos (starEach (e :: es) X.env)).all (fun x => !x.1) && (backToKw cpos (keywordEach [] X.env)).all (fun x => x.1.isSome)
      && decide ((e :: es).length + ([] : List Keyword).length + (if ([] : List Keyword).isEmpty then 0 else 1) < 30)) = true := by rfl)
    (hline : (apos.endLine == cpos.line) = true := by rfl) (hs : starEach (e :: es) X.env = (false, eval e X.env) :: starEach es X.env := by rfl) (hplain : (backTo cpos (starEach es X.env)).any (·.1) = false := by rfl) :
    IE T X W (.Call (.Attribute o name apos) (e :: es) [] cpos) (cBM ty g co cs) :=
  ⟨⟨fun pins s σ H Q I ⟨ρ, m, al, er, S, fi⟩ => (pe_bm pa slot hty (hg (WE W σ)) ho.pe ha.pa hbase hfew hline hs hplain).run pins s σ H Q I ⟨ρ, m, al, er, S, Fin.mono (fun x H1 h1 => by
    obtain ⟨d, m1, al1, g1, f1⟩ := h1
    split at f1
    · rename_i hk
      refine ⟨ht g1.s g1.r hk, ρ, m1, al1, er.up g1.x, g1.s, Fin.mono (fun xs H2 h2 => ?_) (Fin.bind (rel := RpL (kx X T)) f1)⟩
      obtain ⟨ds, m2, al2, g2, f2⟩ := h2
      exact ⟨d, ds, m2, al2, g2.s, g1.r.ext g2.x, g2.r, f2⟩
    · exact f1.elim) (Fin.bind (rel := Rp (kx X T)) fi)⟩⟩⟩
end
def appendD : List D → M → R D
  | [.ref i, y], m => match m[i]? with
    | some (.lst xs) => if xs.length < lim then ok .non (m.set i (.lst (xs ++ [y]))) else none
    | _ => none
  | _, _ => none
theorem md_append : MD T X "list.append" appendD := by
  intro E pins s σ H x xs v us Q I rx rxs ⟨d, ds, m, al, S, rd, rs, f⟩
  unfold appendD at f
  split at f
  · rename_i i y heq
    cases heq
    cases rd with
    | @ref a _ hi =>
      cases rs with
      | cons ry rn =>
        cases rn
        split at f
        · rename_i ys ho
          obtain ⟨_, ho', ro'⟩ := S.of hi
          rw [ho] at ho'
          cases ho'
          obtain ⟨vs, hv, t⟩ := ro'
          split at f
          · rename_i hl
            obtain ⟨g, S'⟩ := S.write (u := .lst (vs ++ [_])) (o := .lst (ys ++ [y])) hi fun g => ⟨_, upd_same, (t.app (.cons ry .nil)).up (List.prefix_refl _) g⟩
            exact mt_append pins s σ H _ _ v us Q I rx rxs ⟨a, vs, _, rfl, rfl, hv, by rw [t.len]; exact Nat.lt_of_lt_of_le hl (by rw [sizeLine_eq]; decide), f al _ .non (Ext.mut (List.mem_of_getElem? hi) g) S' .non⟩
          · exact f.elim
        · exact f.elim
  · exact f.elim
def popD : List D → M → R D
  | [.ref i], m => match m[i]? with
    | some (.lst xs) => (match xs[xs.length - 1]? with
      | some y => ok y (m.set i (.lst xs.dropLast))
      | none => none)
    | _ => none
  | _, _ => none
theorem RpL.dropLast {K : G} {al : List Addr} {H : Hp} {vs : List V} {ds : List D} (r : RpL K al H vs ds) : RpL K al H vs.dropLast ds.dropLast := by
  rw [List.dropLast_eq_take, List.dropLast_eq_take, r.len]
  exact r.take _
theorem md_pop : MD T X "list.pop" popD := by
  intro E pins s σ H x xs v us Q I rx rxs ⟨d, ds, m, al, S, rd, rs, f⟩
  unfold popD at f
  split at f
  · rename_i i heq
    cases heq
    cases rd with
    | @ref a _ hi =>
      cases rs
      split at f
      · rename_i ys ho
        obtain ⟨_, ho', ro'⟩ := S.of hi
        rw [ho] at ho'
        cases ho'
        obtain ⟨vs, hv, t⟩ := ro'
        split at f
        · rename_i y hy
          obtain ⟨w, hw, rw'⟩ := t.get hy
          obtain ⟨g, S'⟩ := S.write (u := .lst vs.dropLast) (o := .lst ys.dropLast) hi fun g => ⟨_, upd_same, t.dropLast.up (List.prefix_refl _) g⟩
          exact mt_pop pins s σ H _ _ v us Q I rx rxs ⟨a, vs, w, rfl, rfl, hv, by rw [t.len]; exact hw, f al _ w (Ext.mut (List.mem_of_getElem? hi) g) S' (rw'.up (List.prefix_refl _) g)⟩
        · exact f.elim
      · exact f.elim
  · exact f.elim
def extendD : List D → M → R D
  | [.ref i, .ref j], m => match m[i]?, m[j]? with
    | some (.lst xs), some (.lst zs) => if xs.length + zs.length ≤ lim then ok .non (m.set i (.lst (xs ++ zs))) else none
    | _, _ => none
  | _, _ => none
theorem md_extend : MD T X "list.extend" extendD := by
  intro E pins s σ H x xs v us Q I rx rxs ⟨d, ds, m, al, S, rd, rs, f⟩
  unfold extendD at f
  split at f
  · rename_i i j heq
    cases heq
    cases rd with
    | @ref a _ hi =>
      cases rs with
      | cons ry rn =>
        cases rn
        cases ry with
        | @ref b _ hj =>
          split at f
          · rename_i ys zs ho1 ho2
            obtain ⟨_, ho', ro'⟩ := S.of hi
            rw [ho1] at ho'
            cases ho'
            obtain ⟨vs, hv, t⟩ := ro'
            obtain ⟨_, ho', ro'⟩ := S.of hj
            rw [ho2] at ho'
            cases ho'
            obtain ⟨ws, hw, t2⟩ := ro'
            split at f
            · rename_i hl
              obtain ⟨g, S'⟩ := S.write (u := .lst (vs ++ ws)) (o := .lst (ys ++ zs)) hi fun g => ⟨_, upd_same, (t.app t2).up (List.prefix_refl _) g⟩
              exact mt_extend pins s σ H _ _ v us Q I rx rxs ⟨a, b, vs, ws, rfl, rfl, hv, hw, by rw [t.len, t2.len]; exact Nat.le_trans hl (by rw [sizeLine_eq]; decide), f al _ .non (Ext.mut (List.mem_of_getElem? hi) g) S' .non⟩
            · exact f.elim
          · exact f.elim
  · exact f.elim

/-! ### constants of the text -/
def constD : D → Bool
  | .non => true
  | .bl _ => true
  | .int _ => true
  | .str _ => true
  | _ => false
def vD : D → V
  | .bl b => .bl b
  | .int i => .int i
  | .str x => .str x
  | _ => .non
theorem ie_gc {x : Str} {p : Pos} {d : D} {u : Value} (hm : X.mg x = some u) (hr : RelV (vD d) u) (hc : constD d = true) (hg : Gl X x := by rfl) (hdb : (x == ("__debug__" : Str)) = false := by decide) : IE T X W (.Name x p) (fun _ m => ok d m) :=
  ⟨⟨fun pins s σ H Q I ⟨ρ, m, al, er, S, f⟩ => ld_glob I hg hm ⟨vD d, H, I, hr, f.ret S (by
    cases d <;> first
      | exact .non
      | exact .bl _
      | exact .int _
      | exact .str _
      | cases hc)⟩ hdb⟩⟩

/-! ### displays of dicts -/
/-- the pairs of a display, from the left -/
def cPairs : List (Cp D × Cp D) → Cp (List (D × D))
  | [] => fun _ m => ok [] m
  | (a, b) :: r => fun ρ m => bind (a ρ m) fun x m1 => bind (b ρ m1) fun y m2 => bind (cPairs r ρ m2) fun ps m3 => ok ((x, y) :: ps) m3
inductive RpP (K : G) (al : List Addr) (H : Hp) : List (V × V) → List (D × D) → Prop
  | nil : RpP K al H [] []
  | cons {x y : V} {d e : D} {ps : List (V × V)} {qs : List (D × D)} : Rp K al H x d → Rp K al H y e → RpP K al H ps qs → RpP K al H ((x, y) :: ps) ((d, e) :: qs)
inductive DPs (T : Sv) (X : Cx) (W : WX) : List (Option Expr) → List Expr → List (Cp D × Cp D) → Prop
  | nil : DPs T X W [] [] []
  | cons {k v : Expr} {ks : List (Option Expr)} {vs : List Expr} {a b : Cp D} {cs : List (Cp D × Cp D)} : IE T X W k a → IE T X W v b → DPs T X W ks vs cs → DPs T X W (some k :: ks) (v :: vs) ((a, b) :: cs)
theorem DPs.pp {pos : Pos} : ∀ {ks : List (Option Expr)} {vs : List Expr} {cs : List (Cp D × Cp D)}, DPs T X W ks vs cs → PPs X pos ks vs (cs.map fun p => (tD (kx X T) W p.1, tD (kx X T) W p.2))
  | _, _, _, .nil => pps_nil
  | _, _, _, .cons h1 h2 t => pps_cons h1.pe h2.pe (DPs.pp t)
theorem dps_t : ∀ {cs : List (Cp D × Cp D)} {σ : L2.St} {H : Hp} {Q : List (V × V) → Hp → Prop} {ρ : En} {m : M} {al : List Addr}, Er (kx X T) al H σ ρ → Sim (kx X T) al m H →
    Fin (kx X T) (RpP (kx X T)) (fun c d H' => W c d σ H') al H Q (cPairs cs ρ m) → tPairs (cs.map fun p => (tD (kx X T) W p.1, tD (kx X T) W p.2)) σ H Q
  | [], _, _, _, _, _, _, _, S, f => f.ret S .nil
  | (a, b) :: r, σ, H, Q, ρ, m, al, er, S, f => by
    refine ⟨ρ, m, al, er, S, Fin.mono (fun x H1 h1 => ?_) (Fin.bind (rel := Rp (kx X T)) f)⟩
    obtain ⟨d, m1, al1, g1, f1⟩ := h1
    refine ⟨ρ, m1, al1, er.up g1.x, g1.s, Fin.mono (fun y H2 h2 => ?_) (Fin.bind (rel := Rp (kx X T)) f1)⟩
    obtain ⟨e, m2, al2, g2, f2⟩ := h2
    refine dps_t ((er.up g1.x).up g2.x) g2.s (Fin.mono (fun ps H3 h3 => ?_) (Fin.bind (rel := RpP (kx X T)) f2))
    obtain ⟨qs, m3, al3, g3, f3⟩ := h3
    exact f3.ret g3.s (.cons ((g1.r.ext g2.x).ext g3.x) (g2.r.ext g3.x) g3.r)
/-- the pairs as a dict of numbers and texts -/
def keysP : List (D × D) → Option (List (Key × D))
  | [] => some []
  | (x, y) :: r => match keyD x with
    | some k => (match keysP r with
      | some q => some ((k, y) :: q)
      | none => none)
    | none => none
theorem keysP_rp {K : G} {al : List Addr} {H : Hp} : ∀ {ps : List (V × V)} {qs : List (D × D)} {kvs : List (Key × D)}, RpP K al H ps qs → keysP qs = some kvs → ∃ ws : List (Key × V), ps = ws.map (fun kv => (kV kv.1, kv.2)) ∧ RpF K al H ws kvs
  | _, _, _, .nil, h => by cases h; exact ⟨[], rfl, .nil⟩
  | _, _, _, @RpP.cons _ _ _ x y d e ps qs r1 r2 t, h => by
    unfold keysP at h
    cases e1 : keyD d with
    | none => rw [e1] at h; cases h
    | some k =>
      rw [e1] at h
      dsimp only at h
      cases e2 : keysP qs with
      | none => rw [e2] at h; cases h
      | some q =>
        rw [e2] at h
        cases h
        obtain ⟨ws, rfl, rf⟩ := keysP_rp t e2
        exact ⟨(k, y) :: ws, by rw [key_rp r1 e1]; rfl, .cons r2 rf⟩
def mergeD (kvs more : List (Key × D)) : List (Key × D) := more.foldl (fun acc kv => putD acc kv.1 kv.2) kvs
theorem merge_rp {K : G} {al : List Addr} {H : Hp} {us : List (Key × V)} {more : List (Key × D)} (r : RpF K al H us more) : ∀ {ws : List (Key × V)} {kvs : List (Key × D)}, RpF K al H ws kvs → RpF K al H (mergeK ws us) (mergeD kvs more) := by
  induction r with
  | nil => exact fun q => q
  | cons r t ih => exact fun q => ih (put_rp r q)
def cDisp (cs : List (Cp D × Cp D)) : Cp D := fun ρ m => bind (cPairs cs ρ m) fun ps m1 => match keysP ps with
  | some kvs => if kvs.length ≤ 15 then new (.dct (mergeD [] kvs)) m1 else none
  | none => none
theorem ie_disp {ks : List (Option Expr)} {vs : List Expr} {cs : List (Cp D × Cp D)} {pos : Pos} (h : DPs T X W ks vs cs) (hall : ks.all (·.isSome) = true := by rfl) (hl : ks.length = vs.length := by rfl) (h0 : ks ≠ [] := by simp) (h15 : ks.length ≤ 15 := by decide) :
    IE T X W (.Dict ks vs pos) (cDisp cs) := ⟨PE.weak (pe_disp h.pp hall hl h0 h15) fun σ H Q ⟨ρ, m, al, er, S, f⟩ => by
  intro p hp
  have x0 : Ext al H al (upd H p (.dK [])) := Ext.lay hp
  have np : p ∉ al := fun z => by
    obtain ⟨u, e, _⟩ := S.there z
    rw [hp] at e
    cases e
  refine dps_t (er.up x0) (S.lay hp) ?_
  unfold cDisp at f
  rcases hr : cPairs cs ρ m with _ | ⟨r, m1⟩
  · rw [hr] at f
    exact f
  · rw [hr] at f
    cases r with
    | ex e => exact Fin.up x0 (show Fin (kx X T) (RpP (kx X T)) (fun c d H' => W c d σ H') al H _ (some (.ex e, m1)) from f)
    | ok qs =>
      intro al1 H2 ps x1 S1 r1
      rw [bind_ok] at f
      obtain ⟨n1, e1⟩ := x1.k p _ upd_same np
      refine ⟨e1, ?_⟩
      split at f
      · rename_i kvs hk
        split at f
        · rename_i hl15
          obtain ⟨ws, rfl, rf⟩ := keysP_rp r1 hk
          refine ⟨ws, rfl, by rw [rf.len]; exact hl15, ?_⟩
          have gw : Grow H2 (upd H2 p (.dK (mergeK [] ws))) := Grow.mut e1 True.intro
          have kp : ∀ a ∈ al1, upd H2 p (.dK (mergeK [] ws)) a = H2 a := fun a ha => upd_ne (fun z => n1 (z ▸ ha))
          have S2 : Sim (kx X T) (al1 ++ [p]) (m1 ++ [.dct (mergeD [] kvs)]) (upd H2 p (.dK (mergeK [] ws))) := (S1.keep gw kp).adopt n1 ⟨_, upd_same, (merge_rp rf .nil).up ⟨_, rfl⟩ gw⟩
          refine f (al1 ++ [p]) _ (.ref p) ⟨x1.p.trans ⟨_, rfl⟩, (x0.g.trans x1.g).trans gw, fun a u ha na => ?_⟩ S2 (.ref (by rw [← S1.len, List.getElem?_append_right (Nat.le_refl _)]; simp))
          have ap : a ≠ p := ne_of_none ha hp
          obtain ⟨n2, e2⟩ := x1.k a u (by rw [upd_ne ap]; exact ha) na
          exact ⟨fun z => (List.mem_append.mp z).elim n2 fun z => ap (List.mem_singleton.mp z), by rw [upd_ne ap]; exact e2⟩
        · exact f.elim
      · exact f.elim⟩
/-- {} -/
theorem ie_dnew {pos : Pos} : IE T X W (.Dict [] [] pos) (fun _ m => new (.dct []) m) := ⟨PE.weak pe_dnewK fun σ H Q ⟨ρ, m, al, er, S, f⟩ => by
  intro p hp
  have S2 : Sim (kx X T) (al ++ [p]) (m ++ [.dct []]) (upd H p (.dK [])) := S.add hp ⟨[], upd_same, .nil⟩
  exact f (al ++ [p]) _ (.ref p) (Ext.add hp) S2 (.ref (by rw [← S.len, List.getElem?_append_right (Nat.le_refl _)]; simp))⟩
/-- {} of a dict whose keys are tuples -/
theorem ie_dnewT {pos : Pos} : IE T X W (.Dict [] [] pos) (fun _ m => new (.dtp []) m) := ⟨PE.weak pe_dnewT fun σ H Q ⟨ρ, m, al, er, S, f⟩ => by
  intro p hp
  have S2 : Sim (kx X T) (al ++ [p]) (m ++ [.dtp []]) (upd H p (.dT [])) := S.add hp ⟨[], upd_same, .nil⟩
  exact f (al ++ [p]) _ (.ref p) (Ext.add hp) S2 (.ref (by rw [← S.len, List.getElem?_append_right (Nat.le_refl _)]; simp))⟩
end
end Sx

set_option Elab.async false
set_option linter.all false
set_option maxRecDepth 100000
set_option maxHeartbeats 2000000
/-! Sx13: what the printed walks lean on. -/
namespace Sx
open PySem PySem.Spec PyProof.Rows L2

theorem takes_wf {X : Cx} : Takes X WF := fun u s' ⟨_, _, _, _, _, _, _, _, _, _, _, _, _, _, _, _, w⟩ => w.elim
/-- x, y, z = a, b, c of plain names -/
def sPar3 (i j l : Nat) (ca : Cp (List D)) : Cs := fun ρ m => lift ρ (ca ρ m) fun ds m1 => match ds with
  | [u, v, w] => some (.nx (((ρ.set i (some u)).set j (some v)).set l (some w)), m1)
  | _ => none
section
variable {T : Sv} {X : Cx} {W : WX} {a b c : Expr} {pos : Pos} {x y z : Str} {i j l : Nat}
theorem is_par3 {px py pz pt : Pos} {kt k2 pt2} {cas : Cp (List D)} (hc : X.calm = true) (hN : X.N.Nodup) (ha : IA T X W [a, b, c] cas) (hi : X.N[i]? = some x := by rfl) (hj : X.N[j]? = some y := by rfl) (hl : X.N[l]? = some z := by rfl) (hij : i ≠ j := by decide) (hil : i ≠ l := by decide) (hjl : j ≠ l := by decide)
    (hx : X.env.scope.names.lookup x = some .local := by rfl) (hy : X.env.scope.names.lookup y = some .local := by rfl) (hz : X.env.scope.names.lookup z = some .local := by rfl)
    (hw : swappedStores [.Tuple [.Name x px, .Name y py, .Name z pz] kt pt] (.Tuple [a, b, c] k2 pt2) X.env = pure (some [x, y, z]) := by rfl)
    (hs : swapsWithSole [.Tuple [.Name x px, .Name y py, .Name z pz] kt pt] (.Tuple [a, b, c] k2 pt2) pos.line X.env = pure false := by rfl) :
    IS T X W (.Assign [.Tuple [.Name x px, .Name y py, .Name z pz] kt pt] (.Tuple [a, b, c] k2 pt2) pos) (sPar3 i j l cas) := ⟨PS.weak (ps_par3 hc hN hi hj hl hij hil hjl hx hy hz ha.pa hw hs) fun D σ H ⟨ρ, m, al, er, s, f⟩ => by
  refine ⟨ρ, m, al, er, s, Fin.mono (fun x H1 h1 => ?_) (FinS.lift (rel := RpL (kx X T)) er f)⟩
  obtain ⟨d, m1, al1, g1, f1⟩ := h1
  have r := g1.r
  cases r with
  | nil => exact f1.elim
  | cons r1 r =>
    cases r with
    | nil => exact f1.elim
    | cons r2 r =>
      cases r with
      | nil => exact f1.elim
      | cons r3 r =>
        cases r with
        | cons _ _ => exact f1.elim
        | nil => exact ⟨_, _, _, rfl, f1 al1 H1 _ (Ext.refl _ _) g1.s ((((er.up g1.x).put r1).put r2).put r3)⟩⟩
end
/-- a def of the text: where it stands, what its name means, how its arguments bind -/
structure DefF (K : PySem.W.Frag) (mg : Str → Option Value) (x qual : Str) (st : Stmt) (f : Addr) (fd : FuncData) (ps : List Str) : Prop where
  F : Fun K x qual st f fd
  m : mg x = some (.ref f)
  b : Binds K fd ps []
theorem DefF.kp {K : PySem.W.Frag} {mg : Str → Option Value} {x qual : Str} {st : Stmt} {f : Addr} {fd : FuncData} {ps : List Str} (d : DefF K mg x qual st f fd ps) : PySem.W.keepIn K (.ref f) = true := d.F.kp
theorem deeper_guards {A : Around} {env : Env} (h : A.guards = some []) : (A.deeper env).guards = some [] := h
theorem room_hu {k : Nat} {A : Around} (h : Room k A) : A.units + 160 < cLine := by have := h.un; omega
theorem ie_gcE {T : Sv} {X : Cx} {W : WX} {x : Str} {p : Pos} {d : D} (h : ∃ u, X.mg x = some u ∧ RelV (vD d) u) (hc : constD d = true) (hg : Gl X x := by rfl) (hdb : (x == ("__debug__" : Str)) = false := by decide) : IE T X W (.Name x p) (fun _ m => ok d m) := by
  obtain ⟨u, h1, h2⟩ := h
  exact ie_gc h1 h2 hc hg hdb
/-! the __init__ of an own exception: one field, two, three -/
section
variable {K : PySem.W.Frag} {C : Addr} {Q : VK} {E : XK} {vs : List V} {H : Hp} {f g l : Str}
theorem ei_pure1 (T : EB K C) (n1 : PySem.W.findIn K (.ref C) f = some none) {N : List Str} (hN : N.length = 2) (h : spEI C [f] vs H Q E) :
    tEst K f (tVar 0) (tVar 1) { nx := fun _ H' => Q .non H', rt := Q } (L2.start N vs) H := by
  obtain ⟨a, ws, rfl, hw, ea, k⟩ := h
  match ws, hw with
  | [x], _ => exact ei_first (y := x) T n1 (fun Q q => ⟨x, rfl, q⟩) (fun Q q => ⟨_, rfl, q⟩) ea fun dx H' n ne e1 e2 kk => k dx H' n ne e1 e2 kk
theorem ei_pure2 (T : EB K C) (n1 : PySem.W.findIn K (.ref C) f = some none) (n2 : PySem.W.findIn K (.ref C) g = some none) {N : List Str} (hN : N.length = 3) (h : spEI C [f, g] vs H Q E) :
    tSeq (tEst K f (tVar 0) (tVar 1)) (tEst K g (tVar 0) (tVar 2)) { nx := fun _ H' => Q .non H', rt := Q } (L2.start N vs) H := by
  obtain ⟨a, ws, rfl, hw, ea, k⟩ := h
  match ws, hw with
  | [x, y], _ =>
    refine ei_first (y := x) T n1 (fun Q q => ⟨x, rfl, q⟩) (fun Q q => ⟨_, rfl, q⟩) ea fun dx H' n ne e1 e2 kk => ?_
    show tEst K g (tVar 0) (tVar 2) { nx := fun _ H' => Q .non H', rt := Q } _ _
    refine ei_step (y := y) T n2 (fun Q q => ⟨y, rfl, q⟩) (fun Q q => ⟨_, rfl, q⟩) e1 e2 (by simp) ?_
    exact k dx _ n ne (by rw [upd_ne (Ne.symm ne)]; exact e1) upd_same fun b b1 b2 => by rw [upd_ne b2, kk b b1 b2]
theorem ei_pure3 (T : EB K C) (n1 : PySem.W.findIn K (.ref C) f = some none) (n2 : PySem.W.findIn K (.ref C) g = some none) (n3 : PySem.W.findIn K (.ref C) l = some none) {N : List Str} (hN : N.length = 4) (h : spEI C [f, g, l] vs H Q E) :
    tSeq (tEst K f (tVar 0) (tVar 1)) (tSeq (tEst K g (tVar 0) (tVar 2)) (tEst K l (tVar 0) (tVar 3))) { nx := fun _ H' => Q .non H', rt := Q } (L2.start N vs) H := by
  obtain ⟨a, ws, rfl, hw, ea, k⟩ := h
  match ws, hw with
  | [x, y, z], _ =>
    refine ei_first (y := x) T n1 (fun Q q => ⟨x, rfl, q⟩) (fun Q q => ⟨_, rfl, q⟩) ea fun dx H' n ne e1 e2 kk => ?_
    show tEst K g (tVar 0) (tVar 2) { nx := fun σ H => tEst K l (tVar 0) (tVar 3) { nx := fun _ H' => Q .non H', rt := Q } σ H, rt := Q } _ _
    refine ei_step (y := y) T n2 (fun Q q => ⟨y, rfl, q⟩) (fun Q q => ⟨_, rfl, q⟩) e1 e2 (by simp) ?_
    show tEst K l (tVar 0) (tVar 3) { nx := fun _ H' => Q .non H', rt := Q } _ _
    refine ei_step (y := z) T n3 (fun Q q => ⟨z, rfl, q⟩) (fun Q q => ⟨_, rfl, q⟩) (by rw [upd_ne (Ne.symm ne)]; exact e1) upd_same (by simp) ?_
    exact k dx _ n ne (by rw [upd_ne (Ne.symm ne), upd_ne (Ne.symm ne)]; exact e1) upd_same fun b b1 b2 => by rw [upd_ne b2, upd_ne b2, kk b b1 b2]
end
/-! built-in names -/
theorem bb_len : bootBuiltins "len" = some (.builtin "len") := by decide +kernel
theorem bb_int : bootBuiltins "int" = some (.type "int") := by decide +kernel
theorem bb_abs : bootBuiltins "abs" = some (.builtin "abs") := by decide +kernel
theorem bb_tuple : bootBuiltins "tuple" = some (.type "tuple") := by decide +kernel
theorem bb_list : bootBuiltins "list" = some (.type "list") := by decide +kernel
theorem bb_sum : bootBuiltins "sum" = some (.builtin "sum") := by decide +kernel
theorem bb_all : bootBuiltins "all" = some (.builtin "all") := by decide +kernel
theorem bb_max : bootBuiltins "max" = some (.builtin "max") := by decide +kernel
theorem bb_min : bootBuiltins "min" = some (.builtin "min") := by decide +kernel
theorem bb_str : bootBuiltins "str" = some (.type "str") := by decide +kernel
theorem bb_repr : bootBuiltins "repr" = some (.builtin "repr") := by decide +kernel
theorem bb_isinstance : bootBuiltins "isinstance" = some (.builtin "isinstance") := by decide +kernel
theorem bb_range : bootBuiltins "range" = some (.type "range") := by decide +kernel
theorem bb_enumerate : bootBuiltins "enumerate" = some (.type "enumerate") := by decide +kernel
theorem bb_ValueError : bootBuiltins "ValueError" = some (.type "ValueError") := by decide +kernel
theorem bb_LookupError : bootBuiltins "LookupError" = some (.type "LookupError") := by decide +kernel
theorem bb_Exception : bootBuiltins "Exception" = some (.type "Exception") := by decide +kernel
theorem bb_sorted : bootBuiltins "sorted" = some (.builtin "sorted") := by decide +kernel
theorem bb_set : bootBuiltins "set" = some (.type "set") := by decide +kernel
theorem bb_dict : bootBuiltins "dict" = some (.type "dict") := by decide +kernel
theorem bb_zip : bootBuiltins "zip" = some (.type "zip") := by decide +kernel
theorem bb_any : bootBuiltins "any" = some (.builtin "any") := by decide +kernel
theorem bb_bool : bootBuiltins "bool" = some (.type "bool") := by decide +kernel
theorem bb_type : bootBuiltins "type" = some (.type "type") := by decide +kernel
theorem FnA.of0 {P : Program} {w : World} {K : PySem.W.Frag} {mg : Str → Option Value} {base : Heap} {k : Nat} {f : Addr} {fd : FuncData} {ps : List Str} {sp : Sp} (F : FnOk P w K mg base CX0 k f fd ps sp) : FnA P w K mg base k f fd ps sp :=
  ⟨F.len, fun A outer s H args us vs Q E _ hr e0 b r h => codeAny_mono (F.run A outer s H args us vs Q E hr e0 b r h) fun r' s' z => by
    rcases r' with e | fl
    · exact (show False from z).elim
    · cases fl <;> exact z⟩
theorem rv_own {v : V} {a : Addr} (h : v = .ref a) : RelV v (.ref a) := by
  subst h
  rfl
theorem rv_ty {v : V} {n : String} (h : v = .ty n) : RelV v (.type n) := by
  subst h
  rfl
end Sx

set_option Elab.async false
set_option linter.all false
set_option maxRecDepth 100000
set_option maxHeartbeats 2000000
/-! Sx14: what the top has written, looked up by names. -/
namespace Sx
open PySem PySem.Spec PyProof.Rows L2

/-- where the name x leads (0: nowhere) -/
def adr (K : PySem.W.Frag) (x : Str) : Addr := match PySem.W.nsIn K mainGlobals x with
  | some (some (.ref C)) => C
  | _ => 0
/-- the def m of the class at C -/
def adrM (K : PySem.W.Frag) (C : Addr) (m : Str) : Addr := match PySem.W.findIn K (.ref C) m with
  | some (some (.ref f)) => f
  | _ => 0
def fdOf (K : PySem.W.Frag) (f : Addr) : FuncData := match K.lookup f with
  | some ⟨_, _, .func fd, _⟩ => fd
  | _ => default
def isDef (K : PySem.W.Frag) (f : Addr) : Bool := match K.lookup f with
  | some ⟨_, _, .func _, _⟩ => true
  | _ => false
section
variable {K : PySem.W.Frag} {h : Heap} {mg : Str → Option Value}
theorem adr_mg (X : K.In h) (G : h.Ns mainGlobals mg) {x : Str} (e : (adr K x != 0) = true) : mg x = some (.ref (adr K x)) := by
  unfold adr at e ⊢
  split at e
  · rename_i C q
    exact PySem.W.mg_of X G q
  · cases e
theorem adrM_find {C : Addr} {m : Str} (e : (adrM K C m != 0) = true) : PySem.W.findIn K (.ref C) m = some (some (.ref (adrM K C m))) := by
  unfold adrM at e ⊢
  split at e
  · rename_i f q
    exact q
  · cases e
theorem fun_of {x qual : Str} {st : Stmt} {f : Addr} (h1 : isDef K f = true) (h2 : fdOf K f = PySem.W.fnOf x qual (defArgs st) (defBody st) (defScope st) .none (fdOf K f).kwdefaults (fdOf K f).doc (fdOf K f).pyModule (fdOf K f).annotations (fdOf K f).code (fdOf K f).closureTuple)
    (h3 : PySem.W.codeIn K (fdOf K f).code qual = true) (h4 : PySem.W.keepIn K (.ref f) = true) : Fun K x qual st f (fdOf K f) := by
  refine ⟨?_, h4⟩
  cases e : K.lookup f with
  | none => unfold isDef at h1; rw [e] at h1; cases h1
  | some o =>
    obtain ⟨oc, od, dt, sl⟩ := o
    cases dt with
    | func fd =>
      have z : fdOf K f = fd := by unfold fdOf; rw [e]
      exact ⟨oc, od, _, _, _, _, _, _, sl, h2, by rw [z], h3⟩
    | _ => unfold isDef at h1; rw [e] at h1; cases h1
theorem defF_of (X : K.In h) (G : h.Ns mainGlobals mg) {x : Str} {st : Stmt} {ps : List Str} (h0 : (adr K x != 0) = true) (h1 : isDef K (adr K x) = true)
    (h2 : fdOf K (adr K x) = PySem.W.fnOf x x (defArgs st) (defBody st) (defScope st) .none (fdOf K (adr K x)).kwdefaults (fdOf K (adr K x)).doc (fdOf K (adr K x)).pyModule (fdOf K (adr K x)).annotations (fdOf K (adr K x)).code (fdOf K (adr K x)).closureTuple)
    (h3 : PySem.W.codeIn K (fdOf K (adr K x)).code x = true) (h4 : PySem.W.keepIn K (.ref (adr K x)) = true)
    (hb : ∀ (kV doc pm : Value) (an : Option Addr) (cdv ct : Value) (us : List Value), us.length = ps.length → bindArgs (PySem.W.fnOf x x (defArgs st) (defBody st) (defScope st) .none kV doc pm an cdv ct) ⟨us, []⟩ = pure (ps.zip us)) :
    DefF K mg x x st (adr K x) (fdOf K (adr K x)) ps := ⟨fun_of h1 h2 h3 h4, adr_mg X G h0, (fun_of h1 h2 h3 h4).binds hb⟩
/-- the checks of an own exception class -/
def exB (K : PySem.W.Frag) (C : Addr) : Bool :=
  PySem.W.findIn K (.ref C) "__getattribute__" == some (some (.builtin "BaseException.__getattribute__")) && PySem.W.findIn K (.ref C) "__getattr__" == some none &&
  PySem.W.subIn K (.ref C) (.type "BaseException") == some true && PySem.W.hasDictIn K C && PySem.W.findIn K (.ref C) "__class__" == some (some (.builtin "object.__class__")) &&
  PySem.W.specialIn K (.builtin "object.__class__") "__get__" == some (some (.builtin "getset_descriptor.__get__")) && PySem.W.takesIn K (.builtin "object.__class__") == some true &&
  PySem.W.mroIn K C (.type "object") == some true
theorem excC_of {C : Addr} (h : exB K C = true) : ExcC K C := by
  unfold exB at h
  simp only [Bool.and_eq_true, beq_iff_eq] at h
  obtain ⟨⟨⟨⟨⟨⟨⟨h1, h2⟩, h3⟩, h4⟩, h5⟩, h6⟩, h7⟩, h8⟩ := h
  exact ⟨h1, h2, h3, h4, h5, h6, h7, h8⟩
def ebB (K : PySem.W.Frag) (C : Addr) (bm : List Value) (nid : String) : Bool :=
  PySem.W.excInitIn K C bm nid && PySem.W.excOver K C bm && PySem.W.findIn K (.ref C) "__setattr__" == some (some (.builtin "object.__setattr__")) && PySem.W.keepIn K (.ref C) && exB K C
theorem eb_of {C : Addr} {B nid iid : String} {bm : List Value} (FB : ExcBaseFacts B nid iid bm) (SF : StoreFacts B bm "object.__setattr__" "object") (h : ebB K C bm nid = true) : EB K C := by
  unfold ebB at h
  simp only [Bool.and_eq_true, beq_iff_eq] at h
  obtain ⟨⟨⟨⟨h1, h2⟩, h3⟩, h4⟩, h5⟩ := h
  exact ⟨⟨B, nid, iid, bm, FB, SF, h1, h2⟩, h3, h4, excC_of h5⟩
def tailVE : List Value := [.type "ValueError", .type "Exception", .type "BaseException", .type "object"]
def tailLE : List Value := [.type "LookupError", .type "Exception", .type "BaseException", .type "object"]
/-- all answers of isinstance -/
def isiB (K : PySem.W.Frag) (cs : List Addr) (us : List Value) (tb : Nat → Nat → Option Bool) : Bool :=
  (List.range cs.length).all fun c => (List.range us.length).all fun i => match tb c i with
    | some b => PySem.W.kitOne K (.ref (cs.getD c 0)) (us.getD i .none) == some b
    | none => true
theorem isi_of {cs : List Addr} {us : List Value} {tb : Nat → Nat → Option Bool} (h : isiB K cs us tb = true) {c i : Nat} {b : Bool} (hc : c < cs.length) (hi : i < us.length) (e : tb c i = some b) : PySem.W.kitOne K (.ref (cs.getD c 0)) (us.getD i .none) = some b := by
  unfold isiB at h
  have h1 := List.all_eq_true.mp h c (List.mem_range.mpr hc)
  have h2 := List.all_eq_true.mp h1 i (List.mem_range.mpr hi)
  rw [e] at h2
  exact beq_iff_eq.mp h2
/-- the fields of the classes -/
def fldB (K : PySem.W.Frag) (cs : List Addr) (fs : List (Nat × Str)) : Bool := fs.all fun p => PySem.W.findIn K (.ref (cs.getD p.1 0)) p.2 == some none
theorem fld_of {cs : List Addr} {fs : List (Nat × Str)} (h : fldB K cs fs = true) {c : Nat} {f : Str} (hm : (c, f) ∈ fs) : PySem.W.findIn K (.ref (cs.getD c 0)) f = some none :=
  beq_iff_eq.mp (List.all_eq_true.mp h (c, f) hm)
/-- constants that are numbers -/
theorem int_of (X : K.In h) (G : h.Ns mainGlobals mg) {x : Str} {i : Int} {t : Tok} (e : PySem.W.nsIn K mainGlobals x = some (some (.int i t))) : ∃ u, mg x = some u ∧ RelV (vD (.int i)) u := ⟨_, PySem.W.mg_of X G e, ⟨t, rfl⟩⟩
/-- a def's checks -/
def dB (K : PySem.W.Frag) (x : Str) : Bool := (adr K x != 0) && isDef K (adr K x) && PySem.W.codeIn K (fdOf K (adr K x)).code x && PySem.W.keepIn K (.ref (adr K x))
/-- its object is the text's -/
abbrev FdEq (K : PySem.W.Frag) (f : Addr) (x qual : Str) (st : Stmt) : Prop :=
  fdOf K f = PySem.W.fnOf x qual (defArgs st) (defBody st) (defScope st) .none (fdOf K f).kwdefaults (fdOf K f).doc (fdOf K f).pyModule (fdOf K f).annotations (fdOf K f).code (fdOf K f).closureTuple
theorem defF_all (X : K.In h) (G : h.Ns mainGlobals mg) {l : List Str} (hl : l.all (dB K) = true) {x : Str} {st : Stmt} {ps : List Str} (hx : x ∈ l) (h2 : FdEq K (adr K x) x x st)
    (hb : ∀ (kV doc pm : Value) (an : Option Addr) (cdv ct : Value) (us : List Value), us.length = ps.length → bindArgs (PySem.W.fnOf x x (defArgs st) (defBody st) (defScope st) .none kV doc pm an cdv ct) ⟨us, []⟩ = pure (ps.zip us)) :
    DefF K mg x x st (adr K x) (fdOf K (adr K x)) ps := by
  have z := List.all_eq_true.mp hl x hx
  unfold dB at z
  simp only [Bool.and_eq_true] at z
  obtain ⟨⟨⟨h0, h1⟩, h3⟩, h4⟩ := z
  exact defF_of X G h0 h1 h2 h3 h4 hb
/-- an __init__'s checks -/
def iB (K : PySem.W.Frag) (C : Addr) (qual : Str) : Bool :=
  (adrM K C "__init__" != 0) && isDef K (adrM K C "__init__") && PySem.W.codeIn K (fdOf K (adrM K C "__init__")).code qual && PySem.W.keepIn K (.ref (adrM K C "__init__")) && PySem.W.typeIn K (.ref (adrM K C "__init__")) == some (.type "function")
theorem init_of {C : Addr} {qual : Str} (e : iB K C qual = true) : (PySem.W.findIn K (.ref C) "__init__" = some (some (.ref (adrM K C "__init__"))) ∧ PySem.W.typeIn K (.ref (adrM K C "__init__")) = some (.type "function")) ∧
    ∀ {st : Stmt}, FdEq K (adrM K C "__init__") "__init__" qual st → Fun K "__init__" qual st (adrM K C "__init__") (fdOf K (adrM K C "__init__")) := by
  unfold iB at e
  simp only [Bool.and_eq_true] at e
  obtain ⟨⟨⟨⟨h0, h1⟩, h3⟩, h4⟩, h5⟩ := e
  exact ⟨⟨adrM_find h0, beq_iff_eq.mp h5⟩, fun h2 => fun_of h1 h2 h3 h4⟩
def cI (K : PySem.W.Frag) (x : Str) (i : Int) : Bool := match PySem.W.nsIn K mainGlobals x with
  | some (some (.int j _)) => j == i
  | _ => false
theorem int_all (X : K.In h) (G : h.Ns mainGlobals mg) {l : List (Str × Int)} (hl : (l.all fun p => cI K p.1 p.2) = true) {x : Str} {i : Int} (hx : (x, i) ∈ l) : ∃ u, mg x = some u ∧ RelV (vD (.int i)) u := by
  have z := List.all_eq_true.mp hl _ hx
  unfold cI at z
  split at z
  · rename_i j t e
    have : j = i := beq_iff_eq.mp z
    subst this
    exact int_of X G e
  · cases z
theorem none_all (X : K.In h) (G : h.Ns mainGlobals mg) {l : List Str} (hl : (l.all fun x => PySem.W.nsIn K mainGlobals x == some none) = true) {x : Str} (hx : x ∈ l) : mg x = none :=
  PySem.W.mg_none_of X G (beq_iff_eq.mp (List.all_eq_true.mp hl x hx))
theorem adr_all (X : K.In h) (G : h.Ns mainGlobals mg) {l : List Str} (hl : (l.all fun x => adr K x != 0) = true) {x : Str} (hx : x ∈ l) : mg x = some (.ref (adr K x)) :=
  adr_mg X G (List.all_eq_true.mp hl x hx)
end
/-! ### a hook of one's own: a part of the heap by layers, checks, the defs -/
def refS (o : Obj) : List Addr := match o.data with
  | .dict es _ => es.toList.flatMap fun e => He.refV e.val
  | .func fd => He.refV fd.code
  | .cls cd => [cd.ns]
  | .seq its _ => its.toList.flatMap He.refV
  | _ => []
def nextS (g : Addr → Option Obj) (as : List Addr) : List Addr := as.flatMap fun a => match g a with
  | some o => refS o
  | none => []
/-- the names' objects, what they name, .. : n layers behind the module's dict -/
def layS (g : Addr → Option Obj) : Nat → List Addr → List Addr
  | 0, as => as
  | n + 1, as => as ++ layS g n (nextS g as)
abbrev FnV : Type := Option (Str × Str × Arguments × FuncBody × Scope × Addr × List (Str × Addr) × Value × Addr)
def fnV (K : PySem.W.Frag) (f : Addr) : FnV := match K.lookup f with
  | some ⟨_, _, .func fd, _⟩ => some (fd.name, fd.qualname, fd.params, fd.body, fd.scope, fd.globals, fd.closure, fd.defaults, fd.builtins)
  | _ => none
def fvOf (x qual : Str) (st : Stmt) : FnV := some (x, qual, defArgs st, .stmts (defBody st), defScope st, mainGlobals, [], .none, builtinsNs)
theorem fdEq_of {K : PySem.W.Frag} {f : Addr} {x qual : Str} {st : Stmt} (e : fnV K f = fvOf x qual st) : FdEq K f x qual st := by
  unfold fnV at e
  unfold FdEq fdOf
  cases q : K.lookup f with
  | none => rw [q] at e; cases e
  | some o =>
    obtain ⟨oc, od, dt, osl⟩ := o
    rw [q] at e
    cases dt with
    | func fd =>
      obtain ⟨n1, n2, n3, n4, n5, n6, n7, n8, n9, n10, n11, n12, n13, n14, n15⟩ := fd
      have e2 : (some (n1, n2, n3, n4, n5, n6, n7, n8, n15) : FnV) = some (x, qual, defArgs st, .stmts (defBody st), defScope st, mainGlobals, [], .none, builtinsNs) := e
      simp only [Option.some.injEq, Prod.mk.injEq] at e2
      obtain ⟨h1, h2, h3, h4, h5, h6, h7, h8, h9⟩ := e2
      subst h1 h2 h3 h4 h5 h6 h7 h8 h9
      rfl
    | _ => cases e
def obsS (chk : PySem.W.Frag → Bool) (fns : PySem.W.Frag → List FnV) (K : PySem.W.Frag) : Bool × List FnV := (chk K, fns K)
def obsSG (n : Nat) (chk : PySem.W.Frag → Bool) (fns : PySem.W.Frag → List FnV) (g : Addr → Option Obj) : Bool × List FnV := obsS chk fns (He.frG g (layS g n [mainGlobals]))
def hookS (n : Nat) (chk : PySem.W.Frag → Bool) (fns : PySem.W.Frag → List FnV) (vals : List FnV) : PySem.W.Hook where
  α := Bool × List FnV
  obs := fun s => obsSG n chk fns s.heap.get?
  val := fun _ => (true, vals)
  says := fun _ h => ∃ K : PySem.W.Frag, K.In h ∧ obsS chk fns K = (true, vals)
  of := fun _ _ e => ⟨_, He.frG_in, e⟩
  keeps := fun _ _ _ ⟨K, hK, c⟩ k => ⟨K, PySem.W.Frag.In.keeps hK k, c⟩
theorem obsSG_eq {n : Nat} {chk : PySem.W.Frag → Bool} {fns : PySem.W.Frag → List FnV} {vals : List FnV} (s : PySem.W.SharedT) : obsSG n chk fns (HandSHeadRun.getT s) = (hookS n chk fns vals).obs s.abs := by
  have e : HandSHeadRun.getT s = s.abs.heap.get? := funext (HandSHeadRun.getT_eq s)
  rw [e]
  rfl
end Sx

set_option Elab.async false
set_option linter.all false
set_option maxRecDepth 100000
set_option maxHeartbeats 2000000
/-! Sx15: the plain side: stores, loops, the drawing of numbers. No program here. -/
namespace Sx
open PySem PySem.Spec L2

/-! ### stores that have grown -/
theorem st_at {m l : M} {k : Nat} : (m ++ l)[m.length + k]? = l[k]? := by
  rw [List.getElem?_append_right (Nat.le_add_right _ _)]
  congr 1
  omega
theorem st_0 {m l : M} : (m ++ l)[m.length]? = l[0]? := by
  rw [List.getElem?_append_right (Nat.le_refl _)]
  congr 1
  omega
theorem pre_at {m m' : M} {i : Nat} {o : O} (p : m <+: m') (h : m[i]? = some o) : m'[i]? = some o := by
  obtain ⟨t, rfl⟩ := p
  rw [List.getElem?_append_left (List.getElem?_eq_some_iff.mp h).1]
  exact h
theorem app_at {m l : M} {i : Nat} {o : O} (h : m[i]? = some o) : (m ++ l)[i]? = some o := pre_at ⟨_, rfl⟩ h
theorem set_app {m l : M} {i : Nat} {o : O} (h : i < m.length) : (m ++ l).set i o = m.set i o ++ l := by
  rw [List.set_append_left _ _ h]
theorem set_at {m l : M} {k : Nat} {o : O} : (m ++ l).set (m.length + k) o = m ++ l.set k o := by
  rw [List.set_append_right _ _ (Nat.le_add_right _ _)]
  congr 2
  omega
theorem set_0 {m l : M} {o : O} : (m ++ l).set m.length o = m ++ l.set 0 o := by
  rw [List.set_append_right _ _ (Nat.le_refl _)]
  congr 2
  omega

/-! ### loops -/
section
variable {w : Wk} {t : TP} {b : Cs}
/-- L turns, none of which leaves the loop -/
theorem for_ind (P : Nat → En → M → Prop) (L : Nat) (hw : ∀ i ρ m, i < L → P i ρ m → ∃ d ρ1 ρ' m', w i m = some (some d) ∧ asgT m t d ρ = some ρ1 ∧ (b ρ1 m = some (.nx ρ', m') ∨ b ρ1 m = some (.ct ρ', m')) ∧ P (i + 1) ρ' m')
    (he : ∀ ρ m, P L ρ m → w L m = some none) : ∀ (n i : Nat) (ρ : En) (m : M), i ≤ L → L < i + n → P i ρ m → ∃ ρ' m', sForN w t b n i ρ m = some (.nx ρ', m') ∧ P L ρ' m' := by
  intro n
  induction n with
  | zero => intro i ρ m h1 h2; omega
  | succ n ih =>
    intro i ρ m h1 h2 hp
    by_cases e : i = L
    · subst e
      exact ⟨ρ, m, by unfold sForN; rw [he ρ m hp], hp⟩
    · obtain ⟨d, ρ1, ρ', m', q1, q2, q3, q4⟩ := hw i ρ m (by omega) hp
      obtain ⟨ρ2, m2, q5, q6⟩ := ih (i + 1) ρ' m' (by omega) (by omega) q4
      refine ⟨ρ2, m2, ?_, q6⟩
      unfold sForN
      rw [q1]
      dsimp only
      rw [q2]
      dsimp only
      rcases q3 with q3 | q3
      · rw [q3]; exact q5
      · rw [q3]; exact q5
end
/-- the walk of a list that stands in the store -/
def wkRef (j : Nat) : Wk := fun i m => match m[j]? with
  | some (.lst xs) => some xs[i]?
  | _ => none
theorem wkD_ref {m : M} {j : Nat} {xs : List D} (h : m[j]? = some (.lst xs)) : wkD (.ref j) m = ok (wkRef j) m := by
  unfold wkD
  dsimp only
  rw [h]
  rfl
theorem enumL_ref {m : M} {j : Nat} {xs : List D} (h : m[j]? = some (.lst xs)) : enumL (.ref j) m = ok (wkE (wkRef j)) m := by
  unfold enumL
  dsimp only
  rw [h]
  rfl
theorem wkRef_at {m : M} {j i : Nat} {xs : List D} (h : m[j]? = some (.lst xs)) : wkRef j i m = some xs[i]? := by
  unfold wkRef
  rw [h]
theorem wkE_at {m : M} {i : Nat} {w : Wk} {d : D} (h : w i m = some (some d)) : wkE w i m = some (some (.tup [.int (i : Int), d])) := by
  unfold wkE
  rw [h]
theorem wkE_end {m : M} {i : Nat} {w : Wk} (h : w i m = some none) : wkE w i m = some none := by
  unfold wkE
  rw [h]
/-- a comprehension whose parts change nothing in the store -/
theorem lc_pure {w : Wk} {t : TP} {tt : Cp Bool} {te : Cp D} {ρ : En} {m : M} (f : Nat → D) (L : Nat) (hL : L ≤ lim) (hw : ∀ i, i < L → ∃ d ρ1, w i m = some (some d) ∧ asgT m t d ρ = some ρ1 ∧ tt ρ1 m = ok true m ∧ te ρ1 m = ok (f i) m) (he : w L m = some none) :
    ∀ (n i : Nat) (acc : List D), i ≤ L → L < i + n → acc.length = i → lcN w t tt te ρ n i acc m = ok (acc ++ (List.range (L - i)).map fun j => f (i + j)) m := by
  intro n
  induction n with
  | zero => intro i acc h1 h2; omega
  | succ n ih =>
    intro i acc h1 h2 h3
    by_cases e : i = L
    · subst e
      unfold lcN
      rw [he]
      simp
    · obtain ⟨d, ρ1, q1, q2, q3, q4⟩ := hw i (by omega)
      unfold lcN
      rw [q1]
      dsimp only
      rw [q2]
      dsimp only
      rw [q3]
      dsimp only
      rw [if_pos rfl, q4]
      dsimp only
      rw [if_pos (by omega), ih (i + 1) _ (by omega) (by omega) (by simp [h3])]
      have : L - i = (L - (i + 1)) + 1 := by omega
      rw [this, List.range_succ_eq_map, List.map_cons, List.map_map, List.append_assoc]
      congr 2
      simp [Function.comp_def, Nat.add_assoc, Nat.add_comm 1]

/-! ### numbers -/
theorem log2_le {n k : Nat} (h : n < 2 ^ k) : n.log2 ≤ k := by
  by_cases z : n = 0
  · subst z; simp
  · exact Nat.le_of_lt ((Nat.log2_lt z).mpr h)
theorem bigM_of {i j : Int} {a b : Nat} (h1 : i.natAbs < 2 ^ a) (h2 : j.natAbs < 2 ^ b) (h : a + b < 134000000) : bigM i j = true := by
  have := log2_le h1
  have := log2_le h2
  exact decide_eq_true (by omega)

/-! ### the drawing of numbers: the same three defs stand in every law -/
def fuel : Nat := 1000000
def drawsC : Cs :=
    sSeq (sPar 1 2 (cCons (cC (.int 0)) (cCons (cBin addD (cC (.int 2901)) (cBin mulD (cC (.int 31)) (cBi lenD (cCons (cVar 0) (cNil))))) (cNil))))
    (sSeq (sFor fuel (cWk (cSl (cVar 0) (cNoP) (cPart (cC (.int 60))))) (.nm 3) (sSeq (sSet 2 (cBin modD (cBin addD (cBin addD (cBin addD (cBin mulD (cVar 2) (cC (.int 1000003))) (cBin mulD (cC (.int 2)) (cBi absD (cCons (cVar 3) (cNil))))) (cBi intD (cCons (cBin ltD (cVar 3) (cC (.int 0))) (cNil)))) (cC (.int 17))) (cC (.int 2305843009213693951))))
    (sIf (cB (cBin geD (cBi absD (cCons (cVar 3) (cNil))) (cBin powD (cC (.int 10)) (cC (.int 18))))) (sSet 1 (cBin addD (cBin mulD (cVar 1) (cC (.int 19))) (cBi absD (cCons (cVar 3) (cNil))))) (sNext))))
    (sRet (cLst (cCons (cVar 1) (cCons (cVar 2) (cCons (cC (.int 0)) (cNil)))))))
def nextC : Cs :=
    sSeq (sIf (cB (cBin gtD (cBin ixD (cVar 0) (cC (.int 0))) (cC (.int 0)))) (sSeq (sSet 2 (cBin modD (cBin ixD (cVar 0) (cC (.int 0))) (cVar 1)))
    (sSeq (sSub (cBin divD (cBin ixD (cVar 0) (cC (.int 0))) (cVar 1)) (cVar 0) (cC (.int 0)))
    (sRet (cVar 2)))) (sNext))
    (sSeq (sSub (cBin addD (cBin ixD (cVar 0) (cC (.int 2))) (cC (.int 1))) (cVar 0) (cC (.int 2)))
    (sSeq (sSet 3 (cBin modD (cBin addD (cBin ixD (cVar 0) (cC (.int 1))) (cBin mulD (cC (.int 11400714819323198485)) (cBin ixD (cVar 0) (cC (.int 2))))) (cC (.int 18446744073709551557))))
    (sSeq (sSet 3 (cBin modD (cBin mulD (cVar 3) (cBin addD (cBin modD (cVar 3) (cC (.int 4294967291))) (cC (.int 5)))) (cC (.int 2305843009213693951))))
    (sRet (cBin modD (cBin divD (cBin modD (cBin mulD (cVar 3) (cVar 3)) (cC (.int 2305843009213693921))) (cC (.int 2048))) (cVar 1))))))
/-- the drawn numbers stand at i; at most N of them came out of the mixed one -/
def Dr (m : M) (i N : Nat) : Prop := ∃ g x c : Int, m[i]? = some (.lst [.int g, .int x, .int c]) ∧ 0 ≤ g ∧ 0 ≤ x ∧ x < 2305843009213693951 ∧ 0 ≤ c ∧ c ≤ N
theorem Dr.lt {m : M} {i N : Nat} (h : Dr m i N) : i < m.length := by
  obtain ⟨_, _, _, e, _⟩ := h
  exact (List.getElem?_eq_some_iff.mp e).1
theorem Dr.pre {m m' : M} {i N : Nat} (p : m <+: m') (h : Dr m i N) : Dr m' i N := by
  obtain ⟨g, x, c, e, r⟩ := h
  exact ⟨g, x, c, pre_at p e, r⟩
theorem Dr.mono {m : M} {i N N' : Nat} (p : N ≤ N') (h : Dr m i N) : Dr m i N' := by
  obtain ⟨g, x, c, e, h1, h2, h3, h4, h5⟩ := h
  exact ⟨g, x, c, e, h1, h2, h3, h4, by omega⟩
theorem at3_0 {a b c : D} : atI [a, b, c] 0 = some a := rfl
theorem at3_1 {a b c : D} : atI [a, b, c] 1 = some b := rfl
theorem at3_2 {a b c : D} : atI [a, b, c] 2 = some c := rfl
theorem ixN3_0 : ixN 3 0 = some 0 := rfl
theorem ixN3_2 : ixN 3 2 = some 2 := rfl
theorem next_ok {m : M} {i N : Nat} {k : Int} (h : Dr m i N) (hN : N < 1000000000000) (hk : 0 < k) (hk2 : k < 1073741824) :
    ∃ d o, fnB 4 nextC [.ref i, .int k] m = ok (.int d) (m.set i o) ∧ 0 ≤ d ∧ d < k ∧ Dr (m.set i o) i (N + 1) := by
  obtain ⟨g, x, c, e, hg, hx, hx2, hc, hc2⟩ := h
  have li := (List.getElem?_eq_some_iff.mp e).1
  by_cases g0 : 0 < g
  · refine ⟨g % k, .lst [.int (g / k), .int x, .int c], ?_, Int.emod_nonneg _ (by omega), Int.emod_lt_of_pos _ hk, ⟨g / k, x, c, by rw [List.getElem?_set_self li], Int.ediv_nonneg hg (by omega), hx, hx2, hc, by omega⟩⟩
    unfold fnB nextC ent
    simp only [sSeq, sSet, sRet, sIf, sSub, sNext, cBin, cVar, cC, cB, asB, bind_ok, lift_ok, List.map, List.length, List.replicate, List.cons_append, List.nil_append, List.getElem?_cons_zero, List.getElem?_cons_succ, List.set_cons_zero, List.set_cons_succ, ixD, e, at3_0, gtD, iiD, g0, decide_true, if_true, modD, divD, hk, hk2, setD, List.length_cons, List.length_nil, ixN3_0, fnR, Nat.reduceAdd, Nat.reduceSub, and_self, true_and, Nat.zero_add]
  · have ge : g = 0 := by omega
    subst ge
    have e2 : (m.set i (.lst [.int 0, .int x, .int (c + 1)]))[i]? = some (.lst [.int 0, .int x, .int (c + 1)]) := List.getElem?_set_self li
    have y0 : 0 ≤ (x + 11400714819323198485 * (c + 1)) % 18446744073709551557 := Int.emod_nonneg _ (by omega)
    have y1 : (x + 11400714819323198485 * (c + 1)) % 18446744073709551557 < 18446744073709551557 := Int.emod_lt_of_pos _ (by omega)
    generalize hy : (x + 11400714819323198485 * (c + 1)) % 18446744073709551557 = y at y0 y1
    have z0 : 0 ≤ y % 4294967291 := Int.emod_nonneg _ (by omega)
    have z1 : y % 4294967291 < 4294967291 := Int.emod_lt_of_pos _ (by omega)
    have u0 : 0 ≤ (y * (y % 4294967291 + 5)) % 2305843009213693951 := Int.emod_nonneg _ (by omega)
    have u1 : (y * (y % 4294967291 + 5)) % 2305843009213693951 < 2305843009213693951 := Int.emod_lt_of_pos _ (by omega)
    generalize hu : (y * (y % 4294967291 + 5)) % 2305843009213693951 = u at u0 u1
    have b1 : bigM 11400714819323198485 (c + 1) = true := bigM_of (a := 64) (b := 64) (by decide) (by omega) (by decide)
    have b2 : bigM y (y % 4294967291 + 5) = true := bigM_of (a := 64) (b := 64) (by omega) (by omega) (by decide)
    have b3 : bigM u u = true := bigM_of (a := 64) (b := 64) (by omega) (by omega) (by decide)
    refine ⟨(u * u % 2305843009213693921 / 2048) % k, .lst [.int 0, .int x, .int (c + 1)], ?_, Int.emod_nonneg _ (by omega), Int.emod_lt_of_pos _ hk, ⟨0, x, c + 1, e2, by omega, hx, hx2, by omega, by omega⟩⟩
    unfold fnB nextC ent
    simp only [sSeq, sSet, sRet, sIf, sSub, sNext, cBin, cVar, cC, cB, asB, bind_ok, lift_ok, List.map, List.length, List.replicate, List.cons_append, List.nil_append, List.getElem?_cons_zero, List.getElem?_cons_succ, List.set_cons_zero, List.set_cons_succ, ixD, e, e2, at3_0, at3_1, at3_2, gtD, iiD, g0, decide_false, Bool.false_eq_true, if_false, if_true, addD, mulD, modD, divD, hk, hk2, setD, List.length_cons, List.length_nil, ixN3_0, ixN3_2, fnR, Nat.reduceAdd, Nat.reduceSub, and_self, true_and, Nat.zero_add, b1, b2, b3, hy, hu, Int.reduceLT]
theorem bits_lt (z : Int) : z.natAbs < 2 ^ Builtin.Int.intBits z := by
  unfold Builtin.Int.intBits
  by_cases h : z = 0
  · subst h; simp
  · have hn : z.natAbs ≠ 0 := by omega
    simp only [h, beq_iff_eq, if_false]
    exact (Nat.log2_lt hn).mp (Nat.lt_succ_self _)
theorem abs_eq (z : Int) : (if z < 0 then -z else z) = (z.natAbs : Int) := by
  split <;> omega
theorem grow_bits {g c : Nat} {k B : Nat} (h1 : g < 2 ^ (B + 6 * k)) (h2 : c < 2 ^ B) : g * 19 + c < 2 ^ (B + 6 * (k + 1)) := by
  have e : 2 ^ (B + 6 * (k + 1)) = 2 ^ (B + 6 * k) * 64 := by rw [show B + 6 * (k + 1) = (B + 6 * k) + 6 by omega, Nat.pow_add]
  have h3 : 2 ^ B ≤ 2 ^ (B + 6 * k) := Nat.pow_le_pow_right (by decide) (by omega)
  rw [e]
  omega
def drawB : Cs := (sSeq (sSet 2 (cBin modD (cBin addD (cBin addD (cBin addD (cBin mulD (cVar 2) (cC (.int 1000003))) (cBin mulD (cC (.int 2)) (cBi absD (cCons (cVar 3) (cNil))))) (cBi intD (cCons (cBin ltD (cVar 3) (cC (.int 0))) (cNil)))) (cC (.int 17))) (cC (.int 2305843009213693951))))
    (sIf (cB (cBin geD (cBi absD (cCons (cVar 3) (cNil))) (cBin powD (cC (.int 10)) (cC (.int 18))))) (sSet 1 (cBin addD (cBin mulD (cVar 1) (cC (.int 19))) (cBi absD (cCons (cVar 3) (cNil))))) (sNext)))
theorem draw_turn {s : D} {g x z : Int} {m : M} {k B : Nat} (hg : 0 ≤ g) (hg2 : g.natAbs < 2 ^ (B + 6 * k)) (hx : 0 ≤ x) (hx2 : x < 2305843009213693951) (hz : z.natAbs < 2 ^ B) (hB : B ≤ 2000000) (hk : k ≤ 63) :
    ∃ g' x' : Int, drawB [some s, some (.int g), some (.int x), some (.int z)] m = some (.nx [some s, some (.int g'), some (.int x'), some (.int z)], m) ∧ 0 ≤ g' ∧ g'.natAbs < 2 ^ (B + 6 * (k + 1)) ∧ 0 ≤ x' ∧ x' < 2305843009213693951 := by
  have b1 : bigM x 1000003 = true := bigM_of (a := 64) (b := 64) (by omega) (by decide) (by decide)
  have b2 : bigM 2 (z.natAbs : Int) = true := bigM_of (a := 64) (b := B) (by decide) (by simpa using hz) (by omega)
  have b3 : bigM g 19 = true := bigM_of (a := B + 6 * k) (b := 64) hg2 (by decide) (by omega)
  have gr := grow_bits hg2 hz
  have p18 : (10 : Int).natAbs < 2 ^ 64 := by decide
  have two : (2 : Nat) ^ (B + 6 * k) ≤ 2 ^ (B + 6 * (k + 1)) := Nat.pow_le_pow_right (by decide) (by omega)
  by_cases hc : 1000000000000000000 ≤ (z.natAbs : Int)
  · refine ⟨g * 19 + (z.natAbs : Int), (x * 1000003 + 2 * (z.natAbs : Int) + (if decide (z < 0) = true then 1 else 0) + 17) % 2305843009213693951, ?_, by omega, ?_, Int.emod_nonneg _ (by omega), Int.emod_lt_of_pos _ (by omega)⟩
    · have hc' : 10 ^ (18 : Int).toNat ≤ (z.natAbs : Int) := by simpa using hc
      unfold drawB
      simp only [sSeq, sSet, sIf, sNext, cBin, cBi, cVar, cC, cB, cCons, cNil, asB, bind_ok, lift_ok, List.getElem?_cons_zero, List.getElem?_cons_succ, List.set_cons_zero, List.set_cons_succ, addD, mulD, modD, absD, intD, ltD, geD, powD, iiD, abs_eq, b1, b2, b3, if_true, p18, Int.reduceLT, Int.reduceLE, and_self, true_and, hc', decide_true]
    · have e : (g * 19 + (z.natAbs : Int)).natAbs = g.natAbs * 19 + z.natAbs := by omega
      rw [e]
      exact gr
  · refine ⟨g, (x * 1000003 + 2 * (z.natAbs : Int) + (if decide (z < 0) = true then 1 else 0) + 17) % 2305843009213693951, ?_, hg, by omega, Int.emod_nonneg _ (by omega), Int.emod_lt_of_pos _ (by omega)⟩
    have hc' : ¬ 10 ^ (18 : Int).toNat ≤ (z.natAbs : Int) := by simpa using hc
    unfold drawB
    simp only [sSeq, sSet, sIf, sNext, cBin, cBi, cVar, cC, cB, cCons, cNil, asB, bind_ok, lift_ok, List.getElem?_cons_zero, List.getElem?_cons_succ, List.set_cons_zero, List.set_cons_succ, addD, mulD, modD, absD, intD, ltD, geD, powD, iiD, abs_eq, b1, b2, b3, if_true, p18, Int.reduceLT, Int.reduceLE, and_self, true_and, hc', decide_false, Bool.false_eq_true, if_false]
theorem draws_ok {m : M} {ns : List Int} {B : Nat} (hl : ns.length ≤ 63) (hb : ∀ z ∈ ns, z.natAbs < 2 ^ B) (hB : B ≤ 2000000) : ∃ j m', fnB 4 drawsC [.fl (ns.map D.int)] m = ok (.ref j) m' ∧ m <+: m' ∧ Dr m' j 0 := by
  obtain ⟨zs, hz, hzl, hzb⟩ : ∃ zs : List Int, cutD (ns.map D.int) none (some 60) = zs.map D.int ∧ zs.length ≤ 63 ∧ ∀ z ∈ zs, z.natAbs < 2 ^ B := by
    unfold cutD
    rw [← List.map_drop, ← List.map_take]
    refine ⟨_, rfl, ?_, fun z h => hb z (List.mem_of_mem_drop (List.mem_of_mem_take h))⟩
    rw [List.length_take, List.length_drop]
    omega
  have mx : ∀ j : Nat, (m ++ [O.lst (zs.map D.int)])[m.length]? = some (O.lst (zs.map D.int)) := fun _ => st_0
  have b0 : bigM 31 (ns.length : Int) = true := bigM_of (a := 64) (b := 64) (by decide) (by omega) (by decide)
  obtain ⟨ρ', m', q1, q2⟩ := for_ind (w := wkRef m.length) (t := .nm 3) (b := drawB) (fun i ρ m' => m' = m ++ [O.lst (zs.map D.int)] ∧ ∃ (g x : Int) (v : Option D), ρ = [some (.fl (ns.map D.int)), some (.int g), some (.int x), v] ∧ 0 ≤ g ∧ g.natAbs < 2 ^ (B + 6 * i) ∧ 0 ≤ x ∧ x < 2305843009213693951)
    zs.length (fun i ρ m' hi hp => by
      obtain ⟨rfl, g, x, v, rfl, h1, h2, h3, h4⟩ := hp
      obtain ⟨g', x', e1, e2, e3, e4, e5⟩ := draw_turn (s := .fl (ns.map D.int)) (m := m ++ [O.lst (zs.map D.int)]) h1 h2 h3 h4 (hzb zs[i] (List.getElem_mem hi)) hB (by omega)
      refine ⟨.int zs[i], _, _, _, ?_, rfl, .inl e1, rfl, g', x', _, rfl, e2, e3, e4, e5⟩
      rw [wkRef_at (mx 0), List.getElem?_map, List.getElem?_eq_getElem hi]
      rfl)
    (fun ρ m' hp => by
      obtain ⟨rfl, _⟩ := hp
      rw [wkRef_at (mx 0), List.getElem?_map, List.getElem?_eq_none (Nat.le_refl _)]
      rfl) fuel 0 [some (.fl (ns.map D.int)), some (.int 0), some (.int (2901 + 31 * (ns.length : Int))), none] (m ++ [O.lst (zs.map D.int)]) (Nat.zero_le _) (by unfold fuel; omega)
    ⟨rfl, 0, _, none, rfl, by omega, by simpa using Nat.pow_pos (by decide), by omega, by omega⟩
  obtain ⟨rfl, g, x, v, rfl, h1, h2, h3, h4⟩ := q2
  refine ⟨m.length + 1, (m ++ [O.lst (zs.map D.int)]) ++ [.lst [.int g, .int x, .int 0]], ?_, ⟨[O.lst (zs.map D.int), .lst [.int g, .int x, .int 0]], by simp⟩, g, x, 0, by simp, h1, h3, h4, by omega, by omega⟩
  have dB : drawB = (sSeq (sSet 2 (cBin modD (cBin addD (cBin addD (cBin addD (cBin mulD (cVar 2) (cC (.int 1000003))) (cBin mulD (cC (.int 2)) (cBi absD (cCons (cVar 3) (cNil))))) (cBi intD (cCons (cBin ltD (cVar 3) (cC (.int 0))) (cNil)))) (cC (.int 17))) (cC (.int 2305843009213693951))))
    (sIf (cB (cBin geD (cBi absD (cCons (cVar 3) (cNil))) (cBin powD (cC (.int 10)) (cC (.int 18))))) (sSet 1 (cBin addD (cBin mulD (cVar 1) (cC (.int 19))) (cBi absD (cCons (cVar 3) (cNil))))) (sNext))) := rfl
  unfold fnB drawsC ent
  rw [← dB]
  simp only [sSeq, sPar, sFor, sRet, cBin, cBi, cVar, cC, cCons, cNil, cWk, cSl, cNoP, cPart, slD, hz, wkD_ref (mx 0), bind_ok, lift_ok, List.map, List.length, List.replicate, List.cons_append, List.nil_append, List.getElem?_cons_zero, List.getElem?_cons_succ, List.set_cons_zero, List.set_cons_succ, addD, mulD, lenD, seqD, List.length_map, b0, if_true, Nat.reduceSub, Nat.reduceAdd, q1, cLst, lim, List.length_cons, List.length_nil, Nat.reduceLeDiff, fnR, List.length_append, Nat.zero_add]
end Sx

set_option Elab.async false
set_option linter.all false
set_option maxRecDepth 100000
set_option maxHeartbeats 2000000
/-! Sx16: the plain side: data within stores, texts of data, comparisons. -/
namespace Sx
open PySem PySem.Spec L2

section
variable {f g : Nat → Option PyData} (h : ∀ i p, f i = some p → g i = some p)
include h
mutual
theorem pyD_mono : ∀ (d : D) {p : PyData}, pyD f d = some p → pyD g d = some p
  | .non, _, e => e
  | .bl _, _, e => e
  | .int _, _, e => e
  | .str _, _, e => e
  | .tup xs, p, e => by
    unfold pyD at e ⊢
    obtain ⟨ps, e1, e2⟩ := Option.map_eq_some_iff.mp e
    rw [pyDs_mono xs e1]
    exact congrArg some e2
  | .kt xs, p, e => by
    unfold pyD at e ⊢
    obtain ⟨ps, e1, e2⟩ := Option.map_eq_some_iff.mp e
    rw [pyDs_mono xs e1]
    exact congrArg some e2
  | .fl xs, p, e => by
    unfold pyD at e ⊢
    obtain ⟨ps, e1, e2⟩ := Option.map_eq_some_iff.mp e
    rw [pyDs_mono xs e1]
    exact congrArg some e2
  | .ref i, p, e => h i p e
  | .gl _, _, e => by cases e
  | .exc _ _ _, _, e => by cases e
theorem pyDs_mono : ∀ (ds : List D) {ps : List PyData}, pyDs f ds = some ps → pyDs g ds = some ps
  | [], _, e => e
  | d :: ds, ps, e => by
    unfold pyDs at e ⊢
    cases e1 : pyD f d with
    | none => rw [e1] at e; cases e
    | some p =>
      rw [e1] at e
      dsimp only at e
      cases e2 : pyDs f ds with
      | none => rw [e2] at e; cases e
      | some qs =>
        rw [e2] at e
        rw [pyD_mono d e1, pyDs_mono ds e2]
        exact e
end
theorem pyKv_mono : ∀ (kvs : List (Key × D)) {ps : List (PyData × PyData)}, pyKv f kvs = some ps → pyKv g kvs = some ps
  | [], _, e => e
  | (k, d) :: r, ps, e => by
    unfold pyKv at e ⊢
    cases e1 : pyD f d with
    | none => rw [e1] at e; cases e
    | some p =>
      rw [e1] at e
      dsimp only at e
      cases e2 : pyKv f r with
      | none => rw [e2] at e; cases e
      | some qs =>
        rw [e2] at e
        rw [pyD_mono h d e1, pyKv_mono r e2]
        exact e
end
theorem lstR_mono {m m' : M} (k : ∀ (i : Nat) (o : O), m[i]? = some o → m'[i]? = some o) : ∀ (n i : Nat) (p : PyData), lstR m n i = some p → lstR m' n i = some p
  | 0, _, _, e => by cases e
  | n + 1, i, p, e => by
    unfold lstR at e ⊢
    cases ho : m[i]? with
    | none => rw [ho] at e; cases e
    | some o =>
      rw [k i o ho]
      rw [ho] at e
      cases o with
      | lst xs =>
        obtain ⟨ps, e1, e2⟩ := Option.map_eq_some_iff.mp e
        exact Option.map_eq_some_iff.mpr ⟨ps, pyDs_mono (lstR_mono k n) xs e1, e2⟩
      | dct kvs =>
        obtain ⟨ps, e1, e2⟩ := Option.map_eq_some_iff.mp e
        exact Option.map_eq_some_iff.mpr ⟨ps, pyKv_mono (lstR_mono k n) kvs e1, e2⟩
      | _ => cases e
theorem lstR_pre {m m' : M} (p : m <+: m') {n i : Nat} {q : PyData} (e : lstR m n i = some q) : lstR m' n i = some q := lstR_mono (fun _ _ h => pre_at p h) n i q e
theorem lstP_mono {m m' : M} (k : ∀ (i : Nat) (o : O), m[i]? = some o → m'[i]? = some o) : ∀ (n i : Nat) (p : PyData), lstP m n i = some p → lstP m' n i = some p
  | 0, _, _, e => by cases e
  | n + 1, i, p, e => by
    unfold lstP at e ⊢
    cases ho : m[i]? with
    | none => rw [ho] at e; cases e
    | some o =>
      rw [k i o ho]
      rw [ho] at e
      cases o with
      | lst xs =>
        obtain ⟨ps, e1, e2⟩ := Option.map_eq_some_iff.mp e
        exact Option.map_eq_some_iff.mpr ⟨ps, pyDs_mono (lstP_mono k n) xs e1, e2⟩
      | _ => cases e

/-! ### the text of a list -/
theorem textFrom_le (b : Nat) : ∀ (ts : List Str) (k : Nat) (acc : Str), (∀ t ∈ ts, t.length ≤ b) → (textFrom k acc ts).length ≤ acc.length + ts.length * (b + 2)
  | [], k, acc, _ => Nat.le_add_right _ _
  | t :: r, k, acc, h => by
    have h1 := textFrom_le b r (k + 1) (acc ++ (if k > 0 then ", " else "" : String) ++ t) fun x hx => h x (List.mem_cons_of_mem _ hx)
    have e : (acc ++ (if k > 0 then ", " else "" : String) ++ t).length = acc.length + (if k > 0 then 2 else 0) + t.length := by
      rw [strLen_append, strLen_append]
      split <;> rfl
    rw [e] at h1
    have h2 := h t List.mem_cons_self
    have h3 : (t :: r).length * (b + 2) = r.length * (b + 2) + (b + 2) := by rw [List.length_cons, Nat.succ_mul]
    show (textFrom (k + 1) _ r).length ≤ _
    rw [h3]
    have h4 : (if k > 0 then 2 else 0) ≤ 2 := by split <;> omega
    generalize (if k > 0 then 2 else 0) = z at h1 h4
    omega
/-- small data -/
structure SmP (p : PyData) : Prop where
  sh : p.showable = true
  dp : p.depth ≤ 100
  ln : p.shown.length ≤ 1000
theorem shAll : ∀ {ps : List PyData}, (∀ p ∈ ps, SmP p) → PyData.showableAll ps = true ∧ PyData.depthAll ps ≤ 100 ∧ ∀ t ∈ PyData.shownAll ps, t.length ≤ 1000
  | [], _ => ⟨rfl, Nat.zero_le _, fun _ h => nomatch h⟩
  | p :: ps, h => by
    obtain ⟨h1, h2, h3⟩ := shAll (ps := ps) fun q hq => h q (List.mem_cons_of_mem _ hq)
    have hp := h p List.mem_cons_self
    refine ⟨?_, ?_, fun t ht => ?_⟩
    · show (p.showable && PyData.showableAll ps) = true
      rw [hp.sh, h1]
      rfl
    · show max p.depth (PyData.depthAll ps) ≤ 100
      exact Nat.max_le.mpr ⟨hp.dp, h2⟩
    · rcases List.mem_cons.mp (show t ∈ p.shown :: PyData.shownAll ps from ht) with e | e
      · rw [e]; exact hp.ln
      · exact h3 t e
theorem shownAll_len : ∀ ps : List PyData, (PyData.shownAll ps).length = ps.length
  | [] => rfl
  | _ :: ps => congrArg (· + 1) (shownAll_len ps)
theorem repr_lst {m : M} {j : Nat} {xs : List D} {ps : List PyData} (h : m[j]? = some (.lst xs)) (e : pyDs (lstR m 7) xs = some ps) (hs : ∀ p ∈ ps, SmP p) (hl : ps.length ≤ 900) : reprD [.ref j] m = ok (.str (PyData.list ps).shown) m := by
  have e1 : toPyR m (.ref j) = some (.list ps) := by
    show lstR m (7 + 1) j = _
    unfold lstR
    rw [h]
    dsimp only
    rw [e]
    rfl
  obtain ⟨h1, h2, h3⟩ := shAll hs
  have e2 : shOk (.list ps) = true := by
    unfold shOk
    have a1 : (PyData.list ps).showable = true := h1
    have a2 : (PyData.list ps).depth ≤ 150 := by show PyData.depthAll ps + 1 ≤ 150; omega
    have a3 : (PyData.list ps).shown.length ≤ lim := by
      show (listText (PyData.shownAll ps)).length ≤ lim
      unfold listText
      rw [strLen_append]
      have := textFrom_le 1000 (PyData.shownAll ps) 0 "[" h3
      rw [shownAll_len] at this
      have l1 : (("[" : Str)).length = 1 := rfl
      have l2 : (("]" : Str)).length = 1 := rfl
      have : ps.length * 1002 ≤ 900 * 1002 := Nat.mul_le_mul_right _ hl
      unfold lim
      omega
    rw [a1, decide_eq_true a2, decide_eq_true a3]
    rfl
  unfold reprD
  dsimp only
  rw [e1]
  dsimp only
  rw [e2]
  rfl
/-! ### comparisons -/
theorem eq_same {m : M} {d e : D} {p : PyData} (h1 : toPy m d = some p) (h2 : toPy m e = some p) (hp : okP p = true) (hd : heapD d = true) : eqB d e m = some true := by
  have g : eqG d e m = some true := by
    unfold eqG
    rw [h1, h2]
    dsimp only
    rw [hp]
    have c : p.canLay0 = true := by
      unfold okP at hp
      exact (Bool.and_eq_true_iff.mp hp).1
    rw [PySem.SeqAt.eqv_refl p c]
    rfl
  cases d with
  | tup _ => exact g
  | kt _ => exact g
  | fl _ => exact g
  | ref _ => exact g
  | _ => cases hd
end Sx

set_option Elab.async false
set_option linter.all false
set_option maxRecDepth 100000
set_option maxHeartbeats 4000000
namespace Sx.K84
open PySem PySem.Spec PyProof.Rows L2
def top (i : Nat) : Stmt := PySem.Challenge.pw_shapelang_k84_errors_and_bounds.main.body.getD i (.Pass ⟨0, 0, 0, 0⟩)
def anc : List (List Nat) := [[0, 40], [1, 0, 40], [2, 0, 40], [3, 0, 40], [4, 0, 40], [5, 0, 40], [6, 0, 40], [7, 0, 40], [8, 0, 40], [9, 0, 40], [10, 0, 40], [11, 0, 40], [12, 0, 40], [13, 0, 40], [14, 0, 40], [15, 0, 40], [16, 0, 40], [17, 0, 40], [18, 0, 40], [19, 0, 40], [20, 0, 40], [21, 0, 40], [22, 0, 40], [23, 0, 40], [24, 0, 40], [25, 0, 40], [26, 0, 40], [27, 0, 40], [28, 0, 40], [29, 0, 40], [30, 0, 40], [31, 0, 40], [32, 39], [33, 39], [34, 39], [35, 39], [36, 39], [37, 39], [38, 39]]
def isi : Nat → Nat → Option Bool := fun c i => match anc[c]? with
  | some l => if i < 41 then some (l.contains i) else none
  | none => none
def okf_error : Nat → Bool := fun c => [16, 17, 20, 29].contains c
def okf_form : Nat → Bool := fun c => [10].contains c
def okf_index : Nat → Bool := fun c => [8, 19, 22, 26, 27, 31, 34].contains c
def okf_limit : Nat → Bool := fun c => [5, 6].contains c
def okf_name : Nat → Bool := fun c => [33].contains c
def okf_number : Nat → Bool := fun c => [15, 35].contains c
def okf_outline : Nat → Bool := fun c => [30].contains c
def okf_place : Nat → Bool := fun c => [30].contains c
def okf_places : Nat → Bool := fun c => [7].contains c
def okf_size : Nat → Bool := fun c => [11].contains c
def okf_spot : Nat → Bool := fun c => [18].contains c
def okf_value : Nat → Bool := fun c => [1, 2, 9, 12, 14, 32, 36, 38].contains c
def okf_verdict : Nat → Bool := fun c => [22].contains c
def okf_word : Nat → Bool := fun c => [21, 30, 37].contains c
/-- _law_draws -/
def b_0 (F : Nat → List D → M → R D) : Cs :=
    sSeq (sPar 1 2 (cCons (cC (.int 0)) (cCons (cBin addD (cC (.int 2901)) (cBin mulD (cC (.int 31)) (cBi lenD (cCons (cVar 0) (cNil))))) (cNil))))
    (sSeq (sFor fuel (cWk (cSl (cVar 0) (cNoP) (cPart (cC (.int 60))))) (.nm 3) (sSeq (sSet 2 (cBin modD (cBin addD (cBin addD (cBin addD (cBin mulD (cVar 2) (cC (.int 1000003))) (cBin mulD (cC (.int 2)) (cBi absD (cCons (cVar 3) (cNil))))) (cBi intD (cCons (cBin ltD (cVar 3) (cC (.int 0))) (cNil)))) (cC (.int 17))) (cC (.int 2305843009213693951))))
    (sIf (cB (cBin geD (cBi absD (cCons (cVar 3) (cNil))) (cBin powD (cC (.int 10)) (cC (.int 18))))) (sSet 1 (cBin addD (cBin mulD (cVar 1) (cC (.int 19))) (cBi absD (cCons (cVar 3) (cNil))))) (sNext))))
    (sRet (cLst (cCons (cVar 1) (cCons (cVar 2) (cCons (cC (.int 0)) (cNil)))))))
/-- _law_next -/
def b_1 (F : Nat → List D → M → R D) : Cs :=
    sSeq (sIf (cB (cBin gtD (cBin ixD (cVar 0) (cC (.int 0))) (cC (.int 0)))) (sSeq (sSet 2 (cBin modD (cBin ixD (cVar 0) (cC (.int 0))) (cVar 1)))
    (sSeq (sSub (cBin divD (cBin ixD (cVar 0) (cC (.int 0))) (cVar 1)) (cVar 0) (cC (.int 0)))
    (sRet (cVar 2)))) (sNext))
    (sSeq (sSub (cBin addD (cBin ixD (cVar 0) (cC (.int 2))) (cC (.int 1))) (cVar 0) (cC (.int 2)))
    (sSeq (sSet 3 (cBin modD (cBin addD (cBin ixD (cVar 0) (cC (.int 1))) (cBin mulD (cC (.int 11400714819323198485)) (cBin ixD (cVar 0) (cC (.int 2))))) (cC (.int 18446744073709551557))))
    (sSeq (sSet 3 (cBin modD (cBin mulD (cVar 3) (cBin addD (cBin modD (cVar 3) (cC (.int 4294967291))) (cC (.int 5)))) (cC (.int 2305843009213693951))))
    (sRet (cBin modD (cBin divD (cBin modD (cBin mulD (cVar 3) (cVar 3)) (cC (.int 2305843009213693921))) (cC (.int 2048))) (cVar 1))))))
/-- _law_one -/
def b_2 (F : Nat → List D → M → R D) : Cs :=
    sRet (cBin ixD (cVar 1) (cCall 2 (F 1) (cCons (cVar 0) (cCons (cBi lenD (cCons (cVar 1) (cNil))) (cNil)))))
/-- _law_errors -/
def b_3 (F : Nat → List D → M → R D) : Cs :=
    sSeq (sSet 3 (cLst (cCons (cMkE 1 ["value"] (cCons (cVar 0) (cNil))) (cCons (cMkE 2 ["value"] (cCons (cVar 0) (cNil))) (cCons ((fun _ m => ok (.exc 3 [] []) m)) (cCons ((fun _ m => ok (.exc 4 [] []) m)) (cCons (cMkE 5 ["limit"] (cCons (cVar 0) (cNil))) (cCons (cMkE 6 ["limit"] (cCons (cVar 0) (cNil))) (cNil)))))))))
    (sSeq (sSet 3 (cBin addD (cVar 3) (cLst (cCons (cMkE 7 ["places"] (cCons (cVar 0) (cNil))) (cCons (cMkE 8 ["index"] (cCons (cVar 0) (cNil))) (cCons (cMkE 9 ["value"] (cCons (cVar 0) (cNil))) (cCons (cMkE 10 ["form"] (cCons (cVar 0) (cNil))) (cCons (cMkE 11 ["size"] (cCons (cVar 0) (cNil))) (cCons (cMkE 12 ["value"] (cCons (cVar 0) (cNil))) (cNil))))))))))
    (sSeq (sSet 3 (cBin addD (cVar 3) (cLst (cCons ((fun _ m => ok (.exc 13 [] []) m)) (cCons (cMkE 14 ["value"] (cCons (cVar 0) (cNil))) (cCons (cMkE 15 ["number"] (cCons (cVar 0) (cNil))) (cCons (cMkE 16 ["error"] (cCons (cVar 0) (cNil))) (cCons (cMkE 17 ["error"] (cCons (cVar 0) (cNil))) (cCons (cMkE 18 ["spot"] (cCons (cVar 0) (cNil))) (cCons (cMkE 19 ["index"] (cCons (cVar 0) (cNil))) (cNil)))))))))))
    (sSeq (sSet 3 (cBin addD (cVar 3) (cLst (cCons (cMkE 20 ["error"] (cCons (cVar 0) (cNil))) (cCons (cMkE 21 ["word"] (cCons (cVar 0) (cNil))) (cCons (cMkE 22 ["index", "verdict"] (cCons (cVar 0) (cCons (cVar 1) (cNil)))) (cCons ((fun _ m => ok (.exc 23 [] []) m)) (cCons ((fun _ m => ok (.exc 24 [] []) m)) (cCons ((fun _ m => ok (.exc 25 [] []) m)) (cNil))))))))))
    (sSeq (sSet 3 (cBin addD (cVar 3) (cLst (cCons (cMkE 26 ["index"] (cCons (cVar 0) (cNil))) (cCons (cMkE 27 ["index"] (cCons (cVar 0) (cNil))) (cCons ((fun _ m => ok (.exc 28 [] []) m)) (cCons (cMkE 29 ["error"] (cCons (cVar 0) (cNil))) (cCons (cMkE 30 ["word", "place", "outline"] (cCons (cVar 0) (cCons (cVar 1) (cCons (cVar 2) (cNil))))) (cNil)))))))))
    (sSeq (sSet 3 (cBin addD (cVar 3) (cLst (cCons (cMkE 31 ["index"] (cCons (cVar 0) (cNil))) (cCons (cMkE 32 ["value"] (cCons (cVar 0) (cNil))) (cCons (cMkE 33 ["name"] (cCons (cVar 0) (cNil))) (cCons (cMkE 34 ["index"] (cCons (cVar 0) (cNil))) (cCons (cMkE 35 ["number"] (cCons (cVar 0) (cNil))) (cCons (cMkE 36 ["value"] (cCons (cVar 0) (cNil))) (cNil))))))))))
    (sSeq (sSet 3 (cBin addD (cVar 3) (cLst (cCons (cMkE 37 ["word"] (cCons (cVar 0) (cNil))) (cCons (cMkE 38 ["value"] (cCons (cVar 0) (cNil))) (cNil))))))
    (sRet (cVar 3))))))))
/-- _law_flags -/
def b_4 (F : Nat → List D → M → R D) : Cs :=
    sSeq (sSet 1 (cLst (cCons (cBi (isiE isi) (cCons (cVar 0) (cCons ((fun _ m => ok (.gl 1) m)) (cNil)))) (cCons (cBi (isiE isi) (cCons (cVar 0) (cCons ((fun _ m => ok (.gl 2) m)) (cNil)))) (cCons (cBi (isiE isi) (cCons (cVar 0) (cCons ((fun _ m => ok (.gl 3) m)) (cNil)))) (cNil))))))
    (sSeq (sSet 1 (cBin addD (cVar 1) (cLst (cCons (cBi (isiE isi) (cCons (cVar 0) (cCons ((fun _ m => ok (.gl 4) m)) (cNil)))) (cCons (cBi (isiE isi) (cCons (cVar 0) (cCons ((fun _ m => ok (.gl 5) m)) (cNil)))) (cCons (cBi (isiE isi) (cCons (cVar 0) (cCons ((fun _ m => ok (.gl 6) m)) (cNil)))) (cNil)))))))
    (sSeq (sSet 1 (cBin addD (cVar 1) (cLst (cCons (cBi (isiE isi) (cCons (cVar 0) (cCons ((fun _ m => ok (.gl 7) m)) (cNil)))) (cCons (cBi (isiE isi) (cCons (cVar 0) (cCons ((fun _ m => ok (.gl 8) m)) (cNil)))) (cCons (cBi (isiE isi) (cCons (cVar 0) (cCons ((fun _ m => ok (.gl 9) m)) (cNil)))) (cNil)))))))
    (sSeq (sSet 1 (cBin addD (cVar 1) (cLst (cCons (cBi (isiE isi) (cCons (cVar 0) (cCons ((fun _ m => ok (.gl 10) m)) (cNil)))) (cCons (cBi (isiE isi) (cCons (cVar 0) (cCons ((fun _ m => ok (.gl 11) m)) (cNil)))) (cCons (cBi (isiE isi) (cCons (cVar 0) (cCons ((fun _ m => ok (.gl 12) m)) (cNil)))) (cNil)))))))
    (sSeq (sSet 1 (cBin addD (cVar 1) (cLst (cCons (cBi (isiE isi) (cCons (cVar 0) (cCons ((fun _ m => ok (.gl 13) m)) (cNil)))) (cCons (cBi (isiE isi) (cCons (cVar 0) (cCons ((fun _ m => ok (.gl 14) m)) (cNil)))) (cCons (cBi (isiE isi) (cCons (cVar 0) (cCons ((fun _ m => ok (.gl 15) m)) (cNil)))) (cCons (cBi (isiE isi) (cCons (cVar 0) (cCons ((fun _ m => ok (.gl 16) m)) (cNil)))) (cNil))))))))
    (sSeq (sSet 1 (cBin addD (cVar 1) (cLst (cCons (cBi (isiE isi) (cCons (cVar 0) (cCons ((fun _ m => ok (.gl 17) m)) (cNil)))) (cCons (cBi (isiE isi) (cCons (cVar 0) (cCons ((fun _ m => ok (.gl 18) m)) (cNil)))) (cCons (cBi (isiE isi) (cCons (cVar 0) (cCons ((fun _ m => ok (.gl 19) m)) (cNil)))) (cNil)))))))
    (sSeq (sSet 1 (cBin addD (cVar 1) (cLst (cCons (cBi (isiE isi) (cCons (cVar 0) (cCons ((fun _ m => ok (.gl 20) m)) (cNil)))) (cCons (cBi (isiE isi) (cCons (cVar 0) (cCons ((fun _ m => ok (.gl 21) m)) (cNil)))) (cCons (cBi (isiE isi) (cCons (cVar 0) (cCons ((fun _ m => ok (.gl 22) m)) (cNil)))) (cNil)))))))
    (sSeq (sSet 1 (cBin addD (cVar 1) (cLst (cCons (cBi (isiE isi) (cCons (cVar 0) (cCons ((fun _ m => ok (.gl 23) m)) (cNil)))) (cCons (cBi (isiE isi) (cCons (cVar 0) (cCons ((fun _ m => ok (.gl 24) m)) (cNil)))) (cCons (cBi (isiE isi) (cCons (cVar 0) (cCons ((fun _ m => ok (.gl 25) m)) (cNil)))) (cNil)))))))
    (sSeq (sSet 1 (cBin addD (cVar 1) (cLst (cCons (cBi (isiE isi) (cCons (cVar 0) (cCons ((fun _ m => ok (.gl 26) m)) (cNil)))) (cCons (cBi (isiE isi) (cCons (cVar 0) (cCons ((fun _ m => ok (.gl 27) m)) (cNil)))) (cCons (cBi (isiE isi) (cCons (cVar 0) (cCons ((fun _ m => ok (.gl 28) m)) (cNil)))) (cNil)))))))
    (sSeq (sSet 1 (cBin addD (cVar 1) (cLst (cCons (cBi (isiE isi) (cCons (cVar 0) (cCons ((fun _ m => ok (.gl 29) m)) (cNil)))) (cCons (cBi (isiE isi) (cCons (cVar 0) (cCons ((fun _ m => ok (.gl 30) m)) (cNil)))) (cCons (cBi (isiE isi) (cCons (cVar 0) (cCons ((fun _ m => ok (.gl 31) m)) (cNil)))) (cNil)))))))
    (sSeq (sSet 1 (cBin addD (cVar 1) (cLst (cCons (cBi (isiE isi) (cCons (cVar 0) (cCons ((fun _ m => ok (.gl 32) m)) (cNil)))) (cCons (cBi (isiE isi) (cCons (cVar 0) (cCons ((fun _ m => ok (.gl 33) m)) (cNil)))) (cCons (cBi (isiE isi) (cCons (cVar 0) (cCons ((fun _ m => ok (.gl 34) m)) (cNil)))) (cCons (cBi (isiE isi) (cCons (cVar 0) (cCons ((fun _ m => ok (.gl 35) m)) (cNil)))) (cNil))))))))
    (sSeq (sSet 1 (cBin addD (cVar 1) (cLst (cCons (cBi (isiE isi) (cCons (cVar 0) (cCons ((fun _ m => ok (.gl 36) m)) (cNil)))) (cCons (cBi (isiE isi) (cCons (cVar 0) (cCons ((fun _ m => ok (.gl 37) m)) (cNil)))) (cCons (cBi (isiE isi) (cCons (cVar 0) (cCons ((fun _ m => ok (.gl 38) m)) (cNil)))) (cNil)))))))
    (sRet (cVar 1)))))))))))))
/-- _law_fields -/
def b_5 (F : Nat → List D → M → R D) : Cs :=
    sSeq (sSet 1 (cLst (cCons (cFldE okf_value "value" (cMkE 1 ["value"] (cCons (cVar 0) (cNil)))) (cCons (cFldE okf_value "value" (cMkE 2 ["value"] (cCons (cVar 0) (cNil)))) (cCons (cFldE okf_limit "limit" (cMkE 5 ["limit"] (cCons (cVar 0) (cNil)))) (cCons (cFldE okf_limit "limit" (cMkE 6 ["limit"] (cCons (cVar 0) (cNil)))) (cNil)))))))
    (sSeq (sSet 1 (cBin addD (cVar 1) (cLst (cCons (cFldE okf_places "places" (cMkE 7 ["places"] (cCons (cVar 0) (cNil)))) (cCons (cFldE okf_index "index" (cMkE 8 ["index"] (cCons (cVar 0) (cNil)))) (cCons (cFldE okf_value "value" (cMkE 9 ["value"] (cCons (cVar 0) (cNil)))) (cCons (cFldE okf_form "form" (cMkE 10 ["form"] (cCons (cVar 0) (cNil)))) (cNil))))))))
    (sSeq (sSet 1 (cBin addD (cVar 1) (cLst (cCons (cFldE okf_size "size" (cMkE 11 ["size"] (cCons (cVar 0) (cNil)))) (cCons (cFldE okf_value "value" (cMkE 12 ["value"] (cCons (cVar 0) (cNil)))) (cCons (cFldE okf_value "value" (cMkE 14 ["value"] (cCons (cVar 0) (cNil)))) (cCons (cFldE okf_number "number" (cMkE 15 ["number"] (cCons (cVar 0) (cNil)))) (cNil))))))))
    (sSeq (sSet 1 (cBin addD (cVar 1) (cLst (cCons (cFldE okf_error "error" (cMkE 16 ["error"] (cCons (cVar 0) (cNil)))) (cCons (cFldE okf_error "error" (cMkE 17 ["error"] (cCons (cVar 0) (cNil)))) (cCons (cFldE okf_spot "spot" (cMkE 18 ["spot"] (cCons (cVar 0) (cNil)))) (cCons (cFldE okf_index "index" (cMkE 19 ["index"] (cCons (cVar 0) (cNil)))) (cNil))))))))
    (sSeq (sSet 1 (cBin addD (cVar 1) (cLst (cCons (cFldE okf_error "error" (cMkE 20 ["error"] (cCons (cVar 0) (cNil)))) (cCons (cFldE okf_word "word" (cMkE 21 ["word"] (cCons (cVar 0) (cNil)))) (cCons (cFldE okf_index "index" (cMkE 26 ["index"] (cCons (cVar 0) (cNil)))) (cCons (cFldE okf_index "index" (cMkE 27 ["index"] (cCons (cVar 0) (cNil)))) (cNil))))))))
    (sSeq (sSet 1 (cBin addD (cVar 1) (cLst (cCons (cFldE okf_error "error" (cMkE 29 ["error"] (cCons (cVar 0) (cNil)))) (cCons (cFldE okf_index "index" (cMkE 31 ["index"] (cCons (cVar 0) (cNil)))) (cCons (cFldE okf_value "value" (cMkE 32 ["value"] (cCons (cVar 0) (cNil)))) (cCons (cFldE okf_name "name" (cMkE 33 ["name"] (cCons (cVar 0) (cNil)))) (cNil))))))))
    (sSeq (sSet 1 (cBin addD (cVar 1) (cLst (cCons (cFldE okf_index "index" (cMkE 34 ["index"] (cCons (cVar 0) (cNil)))) (cCons (cFldE okf_number "number" (cMkE 35 ["number"] (cCons (cVar 0) (cNil)))) (cCons (cFldE okf_value "value" (cMkE 36 ["value"] (cCons (cVar 0) (cNil)))) (cCons (cFldE okf_word "word" (cMkE 37 ["word"] (cCons (cVar 0) (cNil)))) (cNil))))))))
    (sSeq (sSet 1 (cBin addD (cVar 1) (cLst (cCons (cFldE okf_value "value" (cMkE 38 ["value"] (cCons (cVar 0) (cNil)))) (cNil)))))
    (sRet (cVar 1)))))))))
/-- _law_more_fields -/
def b_6 (F : Nat → List D → M → R D) : Cs :=
    sSeq (sPar 3 4 (cCons (cMkE 22 ["index", "verdict"] (cCons (cVar 0) (cCons (cVar 1) (cNil)))) (cCons (cMkE 30 ["word", "place", "outline"] (cCons (cVar 0) (cCons (cVar 1) (cCons (cVar 2) (cNil))))) (cNil))))
    (sRet (cLst (cCons (cFldE okf_index "index" (cVar 3)) (cCons (cFldE okf_verdict "verdict" (cVar 3)) (cCons (cFldE okf_word "word" (cVar 4)) (cCons (cFldE okf_place "place" (cVar 4)) (cCons (cFldE okf_outline "outline" (cVar 4)) (cNil))))))))
/-- _law_right -/
def b_7 (F : Nat → List D → M → R D) : Cs :=
    sSeq (sFor fuel (cEnL (cCall 3 (F 3) (cCons (cVar 0) (cCons (cVar 1) (cCons (cVar 2) (cNil)))))) (.tp [.nm 3, .nm 4]) (sSeq (sSet 5 (cTup (cCons (cBi (isiE isi) (cCons (cVar 4) (cCons ((fun _ m => ok (.gl 0) m)) (cNil)))) (cCons (cBi (isiE isi) (cCons (cVar 4) (cCons ((fun _ m => ok (.gl 40) m)) (cNil)))) (cCons (cBi (isiE isi) (cCons (cVar 4) (cCons ((fun _ m => ok (.gl 39) m)) (cNil)))) (cNil))))))
    (sIf (cOr (cB (cBin neD (cCall 1 (F 4) (cCons (cVar 4) (cNil))) (cLc fuel (cRng1 (cC (.int 38))) (.nm 6) (cYes) (cBin eqD (cVar 6) (cVar 3)) (List.map (·.2) ([("_law_spot", 6)] : List (Str × Nat)))))) (cB (cBin neD (cVar 5) (cTup (cCons (cBin ltD (cVar 3) (cC (.int 31))) (cCons (cBin ltD (cVar 3) (cC (.int 31))) (cCons (cBin gtD (cVar 3) (cC (.int 30))) (cNil)))))))) (sRet (cC (.bl false))) (sNext))))
    (sSeq (sIf (cB (cBin neD (cBi reprD (cCons (cCall 1 (F 5) (cCons (cVar 0) (cNil))) (cNil))) (cBi reprD (cCons (cBin mulD (cLst (cCons (cVar 0) (cNil))) (cC (.int 29))) (cNil))))) (sRet (cC (.bl false))) (sNext))
    (sRet (cBin eqD (cBi reprD (cCons (cCall 3 (F 6) (cCons (cVar 0) (cCons (cVar 1) (cCons (cVar 2) (cNil))))) (cNil))) (cBi reprD (cCons (cLst (cCons (cVar 0) (cCons (cVar 1) (cCons (cVar 0) (cCons (cVar 1) (cCons (cVar 2) (cNil))))))) (cNil))))))
/-- _law_objects_right -/
def b_8 (F : Nat → List D → M → R D) : Cs :=
    sSeq (sPar3 0 1 2 (cCons (cLst (cCons (cC (.int 1)) (cNil))) (cCons (cLst (cCons (cC (.int 2)) (cNil))) (cCons (cLst (cCons (cC (.int 3)) (cNil))) (cNil)))))
    (sSeq (sPar 3 4 (cCons (cCall 1 (F 5) (cCons (cVar 0) (cNil))) (cCons (cCall 3 (F 6) (cCons (cVar 0) (cCons (cVar 1) (cCons (cVar 2) (cNil))))) (cNil))))
    (sSeq (sExpr (cBM isL appendD (cVar 0) (cCons (cC (.int 0)) (cNil))))
    (sSeq (sExpr (cBM isL appendD (cVar 1) (cCons (cC (.int 0)) (cNil))))
    (sSeq (sExpr (cBM isL appendD (cVar 2) (cCons (cC (.int 0)) (cNil))))
    (sRet (cBin eqD (cLc fuel (cWk (cBin addD (cVar 3) (cVar 4))) (.nm 5) (cYes) (cBi lenD (cCons (cVar 5) (cNil))) (List.map (·.2) ([("_law_field", 5)] : List (Str × Nat)))) (cBin mulD (cLst (cCons (cC (.int 2)) (cNil))) (cC (.int 34)))))))))
/-- law -/
def b_9 (F : Nat → List D → M → R D) : Cs :=
    sSeq (sSet 1 (cCall 1 (F 0) (cCons (cVar 0) (cNil))))
    (sSeq (sSet 2 (cLst (cCons ((fun _ m => ok (.int 199) m)) (cCons ((fun _ m => ok (.int 200) m)) (cCons ((fun _ m => ok (.int 30) m)) (cCons ((fun _ m => ok (.int 80) m)) (cCons ((fun _ m => ok (.int 50) m)) (cCons ((fun _ m => ok (.int 6) m)) (cCons ((fun _ m => ok (.int 60) m)) (cCons ((fun _ m => ok (.int 8) m)) (cCons ((fun _ m => ok (.int 200) m)) (cCons ((fun _ m => ok (.int 40) m)) (cCons ((fun _ m => ok (.int 500) m)) (cCons ((fun _ m => ok (.int 1000) m)) (cCons ((fun _ m => ok (.int 8) m)) (cCons ((fun _ m => ok (.int 2000) m)) (cNil)))))))))))))))))
    (sSeq (sSet 3 (cLst (cCons (cC (.int 199)) (cCons (cC (.int 200)) (cCons (cC (.int 30)) (cCons (cC (.int 80)) (cCons (cC (.int 50)) (cCons (cC (.int 6)) (cCons (cC (.int 60)) (cCons (cC (.int 8)) (cCons (cC (.int 200)) (cCons (cC (.int 40)) (cCons (cC (.int 500)) (cCons (cC (.int 1000)) (cCons (cC (.int 8)) (cCons (cC (.int 2000)) (cCons (cC (.int 500)) (cCons (cC (.int 3)) (cCons (cC (.int 60)) (cCons (cC (.int 20)) (cNil)))))))))))))))))))))
    (sSeq (sIf (cOr (cB (cBin neD (cBin addD (cVar 2) (cLst (cCons ((fun _ m => ok (.int 500) m)) (cCons ((fun _ m => ok (.int 3) m)) (cCons ((fun _ m => ok (.int 60) m)) (cCons ((fun _ m => ok (.int 20) m)) (cNil))))))) (cVar 3))) (cNot (cTru ((fun _ m => F 8 [] m))))) (sRet (cC (.bl false))) (sNext))
    (sSeq (sSet 4 (cLst (cCons (cC .non) (cCons (cC (.bl true)) (cCons (cC (.bl false)) (cCons (cUn negD (cC (.int 1))) (cCons (cBin powD (cC (.int 10)) (cC (.int 29))) (cCons (cC (.str "")) (cCons (cC (.str "x")) (cCons (cTup (cNil)) (cCons (cLst (cNil)) (cCons ((fun _ m => new (.dct []) m)) (cCons (cTup (cCons (cC (.int 0)) (cNil))) (cCons (cLst (cCons (cC (.int 0)) (cNil))) (cCons (cDisp [(cC (.str "x"), cC (.int 1))]) (cCons (cTup (cCons (cC (.str "->")) (cCons (cC (.int 0)) (cCons (cC (.int 1)) (cNil))))) (cNil)))))))))))))))))
    (sSeq (sFor fuel (cRng1 (cC (.int 4))) (.nm 5) (sIf (cNot (cTru (cCall 3 (F 7) (cCons (cCall 2 (F 2) (cCons (cVar 1) (cCons (cVar 4) (cNil)))) (cCons (cCall 2 (F 2) (cCons (cVar 1) (cCons (cVar 4) (cNil)))) (cCons (cCall 2 (F 2) (cCons (cVar 1) (cCons (cVar 4) (cNil)))) (cNil))))))) (sRet (cC (.bl false))) (sNext)))
    (sRet (cC (.bl true))))))))
def tab : Nat → Nat → List D → M → R D
  | 0, _ => fun _ _ => none
  | k + 1, j => match j with
    | 0 => fnB 4 (b_0 (tab k))
    | 1 => fnB 4 (b_1 (tab k))
    | 2 => fnB 2 (b_2 (tab k))
    | 3 => fnB 4 (b_3 (tab k))
    | 4 => fnB 2 (b_4 (tab k))
    | 5 => fnB 2 (b_5 (tab k))
    | 6 => fnB 5 (b_6 (tab k))
    | 7 => fnB 7 (b_7 (tab k))
    | 8 => fnB 6 (b_8 (tab k))
    | 9 => fnB 6 (b_9 (tab k))
    | _ => fun _ _ => none
def pss : Nat → List Str
  | 0 => ["_law_script"]
  | 1 => ["_law_drawn", "_law_many"]
  | 2 => ["_law_drawn", "_law_items"]
  | 3 => ["_law_one_here", "_law_other", "_law_third"]
  | 4 => ["_law_e"]
  | 5 => ["_law_one_here"]
  | 6 => ["_law_one_here", "_law_other", "_law_third"]
  | 7 => ["_law_one_here", "_law_other", "_law_third"]
  | 8 => []
  | 9 => ["_law_script"]
  | _ => []
abbrev s_0 : Stmt := top 59
theorem sc_0 : FnScope ["_law_script", "_law_great", "_law_mixed", "_law_cell"] ["_law_script"] (defScope s_0) := ⟨rfl, rfl, rfl, by decide +kernel, rfl, by decide +kernel, by decide +kernel⟩
abbrev s_1 : Stmt := top 60
theorem sc_1 : FnScope ["_law_drawn", "_law_many", "_law_digit", "_law_mixed"] ["_law_drawn", "_law_many"] (defScope s_1) := ⟨rfl, rfl, rfl, by decide +kernel, rfl, by decide +kernel, by decide +kernel⟩
abbrev s_2 : Stmt := top 61
theorem sc_2 : FnScope ["_law_drawn", "_law_items"] ["_law_drawn", "_law_items"] (defScope s_2) := ⟨rfl, rfl, rfl, by decide +kernel, rfl, by decide +kernel, by decide +kernel⟩
abbrev s_3 : Stmt := top 62
theorem sc_3 : FnScope ["_law_one_here", "_law_other", "_law_third", "_law_found"] ["_law_one_here", "_law_other", "_law_third"] (defScope s_3) := ⟨rfl, rfl, rfl, by decide +kernel, rfl, by decide +kernel, by decide +kernel⟩
abbrev s_4 : Stmt := top 63
theorem sc_4 : FnScope ["_law_e", "_law_found"] ["_law_e"] (defScope s_4) := ⟨rfl, rfl, rfl, by decide +kernel, rfl, by decide +kernel, by decide +kernel⟩
abbrev s_5 : Stmt := top 64
theorem sc_5 : FnScope ["_law_one_here", "_law_found"] ["_law_one_here"] (defScope s_5) := ⟨rfl, rfl, rfl, by decide +kernel, rfl, by decide +kernel, by decide +kernel⟩
abbrev s_6 : Stmt := top 65
theorem sc_6 : FnScope ["_law_one_here", "_law_other", "_law_third", "_law_refused", "_law_incomplete"] ["_law_one_here", "_law_other", "_law_third"] (defScope s_6) := ⟨rfl, rfl, rfl, by decide +kernel, rfl, by decide +kernel, by decide +kernel⟩
abbrev s_7 : Stmt := top 66
theorem sc_7 : FnScope ["_law_one_here", "_law_other", "_law_third", "_law_k", "_law_error", "_law_bases", "_law_spot"] ["_law_one_here", "_law_other", "_law_third"] (defScope s_7) := ⟨rfl, rfl, rfl, by decide +kernel, rfl, by decide +kernel, by decide +kernel⟩
abbrev s_8 : Stmt := top 67
theorem sc_8 : FnScope ["_law_one_here", "_law_other", "_law_third", "_law_fields_here", "_law_more", "_law_field"] [] (defScope s_8) := ⟨rfl, rfl, rfl, by decide +kernel, rfl, by decide +kernel, by decide +kernel⟩
abbrev s_9 : Stmt := top 68
theorem sc_9 : FnScope ["_law_script", "_law_drawn", "_law_limits", "_law_due", "_law_some", "_law_turn"] ["_law_script"] (defScope s_9) := ⟨rfl, rfl, rfl, by decide +kernel, rfl, by decide +kernel, by decide +kernel⟩
abbrev si_BadShape : Stmt := inClass (top 2) 0
theorem sci_BadShape : FnScope ["self", "value"] ["self", "value"] (defScope si_BadShape) := ⟨rfl, rfl, rfl, by decide +kernel, rfl, by decide +kernel, by decide +kernel⟩
abbrev si_BadCount : Stmt := inClass (top 3) 0
theorem sci_BadCount : FnScope ["self", "value"] ["self", "value"] (defScope si_BadCount) := ⟨rfl, rfl, rfl, by decide +kernel, rfl, by decide +kernel, by decide +kernel⟩
abbrev si_TooMany : Stmt := inClass (top 6) 0
theorem sci_TooMany : FnScope ["self", "limit"] ["self", "limit"] (defScope si_TooMany) := ⟨rfl, rfl, rfl, by decide +kernel, rfl, by decide +kernel, by decide +kernel⟩
abbrev si_TooLarge : Stmt := inClass (top 7) 0
theorem sci_TooLarge : FnScope ["self", "limit"] ["self", "limit"] (defScope si_TooLarge) := ⟨rfl, rfl, rfl, by decide +kernel, rfl, by decide +kernel, by decide +kernel⟩
abbrev si_Clash : Stmt := inClass (top 8) 0
theorem sci_Clash : FnScope ["self", "places"] ["self", "places"] (defScope si_Clash) := ⟨rfl, rfl, rfl, by decide +kernel, rfl, by decide +kernel, by decide +kernel⟩
abbrev si_BadChain : Stmt := inClass (top 9) 0
theorem sci_BadChain : FnScope ["self", "index"] ["self", "index"] (defScope si_BadChain) := ⟨rfl, rfl, rfl, by decide +kernel, rfl, by decide +kernel, by decide +kernel⟩
abbrev si_BadValue : Stmt := inClass (top 10) 0
theorem sci_BadValue : FnScope ["self", "value"] ["self", "value"] (defScope si_BadValue) := ⟨rfl, rfl, rfl, by decide +kernel, rfl, by decide +kernel, by decide +kernel⟩
abbrev si_BadForm : Stmt := inClass (top 11) 0
theorem sci_BadForm : FnScope ["self", "form"] ["self", "form"] (defScope si_BadForm) := ⟨rfl, rfl, rfl, by decide +kernel, rfl, by decide +kernel, by decide +kernel⟩
abbrev si_BadSize : Stmt := inClass (top 12) 0
theorem sci_BadSize : FnScope ["self", "size"] ["self", "size"] (defScope si_BadSize) := ⟨rfl, rfl, rfl, by decide +kernel, rfl, by decide +kernel, by decide +kernel⟩
abbrev si_NoValue : Stmt := inClass (top 13) 0
theorem sci_NoValue : FnScope ["self", "value"] ["self", "value"] (defScope si_NoValue) := ⟨rfl, rfl, rfl, by decide +kernel, rfl, by decide +kernel, by decide +kernel⟩
abbrev si_NotMet : Stmt := inClass (top 15) 0
theorem sci_NotMet : FnScope ["self", "value"] ["self", "value"] (defScope si_NotMet) := ⟨rfl, rfl, rfl, by decide +kernel, rfl, by decide +kernel, by decide +kernel⟩
abbrev si_Idle : Stmt := inClass (top 16) 0
theorem sci_Idle : FnScope ["self", "number"] ["self", "number"] (defScope si_Idle) := ⟨rfl, rfl, rfl, by decide +kernel, rfl, by decide +kernel, by decide +kernel⟩
abbrev si_BadRows : Stmt := inClass (top 17) 0
theorem sci_BadRows : FnScope ["self", "error"] ["self", "error"] (defScope si_BadRows) := ⟨rfl, rfl, rfl, by decide +kernel, rfl, by decide +kernel, by decide +kernel⟩
abbrev si_BadBook : Stmt := inClass (top 18) 0
theorem sci_BadBook : FnScope ["self", "error"] ["self", "error"] (defScope si_BadBook) := ⟨rfl, rfl, rfl, by decide +kernel, rfl, by decide +kernel, by decide +kernel⟩
abbrev si_HasHole : Stmt := inClass (top 19) 0
theorem sci_HasHole : FnScope ["self", "spot"] ["self", "spot"] (defScope si_HasHole) := ⟨rfl, rfl, rfl, by decide +kernel, rfl, by decide +kernel, by decide +kernel⟩
abbrev si_NotPlain : Stmt := inClass (top 20) 0
theorem sci_NotPlain : FnScope ["self", "index"] ["self", "index"] (defScope si_NotPlain) := ⟨rfl, rfl, rfl, by decide +kernel, rfl, by decide +kernel, by decide +kernel⟩
abbrev si_BadDatas : Stmt := inClass (top 21) 0
theorem sci_BadDatas : FnScope ["self", "error"] ["self", "error"] (defScope si_BadDatas) := ⟨rfl, rfl, rfl, by decide +kernel, rfl, by decide +kernel, by decide +kernel⟩
abbrev si_Used : Stmt := inClass (top 22) 0
theorem sci_Used : FnScope ["self", "word"] ["self", "word"] (defScope si_Used) := ⟨rfl, rfl, rfl, by decide +kernel, rfl, by decide +kernel, by decide +kernel⟩
abbrev si_Refused : Stmt := inClass (top 23) 0
theorem sci_Refused : FnScope ["self", "index", "verdict"] ["self", "index", "verdict"] (defScope si_Refused) := ⟨rfl, rfl, rfl, by decide +kernel, rfl, by decide +kernel, by decide +kernel⟩
abbrev si_BadEdit : Stmt := inClass (top 27) 0
theorem sci_BadEdit : FnScope ["self", "index"] ["self", "index"] (defScope si_BadEdit) := ⟨rfl, rfl, rfl, by decide +kernel, rfl, by decide +kernel, by decide +kernel⟩
abbrev si_Rejected : Stmt := inClass (top 28) 0
theorem sci_Rejected : FnScope ["self", "index"] ["self", "index"] (defScope si_Rejected) := ⟨rfl, rfl, rfl, by decide +kernel, rfl, by decide +kernel, by decide +kernel⟩
abbrev si_BadExpression : Stmt := inClass (top 30) 0
theorem sci_BadExpression : FnScope ["self", "error"] ["self", "error"] (defScope si_BadExpression) := ⟨rfl, rfl, rfl, by decide +kernel, rfl, by decide +kernel, by decide +kernel⟩
abbrev si_Incomplete : Stmt := inClass (top 31) 0
theorem sci_Incomplete : FnScope ["self", "word", "place", "outline"] ["self", "word", "place", "outline"] (defScope si_Incomplete) := ⟨rfl, rfl, rfl, by decide +kernel, rfl, by decide +kernel, by decide +kernel⟩
abbrev si_BadText : Stmt := inClass (top 32) 0
theorem sci_BadText : FnScope ["self", "index"] ["self", "index"] (defScope si_BadText) := ⟨rfl, rfl, rfl, by decide +kernel, rfl, by decide +kernel, by decide +kernel⟩
abbrev si_NoPlace : Stmt := inClass (top 33) 0
theorem sci_NoPlace : FnScope ["self", "value"] ["self", "value"] (defScope si_NoPlace) := ⟨rfl, rfl, rfl, by decide +kernel, rfl, by decide +kernel, by decide +kernel⟩
abbrev si_NoMaker : Stmt := inClass (top 34) 0
theorem sci_NoMaker : FnScope ["self", "name"] ["self", "name"] (defScope si_NoMaker) := ⟨rfl, rfl, rfl, by decide +kernel, rfl, by decide +kernel, by decide +kernel⟩
abbrev si_NoIndex : Stmt := inClass (top 35) 0
theorem sci_NoIndex : FnScope ["self", "index"] ["self", "index"] (defScope si_NoIndex) := ⟨rfl, rfl, rfl, by decide +kernel, rfl, by decide +kernel, by decide +kernel⟩
abbrev si_NoRow : Stmt := inClass (top 36) 0
theorem sci_NoRow : FnScope ["self", "number"] ["self", "number"] (defScope si_NoRow) := ⟨rfl, rfl, rfl, by decide +kernel, rfl, by decide +kernel, by decide +kernel⟩
abbrev si_NoDefinition : Stmt := inClass (top 37) 0
theorem sci_NoDefinition : FnScope ["self", "value"] ["self", "value"] (defScope si_NoDefinition) := ⟨rfl, rfl, rfl, by decide +kernel, rfl, by decide +kernel, by decide +kernel⟩
abbrev si_NoWord : Stmt := inClass (top 38) 0
theorem sci_NoWord : FnScope ["self", "word"] ["self", "word"] (defScope si_NoWord) := ⟨rfl, rfl, rfl, by decide +kernel, rfl, by decide +kernel, by decide +kernel⟩
abbrev si_NoVersion : Stmt := inClass (top 39) 0
theorem sci_NoVersion : FnScope ["self", "value"] ["self", "value"] (defScope si_NoVersion) := ⟨rfl, rfl, rfl, by decide +kernel, rfl, by decide +kernel, by decide +kernel⟩
/-- what the top has written -/
structure Tx (K : PySem.W.Frag) (mg : Str → Option Value) (base : Heap) (T : Sv) (fa : Nat → Addr) (fd : Nat → FuncData) (fi : Nat → Addr) (di : Nat → FuncData) : Prop where
  sys : SysD base
  d_0 : DefF K mg "_law_draws" "_law_draws" s_0 (fa 0) (fd 0) ["_law_script"]
  d_1 : DefF K mg "_law_next" "_law_next" s_1 (fa 1) (fd 1) ["_law_drawn", "_law_many"]
  d_2 : DefF K mg "_law_one" "_law_one" s_2 (fa 2) (fd 2) ["_law_drawn", "_law_items"]
  d_3 : DefF K mg "_law_errors" "_law_errors" s_3 (fa 3) (fd 3) ["_law_one_here", "_law_other", "_law_third"]
  d_4 : DefF K mg "_law_flags" "_law_flags" s_4 (fa 4) (fd 4) ["_law_e"]
  d_5 : DefF K mg "_law_fields" "_law_fields" s_5 (fa 5) (fd 5) ["_law_one_here"]
  d_6 : DefF K mg "_law_more_fields" "_law_more_fields" s_6 (fa 6) (fd 6) ["_law_one_here", "_law_other", "_law_third"]
  d_7 : DefF K mg "_law_right" "_law_right" s_7 (fa 7) (fd 7) ["_law_one_here", "_law_other", "_law_third"]
  d_8 : DefF K mg "_law_objects_right" "_law_objects_right" s_8 (fa 8) (fd 8) []
  d_9 : DefF K mg "law" "law" s_9 (fa 9) (fd 9) ["_law_script"]
  c_LangError : mg "LangError" = some (.ref (T.cls 0))
  x_LangError : ExcBaseFacts "ValueError" "ValueError.__new__" "ValueError.__init__" [.type "ValueError", .type "Exception", .type "BaseException", .type "object"] ∧ PySem.W.excIn K (T.cls 0) [.type "ValueError", .type "Exception", .type "BaseException", .type "object"] "ValueError.__new__" = true ∧ PySem.W.keepIn K (.ref (T.cls 0)) = true
  c_BadShape : mg "BadShape" = some (.ref (T.cls 1))
  e_BadShape : EB K (T.cls 1)
  i_BadShape : PySem.W.findIn K (.ref (T.cls 1)) "__init__" = some (some (.ref (fi 1))) ∧ PySem.W.typeIn K (.ref (fi 1)) = some (.type "function")
  u_BadShape : Fun K "__init__" "BadShape.__init__" si_BadShape (fi 1) (di 1)
  b_BadShape : Binds K (di 1) ["self", "value"] []
  o_BadShape_value : PySem.W.findIn K (.ref (T.cls 1)) "value" = some none
  c_BadCount : mg "BadCount" = some (.ref (T.cls 2))
  e_BadCount : EB K (T.cls 2)
  i_BadCount : PySem.W.findIn K (.ref (T.cls 2)) "__init__" = some (some (.ref (fi 2))) ∧ PySem.W.typeIn K (.ref (fi 2)) = some (.type "function")
  u_BadCount : Fun K "__init__" "BadCount.__init__" si_BadCount (fi 2) (di 2)
  b_BadCount : Binds K (di 2) ["self", "value"] []
  o_BadCount_value : PySem.W.findIn K (.ref (T.cls 2)) "value" = some none
  c_NoMeeting : mg "NoMeeting" = some (.ref (T.cls 3))
  x_NoMeeting : ExcBaseFacts "ValueError" "ValueError.__new__" "ValueError.__init__" [.type "ValueError", .type "Exception", .type "BaseException", .type "object"] ∧ PySem.W.excIn K (T.cls 3) [.type "ValueError", .type "Exception", .type "BaseException", .type "object"] "ValueError.__new__" = true ∧ PySem.W.keepIn K (.ref (T.cls 3)) = true
  c_NoSolution : mg "NoSolution" = some (.ref (T.cls 4))
  x_NoSolution : ExcBaseFacts "ValueError" "ValueError.__new__" "ValueError.__init__" [.type "ValueError", .type "Exception", .type "BaseException", .type "object"] ∧ PySem.W.excIn K (T.cls 4) [.type "ValueError", .type "Exception", .type "BaseException", .type "object"] "ValueError.__new__" = true ∧ PySem.W.keepIn K (.ref (T.cls 4)) = true
  c_TooMany : mg "TooMany" = some (.ref (T.cls 5))
  e_TooMany : EB K (T.cls 5)
  i_TooMany : PySem.W.findIn K (.ref (T.cls 5)) "__init__" = some (some (.ref (fi 5))) ∧ PySem.W.typeIn K (.ref (fi 5)) = some (.type "function")
  u_TooMany : Fun K "__init__" "TooMany.__init__" si_TooMany (fi 5) (di 5)
  b_TooMany : Binds K (di 5) ["self", "limit"] []
  o_TooMany_limit : PySem.W.findIn K (.ref (T.cls 5)) "limit" = some none
  c_TooLarge : mg "TooLarge" = some (.ref (T.cls 6))
  e_TooLarge : EB K (T.cls 6)
  i_TooLarge : PySem.W.findIn K (.ref (T.cls 6)) "__init__" = some (some (.ref (fi 6))) ∧ PySem.W.typeIn K (.ref (fi 6)) = some (.type "function")
  u_TooLarge : Fun K "__init__" "TooLarge.__init__" si_TooLarge (fi 6) (di 6)
  b_TooLarge : Binds K (di 6) ["self", "limit"] []
  o_TooLarge_limit : PySem.W.findIn K (.ref (T.cls 6)) "limit" = some none
  c_Clash : mg "Clash" = some (.ref (T.cls 7))
  e_Clash : EB K (T.cls 7)
  i_Clash : PySem.W.findIn K (.ref (T.cls 7)) "__init__" = some (some (.ref (fi 7))) ∧ PySem.W.typeIn K (.ref (fi 7)) = some (.type "function")
  u_Clash : Fun K "__init__" "Clash.__init__" si_Clash (fi 7) (di 7)
  b_Clash : Binds K (di 7) ["self", "places"] []
  o_Clash_places : PySem.W.findIn K (.ref (T.cls 7)) "places" = some none
  c_BadChain : mg "BadChain" = some (.ref (T.cls 8))
  e_BadChain : EB K (T.cls 8)
  i_BadChain : PySem.W.findIn K (.ref (T.cls 8)) "__init__" = some (some (.ref (fi 8))) ∧ PySem.W.typeIn K (.ref (fi 8)) = some (.type "function")
  u_BadChain : Fun K "__init__" "BadChain.__init__" si_BadChain (fi 8) (di 8)
  b_BadChain : Binds K (di 8) ["self", "index"] []
  o_BadChain_index : PySem.W.findIn K (.ref (T.cls 8)) "index" = some none
  c_BadValue : mg "BadValue" = some (.ref (T.cls 9))
  e_BadValue : EB K (T.cls 9)
  i_BadValue : PySem.W.findIn K (.ref (T.cls 9)) "__init__" = some (some (.ref (fi 9))) ∧ PySem.W.typeIn K (.ref (fi 9)) = some (.type "function")
  u_BadValue : Fun K "__init__" "BadValue.__init__" si_BadValue (fi 9) (di 9)
  b_BadValue : Binds K (di 9) ["self", "value"] []
  o_BadValue_value : PySem.W.findIn K (.ref (T.cls 9)) "value" = some none
  c_BadForm : mg "BadForm" = some (.ref (T.cls 10))
  e_BadForm : EB K (T.cls 10)
  i_BadForm : PySem.W.findIn K (.ref (T.cls 10)) "__init__" = some (some (.ref (fi 10))) ∧ PySem.W.typeIn K (.ref (fi 10)) = some (.type "function")
  u_BadForm : Fun K "__init__" "BadForm.__init__" si_BadForm (fi 10) (di 10)
  b_BadForm : Binds K (di 10) ["self", "form"] []
  o_BadForm_form : PySem.W.findIn K (.ref (T.cls 10)) "form" = some none
  c_BadSize : mg "BadSize" = some (.ref (T.cls 11))
  e_BadSize : EB K (T.cls 11)
  i_BadSize : PySem.W.findIn K (.ref (T.cls 11)) "__init__" = some (some (.ref (fi 11))) ∧ PySem.W.typeIn K (.ref (fi 11)) = some (.type "function")
  u_BadSize : Fun K "__init__" "BadSize.__init__" si_BadSize (fi 11) (di 11)
  b_BadSize : Binds K (di 11) ["self", "size"] []
  o_BadSize_size : PySem.W.findIn K (.ref (T.cls 11)) "size" = some none
  c_NoValue : mg "NoValue" = some (.ref (T.cls 12))
  e_NoValue : EB K (T.cls 12)
  i_NoValue : PySem.W.findIn K (.ref (T.cls 12)) "__init__" = some (some (.ref (fi 12))) ∧ PySem.W.typeIn K (.ref (fi 12)) = some (.type "function")
  u_NoValue : Fun K "__init__" "NoValue.__init__" si_NoValue (fi 12) (di 12)
  b_NoValue : Binds K (di 12) ["self", "value"] []
  o_NoValue_value : PySem.W.findIn K (.ref (T.cls 12)) "value" = some none
  c_HasValues : mg "HasValues" = some (.ref (T.cls 13))
  x_HasValues : ExcBaseFacts "ValueError" "ValueError.__new__" "ValueError.__init__" [.type "ValueError", .type "Exception", .type "BaseException", .type "object"] ∧ PySem.W.excIn K (T.cls 13) [.type "ValueError", .type "Exception", .type "BaseException", .type "object"] "ValueError.__new__" = true ∧ PySem.W.keepIn K (.ref (T.cls 13)) = true
  c_NotMet : mg "NotMet" = some (.ref (T.cls 14))
  e_NotMet : EB K (T.cls 14)
  i_NotMet : PySem.W.findIn K (.ref (T.cls 14)) "__init__" = some (some (.ref (fi 14))) ∧ PySem.W.typeIn K (.ref (fi 14)) = some (.type "function")
  u_NotMet : Fun K "__init__" "NotMet.__init__" si_NotMet (fi 14) (di 14)
  b_NotMet : Binds K (di 14) ["self", "value"] []
  o_NotMet_value : PySem.W.findIn K (.ref (T.cls 14)) "value" = some none
  c_Idle : mg "Idle" = some (.ref (T.cls 15))
  e_Idle : EB K (T.cls 15)
  i_Idle : PySem.W.findIn K (.ref (T.cls 15)) "__init__" = some (some (.ref (fi 15))) ∧ PySem.W.typeIn K (.ref (fi 15)) = some (.type "function")
  u_Idle : Fun K "__init__" "Idle.__init__" si_Idle (fi 15) (di 15)
  b_Idle : Binds K (di 15) ["self", "number"] []
  o_Idle_number : PySem.W.findIn K (.ref (T.cls 15)) "number" = some none
  c_BadRows : mg "BadRows" = some (.ref (T.cls 16))
  e_BadRows : EB K (T.cls 16)
  i_BadRows : PySem.W.findIn K (.ref (T.cls 16)) "__init__" = some (some (.ref (fi 16))) ∧ PySem.W.typeIn K (.ref (fi 16)) = some (.type "function")
  u_BadRows : Fun K "__init__" "BadRows.__init__" si_BadRows (fi 16) (di 16)
  b_BadRows : Binds K (di 16) ["self", "error"] []
  o_BadRows_error : PySem.W.findIn K (.ref (T.cls 16)) "error" = some none
  c_BadBook : mg "BadBook" = some (.ref (T.cls 17))
  e_BadBook : EB K (T.cls 17)
  i_BadBook : PySem.W.findIn K (.ref (T.cls 17)) "__init__" = some (some (.ref (fi 17))) ∧ PySem.W.typeIn K (.ref (fi 17)) = some (.type "function")
  u_BadBook : Fun K "__init__" "BadBook.__init__" si_BadBook (fi 17) (di 17)
  b_BadBook : Binds K (di 17) ["self", "error"] []
  o_BadBook_error : PySem.W.findIn K (.ref (T.cls 17)) "error" = some none
  c_HasHole : mg "HasHole" = some (.ref (T.cls 18))
  e_HasHole : EB K (T.cls 18)
  i_HasHole : PySem.W.findIn K (.ref (T.cls 18)) "__init__" = some (some (.ref (fi 18))) ∧ PySem.W.typeIn K (.ref (fi 18)) = some (.type "function")
  u_HasHole : Fun K "__init__" "HasHole.__init__" si_HasHole (fi 18) (di 18)
  b_HasHole : Binds K (di 18) ["self", "spot"] []
  o_HasHole_spot : PySem.W.findIn K (.ref (T.cls 18)) "spot" = some none
  c_NotPlain : mg "NotPlain" = some (.ref (T.cls 19))
  e_NotPlain : EB K (T.cls 19)
  i_NotPlain : PySem.W.findIn K (.ref (T.cls 19)) "__init__" = some (some (.ref (fi 19))) ∧ PySem.W.typeIn K (.ref (fi 19)) = some (.type "function")
  u_NotPlain : Fun K "__init__" "NotPlain.__init__" si_NotPlain (fi 19) (di 19)
  b_NotPlain : Binds K (di 19) ["self", "index"] []
  o_NotPlain_index : PySem.W.findIn K (.ref (T.cls 19)) "index" = some none
  c_BadDatas : mg "BadDatas" = some (.ref (T.cls 20))
  e_BadDatas : EB K (T.cls 20)
  i_BadDatas : PySem.W.findIn K (.ref (T.cls 20)) "__init__" = some (some (.ref (fi 20))) ∧ PySem.W.typeIn K (.ref (fi 20)) = some (.type "function")
  u_BadDatas : Fun K "__init__" "BadDatas.__init__" si_BadDatas (fi 20) (di 20)
  b_BadDatas : Binds K (di 20) ["self", "error"] []
  o_BadDatas_error : PySem.W.findIn K (.ref (T.cls 20)) "error" = some none
  c_Used : mg "Used" = some (.ref (T.cls 21))
  e_Used : EB K (T.cls 21)
  i_Used : PySem.W.findIn K (.ref (T.cls 21)) "__init__" = some (some (.ref (fi 21))) ∧ PySem.W.typeIn K (.ref (fi 21)) = some (.type "function")
  u_Used : Fun K "__init__" "Used.__init__" si_Used (fi 21) (di 21)
  b_Used : Binds K (di 21) ["self", "word"] []
  o_Used_word : PySem.W.findIn K (.ref (T.cls 21)) "word" = some none
  c_Refused : mg "Refused" = some (.ref (T.cls 22))
  e_Refused : EB K (T.cls 22)
  i_Refused : PySem.W.findIn K (.ref (T.cls 22)) "__init__" = some (some (.ref (fi 22))) ∧ PySem.W.typeIn K (.ref (fi 22)) = some (.type "function")
  u_Refused : Fun K "__init__" "Refused.__init__" si_Refused (fi 22) (di 22)
  b_Refused : Binds K (di 22) ["self", "index", "verdict"] []
  o_Refused_index : PySem.W.findIn K (.ref (T.cls 22)) "index" = some none
  o_Refused_verdict : PySem.W.findIn K (.ref (T.cls 22)) "verdict" = some none
  c_TooManyEdits : mg "TooManyEdits" = some (.ref (T.cls 23))
  x_TooManyEdits : ExcBaseFacts "ValueError" "ValueError.__new__" "ValueError.__init__" [.type "ValueError", .type "Exception", .type "BaseException", .type "object"] ∧ PySem.W.excIn K (T.cls 23) [.type "ValueError", .type "Exception", .type "BaseException", .type "object"] "ValueError.__new__" = true ∧ PySem.W.keepIn K (.ref (T.cls 23)) = true
  c_NothingToUndo : mg "NothingToUndo" = some (.ref (T.cls 24))
  x_NothingToUndo : ExcBaseFacts "ValueError" "ValueError.__new__" "ValueError.__init__" [.type "ValueError", .type "Exception", .type "BaseException", .type "object"] ∧ PySem.W.excIn K (T.cls 24) [.type "ValueError", .type "Exception", .type "BaseException", .type "object"] "ValueError.__new__" = true ∧ PySem.W.keepIn K (.ref (T.cls 24)) = true
  c_BadEdits : mg "BadEdits" = some (.ref (T.cls 25))
  x_BadEdits : ExcBaseFacts "ValueError" "ValueError.__new__" "ValueError.__init__" [.type "ValueError", .type "Exception", .type "BaseException", .type "object"] ∧ PySem.W.excIn K (T.cls 25) [.type "ValueError", .type "Exception", .type "BaseException", .type "object"] "ValueError.__new__" = true ∧ PySem.W.keepIn K (.ref (T.cls 25)) = true
  c_BadEdit : mg "BadEdit" = some (.ref (T.cls 26))
  e_BadEdit : EB K (T.cls 26)
  i_BadEdit : PySem.W.findIn K (.ref (T.cls 26)) "__init__" = some (some (.ref (fi 26))) ∧ PySem.W.typeIn K (.ref (fi 26)) = some (.type "function")
  u_BadEdit : Fun K "__init__" "BadEdit.__init__" si_BadEdit (fi 26) (di 26)
  b_BadEdit : Binds K (di 26) ["self", "index"] []
  o_BadEdit_index : PySem.W.findIn K (.ref (T.cls 26)) "index" = some none
  c_Rejected : mg "Rejected" = some (.ref (T.cls 27))
  e_Rejected : EB K (T.cls 27)
  i_Rejected : PySem.W.findIn K (.ref (T.cls 27)) "__init__" = some (some (.ref (fi 27))) ∧ PySem.W.typeIn K (.ref (fi 27)) = some (.type "function")
  u_Rejected : Fun K "__init__" "Rejected.__init__" si_Rejected (fi 27) (di 27)
  b_Rejected : Binds K (di 27) ["self", "index"] []
  o_Rejected_index : PySem.W.findIn K (.ref (T.cls 27)) "index" = some none
  c_Busy : mg "Busy" = some (.ref (T.cls 28))
  x_Busy : ExcBaseFacts "ValueError" "ValueError.__new__" "ValueError.__init__" [.type "ValueError", .type "Exception", .type "BaseException", .type "object"] ∧ PySem.W.excIn K (T.cls 28) [.type "ValueError", .type "Exception", .type "BaseException", .type "object"] "ValueError.__new__" = true ∧ PySem.W.keepIn K (.ref (T.cls 28)) = true
  c_BadExpression : mg "BadExpression" = some (.ref (T.cls 29))
  e_BadExpression : EB K (T.cls 29)
  i_BadExpression : PySem.W.findIn K (.ref (T.cls 29)) "__init__" = some (some (.ref (fi 29))) ∧ PySem.W.typeIn K (.ref (fi 29)) = some (.type "function")
  u_BadExpression : Fun K "__init__" "BadExpression.__init__" si_BadExpression (fi 29) (di 29)
  b_BadExpression : Binds K (di 29) ["self", "error"] []
  o_BadExpression_error : PySem.W.findIn K (.ref (T.cls 29)) "error" = some none
  c_Incomplete : mg "Incomplete" = some (.ref (T.cls 30))
  e_Incomplete : EB K (T.cls 30)
  i_Incomplete : PySem.W.findIn K (.ref (T.cls 30)) "__init__" = some (some (.ref (fi 30))) ∧ PySem.W.typeIn K (.ref (fi 30)) = some (.type "function")
  u_Incomplete : Fun K "__init__" "Incomplete.__init__" si_Incomplete (fi 30) (di 30)
  b_Incomplete : Binds K (di 30) ["self", "word", "place", "outline"] []
  o_Incomplete_word : PySem.W.findIn K (.ref (T.cls 30)) "word" = some none
  o_Incomplete_place : PySem.W.findIn K (.ref (T.cls 30)) "place" = some none
  o_Incomplete_outline : PySem.W.findIn K (.ref (T.cls 30)) "outline" = some none
  c_BadText : mg "BadText" = some (.ref (T.cls 31))
  e_BadText : EB K (T.cls 31)
  i_BadText : PySem.W.findIn K (.ref (T.cls 31)) "__init__" = some (some (.ref (fi 31))) ∧ PySem.W.typeIn K (.ref (fi 31)) = some (.type "function")
  u_BadText : Fun K "__init__" "BadText.__init__" si_BadText (fi 31) (di 31)
  b_BadText : Binds K (di 31) ["self", "index"] []
  o_BadText_index : PySem.W.findIn K (.ref (T.cls 31)) "index" = some none
  c_NoPlace : mg "NoPlace" = some (.ref (T.cls 32))
  e_NoPlace : EB K (T.cls 32)
  i_NoPlace : PySem.W.findIn K (.ref (T.cls 32)) "__init__" = some (some (.ref (fi 32))) ∧ PySem.W.typeIn K (.ref (fi 32)) = some (.type "function")
  u_NoPlace : Fun K "__init__" "NoPlace.__init__" si_NoPlace (fi 32) (di 32)
  b_NoPlace : Binds K (di 32) ["self", "value"] []
  o_NoPlace_value : PySem.W.findIn K (.ref (T.cls 32)) "value" = some none
  c_NoMaker : mg "NoMaker" = some (.ref (T.cls 33))
  e_NoMaker : EB K (T.cls 33)
  i_NoMaker : PySem.W.findIn K (.ref (T.cls 33)) "__init__" = some (some (.ref (fi 33))) ∧ PySem.W.typeIn K (.ref (fi 33)) = some (.type "function")
  u_NoMaker : Fun K "__init__" "NoMaker.__init__" si_NoMaker (fi 33) (di 33)
  b_NoMaker : Binds K (di 33) ["self", "name"] []
  o_NoMaker_name : PySem.W.findIn K (.ref (T.cls 33)) "name" = some none
  c_NoIndex : mg "NoIndex" = some (.ref (T.cls 34))
  e_NoIndex : EB K (T.cls 34)
  i_NoIndex : PySem.W.findIn K (.ref (T.cls 34)) "__init__" = some (some (.ref (fi 34))) ∧ PySem.W.typeIn K (.ref (fi 34)) = some (.type "function")
  u_NoIndex : Fun K "__init__" "NoIndex.__init__" si_NoIndex (fi 34) (di 34)
  b_NoIndex : Binds K (di 34) ["self", "index"] []
  o_NoIndex_index : PySem.W.findIn K (.ref (T.cls 34)) "index" = some none
  c_NoRow : mg "NoRow" = some (.ref (T.cls 35))
  e_NoRow : EB K (T.cls 35)
  i_NoRow : PySem.W.findIn K (.ref (T.cls 35)) "__init__" = some (some (.ref (fi 35))) ∧ PySem.W.typeIn K (.ref (fi 35)) = some (.type "function")
  u_NoRow : Fun K "__init__" "NoRow.__init__" si_NoRow (fi 35) (di 35)
  b_NoRow : Binds K (di 35) ["self", "number"] []
  o_NoRow_number : PySem.W.findIn K (.ref (T.cls 35)) "number" = some none
  c_NoDefinition : mg "NoDefinition" = some (.ref (T.cls 36))
  e_NoDefinition : EB K (T.cls 36)
  i_NoDefinition : PySem.W.findIn K (.ref (T.cls 36)) "__init__" = some (some (.ref (fi 36))) ∧ PySem.W.typeIn K (.ref (fi 36)) = some (.type "function")
  u_NoDefinition : Fun K "__init__" "NoDefinition.__init__" si_NoDefinition (fi 36) (di 36)
  b_NoDefinition : Binds K (di 36) ["self", "value"] []
  o_NoDefinition_value : PySem.W.findIn K (.ref (T.cls 36)) "value" = some none
  c_NoWord : mg "NoWord" = some (.ref (T.cls 37))
  e_NoWord : EB K (T.cls 37)
  i_NoWord : PySem.W.findIn K (.ref (T.cls 37)) "__init__" = some (some (.ref (fi 37))) ∧ PySem.W.typeIn K (.ref (fi 37)) = some (.type "function")
  u_NoWord : Fun K "__init__" "NoWord.__init__" si_NoWord (fi 37) (di 37)
  b_NoWord : Binds K (di 37) ["self", "word"] []
  o_NoWord_word : PySem.W.findIn K (.ref (T.cls 37)) "word" = some none
  c_NoVersion : mg "NoVersion" = some (.ref (T.cls 38))
  e_NoVersion : EB K (T.cls 38)
  i_NoVersion : PySem.W.findIn K (.ref (T.cls 38)) "__init__" = some (some (.ref (fi 38))) ∧ PySem.W.typeIn K (.ref (fi 38)) = some (.type "function")
  u_NoVersion : Fun K "__init__" "NoVersion.__init__" si_NoVersion (fi 38) (di 38)
  b_NoVersion : Binds K (di 38) ["self", "value"] []
  o_NoVersion_value : PySem.W.findIn K (.ref (T.cls 38)) "value" = some none
  v_ : ∀ i, i < 39 → T.val i = .ref (T.cls i)
  isi : ∀ c i b, isi c i = some b → ExcC K (T.cls c) ∧ ∃ u, ClsV (T.val i) u ∧ PySem.W.kitOne K (.ref (T.cls c)) u = some b
  n_LookupError : mg "LookupError" = none
  t_LookupError : T.val 39 = .ty "LookupError"
  n_ValueError : mg "ValueError" = none
  t_ValueError : T.val 40 = .ty "ValueError"
  n_abs : mg "abs" = none
  n_enumerate : mg "enumerate" = none
  n_int : mg "int" = none
  n_isinstance : mg "isinstance" = none
  n_len : mg "len" = none
  n_range : mg "range" = none
  n_repr : mg "repr" = none
  g_BATCH : ∃ u, mg "BATCH" = some u ∧ RelV (vD (.int 20)) u
  g_CALLS : ∃ u, mg "CALLS" = some u ∧ RelV (vD (.int 2000)) u
  g_DATAS : ∃ u, mg "DATAS" = some u ∧ RelV (vD (.int 6)) u
  g_DEFINITIONS : ∃ u, mg "DEFINITIONS" = some u ∧ RelV (vD (.int 8)) u
  g_DEPTH : ∃ u, mg "DEPTH" = some u ∧ RelV (vD (.int 30)) u
  g_EDITS : ∃ u, mg "EDITS" = some u ∧ RelV (vD (.int 60)) u
  g_FORM : ∃ u, mg "FORM" = some u ∧ RelV (vD (.int 500)) u
  g_GROUPS : ∃ u, mg "GROUPS" = some u ∧ RelV (vD (.int 80)) u
  g_LISTED : ∃ u, mg "LISTED" = some u ∧ RelV (vD (.int 50)) u
  g_MET : ∃ u, mg "MET" = some u ∧ RelV (vD (.int 200)) u
  g_NODES : ∃ u, mg "NODES" = some u ∧ RelV (vD (.int 200)) u
  g_PARAMETERS : ∃ u, mg "PARAMETERS" = some u ∧ RelV (vD (.int 3)) u
  g_PLACES : ∃ u, mg "PLACES" = some u ∧ RelV (vD (.int 60)) u
  g_ROWS : ∃ u, mg "ROWS" = some u ∧ RelV (vD (.int 8)) u
  g_SHOWN : ∃ u, mg "SHOWN" = some u ∧ RelV (vD (.int 500)) u
  g_SIZES : ∃ u, mg "SIZES" = some u ∧ RelV (vD (.int 40)) u
  g_TREE : ∃ u, mg "TREE" = some u ∧ RelV (vD (.int 1000)) u
  g_VARIABLES : ∃ u, mg "VARIABLES" = some u ∧ RelV (vD (.int 199)) u
  f_error : ∀ c, okf_error c = true → EB K (T.cls c) ∧ PySem.W.findIn K (.ref (T.cls c)) "error" = some none
  f_form : ∀ c, okf_form c = true → EB K (T.cls c) ∧ PySem.W.findIn K (.ref (T.cls c)) "form" = some none
  f_index : ∀ c, okf_index c = true → EB K (T.cls c) ∧ PySem.W.findIn K (.ref (T.cls c)) "index" = some none
  f_limit : ∀ c, okf_limit c = true → EB K (T.cls c) ∧ PySem.W.findIn K (.ref (T.cls c)) "limit" = some none
  f_name : ∀ c, okf_name c = true → EB K (T.cls c) ∧ PySem.W.findIn K (.ref (T.cls c)) "name" = some none
  f_number : ∀ c, okf_number c = true → EB K (T.cls c) ∧ PySem.W.findIn K (.ref (T.cls c)) "number" = some none
  f_outline : ∀ c, okf_outline c = true → EB K (T.cls c) ∧ PySem.W.findIn K (.ref (T.cls c)) "outline" = some none
  f_place : ∀ c, okf_place c = true → EB K (T.cls c) ∧ PySem.W.findIn K (.ref (T.cls c)) "place" = some none
  f_places : ∀ c, okf_places c = true → EB K (T.cls c) ∧ PySem.W.findIn K (.ref (T.cls c)) "places" = some none
  f_size : ∀ c, okf_size c = true → EB K (T.cls c) ∧ PySem.W.findIn K (.ref (T.cls c)) "size" = some none
  f_spot : ∀ c, okf_spot c = true → EB K (T.cls c) ∧ PySem.W.findIn K (.ref (T.cls c)) "spot" = some none
  f_value : ∀ c, okf_value c = true → EB K (T.cls c) ∧ PySem.W.findIn K (.ref (T.cls c)) "value" = some none
  f_verdict : ∀ c, okf_verdict c = true → EB K (T.cls c) ∧ PySem.W.findIn K (.ref (T.cls c)) "verdict" = some none
  f_word : ∀ c, okf_word c = true → EB K (T.cls c) ∧ PySem.W.findIn K (.ref (T.cls c)) "word" = some none
section
variable {P : Program} {w : World} {K : PySem.W.Frag} {mg : Str → Option Value} {base : Heap} {T : Sv} {fa : Nat → Addr} {fd : Nat → FuncData} {fi : Nat → Addr} {di : Nat → FuncData}
theorem ok_i_BadShape (Z : Tx K mg base T fa fd fi di) : FnA P w K mg base 1 (fi 1) (di 1) ["self", "value"] (spEI (T.cls 1) ["value"]) := by
  refine FnA.of0 (sp := spEI (T.cls 1) ["value"]) (Fun.ok (sp := spEI (T.cls 1) ["value"]) Z.u_BadShape sci_BadShape (fun vs H Q E h => spEI_len rfl h) (fun cdv A outer s H vs Q E hr h => ⟨_, PSs.nox (pss_one (ps_est (pv 0) (pv 1))), ?_⟩))
  exact ei_pure1 Z.e_BadShape Z.o_BadShape_value rfl h
theorem ok_i_BadCount (Z : Tx K mg base T fa fd fi di) : FnA P w K mg base 1 (fi 2) (di 2) ["self", "value"] (spEI (T.cls 2) ["value"]) := by
  refine FnA.of0 (sp := spEI (T.cls 2) ["value"]) (Fun.ok (sp := spEI (T.cls 2) ["value"]) Z.u_BadCount sci_BadCount (fun vs H Q E h => spEI_len rfl h) (fun cdv A outer s H vs Q E hr h => ⟨_, PSs.nox (pss_one (ps_est (pv 0) (pv 1))), ?_⟩))
  exact ei_pure1 Z.e_BadCount Z.o_BadCount_value rfl h
theorem ok_i_TooMany (Z : Tx K mg base T fa fd fi di) : FnA P w K mg base 1 (fi 5) (di 5) ["self", "limit"] (spEI (T.cls 5) ["limit"]) := by
  refine FnA.of0 (sp := spEI (T.cls 5) ["limit"]) (Fun.ok (sp := spEI (T.cls 5) ["limit"]) Z.u_TooMany sci_TooMany (fun vs H Q E h => spEI_len rfl h) (fun cdv A outer s H vs Q E hr h => ⟨_, PSs.nox (pss_one (ps_est (pv 0) (pv 1))), ?_⟩))
  exact ei_pure1 Z.e_TooMany Z.o_TooMany_limit rfl h
theorem ok_i_TooLarge (Z : Tx K mg base T fa fd fi di) : FnA P w K mg base 1 (fi 6) (di 6) ["self", "limit"] (spEI (T.cls 6) ["limit"]) := by
  refine FnA.of0 (sp := spEI (T.cls 6) ["limit"]) (Fun.ok (sp := spEI (T.cls 6) ["limit"]) Z.u_TooLarge sci_TooLarge (fun vs H Q E h => spEI_len rfl h) (fun cdv A outer s H vs Q E hr h => ⟨_, PSs.nox (pss_one (ps_est (pv 0) (pv 1))), ?_⟩))
  exact ei_pure1 Z.e_TooLarge Z.o_TooLarge_limit rfl h
theorem ok_i_Clash (Z : Tx K mg base T fa fd fi di) : FnA P w K mg base 1 (fi 7) (di 7) ["self", "places"] (spEI (T.cls 7) ["places"]) := by
  refine FnA.of0 (sp := spEI (T.cls 7) ["places"]) (Fun.ok (sp := spEI (T.cls 7) ["places"]) Z.u_Clash sci_Clash (fun vs H Q E h => spEI_len rfl h) (fun cdv A outer s H vs Q E hr h => ⟨_, PSs.nox (pss_one (ps_est (pv 0) (pv 1))), ?_⟩))
  exact ei_pure1 Z.e_Clash Z.o_Clash_places rfl h
theorem ok_i_BadChain (Z : Tx K mg base T fa fd fi di) : FnA P w K mg base 1 (fi 8) (di 8) ["self", "index"] (spEI (T.cls 8) ["index"]) := by
  refine FnA.of0 (sp := spEI (T.cls 8) ["index"]) (Fun.ok (sp := spEI (T.cls 8) ["index"]) Z.u_BadChain sci_BadChain (fun vs H Q E h => spEI_len rfl h) (fun cdv A outer s H vs Q E hr h => ⟨_, PSs.nox (pss_one (ps_est (pv 0) (pv 1))), ?_⟩))
  exact ei_pure1 Z.e_BadChain Z.o_BadChain_index rfl h
theorem ok_i_BadValue (Z : Tx K mg base T fa fd fi di) : FnA P w K mg base 1 (fi 9) (di 9) ["self", "value"] (spEI (T.cls 9) ["value"]) := by
  refine FnA.of0 (sp := spEI (T.cls 9) ["value"]) (Fun.ok (sp := spEI (T.cls 9) ["value"]) Z.u_BadValue sci_BadValue (fun vs H Q E h => spEI_len rfl h) (fun cdv A outer s H vs Q E hr h => ⟨_, PSs.nox (pss_one (ps_est (pv 0) (pv 1))), ?_⟩))
  exact ei_pure1 Z.e_BadValue Z.o_BadValue_value rfl h
theorem ok_i_BadForm (Z : Tx K mg base T fa fd fi di) : FnA P w K mg base 1 (fi 10) (di 10) ["self", "form"] (spEI (T.cls 10) ["form"]) := by
  refine FnA.of0 (sp := spEI (T.cls 10) ["form"]) (Fun.ok (sp := spEI (T.cls 10) ["form"]) Z.u_BadForm sci_BadForm (fun vs H Q E h => spEI_len rfl h) (fun cdv A outer s H vs Q E hr h => ⟨_, PSs.nox (pss_one (ps_est (pv 0) (pv 1))), ?_⟩))
  exact ei_pure1 Z.e_BadForm Z.o_BadForm_form rfl h
theorem ok_i_BadSize (Z : Tx K mg base T fa fd fi di) : FnA P w K mg base 1 (fi 11) (di 11) ["self", "size"] (spEI (T.cls 11) ["size"]) := by
  refine FnA.of0 (sp := spEI (T.cls 11) ["size"]) (Fun.ok (sp := spEI (T.cls 11) ["size"]) Z.u_BadSize sci_BadSize (fun vs H Q E h => spEI_len rfl h) (fun cdv A outer s H vs Q E hr h => ⟨_, PSs.nox (pss_one (ps_est (pv 0) (pv 1))), ?_⟩))
  exact ei_pure1 Z.e_BadSize Z.o_BadSize_size rfl h
theorem ok_i_NoValue (Z : Tx K mg base T fa fd fi di) : FnA P w K mg base 1 (fi 12) (di 12) ["self", "value"] (spEI (T.cls 12) ["value"]) := by
  refine FnA.of0 (sp := spEI (T.cls 12) ["value"]) (Fun.ok (sp := spEI (T.cls 12) ["value"]) Z.u_NoValue sci_NoValue (fun vs H Q E h => spEI_len rfl h) (fun cdv A outer s H vs Q E hr h => ⟨_, PSs.nox (pss_one (ps_est (pv 0) (pv 1))), ?_⟩))
  exact ei_pure1 Z.e_NoValue Z.o_NoValue_value rfl h
theorem ok_i_NotMet (Z : Tx K mg base T fa fd fi di) : FnA P w K mg base 1 (fi 14) (di 14) ["self", "value"] (spEI (T.cls 14) ["value"]) := by
  refine FnA.of0 (sp := spEI (T.cls 14) ["value"]) (Fun.ok (sp := spEI (T.cls 14) ["value"]) Z.u_NotMet sci_NotMet (fun vs H Q E h => spEI_len rfl h) (fun cdv A outer s H vs Q E hr h => ⟨_, PSs.nox (pss_one (ps_est (pv 0) (pv 1))), ?_⟩))
  exact ei_pure1 Z.e_NotMet Z.o_NotMet_value rfl h
theorem ok_i_Idle (Z : Tx K mg base T fa fd fi di) : FnA P w K mg base 1 (fi 15) (di 15) ["self", "number"] (spEI (T.cls 15) ["number"]) := by
  refine FnA.of0 (sp := spEI (T.cls 15) ["number"]) (Fun.ok (sp := spEI (T.cls 15) ["number"]) Z.u_Idle sci_Idle (fun vs H Q E h => spEI_len rfl h) (fun cdv A outer s H vs Q E hr h => ⟨_, PSs.nox (pss_one (ps_est (pv 0) (pv 1))), ?_⟩))
  exact ei_pure1 Z.e_Idle Z.o_Idle_number rfl h
theorem ok_i_BadRows (Z : Tx K mg base T fa fd fi di) : FnA P w K mg base 1 (fi 16) (di 16) ["self", "error"] (spEI (T.cls 16) ["error"]) := by
  refine FnA.of0 (sp := spEI (T.cls 16) ["error"]) (Fun.ok (sp := spEI (T.cls 16) ["error"]) Z.u_BadRows sci_BadRows (fun vs H Q E h => spEI_len rfl h) (fun cdv A outer s H vs Q E hr h => ⟨_, PSs.nox (pss_one (ps_est (pv 0) (pv 1))), ?_⟩))
  exact ei_pure1 Z.e_BadRows Z.o_BadRows_error rfl h
theorem ok_i_BadBook (Z : Tx K mg base T fa fd fi di) : FnA P w K mg base 1 (fi 17) (di 17) ["self", "error"] (spEI (T.cls 17) ["error"]) := by
  refine FnA.of0 (sp := spEI (T.cls 17) ["error"]) (Fun.ok (sp := spEI (T.cls 17) ["error"]) Z.u_BadBook sci_BadBook (fun vs H Q E h => spEI_len rfl h) (fun cdv A outer s H vs Q E hr h => ⟨_, PSs.nox (pss_one (ps_est (pv 0) (pv 1))), ?_⟩))
  exact ei_pure1 Z.e_BadBook Z.o_BadBook_error rfl h
theorem ok_i_HasHole (Z : Tx K mg base T fa fd fi di) : FnA P w K mg base 1 (fi 18) (di 18) ["self", "spot"] (spEI (T.cls 18) ["spot"]) := by
  refine FnA.of0 (sp := spEI (T.cls 18) ["spot"]) (Fun.ok (sp := spEI (T.cls 18) ["spot"]) Z.u_HasHole sci_HasHole (fun vs H Q E h => spEI_len rfl h) (fun cdv A outer s H vs Q E hr h => ⟨_, PSs.nox (pss_one (ps_est (pv 0) (pv 1))), ?_⟩))
  exact ei_pure1 Z.e_HasHole Z.o_HasHole_spot rfl h
theorem ok_i_NotPlain (Z : Tx K mg base T fa fd fi di) : FnA P w K mg base 1 (fi 19) (di 19) ["self", "index"] (spEI (T.cls 19) ["index"]) := by
  refine FnA.of0 (sp := spEI (T.cls 19) ["index"]) (Fun.ok (sp := spEI (T.cls 19) ["index"]) Z.u_NotPlain sci_NotPlain (fun vs H Q E h => spEI_len rfl h) (fun cdv A outer s H vs Q E hr h => ⟨_, PSs.nox (pss_one (ps_est (pv 0) (pv 1))), ?_⟩))
  exact ei_pure1 Z.e_NotPlain Z.o_NotPlain_index rfl h
theorem ok_i_BadDatas (Z : Tx K mg base T fa fd fi di) : FnA P w K mg base 1 (fi 20) (di 20) ["self", "error"] (spEI (T.cls 20) ["error"]) := by
  refine FnA.of0 (sp := spEI (T.cls 20) ["error"]) (Fun.ok (sp := spEI (T.cls 20) ["error"]) Z.u_BadDatas sci_BadDatas (fun vs H Q E h => spEI_len rfl h) (fun cdv A outer s H vs Q E hr h => ⟨_, PSs.nox (pss_one (ps_est (pv 0) (pv 1))), ?_⟩))
  exact ei_pure1 Z.e_BadDatas Z.o_BadDatas_error rfl h
theorem ok_i_Used (Z : Tx K mg base T fa fd fi di) : FnA P w K mg base 1 (fi 21) (di 21) ["self", "word"] (spEI (T.cls 21) ["word"]) := by
  refine FnA.of0 (sp := spEI (T.cls 21) ["word"]) (Fun.ok (sp := spEI (T.cls 21) ["word"]) Z.u_Used sci_Used (fun vs H Q E h => spEI_len rfl h) (fun cdv A outer s H vs Q E hr h => ⟨_, PSs.nox (pss_one (ps_est (pv 0) (pv 1))), ?_⟩))
  exact ei_pure1 Z.e_Used Z.o_Used_word rfl h
theorem ok_i_Refused (Z : Tx K mg base T fa fd fi di) : FnA P w K mg base 1 (fi 22) (di 22) ["self", "index", "verdict"] (spEI (T.cls 22) ["index", "verdict"]) := by
  refine FnA.of0 (sp := spEI (T.cls 22) ["index", "verdict"]) (Fun.ok (sp := spEI (T.cls 22) ["index", "verdict"]) Z.u_Refused sci_Refused (fun vs H Q E h => spEI_len rfl h) (fun cdv A outer s H vs Q E hr h => ⟨_, PSs.nox (pss_cons (ps_est (pv 0) (pv 1)) (pss_one (ps_est (pv 0) (pv 2)))), ?_⟩))
  exact ei_pure2 Z.e_Refused Z.o_Refused_index Z.o_Refused_verdict rfl h
theorem ok_i_BadEdit (Z : Tx K mg base T fa fd fi di) : FnA P w K mg base 1 (fi 26) (di 26) ["self", "index"] (spEI (T.cls 26) ["index"]) := by
  refine FnA.of0 (sp := spEI (T.cls 26) ["index"]) (Fun.ok (sp := spEI (T.cls 26) ["index"]) Z.u_BadEdit sci_BadEdit (fun vs H Q E h => spEI_len rfl h) (fun cdv A outer s H vs Q E hr h => ⟨_, PSs.nox (pss_one (ps_est (pv 0) (pv 1))), ?_⟩))
  exact ei_pure1 Z.e_BadEdit Z.o_BadEdit_index rfl h
theorem ok_i_Rejected (Z : Tx K mg base T fa fd fi di) : FnA P w K mg base 1 (fi 27) (di 27) ["self", "index"] (spEI (T.cls 27) ["index"]) := by
  refine FnA.of0 (sp := spEI (T.cls 27) ["index"]) (Fun.ok (sp := spEI (T.cls 27) ["index"]) Z.u_Rejected sci_Rejected (fun vs H Q E h => spEI_len rfl h) (fun cdv A outer s H vs Q E hr h => ⟨_, PSs.nox (pss_one (ps_est (pv 0) (pv 1))), ?_⟩))
  exact ei_pure1 Z.e_Rejected Z.o_Rejected_index rfl h
theorem ok_i_BadExpression (Z : Tx K mg base T fa fd fi di) : FnA P w K mg base 1 (fi 29) (di 29) ["self", "error"] (spEI (T.cls 29) ["error"]) := by
  refine FnA.of0 (sp := spEI (T.cls 29) ["error"]) (Fun.ok (sp := spEI (T.cls 29) ["error"]) Z.u_BadExpression sci_BadExpression (fun vs H Q E h => spEI_len rfl h) (fun cdv A outer s H vs Q E hr h => ⟨_, PSs.nox (pss_one (ps_est (pv 0) (pv 1))), ?_⟩))
  exact ei_pure1 Z.e_BadExpression Z.o_BadExpression_error rfl h
theorem ok_i_Incomplete (Z : Tx K mg base T fa fd fi di) : FnA P w K mg base 1 (fi 30) (di 30) ["self", "word", "place", "outline"] (spEI (T.cls 30) ["word", "place", "outline"]) := by
  refine FnA.of0 (sp := spEI (T.cls 30) ["word", "place", "outline"]) (Fun.ok (sp := spEI (T.cls 30) ["word", "place", "outline"]) Z.u_Incomplete sci_Incomplete (fun vs H Q E h => spEI_len rfl h) (fun cdv A outer s H vs Q E hr h => ⟨_, PSs.nox (pss_cons (ps_est (pv 0) (pv 1)) (pss_cons (ps_est (pv 0) (pv 2)) (pss_one (ps_est (pv 0) (pv 3))))), ?_⟩))
  exact ei_pure3 Z.e_Incomplete Z.o_Incomplete_word Z.o_Incomplete_place Z.o_Incomplete_outline rfl h
theorem ok_i_BadText (Z : Tx K mg base T fa fd fi di) : FnA P w K mg base 1 (fi 31) (di 31) ["self", "index"] (spEI (T.cls 31) ["index"]) := by
  refine FnA.of0 (sp := spEI (T.cls 31) ["index"]) (Fun.ok (sp := spEI (T.cls 31) ["index"]) Z.u_BadText sci_BadText (fun vs H Q E h => spEI_len rfl h) (fun cdv A outer s H vs Q E hr h => ⟨_, PSs.nox (pss_one (ps_est (pv 0) (pv 1))), ?_⟩))
  exact ei_pure1 Z.e_BadText Z.o_BadText_index rfl h
theorem ok_i_NoPlace (Z : Tx K mg base T fa fd fi di) : FnA P w K mg base 1 (fi 32) (di 32) ["self", "value"] (spEI (T.cls 32) ["value"]) := by
  refine FnA.of0 (sp := spEI (T.cls 32) ["value"]) (Fun.ok (sp := spEI (T.cls 32) ["value"]) Z.u_NoPlace sci_NoPlace (fun vs H Q E h => spEI_len rfl h) (fun cdv A outer s H vs Q E hr h => ⟨_, PSs.nox (pss_one (ps_est (pv 0) (pv 1))), ?_⟩))
  exact ei_pure1 Z.e_NoPlace Z.o_NoPlace_value rfl h
theorem ok_i_NoMaker (Z : Tx K mg base T fa fd fi di) : FnA P w K mg base 1 (fi 33) (di 33) ["self", "name"] (spEI (T.cls 33) ["name"]) := by
  refine FnA.of0 (sp := spEI (T.cls 33) ["name"]) (Fun.ok (sp := spEI (T.cls 33) ["name"]) Z.u_NoMaker sci_NoMaker (fun vs H Q E h => spEI_len rfl h) (fun cdv A outer s H vs Q E hr h => ⟨_, PSs.nox (pss_one (ps_est (pv 0) (pv 1))), ?_⟩))
  exact ei_pure1 Z.e_NoMaker Z.o_NoMaker_name rfl h
theorem ok_i_NoIndex (Z : Tx K mg base T fa fd fi di) : FnA P w K mg base 1 (fi 34) (di 34) ["self", "index"] (spEI (T.cls 34) ["index"]) := by
  refine FnA.of0 (sp := spEI (T.cls 34) ["index"]) (Fun.ok (sp := spEI (T.cls 34) ["index"]) Z.u_NoIndex sci_NoIndex (fun vs H Q E h => spEI_len rfl h) (fun cdv A outer s H vs Q E hr h => ⟨_, PSs.nox (pss_one (ps_est (pv 0) (pv 1))), ?_⟩))
  exact ei_pure1 Z.e_NoIndex Z.o_NoIndex_index rfl h
theorem ok_i_NoRow (Z : Tx K mg base T fa fd fi di) : FnA P w K mg base 1 (fi 35) (di 35) ["self", "number"] (spEI (T.cls 35) ["number"]) := by
  refine FnA.of0 (sp := spEI (T.cls 35) ["number"]) (Fun.ok (sp := spEI (T.cls 35) ["number"]) Z.u_NoRow sci_NoRow (fun vs H Q E h => spEI_len rfl h) (fun cdv A outer s H vs Q E hr h => ⟨_, PSs.nox (pss_one (ps_est (pv 0) (pv 1))), ?_⟩))
  exact ei_pure1 Z.e_NoRow Z.o_NoRow_number rfl h
theorem ok_i_NoDefinition (Z : Tx K mg base T fa fd fi di) : FnA P w K mg base 1 (fi 36) (di 36) ["self", "value"] (spEI (T.cls 36) ["value"]) := by
  refine FnA.of0 (sp := spEI (T.cls 36) ["value"]) (Fun.ok (sp := spEI (T.cls 36) ["value"]) Z.u_NoDefinition sci_NoDefinition (fun vs H Q E h => spEI_len rfl h) (fun cdv A outer s H vs Q E hr h => ⟨_, PSs.nox (pss_one (ps_est (pv 0) (pv 1))), ?_⟩))
  exact ei_pure1 Z.e_NoDefinition Z.o_NoDefinition_value rfl h
theorem ok_i_NoWord (Z : Tx K mg base T fa fd fi di) : FnA P w K mg base 1 (fi 37) (di 37) ["self", "word"] (spEI (T.cls 37) ["word"]) := by
  refine FnA.of0 (sp := spEI (T.cls 37) ["word"]) (Fun.ok (sp := spEI (T.cls 37) ["word"]) Z.u_NoWord sci_NoWord (fun vs H Q E h => spEI_len rfl h) (fun cdv A outer s H vs Q E hr h => ⟨_, PSs.nox (pss_one (ps_est (pv 0) (pv 1))), ?_⟩))
  exact ei_pure1 Z.e_NoWord Z.o_NoWord_word rfl h
theorem ok_i_NoVersion (Z : Tx K mg base T fa fd fi di) : FnA P w K mg base 1 (fi 38) (di 38) ["self", "value"] (spEI (T.cls 38) ["value"]) := by
  refine FnA.of0 (sp := spEI (T.cls 38) ["value"]) (Fun.ok (sp := spEI (T.cls 38) ["value"]) Z.u_NoVersion sci_NoVersion (fun vs H Q E h => spEI_len rfl h) (fun cdv A outer s H vs Q E hr h => ⟨_, PSs.nox (pss_one (ps_est (pv 0) (pv 1))), ?_⟩))
  exact ei_pure1 Z.e_NoVersion Z.o_NoVersion_value rfl h
theorem ok_0 (Z : Tx K mg base T fa fd fi di) (k : Nat) (ih : ∀ j, FnA P w K mg base (2 * k + 2) (fa j) (fd j) (pss j) (SpD ⟨K, T⟩ (pss j).length (tab k j))) :
    FnA P w K mg base (2 * (k + 1) + 2) (fa 0) (fd 0) (pss 0) (SpD ⟨K, T⟩ (pss 0).length (tab (k + 1) 0)) := by
  refine fn_ok (N := ["_law_script", "_law_great", "_law_mixed", "_law_cell"]) (ps := ["_law_script"]) (k := 2 * k + 3) (c := b_0 (tab k)) Z.d_0.F sc_0 fun cdv A outer s H E gd0 hr => ?_
  have gd := deeper_guards (env := envOfC "_law_draws" (defScope s_0) s.heap.objs.size (fa 0) cdv) gd0
  have hu := room_hu hr
  have hr2 := hr.mono (show 2 * k + 2 ≤ 2 * k + 3 by omega)
  have hr3 := hr.mono (show 1 + 1 ≤ 2 * k + 3 by omega)
  have nd := sc_0.nd
  have tk := takes_def (P := P) (w := w) (K := K) (mg := mg) (base := base) (N := ["_law_script", "_law_great", "_law_mixed", "_law_cell"]) (qual := "_law_draws") (sc := defScope s_0) (f := fa 0) (cdv := cdv) (A := A) (outer := outer) (s := s) (H := H) (E := E)
  have hp := passes_def (P := P) (w := w) (K := K) (mg := mg) (base := base) (N := ["_law_script", "_law_great", "_law_mixed", "_law_cell"]) (qual := "_law_draws") (sc := defScope s_0) (f := fa 0) (cdv := cdv) (A := A) (outer := outer) (s := s) (H := H) (E := E)
  unfold b_0
  exact iss_cons (is_par (i := 1) (j := 2) rfl nd (ia_cons (ie_int) (ia_cons (pe_opW od_add (ie_int) (pe_opW od_mul (ie_int) (ie_bi cd_len Z.n_len bb_len (ia_cons (ie_var (pv 0)) (ia_nil))))) (ia_nil))))
    (iss_cons (is_for fuel hp rfl (ii_any (ie_sl (ie_var (pv 0)) (io_none) (io_some (ie_int)))) (ig_name (i := 3) nd) (iss_cons (is_set (i := 2) nd (pe_opW od_mod (pe_opW od_add (pe_opW od_add (pe_opW od_add (pe_opW od_mul (ie_var (pv 2)) (ie_int)) (pe_opW od_mul (ie_int) (ie_bi cd_abs Z.n_abs bb_abs (ia_cons (ie_var (pv 3)) (ia_nil))))) (ie_ty cd_int Z.n_int bb_int (ia_cons (ie_cmp od_lt (ie_var (pv 3)) (ie_int) (nomark _)) (ia_nil)))) (ie_int)) (ie_int)))
    (iss_one (is_if (it_cmp od_ge (ie_bi cd_abs Z.n_abs bb_abs (ia_cons (ie_var (pv 3)) (ia_nil))) (pe_opW od_pow (ie_int) (ie_int)) (nomark _)) (iss_one (is_set (i := 1) nd (pe_opW od_add (pe_opW od_mul (ie_var (pv 1)) (ie_int)) (ie_bi cd_abs Z.n_abs bb_abs (ia_cons (ie_var (pv 3)) (ia_nil)))))) (iss_nil)))))
    (iss_one (is_ret (ie_lst (ia_cons (ie_var (pv 1)) (ia_cons (ie_var (pv 2)) (ia_cons (ie_int) (ia_nil))))))))
theorem ok_1 (Z : Tx K mg base T fa fd fi di) (k : Nat) (ih : ∀ j, FnA P w K mg base (2 * k + 2) (fa j) (fd j) (pss j) (SpD ⟨K, T⟩ (pss j).length (tab k j))) :
    FnA P w K mg base (2 * (k + 1) + 2) (fa 1) (fd 1) (pss 1) (SpD ⟨K, T⟩ (pss 1).length (tab (k + 1) 1)) := by
  refine fn_ok (N := ["_law_drawn", "_law_many", "_law_digit", "_law_mixed"]) (ps := ["_law_drawn", "_law_many"]) (k := 2 * k + 3) (c := b_1 (tab k)) Z.d_1.F sc_1 fun cdv A outer s H E gd0 hr => ?_
  have gd := deeper_guards (env := envOfC "_law_next" (defScope s_1) s.heap.objs.size (fa 1) cdv) gd0
  have hu := room_hu hr
  have hr2 := hr.mono (show 2 * k + 2 ≤ 2 * k + 3 by omega)
  have hr3 := hr.mono (show 1 + 1 ≤ 2 * k + 3 by omega)
  have nd := sc_1.nd
  have tk := takes_def (P := P) (w := w) (K := K) (mg := mg) (base := base) (N := ["_law_drawn", "_law_many", "_law_digit", "_law_mixed"]) (qual := "_law_next") (sc := defScope s_1) (f := fa 1) (cdv := cdv) (A := A) (outer := outer) (s := s) (H := H) (E := E)
  have hp := passes_def (P := P) (w := w) (K := K) (mg := mg) (base := base) (N := ["_law_drawn", "_law_many", "_law_digit", "_law_mixed"]) (qual := "_law_next") (sc := defScope s_1) (f := fa 1) (cdv := cdv) (A := A) (outer := outer) (s := s) (H := H) (E := E)
  unfold b_1
  exact iss_cons (is_if (it_cmp od_gt (ie_ix ix_d (ie_var (pv 0)) (ie_int)) (ie_int) (nomark _)) (iss_cons (is_set (i := 2) nd (pe_opW od_mod (ie_ix ix_d (ie_var (pv 0)) (ie_int)) (ie_var (pv 1))))
    (iss_cons (is_sub hu (pe_opW od_div (ie_ix ix_d (ie_var (pv 0)) (ie_int)) (ie_var (pv 1))) (ie_var (pv 0)) (ie_int))
    (iss_one (is_ret (ie_var (pv 2)))))) (iss_nil))
    (iss_cons (is_sub hu (pe_opW od_add (ie_ix ix_d (ie_var (pv 0)) (ie_int)) (ie_int)) (ie_var (pv 0)) (ie_int))
    (iss_cons (is_set (i := 3) nd (pe_opW od_mod (pe_opW od_add (ie_ix ix_d (ie_var (pv 0)) (ie_int)) (pe_opW od_mul (ie_int) (ie_ix ix_d (ie_var (pv 0)) (ie_int)))) (ie_int)))
    (iss_cons (is_set (i := 3) nd (pe_opW od_mod (pe_opW od_mul (ie_var (pv 3)) (pe_opW od_add (pe_opW od_mod (ie_var (pv 3)) (ie_int)) (ie_int))) (ie_int)))
    (iss_one (is_ret (pe_opW od_mod (pe_opW od_div (pe_opW od_mod (pe_opW od_mul (ie_var (pv 3)) (ie_var (pv 3))) (ie_int)) (ie_int)) (ie_var (pv 1))))))))
theorem ok_2 (Z : Tx K mg base T fa fd fi di) (k : Nat) (ih : ∀ j, FnA P w K mg base (2 * k + 2) (fa j) (fd j) (pss j) (SpD ⟨K, T⟩ (pss j).length (tab k j))) :
    FnA P w K mg base (2 * (k + 1) + 2) (fa 2) (fd 2) (pss 2) (SpD ⟨K, T⟩ (pss 2).length (tab (k + 1) 2)) := by
  refine fn_ok (N := ["_law_drawn", "_law_items"]) (ps := ["_law_drawn", "_law_items"]) (k := 2 * k + 3) (c := b_2 (tab k)) Z.d_2.F sc_2 fun cdv A outer s H E gd0 hr => ?_
  have gd := deeper_guards (env := envOfC "_law_one" (defScope s_2) s.heap.objs.size (fa 2) cdv) gd0
  have hu := room_hu hr
  have hr2 := hr.mono (show 2 * k + 2 ≤ 2 * k + 3 by omega)
  have hr3 := hr.mono (show 1 + 1 ≤ 2 * k + 3 by omega)
  have nd := sc_2.nd
  have tk := takes_def (P := P) (w := w) (K := K) (mg := mg) (base := base) (N := ["_law_drawn", "_law_items"]) (qual := "_law_one") (sc := defScope s_2) (f := fa 2) (cdv := cdv) (A := A) (outer := outer) (s := s) (H := H) (E := E)
  have hp := passes_def (P := P) (w := w) (K := K) (mg := mg) (base := base) (N := ["_law_drawn", "_law_items"]) (qual := "_law_one") (sc := defScope s_2) (f := fa 2) (cdv := cdv) (A := A) (outer := outer) (s := s) (H := H) (E := E)
  unfold b_2
  exact iss_one (is_ret (ie_ix ix_d (ie_var (pv 1)) (ie_call (n := 2) (ih 1) gd hr2 Z.d_1.m Z.d_1.kp Z.d_1.b tk (ia_cons (ie_var (pv 0)) (ia_cons (ie_bi cd_len Z.n_len bb_len (ia_cons (ie_var (pv 1)) (ia_nil))) (ia_nil))))))
theorem ok_3 (Z : Tx K mg base T fa fd fi di) (k : Nat) (ih : ∀ j, FnA P w K mg base (2 * k + 2) (fa j) (fd j) (pss j) (SpD ⟨K, T⟩ (pss j).length (tab k j))) :
    FnA P w K mg base (2 * (k + 1) + 2) (fa 3) (fd 3) (pss 3) (SpD ⟨K, T⟩ (pss 3).length (tab (k + 1) 3)) := by
  refine fn_ok (N := ["_law_one_here", "_law_other", "_law_third", "_law_found"]) (ps := ["_law_one_here", "_law_other", "_law_third"]) (k := 2 * k + 3) (c := b_3 (tab k)) Z.d_3.F sc_3 fun cdv A outer s H E gd0 hr => ?_
  have gd := deeper_guards (env := envOfC "_law_errors" (defScope s_3) s.heap.objs.size (fa 3) cdv) gd0
  have hu := room_hu hr
  have hr2 := hr.mono (show 2 * k + 2 ≤ 2 * k + 3 by omega)
  have hr3 := hr.mono (show 1 + 1 ≤ 2 * k + 3 by omega)
  have nd := sc_3.nd
  have tk := takes_def (P := P) (w := w) (K := K) (mg := mg) (base := base) (N := ["_law_one_here", "_law_other", "_law_third", "_law_found"]) (qual := "_law_errors") (sc := defScope s_3) (f := fa 3) (cdv := cdv) (A := A) (outer := outer) (s := s) (H := H) (E := E)
  have hp := passes_def (P := P) (w := w) (K := K) (mg := mg) (base := base) (N := ["_law_one_here", "_law_other", "_law_third", "_law_found"]) (qual := "_law_errors") (sc := defScope s_3) (f := fa 3) (cdv := cdv) (A := A) (outer := outer) (s := s) (H := H) (E := E)
  unfold b_3
  exact iss_cons (is_set (i := 3) nd (ie_lst (ia_cons (ie_mkE (c := 1) Z.e_BadShape Z.i_BadShape.1 Z.i_BadShape.2 (ok_i_BadShape Z) gd hr3 Z.c_BadShape Z.b_BadShape tk (ia_cons (ie_var (pv 0)) (ia_nil))) (ia_cons (ie_mkE (c := 2) Z.e_BadCount Z.i_BadCount.1 Z.i_BadCount.2 (ok_i_BadCount Z) gd hr3 Z.c_BadCount Z.b_BadCount tk (ia_cons (ie_var (pv 0)) (ia_nil))) (ia_cons (ie_mkE0 (c := 3) Z.x_NoMeeting.1 Z.x_NoMeeting.2.1 Z.x_NoMeeting.2.2 Z.c_NoMeeting) (ia_cons (ie_mkE0 (c := 4) Z.x_NoSolution.1 Z.x_NoSolution.2.1 Z.x_NoSolution.2.2 Z.c_NoSolution) (ia_cons (ie_mkE (c := 5) Z.e_TooMany Z.i_TooMany.1 Z.i_TooMany.2 (ok_i_TooMany Z) gd hr3 Z.c_TooMany Z.b_TooMany tk (ia_cons (ie_var (pv 0)) (ia_nil))) (ia_cons (ie_mkE (c := 6) Z.e_TooLarge Z.i_TooLarge.1 Z.i_TooLarge.2 (ok_i_TooLarge Z) gd hr3 Z.c_TooLarge Z.b_TooLarge tk (ia_cons (ie_var (pv 0)) (ia_nil))) (ia_nil)))))))))
    (iss_cons (is_set (i := 3) nd (pe_opW od_add (ie_var (pv 3)) (ie_lst (ia_cons (ie_mkE (c := 7) Z.e_Clash Z.i_Clash.1 Z.i_Clash.2 (ok_i_Clash Z) gd hr3 Z.c_Clash Z.b_Clash tk (ia_cons (ie_var (pv 0)) (ia_nil))) (ia_cons (ie_mkE (c := 8) Z.e_BadChain Z.i_BadChain.1 Z.i_BadChain.2 (ok_i_BadChain Z) gd hr3 Z.c_BadChain Z.b_BadChain tk (ia_cons (ie_var (pv 0)) (ia_nil))) (ia_cons (ie_mkE (c := 9) Z.e_BadValue Z.i_BadValue.1 Z.i_BadValue.2 (ok_i_BadValue Z) gd hr3 Z.c_BadValue Z.b_BadValue tk (ia_cons (ie_var (pv 0)) (ia_nil))) (ia_cons (ie_mkE (c := 10) Z.e_BadForm Z.i_BadForm.1 Z.i_BadForm.2 (ok_i_BadForm Z) gd hr3 Z.c_BadForm Z.b_BadForm tk (ia_cons (ie_var (pv 0)) (ia_nil))) (ia_cons (ie_mkE (c := 11) Z.e_BadSize Z.i_BadSize.1 Z.i_BadSize.2 (ok_i_BadSize Z) gd hr3 Z.c_BadSize Z.b_BadSize tk (ia_cons (ie_var (pv 0)) (ia_nil))) (ia_cons (ie_mkE (c := 12) Z.e_NoValue Z.i_NoValue.1 Z.i_NoValue.2 (ok_i_NoValue Z) gd hr3 Z.c_NoValue Z.b_NoValue tk (ia_cons (ie_var (pv 0)) (ia_nil))) (ia_nil))))))))))
    (iss_cons (is_set (i := 3) nd (pe_opW od_add (ie_var (pv 3)) (ie_lst (ia_cons (ie_mkE0 (c := 13) Z.x_HasValues.1 Z.x_HasValues.2.1 Z.x_HasValues.2.2 Z.c_HasValues) (ia_cons (ie_mkE (c := 14) Z.e_NotMet Z.i_NotMet.1 Z.i_NotMet.2 (ok_i_NotMet Z) gd hr3 Z.c_NotMet Z.b_NotMet tk (ia_cons (ie_var (pv 0)) (ia_nil))) (ia_cons (ie_mkE (c := 15) Z.e_Idle Z.i_Idle.1 Z.i_Idle.2 (ok_i_Idle Z) gd hr3 Z.c_Idle Z.b_Idle tk (ia_cons (ie_var (pv 0)) (ia_nil))) (ia_cons (ie_mkE (c := 16) Z.e_BadRows Z.i_BadRows.1 Z.i_BadRows.2 (ok_i_BadRows Z) gd hr3 Z.c_BadRows Z.b_BadRows tk (ia_cons (ie_var (pv 0)) (ia_nil))) (ia_cons (ie_mkE (c := 17) Z.e_BadBook Z.i_BadBook.1 Z.i_BadBook.2 (ok_i_BadBook Z) gd hr3 Z.c_BadBook Z.b_BadBook tk (ia_cons (ie_var (pv 0)) (ia_nil))) (ia_cons (ie_mkE (c := 18) Z.e_HasHole Z.i_HasHole.1 Z.i_HasHole.2 (ok_i_HasHole Z) gd hr3 Z.c_HasHole Z.b_HasHole tk (ia_cons (ie_var (pv 0)) (ia_nil))) (ia_cons (ie_mkE (c := 19) Z.e_NotPlain Z.i_NotPlain.1 Z.i_NotPlain.2 (ok_i_NotPlain Z) gd hr3 Z.c_NotPlain Z.b_NotPlain tk (ia_cons (ie_var (pv 0)) (ia_nil))) (ia_nil)))))))))))
    (iss_cons (is_set (i := 3) nd (pe_opW od_add (ie_var (pv 3)) (ie_lst (ia_cons (ie_mkE (c := 20) Z.e_BadDatas Z.i_BadDatas.1 Z.i_BadDatas.2 (ok_i_BadDatas Z) gd hr3 Z.c_BadDatas Z.b_BadDatas tk (ia_cons (ie_var (pv 0)) (ia_nil))) (ia_cons (ie_mkE (c := 21) Z.e_Used Z.i_Used.1 Z.i_Used.2 (ok_i_Used Z) gd hr3 Z.c_Used Z.b_Used tk (ia_cons (ie_var (pv 0)) (ia_nil))) (ia_cons (ie_mkE (c := 22) Z.e_Refused Z.i_Refused.1 Z.i_Refused.2 (ok_i_Refused Z) gd hr3 Z.c_Refused Z.b_Refused tk (ia_cons (ie_var (pv 0)) (ia_cons (ie_var (pv 1)) (ia_nil)))) (ia_cons (ie_mkE0 (c := 23) Z.x_TooManyEdits.1 Z.x_TooManyEdits.2.1 Z.x_TooManyEdits.2.2 Z.c_TooManyEdits) (ia_cons (ie_mkE0 (c := 24) Z.x_NothingToUndo.1 Z.x_NothingToUndo.2.1 Z.x_NothingToUndo.2.2 Z.c_NothingToUndo) (ia_cons (ie_mkE0 (c := 25) Z.x_BadEdits.1 Z.x_BadEdits.2.1 Z.x_BadEdits.2.2 Z.c_BadEdits) (ia_nil))))))))))
    (iss_cons (is_set (i := 3) nd (pe_opW od_add (ie_var (pv 3)) (ie_lst (ia_cons (ie_mkE (c := 26) Z.e_BadEdit Z.i_BadEdit.1 Z.i_BadEdit.2 (ok_i_BadEdit Z) gd hr3 Z.c_BadEdit Z.b_BadEdit tk (ia_cons (ie_var (pv 0)) (ia_nil))) (ia_cons (ie_mkE (c := 27) Z.e_Rejected Z.i_Rejected.1 Z.i_Rejected.2 (ok_i_Rejected Z) gd hr3 Z.c_Rejected Z.b_Rejected tk (ia_cons (ie_var (pv 0)) (ia_nil))) (ia_cons (ie_mkE0 (c := 28) Z.x_Busy.1 Z.x_Busy.2.1 Z.x_Busy.2.2 Z.c_Busy) (ia_cons (ie_mkE (c := 29) Z.e_BadExpression Z.i_BadExpression.1 Z.i_BadExpression.2 (ok_i_BadExpression Z) gd hr3 Z.c_BadExpression Z.b_BadExpression tk (ia_cons (ie_var (pv 0)) (ia_nil))) (ia_cons (ie_mkE (c := 30) Z.e_Incomplete Z.i_Incomplete.1 Z.i_Incomplete.2 (ok_i_Incomplete Z) gd hr3 Z.c_Incomplete Z.b_Incomplete tk (ia_cons (ie_var (pv 0)) (ia_cons (ie_var (pv 1)) (ia_cons (ie_var (pv 2)) (ia_nil))))) (ia_nil)))))))))
    (iss_cons (is_set (i := 3) nd (pe_opW od_add (ie_var (pv 3)) (ie_lst (ia_cons (ie_mkE (c := 31) Z.e_BadText Z.i_BadText.1 Z.i_BadText.2 (ok_i_BadText Z) gd hr3 Z.c_BadText Z.b_BadText tk (ia_cons (ie_var (pv 0)) (ia_nil))) (ia_cons (ie_mkE (c := 32) Z.e_NoPlace Z.i_NoPlace.1 Z.i_NoPlace.2 (ok_i_NoPlace Z) gd hr3 Z.c_NoPlace Z.b_NoPlace tk (ia_cons (ie_var (pv 0)) (ia_nil))) (ia_cons (ie_mkE (c := 33) Z.e_NoMaker Z.i_NoMaker.1 Z.i_NoMaker.2 (ok_i_NoMaker Z) gd hr3 Z.c_NoMaker Z.b_NoMaker tk (ia_cons (ie_var (pv 0)) (ia_nil))) (ia_cons (ie_mkE (c := 34) Z.e_NoIndex Z.i_NoIndex.1 Z.i_NoIndex.2 (ok_i_NoIndex Z) gd hr3 Z.c_NoIndex Z.b_NoIndex tk (ia_cons (ie_var (pv 0)) (ia_nil))) (ia_cons (ie_mkE (c := 35) Z.e_NoRow Z.i_NoRow.1 Z.i_NoRow.2 (ok_i_NoRow Z) gd hr3 Z.c_NoRow Z.b_NoRow tk (ia_cons (ie_var (pv 0)) (ia_nil))) (ia_cons (ie_mkE (c := 36) Z.e_NoDefinition Z.i_NoDefinition.1 Z.i_NoDefinition.2 (ok_i_NoDefinition Z) gd hr3 Z.c_NoDefinition Z.b_NoDefinition tk (ia_cons (ie_var (pv 0)) (ia_nil))) (ia_nil))))))))))
    (iss_cons (is_set (i := 3) nd (pe_opW od_add (ie_var (pv 3)) (ie_lst (ia_cons (ie_mkE (c := 37) Z.e_NoWord Z.i_NoWord.1 Z.i_NoWord.2 (ok_i_NoWord Z) gd hr3 Z.c_NoWord Z.b_NoWord tk (ia_cons (ie_var (pv 0)) (ia_nil))) (ia_cons (ie_mkE (c := 38) Z.e_NoVersion Z.i_NoVersion.1 Z.i_NoVersion.2 (ok_i_NoVersion Z) gd hr3 Z.c_NoVersion Z.b_NoVersion tk (ia_cons (ie_var (pv 0)) (ia_nil))) (ia_nil))))))
    (iss_one (is_ret (ie_var (pv 3))))))))))
theorem ok_4 (Z : Tx K mg base T fa fd fi di) (k : Nat) (ih : ∀ j, FnA P w K mg base (2 * k + 2) (fa j) (fd j) (pss j) (SpD ⟨K, T⟩ (pss j).length (tab k j))) :
    FnA P w K mg base (2 * (k + 1) + 2) (fa 4) (fd 4) (pss 4) (SpD ⟨K, T⟩ (pss 4).length (tab (k + 1) 4)) := by
  refine fn_ok (N := ["_law_e", "_law_found"]) (ps := ["_law_e"]) (k := 2 * k + 3) (c := b_4 (tab k)) Z.d_4.F sc_4 fun cdv A outer s H E gd0 hr => ?_
  have gd := deeper_guards (env := envOfC "_law_flags" (defScope s_4) s.heap.objs.size (fa 4) cdv) gd0
  have hu := room_hu hr
  have hr2 := hr.mono (show 2 * k + 2 ≤ 2 * k + 3 by omega)
  have hr3 := hr.mono (show 1 + 1 ≤ 2 * k + 3 by omega)
  have nd := sc_4.nd
  have tk := takes_def (P := P) (w := w) (K := K) (mg := mg) (base := base) (N := ["_law_e", "_law_found"]) (qual := "_law_flags") (sc := defScope s_4) (f := fa 4) (cdv := cdv) (A := A) (outer := outer) (s := s) (H := H) (E := E)
  have hp := passes_def (P := P) (w := w) (K := K) (mg := mg) (base := base) (N := ["_law_e", "_law_found"]) (qual := "_law_flags") (sc := defScope s_4) (f := fa 4) (cdv := cdv) (A := A) (outer := outer) (s := s) (H := H) (E := E)
  unfold b_4
  exact iss_cons (is_set (i := 1) nd (ie_lst (ia_cons (ie_bi (cd_isiE Z.isi) Z.n_isinstance bb_isinstance (ia_cons (ie_var (pv 0)) (ia_cons (ie_gl (i := 1) Z.c_BadShape (rv_own (Z.v_ 1 (by decide)))) (ia_nil)))) (ia_cons (ie_bi (cd_isiE Z.isi) Z.n_isinstance bb_isinstance (ia_cons (ie_var (pv 0)) (ia_cons (ie_gl (i := 2) Z.c_BadCount (rv_own (Z.v_ 2 (by decide)))) (ia_nil)))) (ia_cons (ie_bi (cd_isiE Z.isi) Z.n_isinstance bb_isinstance (ia_cons (ie_var (pv 0)) (ia_cons (ie_gl (i := 3) Z.c_NoMeeting (rv_own (Z.v_ 3 (by decide)))) (ia_nil)))) (ia_nil))))))
    (iss_cons (is_set (i := 1) nd (pe_opW od_add (ie_var (pv 1)) (ie_lst (ia_cons (ie_bi (cd_isiE Z.isi) Z.n_isinstance bb_isinstance (ia_cons (ie_var (pv 0)) (ia_cons (ie_gl (i := 4) Z.c_NoSolution (rv_own (Z.v_ 4 (by decide)))) (ia_nil)))) (ia_cons (ie_bi (cd_isiE Z.isi) Z.n_isinstance bb_isinstance (ia_cons (ie_var (pv 0)) (ia_cons (ie_gl (i := 5) Z.c_TooMany (rv_own (Z.v_ 5 (by decide)))) (ia_nil)))) (ia_cons (ie_bi (cd_isiE Z.isi) Z.n_isinstance bb_isinstance (ia_cons (ie_var (pv 0)) (ia_cons (ie_gl (i := 6) Z.c_TooLarge (rv_own (Z.v_ 6 (by decide)))) (ia_nil)))) (ia_nil)))))))
    (iss_cons (is_set (i := 1) nd (pe_opW od_add (ie_var (pv 1)) (ie_lst (ia_cons (ie_bi (cd_isiE Z.isi) Z.n_isinstance bb_isinstance (ia_cons (ie_var (pv 0)) (ia_cons (ie_gl (i := 7) Z.c_Clash (rv_own (Z.v_ 7 (by decide)))) (ia_nil)))) (ia_cons (ie_bi (cd_isiE Z.isi) Z.n_isinstance bb_isinstance (ia_cons (ie_var (pv 0)) (ia_cons (ie_gl (i := 8) Z.c_BadChain (rv_own (Z.v_ 8 (by decide)))) (ia_nil)))) (ia_cons (ie_bi (cd_isiE Z.isi) Z.n_isinstance bb_isinstance (ia_cons (ie_var (pv 0)) (ia_cons (ie_gl (i := 9) Z.c_BadValue (rv_own (Z.v_ 9 (by decide)))) (ia_nil)))) (ia_nil)))))))
    (iss_cons (is_set (i := 1) nd (pe_opW od_add (ie_var (pv 1)) (ie_lst (ia_cons (ie_bi (cd_isiE Z.isi) Z.n_isinstance bb_isinstance (ia_cons (ie_var (pv 0)) (ia_cons (ie_gl (i := 10) Z.c_BadForm (rv_own (Z.v_ 10 (by decide)))) (ia_nil)))) (ia_cons (ie_bi (cd_isiE Z.isi) Z.n_isinstance bb_isinstance (ia_cons (ie_var (pv 0)) (ia_cons (ie_gl (i := 11) Z.c_BadSize (rv_own (Z.v_ 11 (by decide)))) (ia_nil)))) (ia_cons (ie_bi (cd_isiE Z.isi) Z.n_isinstance bb_isinstance (ia_cons (ie_var (pv 0)) (ia_cons (ie_gl (i := 12) Z.c_NoValue (rv_own (Z.v_ 12 (by decide)))) (ia_nil)))) (ia_nil)))))))
    (iss_cons (is_set (i := 1) nd (pe_opW od_add (ie_var (pv 1)) (ie_lst (ia_cons (ie_bi (cd_isiE Z.isi) Z.n_isinstance bb_isinstance (ia_cons (ie_var (pv 0)) (ia_cons (ie_gl (i := 13) Z.c_HasValues (rv_own (Z.v_ 13 (by decide)))) (ia_nil)))) (ia_cons (ie_bi (cd_isiE Z.isi) Z.n_isinstance bb_isinstance (ia_cons (ie_var (pv 0)) (ia_cons (ie_gl (i := 14) Z.c_NotMet (rv_own (Z.v_ 14 (by decide)))) (ia_nil)))) (ia_cons (ie_bi (cd_isiE Z.isi) Z.n_isinstance bb_isinstance (ia_cons (ie_var (pv 0)) (ia_cons (ie_gl (i := 15) Z.c_Idle (rv_own (Z.v_ 15 (by decide)))) (ia_nil)))) (ia_cons (ie_bi (cd_isiE Z.isi) Z.n_isinstance bb_isinstance (ia_cons (ie_var (pv 0)) (ia_cons (ie_gl (i := 16) Z.c_BadRows (rv_own (Z.v_ 16 (by decide)))) (ia_nil)))) (ia_nil))))))))
    (iss_cons (is_set (i := 1) nd (pe_opW od_add (ie_var (pv 1)) (ie_lst (ia_cons (ie_bi (cd_isiE Z.isi) Z.n_isinstance bb_isinstance (ia_cons (ie_var (pv 0)) (ia_cons (ie_gl (i := 17) Z.c_BadBook (rv_own (Z.v_ 17 (by decide)))) (ia_nil)))) (ia_cons (ie_bi (cd_isiE Z.isi) Z.n_isinstance bb_isinstance (ia_cons (ie_var (pv 0)) (ia_cons (ie_gl (i := 18) Z.c_HasHole (rv_own (Z.v_ 18 (by decide)))) (ia_nil)))) (ia_cons (ie_bi (cd_isiE Z.isi) Z.n_isinstance bb_isinstance (ia_cons (ie_var (pv 0)) (ia_cons (ie_gl (i := 19) Z.c_NotPlain (rv_own (Z.v_ 19 (by decide)))) (ia_nil)))) (ia_nil)))))))
    (iss_cons (is_set (i := 1) nd (pe_opW od_add (ie_var (pv 1)) (ie_lst (ia_cons (ie_bi (cd_isiE Z.isi) Z.n_isinstance bb_isinstance (ia_cons (ie_var (pv 0)) (ia_cons (ie_gl (i := 20) Z.c_BadDatas (rv_own (Z.v_ 20 (by decide)))) (ia_nil)))) (ia_cons (ie_bi (cd_isiE Z.isi) Z.n_isinstance bb_isinstance (ia_cons (ie_var (pv 0)) (ia_cons (ie_gl (i := 21) Z.c_Used (rv_own (Z.v_ 21 (by decide)))) (ia_nil)))) (ia_cons (ie_bi (cd_isiE Z.isi) Z.n_isinstance bb_isinstance (ia_cons (ie_var (pv 0)) (ia_cons (ie_gl (i := 22) Z.c_Refused (rv_own (Z.v_ 22 (by decide)))) (ia_nil)))) (ia_nil)))))))
    (iss_cons (is_set (i := 1) nd (pe_opW od_add (ie_var (pv 1)) (ie_lst (ia_cons (ie_bi (cd_isiE Z.isi) Z.n_isinstance bb_isinstance (ia_cons (ie_var (pv 0)) (ia_cons (ie_gl (i := 23) Z.c_TooManyEdits (rv_own (Z.v_ 23 (by decide)))) (ia_nil)))) (ia_cons (ie_bi (cd_isiE Z.isi) Z.n_isinstance bb_isinstance (ia_cons (ie_var (pv 0)) (ia_cons (ie_gl (i := 24) Z.c_NothingToUndo (rv_own (Z.v_ 24 (by decide)))) (ia_nil)))) (ia_cons (ie_bi (cd_isiE Z.isi) Z.n_isinstance bb_isinstance (ia_cons (ie_var (pv 0)) (ia_cons (ie_gl (i := 25) Z.c_BadEdits (rv_own (Z.v_ 25 (by decide)))) (ia_nil)))) (ia_nil)))))))
    (iss_cons (is_set (i := 1) nd (pe_opW od_add (ie_var (pv 1)) (ie_lst (ia_cons (ie_bi (cd_isiE Z.isi) Z.n_isinstance bb_isinstance (ia_cons (ie_var (pv 0)) (ia_cons (ie_gl (i := 26) Z.c_BadEdit (rv_own (Z.v_ 26 (by decide)))) (ia_nil)))) (ia_cons (ie_bi (cd_isiE Z.isi) Z.n_isinstance bb_isinstance (ia_cons (ie_var (pv 0)) (ia_cons (ie_gl (i := 27) Z.c_Rejected (rv_own (Z.v_ 27 (by decide)))) (ia_nil)))) (ia_cons (ie_bi (cd_isiE Z.isi) Z.n_isinstance bb_isinstance (ia_cons (ie_var (pv 0)) (ia_cons (ie_gl (i := 28) Z.c_Busy (rv_own (Z.v_ 28 (by decide)))) (ia_nil)))) (ia_nil)))))))
    (iss_cons (is_set (i := 1) nd (pe_opW od_add (ie_var (pv 1)) (ie_lst (ia_cons (ie_bi (cd_isiE Z.isi) Z.n_isinstance bb_isinstance (ia_cons (ie_var (pv 0)) (ia_cons (ie_gl (i := 29) Z.c_BadExpression (rv_own (Z.v_ 29 (by decide)))) (ia_nil)))) (ia_cons (ie_bi (cd_isiE Z.isi) Z.n_isinstance bb_isinstance (ia_cons (ie_var (pv 0)) (ia_cons (ie_gl (i := 30) Z.c_Incomplete (rv_own (Z.v_ 30 (by decide)))) (ia_nil)))) (ia_cons (ie_bi (cd_isiE Z.isi) Z.n_isinstance bb_isinstance (ia_cons (ie_var (pv 0)) (ia_cons (ie_gl (i := 31) Z.c_BadText (rv_own (Z.v_ 31 (by decide)))) (ia_nil)))) (ia_nil)))))))
    (iss_cons (is_set (i := 1) nd (pe_opW od_add (ie_var (pv 1)) (ie_lst (ia_cons (ie_bi (cd_isiE Z.isi) Z.n_isinstance bb_isinstance (ia_cons (ie_var (pv 0)) (ia_cons (ie_gl (i := 32) Z.c_NoPlace (rv_own (Z.v_ 32 (by decide)))) (ia_nil)))) (ia_cons (ie_bi (cd_isiE Z.isi) Z.n_isinstance bb_isinstance (ia_cons (ie_var (pv 0)) (ia_cons (ie_gl (i := 33) Z.c_NoMaker (rv_own (Z.v_ 33 (by decide)))) (ia_nil)))) (ia_cons (ie_bi (cd_isiE Z.isi) Z.n_isinstance bb_isinstance (ia_cons (ie_var (pv 0)) (ia_cons (ie_gl (i := 34) Z.c_NoIndex (rv_own (Z.v_ 34 (by decide)))) (ia_nil)))) (ia_cons (ie_bi (cd_isiE Z.isi) Z.n_isinstance bb_isinstance (ia_cons (ie_var (pv 0)) (ia_cons (ie_gl (i := 35) Z.c_NoRow (rv_own (Z.v_ 35 (by decide)))) (ia_nil)))) (ia_nil))))))))
    (iss_cons (is_set (i := 1) nd (pe_opW od_add (ie_var (pv 1)) (ie_lst (ia_cons (ie_bi (cd_isiE Z.isi) Z.n_isinstance bb_isinstance (ia_cons (ie_var (pv 0)) (ia_cons (ie_gl (i := 36) Z.c_NoDefinition (rv_own (Z.v_ 36 (by decide)))) (ia_nil)))) (ia_cons (ie_bi (cd_isiE Z.isi) Z.n_isinstance bb_isinstance (ia_cons (ie_var (pv 0)) (ia_cons (ie_gl (i := 37) Z.c_NoWord (rv_own (Z.v_ 37 (by decide)))) (ia_nil)))) (ia_cons (ie_bi (cd_isiE Z.isi) Z.n_isinstance bb_isinstance (ia_cons (ie_var (pv 0)) (ia_cons (ie_gl (i := 38) Z.c_NoVersion (rv_own (Z.v_ 38 (by decide)))) (ia_nil)))) (ia_nil)))))))
    (iss_one (is_ret (ie_var (pv 1)))))))))))))))
theorem ok_5 (Z : Tx K mg base T fa fd fi di) (k : Nat) (ih : ∀ j, FnA P w K mg base (2 * k + 2) (fa j) (fd j) (pss j) (SpD ⟨K, T⟩ (pss j).length (tab k j))) :
    FnA P w K mg base (2 * (k + 1) + 2) (fa 5) (fd 5) (pss 5) (SpD ⟨K, T⟩ (pss 5).length (tab (k + 1) 5)) := by
  refine fn_ok (N := ["_law_one_here", "_law_found"]) (ps := ["_law_one_here"]) (k := 2 * k + 3) (c := b_5 (tab k)) Z.d_5.F sc_5 fun cdv A outer s H E gd0 hr => ?_
  have gd := deeper_guards (env := envOfC "_law_fields" (defScope s_5) s.heap.objs.size (fa 5) cdv) gd0
  have hu := room_hu hr
  have hr2 := hr.mono (show 2 * k + 2 ≤ 2 * k + 3 by omega)
  have hr3 := hr.mono (show 1 + 1 ≤ 2 * k + 3 by omega)
  have nd := sc_5.nd
  have tk := takes_def (P := P) (w := w) (K := K) (mg := mg) (base := base) (N := ["_law_one_here", "_law_found"]) (qual := "_law_fields") (sc := defScope s_5) (f := fa 5) (cdv := cdv) (A := A) (outer := outer) (s := s) (H := H) (E := E)
  have hp := passes_def (P := P) (w := w) (K := K) (mg := mg) (base := base) (N := ["_law_one_here", "_law_found"]) (qual := "_law_fields") (sc := defScope s_5) (f := fa 5) (cdv := cdv) (A := A) (outer := outer) (s := s) (H := H) (E := E)
  unfold b_5
  exact iss_cons (is_set (i := 1) nd (ie_lst (ia_cons (ie_fldE (f := "value") Z.f_value (ie_mkE (c := 1) Z.e_BadShape Z.i_BadShape.1 Z.i_BadShape.2 (ok_i_BadShape Z) gd hr3 Z.c_BadShape Z.b_BadShape tk (ia_cons (ie_var (pv 0)) (ia_nil)))) (ia_cons (ie_fldE (f := "value") Z.f_value (ie_mkE (c := 2) Z.e_BadCount Z.i_BadCount.1 Z.i_BadCount.2 (ok_i_BadCount Z) gd hr3 Z.c_BadCount Z.b_BadCount tk (ia_cons (ie_var (pv 0)) (ia_nil)))) (ia_cons (ie_fldE (f := "limit") Z.f_limit (ie_mkE (c := 5) Z.e_TooMany Z.i_TooMany.1 Z.i_TooMany.2 (ok_i_TooMany Z) gd hr3 Z.c_TooMany Z.b_TooMany tk (ia_cons (ie_var (pv 0)) (ia_nil)))) (ia_cons (ie_fldE (f := "limit") Z.f_limit (ie_mkE (c := 6) Z.e_TooLarge Z.i_TooLarge.1 Z.i_TooLarge.2 (ok_i_TooLarge Z) gd hr3 Z.c_TooLarge Z.b_TooLarge tk (ia_cons (ie_var (pv 0)) (ia_nil)))) (ia_nil)))))))
    (iss_cons (is_set (i := 1) nd (pe_opW od_add (ie_var (pv 1)) (ie_lst (ia_cons (ie_fldE (f := "places") Z.f_places (ie_mkE (c := 7) Z.e_Clash Z.i_Clash.1 Z.i_Clash.2 (ok_i_Clash Z) gd hr3 Z.c_Clash Z.b_Clash tk (ia_cons (ie_var (pv 0)) (ia_nil)))) (ia_cons (ie_fldE (f := "index") Z.f_index (ie_mkE (c := 8) Z.e_BadChain Z.i_BadChain.1 Z.i_BadChain.2 (ok_i_BadChain Z) gd hr3 Z.c_BadChain Z.b_BadChain tk (ia_cons (ie_var (pv 0)) (ia_nil)))) (ia_cons (ie_fldE (f := "value") Z.f_value (ie_mkE (c := 9) Z.e_BadValue Z.i_BadValue.1 Z.i_BadValue.2 (ok_i_BadValue Z) gd hr3 Z.c_BadValue Z.b_BadValue tk (ia_cons (ie_var (pv 0)) (ia_nil)))) (ia_cons (ie_fldE (f := "form") Z.f_form (ie_mkE (c := 10) Z.e_BadForm Z.i_BadForm.1 Z.i_BadForm.2 (ok_i_BadForm Z) gd hr3 Z.c_BadForm Z.b_BadForm tk (ia_cons (ie_var (pv 0)) (ia_nil)))) (ia_nil))))))))
    (iss_cons (is_set (i := 1) nd (pe_opW od_add (ie_var (pv 1)) (ie_lst (ia_cons (ie_fldE (f := "size") Z.f_size (ie_mkE (c := 11) Z.e_BadSize Z.i_BadSize.1 Z.i_BadSize.2 (ok_i_BadSize Z) gd hr3 Z.c_BadSize Z.b_BadSize tk (ia_cons (ie_var (pv 0)) (ia_nil)))) (ia_cons (ie_fldE (f := "value") Z.f_value (ie_mkE (c := 12) Z.e_NoValue Z.i_NoValue.1 Z.i_NoValue.2 (ok_i_NoValue Z) gd hr3 Z.c_NoValue Z.b_NoValue tk (ia_cons (ie_var (pv 0)) (ia_nil)))) (ia_cons (ie_fldE (f := "value") Z.f_value (ie_mkE (c := 14) Z.e_NotMet Z.i_NotMet.1 Z.i_NotMet.2 (ok_i_NotMet Z) gd hr3 Z.c_NotMet Z.b_NotMet tk (ia_cons (ie_var (pv 0)) (ia_nil)))) (ia_cons (ie_fldE (f := "number") Z.f_number (ie_mkE (c := 15) Z.e_Idle Z.i_Idle.1 Z.i_Idle.2 (ok_i_Idle Z) gd hr3 Z.c_Idle Z.b_Idle tk (ia_cons (ie_var (pv 0)) (ia_nil)))) (ia_nil))))))))
    (iss_cons (is_set (i := 1) nd (pe_opW od_add (ie_var (pv 1)) (ie_lst (ia_cons (ie_fldE (f := "error") Z.f_error (ie_mkE (c := 16) Z.e_BadRows Z.i_BadRows.1 Z.i_BadRows.2 (ok_i_BadRows Z) gd hr3 Z.c_BadRows Z.b_BadRows tk (ia_cons (ie_var (pv 0)) (ia_nil)))) (ia_cons (ie_fldE (f := "error") Z.f_error (ie_mkE (c := 17) Z.e_BadBook Z.i_BadBook.1 Z.i_BadBook.2 (ok_i_BadBook Z) gd hr3 Z.c_BadBook Z.b_BadBook tk (ia_cons (ie_var (pv 0)) (ia_nil)))) (ia_cons (ie_fldE (f := "spot") Z.f_spot (ie_mkE (c := 18) Z.e_HasHole Z.i_HasHole.1 Z.i_HasHole.2 (ok_i_HasHole Z) gd hr3 Z.c_HasHole Z.b_HasHole tk (ia_cons (ie_var (pv 0)) (ia_nil)))) (ia_cons (ie_fldE (f := "index") Z.f_index (ie_mkE (c := 19) Z.e_NotPlain Z.i_NotPlain.1 Z.i_NotPlain.2 (ok_i_NotPlain Z) gd hr3 Z.c_NotPlain Z.b_NotPlain tk (ia_cons (ie_var (pv 0)) (ia_nil)))) (ia_nil))))))))
    (iss_cons (is_set (i := 1) nd (pe_opW od_add (ie_var (pv 1)) (ie_lst (ia_cons (ie_fldE (f := "error") Z.f_error (ie_mkE (c := 20) Z.e_BadDatas Z.i_BadDatas.1 Z.i_BadDatas.2 (ok_i_BadDatas Z) gd hr3 Z.c_BadDatas Z.b_BadDatas tk (ia_cons (ie_var (pv 0)) (ia_nil)))) (ia_cons (ie_fldE (f := "word") Z.f_word (ie_mkE (c := 21) Z.e_Used Z.i_Used.1 Z.i_Used.2 (ok_i_Used Z) gd hr3 Z.c_Used Z.b_Used tk (ia_cons (ie_var (pv 0)) (ia_nil)))) (ia_cons (ie_fldE (f := "index") Z.f_index (ie_mkE (c := 26) Z.e_BadEdit Z.i_BadEdit.1 Z.i_BadEdit.2 (ok_i_BadEdit Z) gd hr3 Z.c_BadEdit Z.b_BadEdit tk (ia_cons (ie_var (pv 0)) (ia_nil)))) (ia_cons (ie_fldE (f := "index") Z.f_index (ie_mkE (c := 27) Z.e_Rejected Z.i_Rejected.1 Z.i_Rejected.2 (ok_i_Rejected Z) gd hr3 Z.c_Rejected Z.b_Rejected tk (ia_cons (ie_var (pv 0)) (ia_nil)))) (ia_nil))))))))
    (iss_cons (is_set (i := 1) nd (pe_opW od_add (ie_var (pv 1)) (ie_lst (ia_cons (ie_fldE (f := "error") Z.f_error (ie_mkE (c := 29) Z.e_BadExpression Z.i_BadExpression.1 Z.i_BadExpression.2 (ok_i_BadExpression Z) gd hr3 Z.c_BadExpression Z.b_BadExpression tk (ia_cons (ie_var (pv 0)) (ia_nil)))) (ia_cons (ie_fldE (f := "index") Z.f_index (ie_mkE (c := 31) Z.e_BadText Z.i_BadText.1 Z.i_BadText.2 (ok_i_BadText Z) gd hr3 Z.c_BadText Z.b_BadText tk (ia_cons (ie_var (pv 0)) (ia_nil)))) (ia_cons (ie_fldE (f := "value") Z.f_value (ie_mkE (c := 32) Z.e_NoPlace Z.i_NoPlace.1 Z.i_NoPlace.2 (ok_i_NoPlace Z) gd hr3 Z.c_NoPlace Z.b_NoPlace tk (ia_cons (ie_var (pv 0)) (ia_nil)))) (ia_cons (ie_fldE (f := "name") Z.f_name (ie_mkE (c := 33) Z.e_NoMaker Z.i_NoMaker.1 Z.i_NoMaker.2 (ok_i_NoMaker Z) gd hr3 Z.c_NoMaker Z.b_NoMaker tk (ia_cons (ie_var (pv 0)) (ia_nil)))) (ia_nil))))))))
    (iss_cons (is_set (i := 1) nd (pe_opW od_add (ie_var (pv 1)) (ie_lst (ia_cons (ie_fldE (f := "index") Z.f_index (ie_mkE (c := 34) Z.e_NoIndex Z.i_NoIndex.1 Z.i_NoIndex.2 (ok_i_NoIndex Z) gd hr3 Z.c_NoIndex Z.b_NoIndex tk (ia_cons (ie_var (pv 0)) (ia_nil)))) (ia_cons (ie_fldE (f := "number") Z.f_number (ie_mkE (c := 35) Z.e_NoRow Z.i_NoRow.1 Z.i_NoRow.2 (ok_i_NoRow Z) gd hr3 Z.c_NoRow Z.b_NoRow tk (ia_cons (ie_var (pv 0)) (ia_nil)))) (ia_cons (ie_fldE (f := "value") Z.f_value (ie_mkE (c := 36) Z.e_NoDefinition Z.i_NoDefinition.1 Z.i_NoDefinition.2 (ok_i_NoDefinition Z) gd hr3 Z.c_NoDefinition Z.b_NoDefinition tk (ia_cons (ie_var (pv 0)) (ia_nil)))) (ia_cons (ie_fldE (f := "word") Z.f_word (ie_mkE (c := 37) Z.e_NoWord Z.i_NoWord.1 Z.i_NoWord.2 (ok_i_NoWord Z) gd hr3 Z.c_NoWord Z.b_NoWord tk (ia_cons (ie_var (pv 0)) (ia_nil)))) (ia_nil))))))))
    (iss_cons (is_set (i := 1) nd (pe_opW od_add (ie_var (pv 1)) (ie_lst (ia_cons (ie_fldE (f := "value") Z.f_value (ie_mkE (c := 38) Z.e_NoVersion Z.i_NoVersion.1 Z.i_NoVersion.2 (ok_i_NoVersion Z) gd hr3 Z.c_NoVersion Z.b_NoVersion tk (ia_cons (ie_var (pv 0)) (ia_nil)))) (ia_nil)))))
    (iss_one (is_ret (ie_var (pv 1)))))))))))
theorem ok_6 (Z : Tx K mg base T fa fd fi di) (k : Nat) (ih : ∀ j, FnA P w K mg base (2 * k + 2) (fa j) (fd j) (pss j) (SpD ⟨K, T⟩ (pss j).length (tab k j))) :
    FnA P w K mg base (2 * (k + 1) + 2) (fa 6) (fd 6) (pss 6) (SpD ⟨K, T⟩ (pss 6).length (tab (k + 1) 6)) := by
  refine fn_ok (N := ["_law_one_here", "_law_other", "_law_third", "_law_refused", "_law_incomplete"]) (ps := ["_law_one_here", "_law_other", "_law_third"]) (k := 2 * k + 3) (c := b_6 (tab k)) Z.d_6.F sc_6 fun cdv A outer s H E gd0 hr => ?_
  have gd := deeper_guards (env := envOfC "_law_more_fields" (defScope s_6) s.heap.objs.size (fa 6) cdv) gd0
  have hu := room_hu hr
  have hr2 := hr.mono (show 2 * k + 2 ≤ 2 * k + 3 by omega)
  have hr3 := hr.mono (show 1 + 1 ≤ 2 * k + 3 by omega)
  have nd := sc_6.nd
  have tk := takes_def (P := P) (w := w) (K := K) (mg := mg) (base := base) (N := ["_law_one_here", "_law_other", "_law_third", "_law_refused", "_law_incomplete"]) (qual := "_law_more_fields") (sc := defScope s_6) (f := fa 6) (cdv := cdv) (A := A) (outer := outer) (s := s) (H := H) (E := E)
  have hp := passes_def (P := P) (w := w) (K := K) (mg := mg) (base := base) (N := ["_law_one_here", "_law_other", "_law_third", "_law_refused", "_law_incomplete"]) (qual := "_law_more_fields") (sc := defScope s_6) (f := fa 6) (cdv := cdv) (A := A) (outer := outer) (s := s) (H := H) (E := E)
  unfold b_6
  exact iss_cons (is_par (i := 3) (j := 4) rfl nd (ia_cons (ie_mkE (c := 22) Z.e_Refused Z.i_Refused.1 Z.i_Refused.2 (ok_i_Refused Z) gd hr3 Z.c_Refused Z.b_Refused tk (ia_cons (ie_var (pv 0)) (ia_cons (ie_var (pv 1)) (ia_nil)))) (ia_cons (ie_mkE (c := 30) Z.e_Incomplete Z.i_Incomplete.1 Z.i_Incomplete.2 (ok_i_Incomplete Z) gd hr3 Z.c_Incomplete Z.b_Incomplete tk (ia_cons (ie_var (pv 0)) (ia_cons (ie_var (pv 1)) (ia_cons (ie_var (pv 2)) (ia_nil))))) (ia_nil))))
    (iss_one (is_ret (ie_lst (ia_cons (ie_fldE (f := "index") Z.f_index (ie_var (pv 3))) (ia_cons (ie_fldE (f := "verdict") Z.f_verdict (ie_var (pv 3))) (ia_cons (ie_fldE (f := "word") Z.f_word (ie_var (pv 4))) (ia_cons (ie_fldE (f := "place") Z.f_place (ie_var (pv 4))) (ia_cons (ie_fldE (f := "outline") Z.f_outline (ie_var (pv 4))) (ia_nil)))))))))
theorem ok_7 (Z : Tx K mg base T fa fd fi di) (k : Nat) (ih : ∀ j, FnA P w K mg base (2 * k + 2) (fa j) (fd j) (pss j) (SpD ⟨K, T⟩ (pss j).length (tab k j))) :
    FnA P w K mg base (2 * (k + 1) + 2) (fa 7) (fd 7) (pss 7) (SpD ⟨K, T⟩ (pss 7).length (tab (k + 1) 7)) := by
  refine fn_ok (N := ["_law_one_here", "_law_other", "_law_third", "_law_k", "_law_error", "_law_bases", "_law_spot"]) (ps := ["_law_one_here", "_law_other", "_law_third"]) (k := 2 * k + 3) (c := b_7 (tab k)) Z.d_7.F sc_7 fun cdv A outer s H E gd0 hr => ?_
  have gd := deeper_guards (env := envOfC "_law_right" (defScope s_7) s.heap.objs.size (fa 7) cdv) gd0
  have hu := room_hu hr
  have hr2 := hr.mono (show 2 * k + 2 ≤ 2 * k + 3 by omega)
  have hr3 := hr.mono (show 1 + 1 ≤ 2 * k + 3 by omega)
  have nd := sc_7.nd
  have tk := takes_def (P := P) (w := w) (K := K) (mg := mg) (base := base) (N := ["_law_one_here", "_law_other", "_law_third", "_law_k", "_law_error", "_law_bases", "_law_spot"]) (qual := "_law_right") (sc := defScope s_7) (f := fa 7) (cdv := cdv) (A := A) (outer := outer) (s := s) (H := H) (E := E)
  have hp := passes_def (P := P) (w := w) (K := K) (mg := mg) (base := base) (N := ["_law_one_here", "_law_other", "_law_third", "_law_k", "_law_error", "_law_bases", "_law_spot"]) (qual := "_law_right") (sc := defScope s_7) (f := fa 7) (cdv := cdv) (A := A) (outer := outer) (s := s) (H := H) (E := E)
  unfold b_7
  exact iss_cons (is_for fuel hp rfl (ii_enumL rfl Z.n_enumerate (ie_call (n := 3) (ih 3) gd hr2 Z.d_3.m Z.d_3.kp Z.d_3.b tk (ia_cons (ie_var (pv 0)) (ia_cons (ie_var (pv 1)) (ia_cons (ie_var (pv 2)) (ia_nil)))))) (ig_tup rfl (igs_cons (ig_name (i := 3) nd) (igs_cons (ig_name (i := 4) nd) (igs_nil)))) (iss_cons (is_set (i := 5) nd (ie_tup (ia_cons (ie_bi (cd_isiE Z.isi) Z.n_isinstance bb_isinstance (ia_cons (ie_var (pv 4)) (ia_cons (ie_gl (i := 0) Z.c_LangError (rv_own (Z.v_ 0 (by decide)))) (ia_nil)))) (ia_cons (ie_bi (cd_isiE Z.isi) Z.n_isinstance bb_isinstance (ia_cons (ie_var (pv 4)) (ia_cons (ie_glB (i := 40) Z.n_ValueError bb_ValueError (rv_ty Z.t_ValueError)) (ia_nil)))) (ia_cons (ie_bi (cd_isiE Z.isi) Z.n_isinstance bb_isinstance (ia_cons (ie_var (pv 4)) (ia_cons (ie_glB (i := 39) Z.n_LookupError bb_LookupError (rv_ty Z.t_LookupError)) (ia_nil)))) (ia_nil))))))
    (iss_one (is_if (it_w (iw_or (it_cmp (od_ne hu) (ie_call (n := 1) (ih 4) gd hr2 Z.d_4.m Z.d_4.kp Z.d_4.b tk (ia_cons (ie_var (pv 4)) (ia_nil))) (ie_lc (own := [("_law_spot", 6)]) (t := .nm 6) fuel rfl nd (ii_rng1 rfl Z.n_range (ie_int)) (blkOk_by (own := [("_law_spot", 6)]) (N := ["_law_one_here", "_law_other", "_law_third", "_law_k", "_law_error", "_law_bases", "_law_spot"]) (sc := defScope s_7) (by decide +kernel)) (by decide) (fun _ _ _ _ _ => ig_name (i := 6) nd) (fun _ _ _ _ _ => its_nil) (fun _ _ _ _ _ => ie_cmp (od_eq hu) (ie_var (pv 6)) (ie_var (pv 3)) (nomark _))) (nomark _)) (iw_or1 (it_cmp (od_ne hu) (ie_var (pv 5)) (ie_tup (ia_cons (ie_cmp od_lt (ie_var (pv 3)) (ie_int) (nomark _)) (ia_cons (ie_cmp od_lt (ie_var (pv 3)) (ie_int) (nomark _)) (ia_cons (ie_cmp od_gt (ie_var (pv 3)) (ie_int) (nomark _)) (ia_nil))))) (nomark _))))) (iss_one (is_ret (ie_bl))) (iss_nil)))))
    (iss_cons (is_if (it_cmp (od_ne hu) (ie_bi (cd_repr gd hu Z.sys) Z.n_repr bb_repr (ia_cons (ie_call (n := 1) (ih 5) gd hr2 Z.d_5.m Z.d_5.kp Z.d_5.b tk (ia_cons (ie_var (pv 0)) (ia_nil))) (ia_nil))) (ie_bi (cd_repr gd hu Z.sys) Z.n_repr bb_repr (ia_cons (pe_opW od_mul (ie_lst (ia_cons (ie_var (pv 0)) (ia_nil))) (ie_int)) (ia_nil))) (nomark _)) (iss_one (is_ret (ie_bl))) (iss_nil))
    (iss_one (is_ret (ie_cmp (od_eq hu) (ie_bi (cd_repr gd hu Z.sys) Z.n_repr bb_repr (ia_cons (ie_call (n := 3) (ih 6) gd hr2 Z.d_6.m Z.d_6.kp Z.d_6.b tk (ia_cons (ie_var (pv 0)) (ia_cons (ie_var (pv 1)) (ia_cons (ie_var (pv 2)) (ia_nil))))) (ia_nil))) (ie_bi (cd_repr gd hu Z.sys) Z.n_repr bb_repr (ia_cons (ie_lst (ia_cons (ie_var (pv 0)) (ia_cons (ie_var (pv 1)) (ia_cons (ie_var (pv 0)) (ia_cons (ie_var (pv 1)) (ia_cons (ie_var (pv 2)) (ia_nil))))))) (ia_nil))) (nomark _)))))
theorem ok_8 (Z : Tx K mg base T fa fd fi di) (k : Nat) (ih : ∀ j, FnA P w K mg base (2 * k + 2) (fa j) (fd j) (pss j) (SpD ⟨K, T⟩ (pss j).length (tab k j))) :
    FnA P w K mg base (2 * (k + 1) + 2) (fa 8) (fd 8) (pss 8) (SpD ⟨K, T⟩ (pss 8).length (tab (k + 1) 8)) := by
  refine fn_ok (N := ["_law_one_here", "_law_other", "_law_third", "_law_fields_here", "_law_more", "_law_field"]) (ps := []) (k := 2 * k + 3) (c := b_8 (tab k)) Z.d_8.F sc_8 fun cdv A outer s H E gd0 hr => ?_
  have gd := deeper_guards (env := envOfC "_law_objects_right" (defScope s_8) s.heap.objs.size (fa 8) cdv) gd0
  have hu := room_hu hr
  have hr2 := hr.mono (show 2 * k + 2 ≤ 2 * k + 3 by omega)
  have hr3 := hr.mono (show 1 + 1 ≤ 2 * k + 3 by omega)
  have nd := sc_8.nd
  have tk := takes_def (P := P) (w := w) (K := K) (mg := mg) (base := base) (N := ["_law_one_here", "_law_other", "_law_third", "_law_fields_here", "_law_more", "_law_field"]) (qual := "_law_objects_right") (sc := defScope s_8) (f := fa 8) (cdv := cdv) (A := A) (outer := outer) (s := s) (H := H) (E := E)
  have hp := passes_def (P := P) (w := w) (K := K) (mg := mg) (base := base) (N := ["_law_one_here", "_law_other", "_law_third", "_law_fields_here", "_law_more", "_law_field"]) (qual := "_law_objects_right") (sc := defScope s_8) (f := fa 8) (cdv := cdv) (A := A) (outer := outer) (s := s) (H := H) (E := E)
  unfold b_8
  exact iss_cons (is_par3 (i := 0) (j := 1) (l := 2) rfl nd (ia_cons (ie_lst (ia_cons (ie_int) (ia_nil))) (ia_cons (ie_lst (ia_cons (ie_int) (ia_nil))) (ia_cons (ie_lst (ia_cons (ie_int) (ia_nil))) (ia_nil)))))
    (iss_cons (is_par (i := 3) (j := 4) rfl nd (ia_cons (ie_call (n := 1) (ih 5) gd hr2 Z.d_5.m Z.d_5.kp Z.d_5.b tk (ia_cons (ie_var (pv 0)) (ia_nil))) (ia_cons (ie_call (n := 3) (ih 6) gd hr2 Z.d_6.m Z.d_6.kp Z.d_6.b tk (ia_cons (ie_var (pv 0)) (ia_cons (ie_var (pv 1)) (ia_cons (ie_var (pv 2)) (ia_nil))))) (ia_nil))))
    (iss_cons (is_expr (ie_bm md_append ty_l PySem.F.plainAttrs_list PySem.F.slot_list_append PySem.F.type_list_append (ie_var (pv 0)) (ia_cons (ie_int) (ia_nil))))
    (iss_cons (is_expr (ie_bm md_append ty_l PySem.F.plainAttrs_list PySem.F.slot_list_append PySem.F.type_list_append (ie_var (pv 1)) (ia_cons (ie_int) (ia_nil))))
    (iss_cons (is_expr (ie_bm md_append ty_l PySem.F.plainAttrs_list PySem.F.slot_list_append PySem.F.type_list_append (ie_var (pv 2)) (ia_cons (ie_int) (ia_nil))))
    (iss_one (is_ret (ie_cmp (od_eq hu) (ie_lc (own := [("_law_field", 5)]) (t := .nm 5) fuel rfl nd (ii_any (pe_opW od_add (ie_var (pv 3)) (ie_var (pv 4)))) (blkOk_by (own := [("_law_field", 5)]) (N := ["_law_one_here", "_law_other", "_law_third", "_law_fields_here", "_law_more", "_law_field"]) (sc := defScope s_8) (by decide +kernel)) (by decide) (fun _ _ _ _ _ => ig_name (i := 5) nd) (fun _ _ _ _ _ => its_nil) (fun _ _ _ _ _ => ie_bi cd_len Z.n_len bb_len (ia_cons (ie_var (pv 5)) (ia_nil)))) (pe_opW od_mul (ie_lst (ia_cons (ie_int) (ia_nil))) (ie_int)) (nomark _))))))))
theorem ok_9 (Z : Tx K mg base T fa fd fi di) (k : Nat) (ih : ∀ j, FnA P w K mg base (2 * k + 2) (fa j) (fd j) (pss j) (SpD ⟨K, T⟩ (pss j).length (tab k j))) :
    FnA P w K mg base (2 * (k + 1) + 2) (fa 9) (fd 9) (pss 9) (SpD ⟨K, T⟩ (pss 9).length (tab (k + 1) 9)) := by
  refine fn_ok (N := ["_law_script", "_law_drawn", "_law_limits", "_law_due", "_law_some", "_law_turn"]) (ps := ["_law_script"]) (k := 2 * k + 3) (c := b_9 (tab k)) Z.d_9.F sc_9 fun cdv A outer s H E gd0 hr => ?_
  have gd := deeper_guards (env := envOfC "law" (defScope s_9) s.heap.objs.size (fa 9) cdv) gd0
  have hu := room_hu hr
  have hr2 := hr.mono (show 2 * k + 2 ≤ 2 * k + 3 by omega)
  have hr3 := hr.mono (show 1 + 1 ≤ 2 * k + 3 by omega)
  have nd := sc_9.nd
  have tk := takes_def (P := P) (w := w) (K := K) (mg := mg) (base := base) (N := ["_law_script", "_law_drawn", "_law_limits", "_law_due", "_law_some", "_law_turn"]) (qual := "law") (sc := defScope s_9) (f := fa 9) (cdv := cdv) (A := A) (outer := outer) (s := s) (H := H) (E := E)
  have hp := passes_def (P := P) (w := w) (K := K) (mg := mg) (base := base) (N := ["_law_script", "_law_drawn", "_law_limits", "_law_due", "_law_some", "_law_turn"]) (qual := "law") (sc := defScope s_9) (f := fa 9) (cdv := cdv) (A := A) (outer := outer) (s := s) (H := H) (E := E)
  unfold b_9
  exact iss_cons (is_set (i := 1) nd (ie_call (n := 1) (ih 0) gd hr2 Z.d_0.m Z.d_0.kp Z.d_0.b tk (ia_cons (ie_var (pv 0)) (ia_nil))))
    (iss_cons (is_set (i := 2) nd (ie_lst (ia_cons (ie_gcE (d := .int 199) Z.g_VARIABLES rfl) (ia_cons (ie_gcE (d := .int 200) Z.g_NODES rfl) (ia_cons (ie_gcE (d := .int 30) Z.g_DEPTH rfl) (ia_cons (ie_gcE (d := .int 80) Z.g_GROUPS rfl) (ia_cons (ie_gcE (d := .int 50) Z.g_LISTED rfl) (ia_cons (ie_gcE (d := .int 6) Z.g_DATAS rfl) (ia_cons (ie_gcE (d := .int 60) Z.g_PLACES rfl) (ia_cons (ie_gcE (d := .int 8) Z.g_ROWS rfl) (ia_cons (ie_gcE (d := .int 200) Z.g_MET rfl) (ia_cons (ie_gcE (d := .int 40) Z.g_SIZES rfl) (ia_cons (ie_gcE (d := .int 500) Z.g_FORM rfl) (ia_cons (ie_gcE (d := .int 1000) Z.g_TREE rfl) (ia_cons (ie_gcE (d := .int 8) Z.g_DEFINITIONS rfl) (ia_cons (ie_gcE (d := .int 2000) Z.g_CALLS rfl) (ia_nil)))))))))))))))))
    (iss_cons (is_set (i := 3) nd (ie_lst (ia_cons (ie_int) (ia_cons (ie_int) (ia_cons (ie_int) (ia_cons (ie_int) (ia_cons (ie_int) (ia_cons (ie_int) (ia_cons (ie_int) (ia_cons (ie_int) (ia_cons (ie_int) (ia_cons (ie_int) (ia_cons (ie_int) (ia_cons (ie_int) (ia_cons (ie_int) (ia_cons (ie_int) (ia_cons (ie_int) (ia_cons (ie_int) (ia_cons (ie_int) (ia_cons (ie_int) (ia_nil)))))))))))))))))))))
    (iss_cons (is_if (it_w (iw_or (it_cmp (od_ne hu) (pe_opW od_add (ie_var (pv 2)) (ie_lst (ia_cons (ie_gcE (d := .int 500) Z.g_SHOWN rfl) (ia_cons (ie_gcE (d := .int 3) Z.g_PARAMETERS rfl) (ia_cons (ie_gcE (d := .int 60) Z.g_EDITS rfl) (ia_cons (ie_gcE (d := .int 20) Z.g_BATCH rfl) (ia_nil))))))) (ie_var (pv 3)) (nomark _)) (iw_or1 (it_not (it_tru (ie_call0 (ih 8) gd hr2 Z.d_8.m Z.d_8.kp Z.d_8.b tk)))))) (iss_one (is_ret (ie_bl))) (iss_nil))
    (iss_cons (is_set (i := 4) nd (ie_lst (ia_cons (ie_non) (ia_cons (ie_bl) (ia_cons (ie_bl) (ia_cons (ie_un ud_neg (ie_int)) (ia_cons (pe_opW od_pow (ie_int) (ie_int)) (ia_cons (ie_str) (ia_cons (ie_str) (ia_cons (ie_tup (ia_nil)) (ia_cons (ie_lst (ia_nil)) (ia_cons (ie_dnew) (ia_cons (ie_tup (ia_cons (ie_int) (ia_nil))) (ia_cons (ie_lst (ia_cons (ie_int) (ia_nil))) (ia_cons (ie_disp (DPs.cons (ie_str) (ie_int) (DPs.nil))) (ia_cons (ie_tup (ia_cons (ie_str) (ia_cons (ie_int) (ia_cons (ie_int) (ia_nil))))) (ia_nil)))))))))))))))))
    (iss_cons (is_for fuel hp rfl (ii_rng1 rfl Z.n_range (ie_int)) (ig_name (i := 5) nd) (iss_one (is_if (it_not (it_tru (ie_call (n := 3) (ih 7) gd hr2 Z.d_7.m Z.d_7.kp Z.d_7.b tk (ia_cons (ie_call (n := 2) (ih 2) gd hr2 Z.d_2.m Z.d_2.kp Z.d_2.b tk (ia_cons (ie_var (pv 1)) (ia_cons (ie_var (pv 4)) (ia_nil)))) (ia_cons (ie_call (n := 2) (ih 2) gd hr2 Z.d_2.m Z.d_2.kp Z.d_2.b tk (ia_cons (ie_var (pv 1)) (ia_cons (ie_var (pv 4)) (ia_nil)))) (ia_cons (ie_call (n := 2) (ih 2) gd hr2 Z.d_2.m Z.d_2.kp Z.d_2.b tk (ia_cons (ie_var (pv 1)) (ia_cons (ie_var (pv 4)) (ia_nil)))) (ia_nil))))))) (iss_one (is_ret (ie_bl))) (iss_nil))))
    (iss_one (is_ret (ie_bl))))))))
theorem all_ok (Z : Tx K mg base T fa fd fi di) : ∀ k j, FnA P w K mg base (2 * k + 2) (fa j) (fd j) (pss j) (SpD ⟨K, T⟩ (pss j).length (tab k j))
  | 0, _ => fn_zero
  | k + 1, 0 => ok_0 Z k (all_ok Z k)
  | k + 1, 1 => ok_1 Z k (all_ok Z k)
  | k + 1, 2 => ok_2 Z k (all_ok Z k)
  | k + 1, 3 => ok_3 Z k (all_ok Z k)
  | k + 1, 4 => ok_4 Z k (all_ok Z k)
  | k + 1, 5 => ok_5 Z k (all_ok Z k)
  | k + 1, 6 => ok_6 Z k (all_ok Z k)
  | k + 1, 7 => ok_7 Z k (all_ok Z k)
  | k + 1, 8 => ok_8 Z k (all_ok Z k)
  | k + 1, 9 => ok_9 Z k (all_ok Z k)
  | k + 1, n + 10 => fn_zero
end
def fnm : List Str := [("_law_draws" : Str), ("_law_next" : Str), ("_law_one" : Str), ("_law_errors" : Str), ("_law_flags" : Str), ("_law_fields" : Str), ("_law_more_fields" : Str), ("_law_right" : Str), ("_law_objects_right" : Str), ("law" : Str)]
def cnm : List Str := [("LangError" : Str), ("BadShape" : Str), ("BadCount" : Str), ("NoMeeting" : Str), ("NoSolution" : Str), ("TooMany" : Str), ("TooLarge" : Str), ("Clash" : Str), ("BadChain" : Str), ("BadValue" : Str), ("BadForm" : Str), ("BadSize" : Str), ("NoValue" : Str), ("HasValues" : Str), ("NotMet" : Str), ("Idle" : Str), ("BadRows" : Str), ("BadBook" : Str), ("HasHole" : Str), ("NotPlain" : Str), ("BadDatas" : Str), ("Used" : Str), ("Refused" : Str), ("TooManyEdits" : Str), ("NothingToUndo" : Str), ("BadEdits" : Str), ("BadEdit" : Str), ("Rejected" : Str), ("Busy" : Str), ("BadExpression" : Str), ("Incomplete" : Str), ("BadText" : Str), ("NoPlace" : Str), ("NoMaker" : Str), ("NoIndex" : Str), ("NoRow" : Str), ("NoDefinition" : Str), ("NoWord" : Str), ("NoVersion" : Str)]
def csK (K : PySem.W.Frag) : List Addr := cnm.map (adr K)
def usK (K : PySem.W.Frag) : List Value := (csK K).map Value.ref ++ [.type "LookupError", .type "ValueError"]
def vsK (K : PySem.W.Frag) : List V := (csK K).map V.ref ++ [.ty "LookupError", .ty "ValueError"]
def svK (K : PySem.W.Frag) : Sv := ⟨fun c => (csK K).getD c 0, fun i => (vsK K).getD i .non⟩
def faK (K : PySem.W.Frag) : Nat → Addr := fun j => adr K (fnm.getD j Str.empty)
def fiK (K : PySem.W.Frag) : Nat → Addr := fun c => adrM K ((csK K).getD c 0) "__init__"
structure Chk (K : PySem.W.Frag) : Prop where
  defs : fnm.all (dB K) = true
  fd_0 : FdEq K (adr K "_law_draws") "_law_draws" "_law_draws" s_0
  fd_1 : FdEq K (adr K "_law_next") "_law_next" "_law_next" s_1
  fd_2 : FdEq K (adr K "_law_one") "_law_one" "_law_one" s_2
  fd_3 : FdEq K (adr K "_law_errors") "_law_errors" "_law_errors" s_3
  fd_4 : FdEq K (adr K "_law_flags") "_law_flags" "_law_flags" s_4
  fd_5 : FdEq K (adr K "_law_fields") "_law_fields" "_law_fields" s_5
  fd_6 : FdEq K (adr K "_law_more_fields") "_law_more_fields" "_law_more_fields" s_6
  fd_7 : FdEq K (adr K "_law_right") "_law_right" "_law_right" s_7
  fd_8 : FdEq K (adr K "_law_objects_right") "_law_objects_right" "_law_objects_right" s_8
  fd_9 : FdEq K (adr K "law") "law" "law" s_9
  cls : (cnm.all fun x => adr K x != 0) = true
  eb : (([(1, tailVE, "ValueError.__new__"), (2, tailVE, "ValueError.__new__"), (5, tailVE, "ValueError.__new__"), (6, tailVE, "ValueError.__new__"), (7, tailVE, "ValueError.__new__"), (8, tailVE, "ValueError.__new__"), (9, tailVE, "ValueError.__new__"), (10, tailVE, "ValueError.__new__"), (11, tailVE, "ValueError.__new__"), (12, tailVE, "ValueError.__new__"), (14, tailVE, "ValueError.__new__"), (15, tailVE, "ValueError.__new__"), (16, tailVE, "ValueError.__new__"), (17, tailVE, "ValueError.__new__"), (18, tailVE, "ValueError.__new__"), (19, tailVE, "ValueError.__new__"), (20, tailVE, "ValueError.__new__"), (21, tailVE, "ValueError.__new__"), (22, tailVE, "ValueError.__new__"), (26, tailVE, "ValueError.__new__"), (27, tailVE, "ValueError.__new__"), (29, tailVE, "ValueError.__new__"), (30, tailVE, "ValueError.__new__"), (31, tailVE, "ValueError.__new__"), (32, tailLE, "LookupError.__new__"), (33, tailLE, "LookupError.__new__"), (34, tailLE, "LookupError.__new__"), (35, tailLE, "LookupError.__new__"), (36, tailLE, "LookupError.__new__"), (37, tailLE, "LookupError.__new__"), (38, tailLE, "LookupError.__new__")] : List (Nat × List Value × String)).all fun p => ebB K ((csK K).getD p.1 0) p.2.1 p.2.2) = true
  xc : (([(0, tailVE, "ValueError.__new__"), (3, tailVE, "ValueError.__new__"), (4, tailVE, "ValueError.__new__"), (13, tailVE, "ValueError.__new__"), (23, tailVE, "ValueError.__new__"), (24, tailVE, "ValueError.__new__"), (25, tailVE, "ValueError.__new__"), (28, tailVE, "ValueError.__new__")] : List (Nat × List Value × String)).all fun p => PySem.W.excIn K ((csK K).getD p.1 0) p.2.1 p.2.2 && PySem.W.keepIn K (.ref ((csK K).getD p.1 0))) = true
  ini : (([(1, ("BadShape.__init__" : Str)), (2, ("BadCount.__init__" : Str)), (5, ("TooMany.__init__" : Str)), (6, ("TooLarge.__init__" : Str)), (7, ("Clash.__init__" : Str)), (8, ("BadChain.__init__" : Str)), (9, ("BadValue.__init__" : Str)), (10, ("BadForm.__init__" : Str)), (11, ("BadSize.__init__" : Str)), (12, ("NoValue.__init__" : Str)), (14, ("NotMet.__init__" : Str)), (15, ("Idle.__init__" : Str)), (16, ("BadRows.__init__" : Str)), (17, ("BadBook.__init__" : Str)), (18, ("HasHole.__init__" : Str)), (19, ("NotPlain.__init__" : Str)), (20, ("BadDatas.__init__" : Str)), (21, ("Used.__init__" : Str)), (22, ("Refused.__init__" : Str)), (26, ("BadEdit.__init__" : Str)), (27, ("Rejected.__init__" : Str)), (29, ("BadExpression.__init__" : Str)), (30, ("Incomplete.__init__" : Str)), (31, ("BadText.__init__" : Str)), (32, ("NoPlace.__init__" : Str)), (33, ("NoMaker.__init__" : Str)), (34, ("NoIndex.__init__" : Str)), (35, ("NoRow.__init__" : Str)), (36, ("NoDefinition.__init__" : Str)), (37, ("NoWord.__init__" : Str)), (38, ("NoVersion.__init__" : Str))] : List (Nat × Str)).all fun p => iB K ((csK K).getD p.1 0) p.2) = true
  ifd_BadShape : FdEq K (fiK K 1) "__init__" "BadShape.__init__" si_BadShape
  ifd_BadCount : FdEq K (fiK K 2) "__init__" "BadCount.__init__" si_BadCount
  ifd_TooMany : FdEq K (fiK K 5) "__init__" "TooMany.__init__" si_TooMany
  ifd_TooLarge : FdEq K (fiK K 6) "__init__" "TooLarge.__init__" si_TooLarge
  ifd_Clash : FdEq K (fiK K 7) "__init__" "Clash.__init__" si_Clash
  ifd_BadChain : FdEq K (fiK K 8) "__init__" "BadChain.__init__" si_BadChain
  ifd_BadValue : FdEq K (fiK K 9) "__init__" "BadValue.__init__" si_BadValue
  ifd_BadForm : FdEq K (fiK K 10) "__init__" "BadForm.__init__" si_BadForm
  ifd_BadSize : FdEq K (fiK K 11) "__init__" "BadSize.__init__" si_BadSize
  ifd_NoValue : FdEq K (fiK K 12) "__init__" "NoValue.__init__" si_NoValue
  ifd_NotMet : FdEq K (fiK K 14) "__init__" "NotMet.__init__" si_NotMet
  ifd_Idle : FdEq K (fiK K 15) "__init__" "Idle.__init__" si_Idle
  ifd_BadRows : FdEq K (fiK K 16) "__init__" "BadRows.__init__" si_BadRows
  ifd_BadBook : FdEq K (fiK K 17) "__init__" "BadBook.__init__" si_BadBook
  ifd_HasHole : FdEq K (fiK K 18) "__init__" "HasHole.__init__" si_HasHole
  ifd_NotPlain : FdEq K (fiK K 19) "__init__" "NotPlain.__init__" si_NotPlain
  ifd_BadDatas : FdEq K (fiK K 20) "__init__" "BadDatas.__init__" si_BadDatas
  ifd_Used : FdEq K (fiK K 21) "__init__" "Used.__init__" si_Used
  ifd_Refused : FdEq K (fiK K 22) "__init__" "Refused.__init__" si_Refused
  ifd_BadEdit : FdEq K (fiK K 26) "__init__" "BadEdit.__init__" si_BadEdit
  ifd_Rejected : FdEq K (fiK K 27) "__init__" "Rejected.__init__" si_Rejected
  ifd_BadExpression : FdEq K (fiK K 29) "__init__" "BadExpression.__init__" si_BadExpression
  ifd_Incomplete : FdEq K (fiK K 30) "__init__" "Incomplete.__init__" si_Incomplete
  ifd_BadText : FdEq K (fiK K 31) "__init__" "BadText.__init__" si_BadText
  ifd_NoPlace : FdEq K (fiK K 32) "__init__" "NoPlace.__init__" si_NoPlace
  ifd_NoMaker : FdEq K (fiK K 33) "__init__" "NoMaker.__init__" si_NoMaker
  ifd_NoIndex : FdEq K (fiK K 34) "__init__" "NoIndex.__init__" si_NoIndex
  ifd_NoRow : FdEq K (fiK K 35) "__init__" "NoRow.__init__" si_NoRow
  ifd_NoDefinition : FdEq K (fiK K 36) "__init__" "NoDefinition.__init__" si_NoDefinition
  ifd_NoWord : FdEq K (fiK K 37) "__init__" "NoWord.__init__" si_NoWord
  ifd_NoVersion : FdEq K (fiK K 38) "__init__" "NoVersion.__init__" si_NoVersion
  fld : fldB K (csK K) [(1, ("value" : Str)), (2, ("value" : Str)), (5, ("limit" : Str)), (6, ("limit" : Str)), (7, ("places" : Str)), (8, ("index" : Str)), (9, ("value" : Str)), (10, ("form" : Str)), (11, ("size" : Str)), (12, ("value" : Str)), (14, ("value" : Str)), (15, ("number" : Str)), (16, ("error" : Str)), (17, ("error" : Str)), (18, ("spot" : Str)), (19, ("index" : Str)), (20, ("error" : Str)), (21, ("word" : Str)), (22, ("index" : Str)), (22, ("verdict" : Str)), (26, ("index" : Str)), (27, ("index" : Str)), (29, ("error" : Str)), (30, ("word" : Str)), (30, ("place" : Str)), (30, ("outline" : Str)), (31, ("index" : Str)), (32, ("value" : Str)), (33, ("name" : Str)), (34, ("index" : Str)), (35, ("number" : Str)), (36, ("value" : Str)), (37, ("word" : Str)), (38, ("value" : Str))] = true
  exb : ((csK K).all (exB K)) = true
  isi : isiB K (csK K) (usK K) isi = true
  free : (([("LookupError" : Str), ("ValueError" : Str), ("abs" : Str), ("enumerate" : Str), ("int" : Str), ("isinstance" : Str), ("len" : Str), ("range" : Str), ("repr" : Str)] : List Str).all fun x => PySem.W.nsIn K mainGlobals x == some none) = true
  cst : (([(("BATCH" : Str), (20 : Int)), (("CALLS" : Str), (2000 : Int)), (("DATAS" : Str), (6 : Int)), (("DEFINITIONS" : Str), (8 : Int)), (("DEPTH" : Str), (30 : Int)), (("EDITS" : Str), (60 : Int)), (("FORM" : Str), (500 : Int)), (("GROUPS" : Str), (80 : Int)), (("LISTED" : Str), (50 : Int)), (("MET" : Str), (200 : Int)), (("NODES" : Str), (200 : Int)), (("PARAMETERS" : Str), (3 : Int)), (("PLACES" : Str), (60 : Int)), (("ROWS" : Str), (8 : Int)), (("SHOWN" : Str), (500 : Int)), (("SIZES" : Str), (40 : Int)), (("TREE" : Str), (1000 : Int)), (("VARIABLES" : Str), (199 : Int))] : List (Str × Int)).all fun p => cI K p.1 p.2) = true
def chkB (K : PySem.W.Frag) : Bool :=
  fnm.all (dB K) &&
  ((cnm.all fun x => adr K x != 0) &&
  ((([(1, tailVE, "ValueError.__new__"), (2, tailVE, "ValueError.__new__"), (5, tailVE, "ValueError.__new__"), (6, tailVE, "ValueError.__new__"), (7, tailVE, "ValueError.__new__"), (8, tailVE, "ValueError.__new__"), (9, tailVE, "ValueError.__new__"), (10, tailVE, "ValueError.__new__"), (11, tailVE, "ValueError.__new__"), (12, tailVE, "ValueError.__new__"), (14, tailVE, "ValueError.__new__"), (15, tailVE, "ValueError.__new__"), (16, tailVE, "ValueError.__new__"), (17, tailVE, "ValueError.__new__"), (18, tailVE, "ValueError.__new__"), (19, tailVE, "ValueError.__new__"), (20, tailVE, "ValueError.__new__"), (21, tailVE, "ValueError.__new__"), (22, tailVE, "ValueError.__new__"), (26, tailVE, "ValueError.__new__"), (27, tailVE, "ValueError.__new__"), (29, tailVE, "ValueError.__new__"), (30, tailVE, "ValueError.__new__"), (31, tailVE, "ValueError.__new__"), (32, tailLE, "LookupError.__new__"), (33, tailLE, "LookupError.__new__"), (34, tailLE, "LookupError.__new__"), (35, tailLE, "LookupError.__new__"), (36, tailLE, "LookupError.__new__"), (37, tailLE, "LookupError.__new__"), (38, tailLE, "LookupError.__new__")] : List (Nat × List Value × String)).all fun p => ebB K ((csK K).getD p.1 0) p.2.1 p.2.2) &&
  ((([(0, tailVE, "ValueError.__new__"), (3, tailVE, "ValueError.__new__"), (4, tailVE, "ValueError.__new__"), (13, tailVE, "ValueError.__new__"), (23, tailVE, "ValueError.__new__"), (24, tailVE, "ValueError.__new__"), (25, tailVE, "ValueError.__new__"), (28, tailVE, "ValueError.__new__")] : List (Nat × List Value × String)).all fun p => PySem.W.excIn K ((csK K).getD p.1 0) p.2.1 p.2.2 && PySem.W.keepIn K (.ref ((csK K).getD p.1 0))) &&
  ((([(1, ("BadShape.__init__" : Str)), (2, ("BadCount.__init__" : Str)), (5, ("TooMany.__init__" : Str)), (6, ("TooLarge.__init__" : Str)), (7, ("Clash.__init__" : Str)), (8, ("BadChain.__init__" : Str)), (9, ("BadValue.__init__" : Str)), (10, ("BadForm.__init__" : Str)), (11, ("BadSize.__init__" : Str)), (12, ("NoValue.__init__" : Str)), (14, ("NotMet.__init__" : Str)), (15, ("Idle.__init__" : Str)), (16, ("BadRows.__init__" : Str)), (17, ("BadBook.__init__" : Str)), (18, ("HasHole.__init__" : Str)), (19, ("NotPlain.__init__" : Str)), (20, ("BadDatas.__init__" : Str)), (21, ("Used.__init__" : Str)), (22, ("Refused.__init__" : Str)), (26, ("BadEdit.__init__" : Str)), (27, ("Rejected.__init__" : Str)), (29, ("BadExpression.__init__" : Str)), (30, ("Incomplete.__init__" : Str)), (31, ("BadText.__init__" : Str)), (32, ("NoPlace.__init__" : Str)), (33, ("NoMaker.__init__" : Str)), (34, ("NoIndex.__init__" : Str)), (35, ("NoRow.__init__" : Str)), (36, ("NoDefinition.__init__" : Str)), (37, ("NoWord.__init__" : Str)), (38, ("NoVersion.__init__" : Str))] : List (Nat × Str)).all fun p => iB K ((csK K).getD p.1 0) p.2) &&
  (fldB K (csK K) [(1, ("value" : Str)), (2, ("value" : Str)), (5, ("limit" : Str)), (6, ("limit" : Str)), (7, ("places" : Str)), (8, ("index" : Str)), (9, ("value" : Str)), (10, ("form" : Str)), (11, ("size" : Str)), (12, ("value" : Str)), (14, ("value" : Str)), (15, ("number" : Str)), (16, ("error" : Str)), (17, ("error" : Str)), (18, ("spot" : Str)), (19, ("index" : Str)), (20, ("error" : Str)), (21, ("word" : Str)), (22, ("index" : Str)), (22, ("verdict" : Str)), (26, ("index" : Str)), (27, ("index" : Str)), (29, ("error" : Str)), (30, ("word" : Str)), (30, ("place" : Str)), (30, ("outline" : Str)), (31, ("index" : Str)), (32, ("value" : Str)), (33, ("name" : Str)), (34, ("index" : Str)), (35, ("number" : Str)), (36, ("value" : Str)), (37, ("word" : Str)), (38, ("value" : Str))] &&
  (((csK K).all (exB K)) &&
  (isiB K (csK K) (usK K) isi &&
  ((([("LookupError" : Str), ("ValueError" : Str), ("abs" : Str), ("enumerate" : Str), ("int" : Str), ("isinstance" : Str), ("len" : Str), ("range" : Str), ("repr" : Str)] : List Str).all fun x => PySem.W.nsIn K mainGlobals x == some none) &&
  ((([(("BATCH" : Str), (20 : Int)), (("CALLS" : Str), (2000 : Int)), (("DATAS" : Str), (6 : Int)), (("DEFINITIONS" : Str), (8 : Int)), (("DEPTH" : Str), (30 : Int)), (("EDITS" : Str), (60 : Int)), (("FORM" : Str), (500 : Int)), (("GROUPS" : Str), (80 : Int)), (("LISTED" : Str), (50 : Int)), (("MET" : Str), (200 : Int)), (("NODES" : Str), (200 : Int)), (("PARAMETERS" : Str), (3 : Int)), (("PLACES" : Str), (60 : Int)), (("ROWS" : Str), (8 : Int)), (("SHOWN" : Str), (500 : Int)), (("SIZES" : Str), (40 : Int)), (("TREE" : Str), (1000 : Int)), (("VARIABLES" : Str), (199 : Int))] : List (Str × Int)).all fun p => cI K p.1 p.2))))))))))
def fnsK (K : PySem.W.Frag) : List FnV := [fnV K (adr K ("_law_draws" : Str)), fnV K (adr K ("_law_next" : Str)), fnV K (adr K ("_law_one" : Str)), fnV K (adr K ("_law_errors" : Str)), fnV K (adr K ("_law_flags" : Str)), fnV K (adr K ("_law_fields" : Str)), fnV K (adr K ("_law_more_fields" : Str)), fnV K (adr K ("_law_right" : Str)), fnV K (adr K ("_law_objects_right" : Str)), fnV K (adr K ("law" : Str)), fnV K (fiK K 1), fnV K (fiK K 2), fnV K (fiK K 5), fnV K (fiK K 6), fnV K (fiK K 7), fnV K (fiK K 8), fnV K (fiK K 9), fnV K (fiK K 10), fnV K (fiK K 11), fnV K (fiK K 12), fnV K (fiK K 14), fnV K (fiK K 15), fnV K (fiK K 16), fnV K (fiK K 17), fnV K (fiK K 18), fnV K (fiK K 19), fnV K (fiK K 20), fnV K (fiK K 21), fnV K (fiK K 22), fnV K (fiK K 26), fnV K (fiK K 27), fnV K (fiK K 29), fnV K (fiK K 30), fnV K (fiK K 31), fnV K (fiK K 32), fnV K (fiK K 33), fnV K (fiK K 34), fnV K (fiK K 35), fnV K (fiK K 36), fnV K (fiK K 37), fnV K (fiK K 38)]
def valsK : List FnV := [fvOf "_law_draws" "_law_draws" s_0, fvOf "_law_next" "_law_next" s_1, fvOf "_law_one" "_law_one" s_2, fvOf "_law_errors" "_law_errors" s_3, fvOf "_law_flags" "_law_flags" s_4, fvOf "_law_fields" "_law_fields" s_5, fvOf "_law_more_fields" "_law_more_fields" s_6, fvOf "_law_right" "_law_right" s_7, fvOf "_law_objects_right" "_law_objects_right" s_8, fvOf "law" "law" s_9, fvOf "__init__" "BadShape.__init__" si_BadShape, fvOf "__init__" "BadCount.__init__" si_BadCount, fvOf "__init__" "TooMany.__init__" si_TooMany, fvOf "__init__" "TooLarge.__init__" si_TooLarge, fvOf "__init__" "Clash.__init__" si_Clash, fvOf "__init__" "BadChain.__init__" si_BadChain, fvOf "__init__" "BadValue.__init__" si_BadValue, fvOf "__init__" "BadForm.__init__" si_BadForm, fvOf "__init__" "BadSize.__init__" si_BadSize, fvOf "__init__" "NoValue.__init__" si_NoValue, fvOf "__init__" "NotMet.__init__" si_NotMet, fvOf "__init__" "Idle.__init__" si_Idle, fvOf "__init__" "BadRows.__init__" si_BadRows, fvOf "__init__" "BadBook.__init__" si_BadBook, fvOf "__init__" "HasHole.__init__" si_HasHole, fvOf "__init__" "NotPlain.__init__" si_NotPlain, fvOf "__init__" "BadDatas.__init__" si_BadDatas, fvOf "__init__" "Used.__init__" si_Used, fvOf "__init__" "Refused.__init__" si_Refused, fvOf "__init__" "BadEdit.__init__" si_BadEdit, fvOf "__init__" "Rejected.__init__" si_Rejected, fvOf "__init__" "BadExpression.__init__" si_BadExpression, fvOf "__init__" "Incomplete.__init__" si_Incomplete, fvOf "__init__" "BadText.__init__" si_BadText, fvOf "__init__" "NoPlace.__init__" si_NoPlace, fvOf "__init__" "NoMaker.__init__" si_NoMaker, fvOf "__init__" "NoIndex.__init__" si_NoIndex, fvOf "__init__" "NoRow.__init__" si_NoRow, fvOf "__init__" "NoDefinition.__init__" si_NoDefinition, fvOf "__init__" "NoWord.__init__" si_NoWord, fvOf "__init__" "NoVersion.__init__" si_NoVersion]
theorem chk_of {K : PySem.W.Frag} (c : obsS chkB fnsK K = (true, valsK)) : Chk K := by
  have c1 : chkB K = true := congrArg Prod.fst c
  have c2 : fnsK K = valsK := congrArg Prod.snd c
  unfold chkB at c1
  have at_ : ∀ i : Nat, (fnsK K)[i]? = valsK[i]? := fun i => by rw [c2]
  obtain ⟨b0, r0⟩ := Bool.and_eq_true_iff.mp c1
  obtain ⟨b1, r1⟩ := Bool.and_eq_true_iff.mp r0
  obtain ⟨b2, r2⟩ := Bool.and_eq_true_iff.mp r1
  obtain ⟨b3, r3⟩ := Bool.and_eq_true_iff.mp r2
  obtain ⟨b4, r4⟩ := Bool.and_eq_true_iff.mp r3
  obtain ⟨b5, r5⟩ := Bool.and_eq_true_iff.mp r4
  obtain ⟨b6, r6⟩ := Bool.and_eq_true_iff.mp r5
  obtain ⟨b7, r7⟩ := Bool.and_eq_true_iff.mp r6
  obtain ⟨b8, r8⟩ := Bool.and_eq_true_iff.mp r7
  exact ⟨b0, fdEq_of (Option.some.inj (at_ 0)), fdEq_of (Option.some.inj (at_ 1)), fdEq_of (Option.some.inj (at_ 2)), fdEq_of (Option.some.inj (at_ 3)), fdEq_of (Option.some.inj (at_ 4)), fdEq_of (Option.some.inj (at_ 5)), fdEq_of (Option.some.inj (at_ 6)), fdEq_of (Option.some.inj (at_ 7)), fdEq_of (Option.some.inj (at_ 8)), fdEq_of (Option.some.inj (at_ 9)), b1, b2, b3, b4, fdEq_of (Option.some.inj (at_ 10)), fdEq_of (Option.some.inj (at_ 11)), fdEq_of (Option.some.inj (at_ 12)), fdEq_of (Option.some.inj (at_ 13)), fdEq_of (Option.some.inj (at_ 14)), fdEq_of (Option.some.inj (at_ 15)), fdEq_of (Option.some.inj (at_ 16)), fdEq_of (Option.some.inj (at_ 17)), fdEq_of (Option.some.inj (at_ 18)), fdEq_of (Option.some.inj (at_ 19)), fdEq_of (Option.some.inj (at_ 20)), fdEq_of (Option.some.inj (at_ 21)), fdEq_of (Option.some.inj (at_ 22)), fdEq_of (Option.some.inj (at_ 23)), fdEq_of (Option.some.inj (at_ 24)), fdEq_of (Option.some.inj (at_ 25)), fdEq_of (Option.some.inj (at_ 26)), fdEq_of (Option.some.inj (at_ 27)), fdEq_of (Option.some.inj (at_ 28)), fdEq_of (Option.some.inj (at_ 29)), fdEq_of (Option.some.inj (at_ 30)), fdEq_of (Option.some.inj (at_ 31)), fdEq_of (Option.some.inj (at_ 32)), fdEq_of (Option.some.inj (at_ 33)), fdEq_of (Option.some.inj (at_ 34)), fdEq_of (Option.some.inj (at_ 35)), fdEq_of (Option.some.inj (at_ 36)), fdEq_of (Option.some.inj (at_ 37)), fdEq_of (Option.some.inj (at_ 38)), fdEq_of (Option.some.inj (at_ 39)), fdEq_of (Option.some.inj (at_ 40)), b5, b6, b7, b8, r8⟩
theorem isi_lt : ∀ {c i : Nat} {b : Bool}, isi c i = some b → c < 39 ∧ i < 41 := by
  intro c i b h
  unfold isi at h
  split at h
  · rename_i l e
    split at h
    · rename_i hi
      exact ⟨by have := (List.getElem?_eq_some_iff.mp e).1; simpa [anc] using this, hi⟩
    · cases h
  · cases h
theorem own_val {K : PySem.W.Frag} : ∀ i, i < 39 → (svK K).val i = .ref ((svK K).cls i) := fun i hi => by
  have e : (vsK K)[i]? = some (V.ref ((csK K).getD i 0)) := by
    unfold vsK
    have hl : (csK K).length = 39 := rfl
    rw [List.getElem?_append_left (by rw [List.length_map, hl]; exact hi), List.getElem?_map, List.getD_eq_getElem?_getD, List.getElem?_eq_getElem (by rw [hl]; exact hi)]
    rfl
  show (vsK K).getD i .non = _
  rw [List.getD_eq_getElem?_getD, e]
  rfl
theorem val_cls {K : PySem.W.Frag} : ∀ i, i < 41 → ClsV ((vsK K).getD i .non) ((usK K).getD i .none) := fun i hi => by
  by_cases h : i < 39
  · have e1 : (vsK K).getD i .non = V.ref ((csK K).getD i 0) := own_val i h
    have e2 : (usK K).getD i .none = Value.ref ((csK K).getD i 0) := by
      have hl : (csK K).length = 39 := rfl
      unfold usK
      rw [List.getD_eq_getElem?_getD, List.getElem?_append_left (by rw [List.length_map, hl]; exact h), List.getElem?_map, List.getD_eq_getElem?_getD, List.getElem?_eq_getElem (by rw [hl]; exact h)]
      rfl
    rw [e1, e2]
    exact .own _
  · obtain rfl | rfl : i = 39 ∨ i = 40 := by omega
    · exact .ty "LookupError"
    · exact .ty "ValueError"
theorem tx_of {K : PySem.W.Frag} {h base : Heap} {mg : Str → Option Value} (X : K.In h) (G : h.Ns mainGlobals mg) (Y : SysD base) (c : Chk K) : Tx K mg base (svK K) (faK K) (fun j => fdOf K (faK K j)) (fiK K) (fun j => fdOf K (fiK K j)) where
  sys := Y
  d_0 := defF_all X G c.defs (by decide +kernel) c.fd_0 (fun _ _ _ _ _ _ us hl => match us, hl with | [_], _ => rfl)
  d_1 := defF_all X G c.defs (by decide +kernel) c.fd_1 (fun _ _ _ _ _ _ us hl => match us, hl with | [_, _], _ => rfl)
  d_2 := defF_all X G c.defs (by decide +kernel) c.fd_2 (fun _ _ _ _ _ _ us hl => match us, hl with | [_, _], _ => rfl)
  d_3 := defF_all X G c.defs (by decide +kernel) c.fd_3 (fun _ _ _ _ _ _ us hl => match us, hl with | [_, _, _], _ => rfl)
  d_4 := defF_all X G c.defs (by decide +kernel) c.fd_4 (fun _ _ _ _ _ _ us hl => match us, hl with | [_], _ => rfl)
  d_5 := defF_all X G c.defs (by decide +kernel) c.fd_5 (fun _ _ _ _ _ _ us hl => match us, hl with | [_], _ => rfl)
  d_6 := defF_all X G c.defs (by decide +kernel) c.fd_6 (fun _ _ _ _ _ _ us hl => match us, hl with | [_, _, _], _ => rfl)
  d_7 := defF_all X G c.defs (by decide +kernel) c.fd_7 (fun _ _ _ _ _ _ us hl => match us, hl with | [_, _, _], _ => rfl)
  d_8 := defF_all X G c.defs (by decide +kernel) c.fd_8 (fun _ _ _ _ _ _ us hl => match us, hl with | [], _ => rfl)
  d_9 := defF_all X G c.defs (by decide +kernel) c.fd_9 (fun _ _ _ _ _ _ us hl => match us, hl with | [_], _ => rfl)
  c_LangError := adr_all X G c.cls (x := "LangError") (by decide +kernel)
  x_LangError := ⟨PySem.F.excBase_ValueError, (Bool.and_eq_true_iff.mp (List.all_eq_true.mp c.xc (0, tailVE, "ValueError.__new__") (by simp))).1, (Bool.and_eq_true_iff.mp (List.all_eq_true.mp c.xc (0, tailVE, "ValueError.__new__") (by simp))).2⟩
  c_BadShape := adr_all X G c.cls (x := "BadShape") (by decide +kernel)
  e_BadShape := eb_of PySem.F.excBase_ValueError PySem.F.store_ValueError (List.all_eq_true.mp c.eb (1, tailVE, "ValueError.__new__") (by simp))
  i_BadShape := (init_of (List.all_eq_true.mp c.ini (1, "BadShape.__init__") (by simp))).1
  u_BadShape := (init_of (List.all_eq_true.mp c.ini (1, "BadShape.__init__") (by simp))).2 c.ifd_BadShape
  b_BadShape := ((init_of (List.all_eq_true.mp c.ini (1, "BadShape.__init__") (by simp))).2 c.ifd_BadShape).binds (fun _ _ _ _ _ _ us hl => match us, hl with | [_, _], _ => rfl)
  o_BadShape_value := fld_of c.fld (c := 1) (f := "value") (by decide +kernel)
  c_BadCount := adr_all X G c.cls (x := "BadCount") (by decide +kernel)
  e_BadCount := eb_of PySem.F.excBase_ValueError PySem.F.store_ValueError (List.all_eq_true.mp c.eb (2, tailVE, "ValueError.__new__") (by simp))
  i_BadCount := (init_of (List.all_eq_true.mp c.ini (2, "BadCount.__init__") (by simp))).1
  u_BadCount := (init_of (List.all_eq_true.mp c.ini (2, "BadCount.__init__") (by simp))).2 c.ifd_BadCount
  b_BadCount := ((init_of (List.all_eq_true.mp c.ini (2, "BadCount.__init__") (by simp))).2 c.ifd_BadCount).binds (fun _ _ _ _ _ _ us hl => match us, hl with | [_, _], _ => rfl)
  o_BadCount_value := fld_of c.fld (c := 2) (f := "value") (by decide +kernel)
  c_NoMeeting := adr_all X G c.cls (x := "NoMeeting") (by decide +kernel)
  x_NoMeeting := ⟨PySem.F.excBase_ValueError, (Bool.and_eq_true_iff.mp (List.all_eq_true.mp c.xc (3, tailVE, "ValueError.__new__") (by simp))).1, (Bool.and_eq_true_iff.mp (List.all_eq_true.mp c.xc (3, tailVE, "ValueError.__new__") (by simp))).2⟩
  c_NoSolution := adr_all X G c.cls (x := "NoSolution") (by decide +kernel)
  x_NoSolution := ⟨PySem.F.excBase_ValueError, (Bool.and_eq_true_iff.mp (List.all_eq_true.mp c.xc (4, tailVE, "ValueError.__new__") (by simp))).1, (Bool.and_eq_true_iff.mp (List.all_eq_true.mp c.xc (4, tailVE, "ValueError.__new__") (by simp))).2⟩
  c_TooMany := adr_all X G c.cls (x := "TooMany") (by decide +kernel)
  e_TooMany := eb_of PySem.F.excBase_ValueError PySem.F.store_ValueError (List.all_eq_true.mp c.eb (5, tailVE, "ValueError.__new__") (by simp))
  i_TooMany := (init_of (List.all_eq_true.mp c.ini (5, "TooMany.__init__") (by simp))).1
  u_TooMany := (init_of (List.all_eq_true.mp c.ini (5, "TooMany.__init__") (by simp))).2 c.ifd_TooMany
  b_TooMany := ((init_of (List.all_eq_true.mp c.ini (5, "TooMany.__init__") (by simp))).2 c.ifd_TooMany).binds (fun _ _ _ _ _ _ us hl => match us, hl with | [_, _], _ => rfl)
  o_TooMany_limit := fld_of c.fld (c := 5) (f := "limit") (by decide +kernel)
  c_TooLarge := adr_all X G c.cls (x := "TooLarge") (by decide +kernel)
  e_TooLarge := eb_of PySem.F.excBase_ValueError PySem.F.store_ValueError (List.all_eq_true.mp c.eb (6, tailVE, "ValueError.__new__") (by simp))
  i_TooLarge := (init_of (List.all_eq_true.mp c.ini (6, "TooLarge.__init__") (by simp))).1
  u_TooLarge := (init_of (List.all_eq_true.mp c.ini (6, "TooLarge.__init__") (by simp))).2 c.ifd_TooLarge
  b_TooLarge := ((init_of (List.all_eq_true.mp c.ini (6, "TooLarge.__init__") (by simp))).2 c.ifd_TooLarge).binds (fun _ _ _ _ _ _ us hl => match us, hl with | [_, _], _ => rfl)
  o_TooLarge_limit := fld_of c.fld (c := 6) (f := "limit") (by decide +kernel)
  c_Clash := adr_all X G c.cls (x := "Clash") (by decide +kernel)
  e_Clash := eb_of PySem.F.excBase_ValueError PySem.F.store_ValueError (List.all_eq_true.mp c.eb (7, tailVE, "ValueError.__new__") (by simp))
  i_Clash := (init_of (List.all_eq_true.mp c.ini (7, "Clash.__init__") (by simp))).1
  u_Clash := (init_of (List.all_eq_true.mp c.ini (7, "Clash.__init__") (by simp))).2 c.ifd_Clash
  b_Clash := ((init_of (List.all_eq_true.mp c.ini (7, "Clash.__init__") (by simp))).2 c.ifd_Clash).binds (fun _ _ _ _ _ _ us hl => match us, hl with | [_, _], _ => rfl)
  o_Clash_places := fld_of c.fld (c := 7) (f := "places") (by decide +kernel)
  c_BadChain := adr_all X G c.cls (x := "BadChain") (by decide +kernel)
  e_BadChain := eb_of PySem.F.excBase_ValueError PySem.F.store_ValueError (List.all_eq_true.mp c.eb (8, tailVE, "ValueError.__new__") (by simp))
  i_BadChain := (init_of (List.all_eq_true.mp c.ini (8, "BadChain.__init__") (by simp))).1
  u_BadChain := (init_of (List.all_eq_true.mp c.ini (8, "BadChain.__init__") (by simp))).2 c.ifd_BadChain
  b_BadChain := ((init_of (List.all_eq_true.mp c.ini (8, "BadChain.__init__") (by simp))).2 c.ifd_BadChain).binds (fun _ _ _ _ _ _ us hl => match us, hl with | [_, _], _ => rfl)
  o_BadChain_index := fld_of c.fld (c := 8) (f := "index") (by decide +kernel)
  c_BadValue := adr_all X G c.cls (x := "BadValue") (by decide +kernel)
  e_BadValue := eb_of PySem.F.excBase_ValueError PySem.F.store_ValueError (List.all_eq_true.mp c.eb (9, tailVE, "ValueError.__new__") (by simp))
  i_BadValue := (init_of (List.all_eq_true.mp c.ini (9, "BadValue.__init__") (by simp))).1
  u_BadValue := (init_of (List.all_eq_true.mp c.ini (9, "BadValue.__init__") (by simp))).2 c.ifd_BadValue
  b_BadValue := ((init_of (List.all_eq_true.mp c.ini (9, "BadValue.__init__") (by simp))).2 c.ifd_BadValue).binds (fun _ _ _ _ _ _ us hl => match us, hl with | [_, _], _ => rfl)
  o_BadValue_value := fld_of c.fld (c := 9) (f := "value") (by decide +kernel)
  c_BadForm := adr_all X G c.cls (x := "BadForm") (by decide +kernel)
  e_BadForm := eb_of PySem.F.excBase_ValueError PySem.F.store_ValueError (List.all_eq_true.mp c.eb (10, tailVE, "ValueError.__new__") (by simp))
  i_BadForm := (init_of (List.all_eq_true.mp c.ini (10, "BadForm.__init__") (by simp))).1
  u_BadForm := (init_of (List.all_eq_true.mp c.ini (10, "BadForm.__init__") (by simp))).2 c.ifd_BadForm
  b_BadForm := ((init_of (List.all_eq_true.mp c.ini (10, "BadForm.__init__") (by simp))).2 c.ifd_BadForm).binds (fun _ _ _ _ _ _ us hl => match us, hl with | [_, _], _ => rfl)
  o_BadForm_form := fld_of c.fld (c := 10) (f := "form") (by decide +kernel)
  c_BadSize := adr_all X G c.cls (x := "BadSize") (by decide +kernel)
  e_BadSize := eb_of PySem.F.excBase_ValueError PySem.F.store_ValueError (List.all_eq_true.mp c.eb (11, tailVE, "ValueError.__new__") (by simp))
  i_BadSize := (init_of (List.all_eq_true.mp c.ini (11, "BadSize.__init__") (by simp))).1
  u_BadSize := (init_of (List.all_eq_true.mp c.ini (11, "BadSize.__init__") (by simp))).2 c.ifd_BadSize
  b_BadSize := ((init_of (List.all_eq_true.mp c.ini (11, "BadSize.__init__") (by simp))).2 c.ifd_BadSize).binds (fun _ _ _ _ _ _ us hl => match us, hl with | [_, _], _ => rfl)
  o_BadSize_size := fld_of c.fld (c := 11) (f := "size") (by decide +kernel)
  c_NoValue := adr_all X G c.cls (x := "NoValue") (by decide +kernel)
  e_NoValue := eb_of PySem.F.excBase_ValueError PySem.F.store_ValueError (List.all_eq_true.mp c.eb (12, tailVE, "ValueError.__new__") (by simp))
  i_NoValue := (init_of (List.all_eq_true.mp c.ini (12, "NoValue.__init__") (by simp))).1
  u_NoValue := (init_of (List.all_eq_true.mp c.ini (12, "NoValue.__init__") (by simp))).2 c.ifd_NoValue
  b_NoValue := ((init_of (List.all_eq_true.mp c.ini (12, "NoValue.__init__") (by simp))).2 c.ifd_NoValue).binds (fun _ _ _ _ _ _ us hl => match us, hl with | [_, _], _ => rfl)
  o_NoValue_value := fld_of c.fld (c := 12) (f := "value") (by decide +kernel)
  c_HasValues := adr_all X G c.cls (x := "HasValues") (by decide +kernel)
  x_HasValues := ⟨PySem.F.excBase_ValueError, (Bool.and_eq_true_iff.mp (List.all_eq_true.mp c.xc (13, tailVE, "ValueError.__new__") (by simp))).1, (Bool.and_eq_true_iff.mp (List.all_eq_true.mp c.xc (13, tailVE, "ValueError.__new__") (by simp))).2⟩
  c_NotMet := adr_all X G c.cls (x := "NotMet") (by decide +kernel)
  e_NotMet := eb_of PySem.F.excBase_ValueError PySem.F.store_ValueError (List.all_eq_true.mp c.eb (14, tailVE, "ValueError.__new__") (by simp))
  i_NotMet := (init_of (List.all_eq_true.mp c.ini (14, "NotMet.__init__") (by simp))).1
  u_NotMet := (init_of (List.all_eq_true.mp c.ini (14, "NotMet.__init__") (by simp))).2 c.ifd_NotMet
  b_NotMet := ((init_of (List.all_eq_true.mp c.ini (14, "NotMet.__init__") (by simp))).2 c.ifd_NotMet).binds (fun _ _ _ _ _ _ us hl => match us, hl with | [_, _], _ => rfl)
  o_NotMet_value := fld_of c.fld (c := 14) (f := "value") (by decide +kernel)
  c_Idle := adr_all X G c.cls (x := "Idle") (by decide +kernel)
  e_Idle := eb_of PySem.F.excBase_ValueError PySem.F.store_ValueError (List.all_eq_true.mp c.eb (15, tailVE, "ValueError.__new__") (by simp))
  i_Idle := (init_of (List.all_eq_true.mp c.ini (15, "Idle.__init__") (by simp))).1
  u_Idle := (init_of (List.all_eq_true.mp c.ini (15, "Idle.__init__") (by simp))).2 c.ifd_Idle
  b_Idle := ((init_of (List.all_eq_true.mp c.ini (15, "Idle.__init__") (by simp))).2 c.ifd_Idle).binds (fun _ _ _ _ _ _ us hl => match us, hl with | [_, _], _ => rfl)
  o_Idle_number := fld_of c.fld (c := 15) (f := "number") (by decide +kernel)
  c_BadRows := adr_all X G c.cls (x := "BadRows") (by decide +kernel)
  e_BadRows := eb_of PySem.F.excBase_ValueError PySem.F.store_ValueError (List.all_eq_true.mp c.eb (16, tailVE, "ValueError.__new__") (by simp))
  i_BadRows := (init_of (List.all_eq_true.mp c.ini (16, "BadRows.__init__") (by simp))).1
  u_BadRows := (init_of (List.all_eq_true.mp c.ini (16, "BadRows.__init__") (by simp))).2 c.ifd_BadRows
  b_BadRows := ((init_of (List.all_eq_true.mp c.ini (16, "BadRows.__init__") (by simp))).2 c.ifd_BadRows).binds (fun _ _ _ _ _ _ us hl => match us, hl with | [_, _], _ => rfl)
  o_BadRows_error := fld_of c.fld (c := 16) (f := "error") (by decide +kernel)
  c_BadBook := adr_all X G c.cls (x := "BadBook") (by decide +kernel)
  e_BadBook := eb_of PySem.F.excBase_ValueError PySem.F.store_ValueError (List.all_eq_true.mp c.eb (17, tailVE, "ValueError.__new__") (by simp))
  i_BadBook := (init_of (List.all_eq_true.mp c.ini (17, "BadBook.__init__") (by simp))).1
  u_BadBook := (init_of (List.all_eq_true.mp c.ini (17, "BadBook.__init__") (by simp))).2 c.ifd_BadBook
  b_BadBook := ((init_of (List.all_eq_true.mp c.ini (17, "BadBook.__init__") (by simp))).2 c.ifd_BadBook).binds (fun _ _ _ _ _ _ us hl => match us, hl with | [_, _], _ => rfl)
  o_BadBook_error := fld_of c.fld (c := 17) (f := "error") (by decide +kernel)
  c_HasHole := adr_all X G c.cls (x := "HasHole") (by decide +kernel)
  e_HasHole := eb_of PySem.F.excBase_ValueError PySem.F.store_ValueError (List.all_eq_true.mp c.eb (18, tailVE, "ValueError.__new__") (by simp))
  i_HasHole := (init_of (List.all_eq_true.mp c.ini (18, "HasHole.__init__") (by simp))).1
  u_HasHole := (init_of (List.all_eq_true.mp c.ini (18, "HasHole.__init__") (by simp))).2 c.ifd_HasHole
  b_HasHole := ((init_of (List.all_eq_true.mp c.ini (18, "HasHole.__init__") (by simp))).2 c.ifd_HasHole).binds (fun _ _ _ _ _ _ us hl => match us, hl with | [_, _], _ => rfl)
  o_HasHole_spot := fld_of c.fld (c := 18) (f := "spot") (by decide +kernel)
  c_NotPlain := adr_all X G c.cls (x := "NotPlain") (by decide +kernel)
  e_NotPlain := eb_of PySem.F.excBase_ValueError PySem.F.store_ValueError (List.all_eq_true.mp c.eb (19, tailVE, "ValueError.__new__") (by simp))
  i_NotPlain := (init_of (List.all_eq_true.mp c.ini (19, "NotPlain.__init__") (by simp))).1
  u_NotPlain := (init_of (List.all_eq_true.mp c.ini (19, "NotPlain.__init__") (by simp))).2 c.ifd_NotPlain
  b_NotPlain := ((init_of (List.all_eq_true.mp c.ini (19, "NotPlain.__init__") (by simp))).2 c.ifd_NotPlain).binds (fun _ _ _ _ _ _ us hl => match us, hl with | [_, _], _ => rfl)
  o_NotPlain_index := fld_of c.fld (c := 19) (f := "index") (by decide +kernel)
  c_BadDatas := adr_all X G c.cls (x := "BadDatas") (by decide +kernel)
  e_BadDatas := eb_of PySem.F.excBase_ValueError PySem.F.store_ValueError (List.all_eq_true.mp c.eb (20, tailVE, "ValueError.__new__") (by simp))
  i_BadDatas := (init_of (List.all_eq_true.mp c.ini (20, "BadDatas.__init__") (by simp))).1
  u_BadDatas := (init_of (List.all_eq_true.mp c.ini (20, "BadDatas.__init__") (by simp))).2 c.ifd_BadDatas
  b_BadDatas := ((init_of (List.all_eq_true.mp c.ini (20, "BadDatas.__init__") (by simp))).2 c.ifd_BadDatas).binds (fun _ _ _ _ _ _ us hl => match us, hl with | [_, _], _ => rfl)
  o_BadDatas_error := fld_of c.fld (c := 20) (f := "error") (by decide +kernel)
  c_Used := adr_all X G c.cls (x := "Used") (by decide +kernel)
  e_Used := eb_of PySem.F.excBase_ValueError PySem.F.store_ValueError (List.all_eq_true.mp c.eb (21, tailVE, "ValueError.__new__") (by simp))
  i_Used := (init_of (List.all_eq_true.mp c.ini (21, "Used.__init__") (by simp))).1
  u_Used := (init_of (List.all_eq_true.mp c.ini (21, "Used.__init__") (by simp))).2 c.ifd_Used
  b_Used := ((init_of (List.all_eq_true.mp c.ini (21, "Used.__init__") (by simp))).2 c.ifd_Used).binds (fun _ _ _ _ _ _ us hl => match us, hl with | [_, _], _ => rfl)
  o_Used_word := fld_of c.fld (c := 21) (f := "word") (by decide +kernel)
  c_Refused := adr_all X G c.cls (x := "Refused") (by decide +kernel)
  e_Refused := eb_of PySem.F.excBase_ValueError PySem.F.store_ValueError (List.all_eq_true.mp c.eb (22, tailVE, "ValueError.__new__") (by simp))
  i_Refused := (init_of (List.all_eq_true.mp c.ini (22, "Refused.__init__") (by simp))).1
  u_Refused := (init_of (List.all_eq_true.mp c.ini (22, "Refused.__init__") (by simp))).2 c.ifd_Refused
  b_Refused := ((init_of (List.all_eq_true.mp c.ini (22, "Refused.__init__") (by simp))).2 c.ifd_Refused).binds (fun _ _ _ _ _ _ us hl => match us, hl with | [_, _, _], _ => rfl)
  o_Refused_index := fld_of c.fld (c := 22) (f := "index") (by decide +kernel)
  o_Refused_verdict := fld_of c.fld (c := 22) (f := "verdict") (by decide +kernel)
  c_TooManyEdits := adr_all X G c.cls (x := "TooManyEdits") (by decide +kernel)
  x_TooManyEdits := ⟨PySem.F.excBase_ValueError, (Bool.and_eq_true_iff.mp (List.all_eq_true.mp c.xc (23, tailVE, "ValueError.__new__") (by simp))).1, (Bool.and_eq_true_iff.mp (List.all_eq_true.mp c.xc (23, tailVE, "ValueError.__new__") (by simp))).2⟩
  c_NothingToUndo := adr_all X G c.cls (x := "NothingToUndo") (by decide +kernel)
  x_NothingToUndo := ⟨PySem.F.excBase_ValueError, (Bool.and_eq_true_iff.mp (List.all_eq_true.mp c.xc (24, tailVE, "ValueError.__new__") (by simp))).1, (Bool.and_eq_true_iff.mp (List.all_eq_true.mp c.xc (24, tailVE, "ValueError.__new__") (by simp))).2⟩
  c_BadEdits := adr_all X G c.cls (x := "BadEdits") (by decide +kernel)
  x_BadEdits := ⟨PySem.F.excBase_ValueError, (Bool.and_eq_true_iff.mp (List.all_eq_true.mp c.xc (25, tailVE, "ValueError.__new__") (by simp))).1, (Bool.and_eq_true_iff.mp (List.all_eq_true.mp c.xc (25, tailVE, "ValueError.__new__") (by simp))).2⟩
  c_BadEdit := adr_all X G c.cls (x := "BadEdit") (by decide +kernel)
  e_BadEdit := eb_of PySem.F.excBase_ValueError PySem.F.store_ValueError (List.all_eq_true.mp c.eb (26, tailVE, "ValueError.__new__") (by simp))
  i_BadEdit := (init_of (List.all_eq_true.mp c.ini (26, "BadEdit.__init__") (by simp))).1
  u_BadEdit := (init_of (List.all_eq_true.mp c.ini (26, "BadEdit.__init__") (by simp))).2 c.ifd_BadEdit
  b_BadEdit := ((init_of (List.all_eq_true.mp c.ini (26, "BadEdit.__init__") (by simp))).2 c.ifd_BadEdit).binds (fun _ _ _ _ _ _ us hl => match us, hl with | [_, _], _ => rfl)
  o_BadEdit_index := fld_of c.fld (c := 26) (f := "index") (by decide +kernel)
  c_Rejected := adr_all X G c.cls (x := "Rejected") (by decide +kernel)
  e_Rejected := eb_of PySem.F.excBase_ValueError PySem.F.store_ValueError (List.all_eq_true.mp c.eb (27, tailVE, "ValueError.__new__") (by simp))
  i_Rejected := (init_of (List.all_eq_true.mp c.ini (27, "Rejected.__init__") (by simp))).1
  u_Rejected := (init_of (List.all_eq_true.mp c.ini (27, "Rejected.__init__") (by simp))).2 c.ifd_Rejected
  b_Rejected := ((init_of (List.all_eq_true.mp c.ini (27, "Rejected.__init__") (by simp))).2 c.ifd_Rejected).binds (fun _ _ _ _ _ _ us hl => match us, hl with | [_, _], _ => rfl)
  o_Rejected_index := fld_of c.fld (c := 27) (f := "index") (by decide +kernel)
  c_Busy := adr_all X G c.cls (x := "Busy") (by decide +kernel)
  x_Busy := ⟨PySem.F.excBase_ValueError, (Bool.and_eq_true_iff.mp (List.all_eq_true.mp c.xc (28, tailVE, "ValueError.__new__") (by simp))).1, (Bool.and_eq_true_iff.mp (List.all_eq_true.mp c.xc (28, tailVE, "ValueError.__new__") (by simp))).2⟩
  c_BadExpression := adr_all X G c.cls (x := "BadExpression") (by decide +kernel)
  e_BadExpression := eb_of PySem.F.excBase_ValueError PySem.F.store_ValueError (List.all_eq_true.mp c.eb (29, tailVE, "ValueError.__new__") (by simp))
  i_BadExpression := (init_of (List.all_eq_true.mp c.ini (29, "BadExpression.__init__") (by simp))).1
  u_BadExpression := (init_of (List.all_eq_true.mp c.ini (29, "BadExpression.__init__") (by simp))).2 c.ifd_BadExpression
  b_BadExpression := ((init_of (List.all_eq_true.mp c.ini (29, "BadExpression.__init__") (by simp))).2 c.ifd_BadExpression).binds (fun _ _ _ _ _ _ us hl => match us, hl with | [_, _], _ => rfl)
  o_BadExpression_error := fld_of c.fld (c := 29) (f := "error") (by decide +kernel)
  c_Incomplete := adr_all X G c.cls (x := "Incomplete") (by decide +kernel)
  e_Incomplete := eb_of PySem.F.excBase_ValueError PySem.F.store_ValueError (List.all_eq_true.mp c.eb (30, tailVE, "ValueError.__new__") (by simp))
  i_Incomplete := (init_of (List.all_eq_true.mp c.ini (30, "Incomplete.__init__") (by simp))).1
  u_Incomplete := (init_of (List.all_eq_true.mp c.ini (30, "Incomplete.__init__") (by simp))).2 c.ifd_Incomplete
  b_Incomplete := ((init_of (List.all_eq_true.mp c.ini (30, "Incomplete.__init__") (by simp))).2 c.ifd_Incomplete).binds (fun _ _ _ _ _ _ us hl => match us, hl with | [_, _, _, _], _ => rfl)
  o_Incomplete_word := fld_of c.fld (c := 30) (f := "word") (by decide +kernel)
  o_Incomplete_place := fld_of c.fld (c := 30) (f := "place") (by decide +kernel)
  o_Incomplete_outline := fld_of c.fld (c := 30) (f := "outline") (by decide +kernel)
  c_BadText := adr_all X G c.cls (x := "BadText") (by decide +kernel)
  e_BadText := eb_of PySem.F.excBase_ValueError PySem.F.store_ValueError (List.all_eq_true.mp c.eb (31, tailVE, "ValueError.__new__") (by simp))
  i_BadText := (init_of (List.all_eq_true.mp c.ini (31, "BadText.__init__") (by simp))).1
  u_BadText := (init_of (List.all_eq_true.mp c.ini (31, "BadText.__init__") (by simp))).2 c.ifd_BadText
  b_BadText := ((init_of (List.all_eq_true.mp c.ini (31, "BadText.__init__") (by simp))).2 c.ifd_BadText).binds (fun _ _ _ _ _ _ us hl => match us, hl with | [_, _], _ => rfl)
  o_BadText_index := fld_of c.fld (c := 31) (f := "index") (by decide +kernel)
  c_NoPlace := adr_all X G c.cls (x := "NoPlace") (by decide +kernel)
  e_NoPlace := eb_of PySem.F.excBase_LookupError PySem.F.store_LookupError (List.all_eq_true.mp c.eb (32, tailLE, "LookupError.__new__") (by simp))
  i_NoPlace := (init_of (List.all_eq_true.mp c.ini (32, "NoPlace.__init__") (by simp))).1
  u_NoPlace := (init_of (List.all_eq_true.mp c.ini (32, "NoPlace.__init__") (by simp))).2 c.ifd_NoPlace
  b_NoPlace := ((init_of (List.all_eq_true.mp c.ini (32, "NoPlace.__init__") (by simp))).2 c.ifd_NoPlace).binds (fun _ _ _ _ _ _ us hl => match us, hl with | [_, _], _ => rfl)
  o_NoPlace_value := fld_of c.fld (c := 32) (f := "value") (by decide +kernel)
  c_NoMaker := adr_all X G c.cls (x := "NoMaker") (by decide +kernel)
  e_NoMaker := eb_of PySem.F.excBase_LookupError PySem.F.store_LookupError (List.all_eq_true.mp c.eb (33, tailLE, "LookupError.__new__") (by simp))
  i_NoMaker := (init_of (List.all_eq_true.mp c.ini (33, "NoMaker.__init__") (by simp))).1
  u_NoMaker := (init_of (List.all_eq_true.mp c.ini (33, "NoMaker.__init__") (by simp))).2 c.ifd_NoMaker
  b_NoMaker := ((init_of (List.all_eq_true.mp c.ini (33, "NoMaker.__init__") (by simp))).2 c.ifd_NoMaker).binds (fun _ _ _ _ _ _ us hl => match us, hl with | [_, _], _ => rfl)
  o_NoMaker_name := fld_of c.fld (c := 33) (f := "name") (by decide +kernel)
  c_NoIndex := adr_all X G c.cls (x := "NoIndex") (by decide +kernel)
  e_NoIndex := eb_of PySem.F.excBase_LookupError PySem.F.store_LookupError (List.all_eq_true.mp c.eb (34, tailLE, "LookupError.__new__") (by simp))
  i_NoIndex := (init_of (List.all_eq_true.mp c.ini (34, "NoIndex.__init__") (by simp))).1
  u_NoIndex := (init_of (List.all_eq_true.mp c.ini (34, "NoIndex.__init__") (by simp))).2 c.ifd_NoIndex
  b_NoIndex := ((init_of (List.all_eq_true.mp c.ini (34, "NoIndex.__init__") (by simp))).2 c.ifd_NoIndex).binds (fun _ _ _ _ _ _ us hl => match us, hl with | [_, _], _ => rfl)
  o_NoIndex_index := fld_of c.fld (c := 34) (f := "index") (by decide +kernel)
  c_NoRow := adr_all X G c.cls (x := "NoRow") (by decide +kernel)
  e_NoRow := eb_of PySem.F.excBase_LookupError PySem.F.store_LookupError (List.all_eq_true.mp c.eb (35, tailLE, "LookupError.__new__") (by simp))
  i_NoRow := (init_of (List.all_eq_true.mp c.ini (35, "NoRow.__init__") (by simp))).1
  u_NoRow := (init_of (List.all_eq_true.mp c.ini (35, "NoRow.__init__") (by simp))).2 c.ifd_NoRow
  b_NoRow := ((init_of (List.all_eq_true.mp c.ini (35, "NoRow.__init__") (by simp))).2 c.ifd_NoRow).binds (fun _ _ _ _ _ _ us hl => match us, hl with | [_, _], _ => rfl)
  o_NoRow_number := fld_of c.fld (c := 35) (f := "number") (by decide +kernel)
  c_NoDefinition := adr_all X G c.cls (x := "NoDefinition") (by decide +kernel)
  e_NoDefinition := eb_of PySem.F.excBase_LookupError PySem.F.store_LookupError (List.all_eq_true.mp c.eb (36, tailLE, "LookupError.__new__") (by simp))
  i_NoDefinition := (init_of (List.all_eq_true.mp c.ini (36, "NoDefinition.__init__") (by simp))).1
  u_NoDefinition := (init_of (List.all_eq_true.mp c.ini (36, "NoDefinition.__init__") (by simp))).2 c.ifd_NoDefinition
  b_NoDefinition := ((init_of (List.all_eq_true.mp c.ini (36, "NoDefinition.__init__") (by simp))).2 c.ifd_NoDefinition).binds (fun _ _ _ _ _ _ us hl => match us, hl with | [_, _], _ => rfl)
  o_NoDefinition_value := fld_of c.fld (c := 36) (f := "value") (by decide +kernel)
  c_NoWord := adr_all X G c.cls (x := "NoWord") (by decide +kernel)
  e_NoWord := eb_of PySem.F.excBase_LookupError PySem.F.store_LookupError (List.all_eq_true.mp c.eb (37, tailLE, "LookupError.__new__") (by simp))
  i_NoWord := (init_of (List.all_eq_true.mp c.ini (37, "NoWord.__init__") (by simp))).1
  u_NoWord := (init_of (List.all_eq_true.mp c.ini (37, "NoWord.__init__") (by simp))).2 c.ifd_NoWord
  b_NoWord := ((init_of (List.all_eq_true.mp c.ini (37, "NoWord.__init__") (by simp))).2 c.ifd_NoWord).binds (fun _ _ _ _ _ _ us hl => match us, hl with | [_, _], _ => rfl)
  o_NoWord_word := fld_of c.fld (c := 37) (f := "word") (by decide +kernel)
  c_NoVersion := adr_all X G c.cls (x := "NoVersion") (by decide +kernel)
  e_NoVersion := eb_of PySem.F.excBase_LookupError PySem.F.store_LookupError (List.all_eq_true.mp c.eb (38, tailLE, "LookupError.__new__") (by simp))
  i_NoVersion := (init_of (List.all_eq_true.mp c.ini (38, "NoVersion.__init__") (by simp))).1
  u_NoVersion := (init_of (List.all_eq_true.mp c.ini (38, "NoVersion.__init__") (by simp))).2 c.ifd_NoVersion
  b_NoVersion := ((init_of (List.all_eq_true.mp c.ini (38, "NoVersion.__init__") (by simp))).2 c.ifd_NoVersion).binds (fun _ _ _ _ _ _ us hl => match us, hl with | [_, _], _ => rfl)
  o_NoVersion_value := fld_of c.fld (c := 38) (f := "value") (by decide +kernel)
  v_ := own_val
  isi := fun a i b e => by
    obtain ⟨h1, h2⟩ := isi_lt e
    refine ⟨excC_of (List.all_eq_true.mp c.exb _ ?_), _, val_cls i h2, isi_of c.isi h1 h2 e⟩
    show (csK K).getD a 0 ∈ csK K
    rw [List.getD_eq_getElem?_getD, List.getElem?_eq_getElem (show a < (csK K).length from h1)]
    exact List.getElem_mem _
  n_LookupError := none_all X G c.free (by decide +kernel)
  t_LookupError := rfl
  n_ValueError := none_all X G c.free (by decide +kernel)
  t_ValueError := rfl
  n_abs := none_all X G c.free (by decide +kernel)
  n_enumerate := none_all X G c.free (by decide +kernel)
  n_int := none_all X G c.free (by decide +kernel)
  n_isinstance := none_all X G c.free (by decide +kernel)
  n_len := none_all X G c.free (by decide +kernel)
  n_range := none_all X G c.free (by decide +kernel)
  n_repr := none_all X G c.free (by decide +kernel)
  g_BATCH := int_all X G c.cst (by decide +kernel)
  g_CALLS := int_all X G c.cst (by decide +kernel)
  g_DATAS := int_all X G c.cst (by decide +kernel)
  g_DEFINITIONS := int_all X G c.cst (by decide +kernel)
  g_DEPTH := int_all X G c.cst (by decide +kernel)
  g_EDITS := int_all X G c.cst (by decide +kernel)
  g_FORM := int_all X G c.cst (by decide +kernel)
  g_GROUPS := int_all X G c.cst (by decide +kernel)
  g_LISTED := int_all X G c.cst (by decide +kernel)
  g_MET := int_all X G c.cst (by decide +kernel)
  g_NODES := int_all X G c.cst (by decide +kernel)
  g_PARAMETERS := int_all X G c.cst (by decide +kernel)
  g_PLACES := int_all X G c.cst (by decide +kernel)
  g_ROWS := int_all X G c.cst (by decide +kernel)
  g_SHOWN := int_all X G c.cst (by decide +kernel)
  g_SIZES := int_all X G c.cst (by decide +kernel)
  g_TREE := int_all X G c.cst (by decide +kernel)
  g_VARIABLES := int_all X G c.cst (by decide +kernel)
  f_error := fun a e => by
    have e : a ∈ ([16, 17, 20, 29] : List Nat) := List.contains_iff_mem.mp e
    simp only [List.mem_cons, List.not_mem_nil, or_false] at e
    rcases e with rfl | rfl | rfl | rfl
    · exact ⟨eb_of PySem.F.excBase_ValueError PySem.F.store_ValueError (List.all_eq_true.mp c.eb (16, tailVE, "ValueError.__new__") (by simp)), fld_of c.fld (c := 16) (f := "error") (by decide +kernel)⟩
    · exact ⟨eb_of PySem.F.excBase_ValueError PySem.F.store_ValueError (List.all_eq_true.mp c.eb (17, tailVE, "ValueError.__new__") (by simp)), fld_of c.fld (c := 17) (f := "error") (by decide +kernel)⟩
    · exact ⟨eb_of PySem.F.excBase_ValueError PySem.F.store_ValueError (List.all_eq_true.mp c.eb (20, tailVE, "ValueError.__new__") (by simp)), fld_of c.fld (c := 20) (f := "error") (by decide +kernel)⟩
    · exact ⟨eb_of PySem.F.excBase_ValueError PySem.F.store_ValueError (List.all_eq_true.mp c.eb (29, tailVE, "ValueError.__new__") (by simp)), fld_of c.fld (c := 29) (f := "error") (by decide +kernel)⟩
  f_form := fun a e => by
    have e : a ∈ ([10] : List Nat) := List.contains_iff_mem.mp e
    simp only [List.mem_cons, List.not_mem_nil, or_false] at e
    rcases e with rfl
    · exact ⟨eb_of PySem.F.excBase_ValueError PySem.F.store_ValueError (List.all_eq_true.mp c.eb (10, tailVE, "ValueError.__new__") (by simp)), fld_of c.fld (c := 10) (f := "form") (by decide +kernel)⟩
  f_index := fun a e => by
    have e : a ∈ ([8, 19, 22, 26, 27, 31, 34] : List Nat) := List.contains_iff_mem.mp e
    simp only [List.mem_cons, List.not_mem_nil, or_false] at e
    rcases e with rfl | rfl | rfl | rfl | rfl | rfl | rfl
    · exact ⟨eb_of PySem.F.excBase_ValueError PySem.F.store_ValueError (List.all_eq_true.mp c.eb (8, tailVE, "ValueError.__new__") (by simp)), fld_of c.fld (c := 8) (f := "index") (by decide +kernel)⟩
    · exact ⟨eb_of PySem.F.excBase_ValueError PySem.F.store_ValueError (List.all_eq_true.mp c.eb (19, tailVE, "ValueError.__new__") (by simp)), fld_of c.fld (c := 19) (f := "index") (by decide +kernel)⟩
    · exact ⟨eb_of PySem.F.excBase_ValueError PySem.F.store_ValueError (List.all_eq_true.mp c.eb (22, tailVE, "ValueError.__new__") (by simp)), fld_of c.fld (c := 22) (f := "index") (by decide +kernel)⟩
    · exact ⟨eb_of PySem.F.excBase_ValueError PySem.F.store_ValueError (List.all_eq_true.mp c.eb (26, tailVE, "ValueError.__new__") (by simp)), fld_of c.fld (c := 26) (f := "index") (by decide +kernel)⟩
    · exact ⟨eb_of PySem.F.excBase_ValueError PySem.F.store_ValueError (List.all_eq_true.mp c.eb (27, tailVE, "ValueError.__new__") (by simp)), fld_of c.fld (c := 27) (f := "index") (by decide +kernel)⟩
    · exact ⟨eb_of PySem.F.excBase_ValueError PySem.F.store_ValueError (List.all_eq_true.mp c.eb (31, tailVE, "ValueError.__new__") (by simp)), fld_of c.fld (c := 31) (f := "index") (by decide +kernel)⟩
    · exact ⟨eb_of PySem.F.excBase_LookupError PySem.F.store_LookupError (List.all_eq_true.mp c.eb (34, tailLE, "LookupError.__new__") (by simp)), fld_of c.fld (c := 34) (f := "index") (by decide +kernel)⟩
  f_limit := fun a e => by
    have e : a ∈ ([5, 6] : List Nat) := List.contains_iff_mem.mp e
    simp only [List.mem_cons, List.not_mem_nil, or_false] at e
    rcases e with rfl | rfl
    · exact ⟨eb_of PySem.F.excBase_ValueError PySem.F.store_ValueError (List.all_eq_true.mp c.eb (5, tailVE, "ValueError.__new__") (by simp)), fld_of c.fld (c := 5) (f := "limit") (by decide +kernel)⟩
    · exact ⟨eb_of PySem.F.excBase_ValueError PySem.F.store_ValueError (List.all_eq_true.mp c.eb (6, tailVE, "ValueError.__new__") (by simp)), fld_of c.fld (c := 6) (f := "limit") (by decide +kernel)⟩
  f_name := fun a e => by
    have e : a ∈ ([33] : List Nat) := List.contains_iff_mem.mp e
    simp only [List.mem_cons, List.not_mem_nil, or_false] at e
    rcases e with rfl
    · exact ⟨eb_of PySem.F.excBase_LookupError PySem.F.store_LookupError (List.all_eq_true.mp c.eb (33, tailLE, "LookupError.__new__") (by simp)), fld_of c.fld (c := 33) (f := "name") (by decide +kernel)⟩
  f_number := fun a e => by
    have e : a ∈ ([15, 35] : List Nat) := List.contains_iff_mem.mp e
    simp only [List.mem_cons, List.not_mem_nil, or_false] at e
    rcases e with rfl | rfl
    · exact ⟨eb_of PySem.F.excBase_ValueError PySem.F.store_ValueError (List.all_eq_true.mp c.eb (15, tailVE, "ValueError.__new__") (by simp)), fld_of c.fld (c := 15) (f := "number") (by decide +kernel)⟩
    · exact ⟨eb_of PySem.F.excBase_LookupError PySem.F.store_LookupError (List.all_eq_true.mp c.eb (35, tailLE, "LookupError.__new__") (by simp)), fld_of c.fld (c := 35) (f := "number") (by decide +kernel)⟩
  f_outline := fun a e => by
    have e : a ∈ ([30] : List Nat) := List.contains_iff_mem.mp e
    simp only [List.mem_cons, List.not_mem_nil, or_false] at e
    rcases e with rfl
    · exact ⟨eb_of PySem.F.excBase_ValueError PySem.F.store_ValueError (List.all_eq_true.mp c.eb (30, tailVE, "ValueError.__new__") (by simp)), fld_of c.fld (c := 30) (f := "outline") (by decide +kernel)⟩
  f_place := fun a e => by
    have e : a ∈ ([30] : List Nat) := List.contains_iff_mem.mp e
    simp only [List.mem_cons, List.not_mem_nil, or_false] at e
    rcases e with rfl
    · exact ⟨eb_of PySem.F.excBase_ValueError PySem.F.store_ValueError (List.all_eq_true.mp c.eb (30, tailVE, "ValueError.__new__") (by simp)), fld_of c.fld (c := 30) (f := "place") (by decide +kernel)⟩
  f_places := fun a e => by
    have e : a ∈ ([7] : List Nat) := List.contains_iff_mem.mp e
    simp only [List.mem_cons, List.not_mem_nil, or_false] at e
    rcases e with rfl
    · exact ⟨eb_of PySem.F.excBase_ValueError PySem.F.store_ValueError (List.all_eq_true.mp c.eb (7, tailVE, "ValueError.__new__") (by simp)), fld_of c.fld (c := 7) (f := "places") (by decide +kernel)⟩
  f_size := fun a e => by
    have e : a ∈ ([11] : List Nat) := List.contains_iff_mem.mp e
    simp only [List.mem_cons, List.not_mem_nil, or_false] at e
    rcases e with rfl
    · exact ⟨eb_of PySem.F.excBase_ValueError PySem.F.store_ValueError (List.all_eq_true.mp c.eb (11, tailVE, "ValueError.__new__") (by simp)), fld_of c.fld (c := 11) (f := "size") (by decide +kernel)⟩
  f_spot := fun a e => by
    have e : a ∈ ([18] : List Nat) := List.contains_iff_mem.mp e
    simp only [List.mem_cons, List.not_mem_nil, or_false] at e
    rcases e with rfl
    · exact ⟨eb_of PySem.F.excBase_ValueError PySem.F.store_ValueError (List.all_eq_true.mp c.eb (18, tailVE, "ValueError.__new__") (by simp)), fld_of c.fld (c := 18) (f := "spot") (by decide +kernel)⟩
  f_value := fun a e => by
    have e : a ∈ ([1, 2, 9, 12, 14, 32, 36, 38] : List Nat) := List.contains_iff_mem.mp e
    simp only [List.mem_cons, List.not_mem_nil, or_false] at e
    rcases e with rfl | rfl | rfl | rfl | rfl | rfl | rfl | rfl
    · exact ⟨eb_of PySem.F.excBase_ValueError PySem.F.store_ValueError (List.all_eq_true.mp c.eb (1, tailVE, "ValueError.__new__") (by simp)), fld_of c.fld (c := 1) (f := "value") (by decide +kernel)⟩
    · exact ⟨eb_of PySem.F.excBase_ValueError PySem.F.store_ValueError (List.all_eq_true.mp c.eb (2, tailVE, "ValueError.__new__") (by simp)), fld_of c.fld (c := 2) (f := "value") (by decide +kernel)⟩
    · exact ⟨eb_of PySem.F.excBase_ValueError PySem.F.store_ValueError (List.all_eq_true.mp c.eb (9, tailVE, "ValueError.__new__") (by simp)), fld_of c.fld (c := 9) (f := "value") (by decide +kernel)⟩
    · exact ⟨eb_of PySem.F.excBase_ValueError PySem.F.store_ValueError (List.all_eq_true.mp c.eb (12, tailVE, "ValueError.__new__") (by simp)), fld_of c.fld (c := 12) (f := "value") (by decide +kernel)⟩
    · exact ⟨eb_of PySem.F.excBase_ValueError PySem.F.store_ValueError (List.all_eq_true.mp c.eb (14, tailVE, "ValueError.__new__") (by simp)), fld_of c.fld (c := 14) (f := "value") (by decide +kernel)⟩
    · exact ⟨eb_of PySem.F.excBase_LookupError PySem.F.store_LookupError (List.all_eq_true.mp c.eb (32, tailLE, "LookupError.__new__") (by simp)), fld_of c.fld (c := 32) (f := "value") (by decide +kernel)⟩
    · exact ⟨eb_of PySem.F.excBase_LookupError PySem.F.store_LookupError (List.all_eq_true.mp c.eb (36, tailLE, "LookupError.__new__") (by simp)), fld_of c.fld (c := 36) (f := "value") (by decide +kernel)⟩
    · exact ⟨eb_of PySem.F.excBase_LookupError PySem.F.store_LookupError (List.all_eq_true.mp c.eb (38, tailLE, "LookupError.__new__") (by simp)), fld_of c.fld (c := 38) (f := "value") (by decide +kernel)⟩
  f_verdict := fun a e => by
    have e : a ∈ ([22] : List Nat) := List.contains_iff_mem.mp e
    simp only [List.mem_cons, List.not_mem_nil, or_false] at e
    rcases e with rfl
    · exact ⟨eb_of PySem.F.excBase_ValueError PySem.F.store_ValueError (List.all_eq_true.mp c.eb (22, tailVE, "ValueError.__new__") (by simp)), fld_of c.fld (c := 22) (f := "verdict") (by decide +kernel)⟩
  f_word := fun a e => by
    have e : a ∈ ([21, 30, 37] : List Nat) := List.contains_iff_mem.mp e
    simp only [List.mem_cons, List.not_mem_nil, or_false] at e
    rcases e with rfl | rfl | rfl
    · exact ⟨eb_of PySem.F.excBase_ValueError PySem.F.store_ValueError (List.all_eq_true.mp c.eb (21, tailVE, "ValueError.__new__") (by simp)), fld_of c.fld (c := 21) (f := "word") (by decide +kernel)⟩
    · exact ⟨eb_of PySem.F.excBase_ValueError PySem.F.store_ValueError (List.all_eq_true.mp c.eb (30, tailVE, "ValueError.__new__") (by simp)), fld_of c.fld (c := 30) (f := "word") (by decide +kernel)⟩
    · exact ⟨eb_of PySem.F.excBase_LookupError PySem.F.store_LookupError (List.all_eq_true.mp c.eb (37, tailLE, "LookupError.__new__") (by simp)), fld_of c.fld (c := 37) (f := "word") (by decide +kernel)⟩
theorem law_of {P : Program} {w : World} {K : PySem.W.Frag} {h : Heap} {mg : Str → Option Value} {fa : Addr} {lv : Nat} (X : K.In h) (G : h.Ns mainGlobals mg) (hfa : mg "law" = some (.ref fa)) (c : Chk K) : ∃ (fd : FuncData) (T : Sv), (∀ (s : Shared) (u : Value), BindsTo s fd ⟨[u], []⟩ [("_law_script", u)]) ∧
    ∀ base : Heap, K.In base → base.Ns mainGlobals mg → SysD base → FnA P w K mg base (2 * lv + 2) fa fd ["_law_script"] (SpD ⟨K, T⟩ 1 (tab lv 9)) := by
  have e := hfa.symm.trans (adr_mg X G (show (adr K "law" != 0) = true from by
    have z := List.all_eq_true.mp c.defs "law" (by decide +kernel)
    unfold dB at z
    simp only [Bool.and_eq_true] at z
    exact z.1.1.1))
  cases e
  have F : Fun K "law" "law" s_9 (adr K "law") (fdOf K (adr K "law")) := (defF_all (ps := ["_law_script"]) X G c.defs (by decide +kernel) c.fd_9 (fun _ _ _ _ _ _ us hl => match us, hl with | [_], _ => rfl)).F
  refine ⟨fdOf K (adr K "law"), svK K, fun s u => ?_, fun base KB GB Y => all_ok (tx_of KB GB Y c) lv 9⟩
  obtain ⟨oc, od, kV, doc, pm, an, cdv, ct, osl, e, _, _⟩ := F.ex
  rw [e]
  exact .of_eq rfl
end Sx.K84

set_option Elab.async false
set_option linter.all false
set_option maxRecDepth 100000
set_option maxHeartbeats 8000000
/-! S84: the plain law of k84: what its mirrors compute. -/
namespace Sx.K84
open PySem PySem.Spec L2

theorem b0_eq {F} : b_0 F = drawsC := rfl
theorem b1_eq {F} : b_1 F = nextC := rfl
theorem isi_own : ∀ c, c < 39 → ∀ j, j < 39 → 1 ≤ j → isi c j = some (decide (c = j)) := by decide +kernel
theorem isi_0 : ∀ c, c < 39 → 1 ≤ c → isi c 0 = some (decide (c < 32)) := by decide +kernel
theorem isi_40 : ∀ c, c < 39 → 1 ≤ c → isi c 40 = some (decide (c < 32)) := by decide +kernel
theorem isi_39 : ∀ c, c < 39 → 1 ≤ c → isi c 39 = some (decide (31 < c)) := by decide +kernel
def flagsL (c : Nat) : List D := ((List.range 38).map fun j => D.bl (decide (c = j + 1)))
theorem add_ll {i j : Nat} {m : M} {xs ys : List D} (h1 : m[i]? = some (.lst xs)) (h2 : m[j]? = some (.lst ys)) (h3 : xs.length + ys.length ≤ lim) : addD (.ref i) (.ref j) m = new (.lst (xs ++ ys)) m := by
  unfold addD
  dsimp only
  rw [h1, h2]
  dsimp only
  rw [if_pos h3]
theorem flags_ok {F : Nat → List D → M → R D} {c : Nat} {ns : List Str} {ds : List D} {m : M} (hc : c < 39) : ∃ i m', fnB 2 (b_4 F) [.exc c ns ds] m = ok (.ref i) m' ∧ m <+: m' ∧ m'[i]? = some (.lst (flagsL c)) := by
  unfold fnB b_4 ent
  simp (maxSteps := 2000000) only [sSeq, sSet, sRet, cLst, cCons, cNil, cBi, cBin, cVar, isiE, bind_ok, lift_ok, List.map, List.length, List.replicate, List.cons_append, List.nil_append, List.append_assoc, List.length_append, List.length_cons, List.length_nil, List.getElem?_cons_zero, List.getElem?_cons_succ, isi_own c hc, Nat.reduceLT, Nat.reduceLeDiff, Nat.reduceAdd, Nat.reduceSub, List.set_cons_zero, List.set_cons_succ, addD, st_at, st_0, lim, if_true, fnR, Nat.add_assoc, Nat.zero_add, Nat.add_zero, ite_true, decide_true]
  exact ⟨_, _, rfl, ⟨_, rfl⟩, by rw [st_at]; rfl⟩
def errL (a b c : D) : List D := [.exc 1 ["value"] [a], .exc 2 ["value"] [a], .exc 3 [] [], .exc 4 [] [], .exc 5 ["limit"] [a], .exc 6 ["limit"] [a], .exc 7 ["places"] [a], .exc 8 ["index"] [a], .exc 9 ["value"] [a], .exc 10 ["form"] [a], .exc 11 ["size"] [a], .exc 12 ["value"] [a], .exc 13 [] [], .exc 14 ["value"] [a], .exc 15 ["number"] [a], .exc 16 ["error"] [a], .exc 17 ["error"] [a], .exc 18 ["spot"] [a], .exc 19 ["index"] [a], .exc 20 ["error"] [a], .exc 21 ["word"] [a], .exc 22 ["verdict", "index"] [b, a], .exc 23 [] [], .exc 24 [] [], .exc 25 [] [], .exc 26 ["index"] [a], .exc 27 ["index"] [a], .exc 28 [] [], .exc 29 ["error"] [a], .exc 30 ["outline", "place", "word"] [c, b, a], .exc 31 ["index"] [a], .exc 32 ["value"] [a], .exc 33 ["name"] [a], .exc 34 ["index"] [a], .exc 35 ["number"] [a], .exc 36 ["value"] [a], .exc 37 ["word"] [a], .exc 38 ["value"] [a]]
theorem errs_ok {F : Nat → List D → M → R D} {a b c : D} {m : M} : ∃ i m', fnB 4 (b_3 F) [a, b, c] m = ok (.ref i) m' ∧ m <+: m' ∧ m'[i]? = some (.lst (errL a b c)) := by
  unfold fnB b_3 ent
  simp (maxSteps := 2000000) only [sSeq, sSet, sRet, cLst, cCons, cNil, cMkE, cBin, cVar, bind_ok, lift_ok, List.map, List.length, List.replicate, List.cons_append, List.nil_append, List.append_assoc, List.length_append, List.length_cons, List.length_nil, List.getElem?_cons_zero, List.getElem?_cons_succ, Nat.reduceLT, Nat.reduceLeDiff, Nat.reduceAdd, Nat.reduceSub, List.set_cons_zero, List.set_cons_succ, addD, st_at, st_0, lim, if_true, fnR, Nat.add_assoc, Nat.zero_add, Nat.add_zero, ite_true, decide_true, List.reverse_cons, List.reverse_nil]
  exact ⟨_, _, rfl, ⟨_, rfl⟩, by rw [st_at]; rfl⟩
theorem errL_at {a b c : D} : ∀ k, k < 38 → ∃ ns ds, (errL a b c)[k]? = some (.exc (k + 1) ns ds) := by
  intro k hk
  unfold errL
  match k, hk with
  | 0, _ | 1, _ | 2, _ | 3, _ | 4, _ | 5, _ | 6, _ | 7, _ | 8, _ | 9, _ | 10, _ | 11, _ | 12, _ | 13, _ | 14, _ | 15, _ | 16, _ | 17, _ | 18, _ | 19, _ | 20, _ | 21, _ | 22, _ | 23, _ | 24, _ | 25, _ | 26, _ | 27, _ | 28, _ | 29, _ | 30, _ | 31, _ | 32, _ | 33, _ | 34, _ | 35, _ | 36, _ | 37, _ => exact ⟨_, _, rfl⟩
  | n + 38, h => exact absurd h (by omega)
theorem fld1 {okc : Nat → Bool} {f : Str} {c : Nat} {d : D} {m : M} (h : okc c = true) : fldE okc f (.exc c [f] [d]) m = ok d m := by
  unfold fldE
  simp [h, List.lookup]
theorem fields_ok {F : Nat → List D → M → R D} {a : D} {m : M} : ∃ i m', fnB 2 (b_5 F) [a] m = ok (.ref i) m' ∧ m <+: m' ∧ m'[i]? = some (.lst (List.replicate 29 a)) := by
  have o : ∀ c, okf_value c = true ∨ okf_value c = false := fun c => by cases okf_value c <;> simp
  unfold fnB b_5 ent
  simp (maxSteps := 2000000) only [sSeq, sSet, sRet, cLst, cCons, cNil, cMkE, cFldE, cBin, cVar, bind_ok, lift_ok, List.map, List.length, List.replicate, List.cons_append, List.nil_append, List.append_assoc, List.length_append, List.length_cons, List.length_nil, List.getElem?_cons_zero, List.getElem?_cons_succ, Nat.reduceLT, Nat.reduceLeDiff, Nat.reduceAdd, Nat.reduceSub, List.set_cons_zero, List.set_cons_succ, addD, st_at, st_0, lim, if_true, fnR, Nat.add_assoc, Nat.zero_add, Nat.add_zero, ite_true, decide_true, List.reverse_cons, List.reverse_nil,
    fld1 (show okf_value 1 = true from rfl), fld1 (show okf_value 2 = true from rfl), fld1 (show okf_limit 5 = true from rfl), fld1 (show okf_limit 6 = true from rfl), fld1 (show okf_places 7 = true from rfl), fld1 (show okf_index 8 = true from rfl), fld1 (show okf_value 9 = true from rfl), fld1 (show okf_form 10 = true from rfl),
    fld1 (show okf_size 11 = true from rfl), fld1 (show okf_value 12 = true from rfl), fld1 (show okf_value 14 = true from rfl), fld1 (show okf_number 15 = true from rfl), fld1 (show okf_error 16 = true from rfl), fld1 (show okf_error 17 = true from rfl), fld1 (show okf_spot 18 = true from rfl), fld1 (show okf_index 19 = true from rfl),
    fld1 (show okf_error 20 = true from rfl), fld1 (show okf_word 21 = true from rfl), fld1 (show okf_index 26 = true from rfl), fld1 (show okf_index 27 = true from rfl), fld1 (show okf_error 29 = true from rfl), fld1 (show okf_index 31 = true from rfl), fld1 (show okf_value 32 = true from rfl), fld1 (show okf_name 33 = true from rfl),
    fld1 (show okf_index 34 = true from rfl), fld1 (show okf_number 35 = true from rfl), fld1 (show okf_value 36 = true from rfl), fld1 (show okf_word 37 = true from rfl), fld1 (show okf_value 38 = true from rfl)]
  exact ⟨_, _, rfl, ⟨_, rfl⟩, by rw [st_at]; rfl⟩
theorem fv1 {a b : D} {m : M} : fldE okf_index "index" (.exc 22 ["verdict", "index"] [b, a]) m = ok a m := rfl
theorem fv2 {a b : D} {m : M} : fldE okf_verdict "verdict" (.exc 22 ["verdict", "index"] [b, a]) m = ok b m := rfl
theorem fv3 {a b c : D} {m : M} : fldE okf_word "word" (.exc 30 ["outline", "place", "word"] [c, b, a]) m = ok a m := rfl
theorem fv4 {a b c : D} {m : M} : fldE okf_place "place" (.exc 30 ["outline", "place", "word"] [c, b, a]) m = ok b m := rfl
theorem fv5 {a b c : D} {m : M} : fldE okf_outline "outline" (.exc 30 ["outline", "place", "word"] [c, b, a]) m = ok c m := rfl
theorem more_ok {F : Nat → List D → M → R D} {a b c : D} {m : M} : fnB 5 (b_6 F) [a, b, c] m = ok (.ref m.length) (m ++ [.lst [a, b, a, b, c]]) := by
  unfold fnB b_6 ent
  simp (maxSteps := 2000000) only [sSeq, sSet, sRet, sPar, cLst, cCons, cNil, cMkE, cFldE, cBin, cVar, bind_ok, lift_ok, List.map, List.length, List.replicate, List.cons_append, List.nil_append, List.append_assoc, List.length_append, List.length_cons, List.length_nil, List.getElem?_cons_zero, List.getElem?_cons_succ, Nat.reduceLT, Nat.reduceLeDiff, Nat.reduceAdd, Nat.reduceSub, List.set_cons_zero, List.set_cons_succ, lim, if_true, fnR, Nat.add_assoc, Nat.zero_add, Nat.add_zero, ite_true, decide_true, List.reverse_cons, List.reverse_nil, fv1, fv2, fv3, fv4, fv5]
def compC : Cp D := cLc fuel (cRng1 (cC (.int 38))) (.nm 6) (cYes) (cBin eqD (cVar 6) (cVar 3)) (List.map (·.2) ([("_law_spot", 6)] : List (Str × Nat)))
theorem comp_ok {x0 x1 x2 x4 x5 x6 : Option D} {k : Nat} {m : M} : compC [x0, x1, x2, some (.int k), x4, x5, x6] m = new (.lst (flagsL (k + 1))) m := by
  have e := lc_pure (w := wkR 0 38) (t := .nm 6) (tt := cYes) (te := cBin eqD (cVar 6) (cVar 3)) (ρ := [x0, x1, x2, some (.int k), x4, x5, none]) (m := m) (fun j => .bl (decide (k + 1 = j + 1))) 38 (by decide)
    (fun i hi => by
      refine ⟨.int ((0 : Int) + (i : Int)), [x0, x1, x2, some (.int k), x4, x5, some (.int ((0 : Int) + (i : Int)))], ?_, rfl, rfl, ?_⟩
      · unfold wkR
        rw [if_pos (by omega)]
      · have e2 : decide ((0 : Int) + (i : Int) = (k : Int)) = decide (k + 1 = i + 1) := decide_eq_decide.mpr (by omega)
        simp only [cBin, cVar, List.getElem?_cons_zero, List.getElem?_cons_succ, bind_ok, eqD, eqB, e2])
    (by
      unfold wkR
      rw [if_neg (by decide)]) fuel 0 [] (Nat.zero_le _) (by unfold fuel; decide) rfl
  have r : rngD1 (.int 38) m = ok (wkR 0 38) m := by
    unfold rngD1
    dsimp only
    rw [if_pos (by unfold bigI; decide)]
  unfold compC cLc cRng1 cC
  rw [bind_ok, r, bind_ok]
  show bind (lcN (wkR 0 38) (.nm 6) cYes (cBin eqD (cVar 6) (cVar 3)) [x0, x1, x2, some (.int k), x4, x5, none] fuel 0 [] m) _ = _
  rw [e, bind_ok]
  unfold flagsL
  simp
theorem ne_lst {m : M} {i j : Nat} {xs : List D} {ps : List PyData} (h1 : m[i]? = some (.lst xs)) (h2 : m[j]? = some (.lst xs)) (hp : ∀ f, pyDs f xs = some ps) (hk : okP (.list ps) = true) : neD (.ref i) (.ref j) m = ok (.bl false) m := by
  have t : ∀ {i : Nat}, m[i]? = some (.lst xs) → toPy m (.ref i) = some (.list ps) := fun {i} h => by
    show lstP m (7 + 1) i = _
    unfold lstP
    rw [h]
    dsimp only
    rw [hp]
    rfl
  unfold neD
  rw [eq_same (t h1) (t h2) hk rfl]
  rfl
theorem flags_py (c : Nat) (f : Nat → Option PyData) : pyDs f (flagsL c) = some ((List.range 38).map fun j => .bool (decide (c = j + 1))) := by
  unfold flagsL
  generalize List.range 38 = l
  induction l with
  | nil => rfl
  | cons x l ih =>
    rw [List.map_cons, List.map_cons]
    unfold pyDs
    rw [ih]
    rfl
theorem flags_okP : ∀ c, c < 39 → okP (.list ((List.range 38).map fun j => .bool (decide (c = j + 1)))) = true := by decide +kernel
def turnC (F : Nat → List D → M → R D) : Cs := (sSeq (sSet 5 (cTup (cCons (cBi (isiE isi) (cCons (cVar 4) (cCons ((fun _ m => ok (.gl 0) m)) (cNil)))) (cCons (cBi (isiE isi) (cCons (cVar 4) (cCons ((fun _ m => ok (.gl 40) m)) (cNil)))) (cCons (cBi (isiE isi) (cCons (cVar 4) (cCons ((fun _ m => ok (.gl 39) m)) (cNil)))) (cNil))))))
    (sIf (cOr (cB (cBin neD (cCall 1 (F 4) (cCons (cVar 4) (cNil))) compC)) (cB (cBin neD (cVar 5) (cTup (cCons (cBin ltD (cVar 3) (cC (.int 31))) (cCons (cBin ltD (cVar 3) (cC (.int 31))) (cCons (cBin gtD (cVar 3) (cC (.int 30))) (cNil)))))))) (sRet (cC (.bl false))) (sNext)))
theorem tup3 {m : M} {x y z : Bool} : neD (.tup [.bl x, .bl y, .bl z]) (.tup [.bl x, .bl y, .bl z]) m = ok (.bl false) m := by
  unfold neD
  rw [eq_same (p := .tuple [.bool x, .bool y, .bool z]) rfl rfl (by cases x <;> cases y <;> cases z <;> decide +kernel) rfl]
  rfl
theorem turn_ok {n k : Nat} {a b c : D} {v5 v6 : Option D} {ns : List Str} {ds : List D} {m : M} (hk : k < 38) : ∃ t m', turnC (tab (n + 1)) [some a, some b, some c, some (.int k), some (.exc (k + 1) ns ds), v5, v6] m = some (.nx [some a, some b, some c, some (.int k), some (.exc (k + 1) ns ds), t, v6], m') ∧ m <+: m' := by
  obtain ⟨i, m1, e1, p1, h1⟩ := flags_ok (F := tab n) (c := k + 1) (ns := ns) (ds := ds) (m := m) (by omega)
  have t4 : tab (n + 1) 4 = fnB 2 (b_4 (tab n)) := rfl
  have c1 : decide (k + 1 < 32) = decide ((k : Int) < 31) := decide_eq_decide.mpr (by omega)
  have c2 : decide (31 < k + 1) = decide ((k : Int) > 30) := decide_eq_decide.mpr (by omega)
  have q1 := ne_lst (m := m1 ++ [.lst (flagsL (k + 1))]) (i := i) (j := m1.length) (app_at h1) st_0 (flags_py (k + 1)) (flags_okP (k + 1) (by omega))
  refine ⟨some (.tup [.bl (decide ((k : Int) < 31)), .bl (decide ((k : Int) < 31)), .bl (decide ((k : Int) > 30))]), m1 ++ [.lst (flagsL (k + 1))], ?_, p1.trans ⟨_, rfl⟩⟩
  unfold turnC
  simp only [sSeq, sSet, sIf, sNext, cOr, cB, asB, cTup, cCons, cNil, cBi, cBin, cVar, cC, cCall, isiE, bind_ok, lift_ok, List.getElem?_cons_zero, List.getElem?_cons_succ, List.set_cons_zero, List.set_cons_succ, isi_0 (k + 1) (by omega) (by omega), isi_40 (k + 1) (by omega) (by omega), isi_39 (k + 1) (by omega) (by omega), List.length_cons, List.length_nil, Nat.reduceAdd, Nat.reduceLeDiff, lim, if_true, t4, e1, comp_ok, q1, Bool.false_eq_true, if_false, ltD, gtD, iiD, c1, c2, tup3]
theorem pyDs_rep {f : Nat → Option PyData} {a : D} {p : PyData} (h : pyD f a = some p) : ∀ n, pyDs f (List.replicate n a) = some (List.replicate n p)
  | 0 => rfl
  | n + 1 => by
    rw [List.replicate_succ, List.replicate_succ]
    unfold pyDs
    rw [h, pyDs_rep h n]
theorem eq_str {m : M} {s : Str} : eqD (.str s) (.str s) m = ok (.bl true) m := by
  unfold eqD eqB
  simp
theorem ne_str {m : M} {s : Str} : neD (.str s) (.str s) m = ok (.bl false) m := by
  unfold neD eqB
  simp
theorem mul29 {m : M} {a : D} : mulD (.ref m.length) (.int 29) (m ++ [.lst [a]]) = new (.lst (List.replicate 29 a)) (m ++ [.lst [a]]) := by
  unfold mulD
  dsimp only
  rw [st_0]
  dsimp only [List.getElem?_cons_zero]
  rw [if_pos ⟨by unfold bigI; decide, show 1 * Int.toNat 29 ≤ lim by decide⟩]
  rfl
theorem turn_def {F} : (sSeq (sSet 5 (cTup (cCons (cBi (isiE isi) (cCons (cVar 4) (cCons ((fun _ m => ok (.gl 0) m)) (cNil)))) (cCons (cBi (isiE isi) (cCons (cVar 4) (cCons ((fun _ m => ok (.gl 40) m)) (cNil)))) (cCons (cBi (isiE isi) (cCons (cVar 4) (cCons ((fun _ m => ok (.gl 39) m)) (cNil)))) (cNil))))))
    (sIf (cOr (cB (cBin neD (cCall 1 (F 4) (cCons (cVar 4) (cNil))) (cLc fuel (cRng1 (cC (.int 38))) (.nm 6) (cYes) (cBin eqD (cVar 6) (cVar 3)) (List.map (·.2) ([("_law_spot", 6)] : List (Str × Nat)))))) (cB (cBin neD (cVar 5) (cTup (cCons (cBin ltD (cVar 3) (cC (.int 31))) (cCons (cBin ltD (cVar 3) (cC (.int 31))) (cCons (cBin gtD (cVar 3) (cC (.int 30))) (cNil)))))))) (sRet (cC (.bl false))) (sNext))) = turnC F := rfl
theorem right_ok {n : Nat} {a b c : D} {pa pb pc : PyData} {m : M} (ha : pyD (lstR m 7) a = some pa) (hb : pyD (lstR m 7) b = some pb) (hc : pyD (lstR m 7) c = some pc) (sa : SmP pa) (sb : SmP pb) (sc : SmP pc) :
    ∃ m', fnB 7 (b_7 (tab (n + 1))) [a, b, c] m = ok (.bl true) m' ∧ m <+: m' := by
  have t3 : tab (n + 1) 3 = fnB 4 (b_3 (tab n)) := rfl
  have t5 : tab (n + 1) 5 = fnB 2 (b_5 (tab n)) := rfl
  have t6 : tab (n + 1) 6 = fnB 5 (b_6 (tab n)) := rfl
  obtain ⟨i0, m1, e1, p1, h1⟩ := errs_ok (F := tab n) (a := a) (b := b) (c := c) (m := m)
  obtain ⟨ρ2, m2, e2, p2, v3, v4, v5, rfl⟩ := for_ind (w := wkE (wkRef i0)) (t := .tp [.nm 3, .nm 4]) (b := turnC (tab (n + 1))) (fun i ρ m' => m1 <+: m' ∧ ∃ v3 v4 v5, ρ = [some a, some b, some c, v3, v4, v5, none]) 38
    (fun i ρ m' hi hp => by
      obtain ⟨pp, v3, v4, v5, rfl⟩ := hp
      obtain ⟨ns, ds, he⟩ := errL_at (a := a) (b := b) (c := c) i hi
      obtain ⟨t, m'', q1, q2⟩ := turn_ok (n := n) (k := i) (a := a) (b := b) (c := c) (v5 := v5) (v6 := none) (ns := ns) (ds := ds) (m := m') hi
      exact ⟨_, _, _, _, wkE_at (by rw [wkRef_at (pre_at pp h1), he]), rfl, .inl q1, pp.trans q2, _, _, _, rfl⟩)
    (fun ρ m' hp => by
      obtain ⟨pp, _⟩ := hp
      exact wkE_end (by rw [wkRef_at (pre_at pp h1)]; rfl)) fuel 0 [some a, some b, some c, none, none, none, none] m1 (Nat.zero_le _) (by unfold fuel; decide) ⟨List.prefix_refl _, none, none, none, rfl⟩
  obtain ⟨i5, m3, e5, p5, h5⟩ := fields_ok (F := tab n) (a := a) (m := m2)
  have up : ∀ {m' : M} {d : D} {p : PyData}, m <+: m' → pyD (lstR m 7) d = some p → pyD (lstR m' 7) d = some p := fun {m' d p} pp h => pyD_mono (fun i q z => lstR_pre pp z) d h
  have pm3 : m <+: m3 := (p1.trans p2).trans p5
  have r1 := repr_lst h5 (pyDs_rep (up pm3 ha) 29) (fun p hp => by rw [(List.mem_replicate.mp hp).2]; exact sa) (by rw [List.length_replicate]; decide)
  have pm4 : m <+: m3 ++ [.lst [a]] ++ [.lst (List.replicate 29 a)] := (pm3.trans ⟨_, rfl⟩).trans ⟨_, rfl⟩
  have l4 : (m3 ++ [O.lst [a]]).length = m3.length + 1 := by simp
  have r2 := repr_lst (m := m3 ++ [.lst [a]] ++ [.lst (List.replicate 29 a)]) (j := m3.length + 1) (by rw [← l4]; exact st_0) (pyDs_rep (up pm4 ha) 29) (fun p hp => by rw [(List.mem_replicate.mp hp).2]; exact sa) (by rw [List.length_replicate]; decide)
  generalize hm4 : m3 ++ [O.lst [a]] ++ [O.lst (List.replicate 29 a)] = m4 at r2 pm4
  have five : ∀ {m' : M}, m <+: m' → pyDs (lstR m' 7) [a, b, a, b, c] = some [pa, pb, pa, pb, pc] := fun {m'} pp => by
    simp only [pyDs, up pp ha, up pp hb, up pp hc]
  have sm5 : ∀ p ∈ [pa, pb, pa, pb, pc], SmP p := fun p hp => by
    simp only [List.mem_cons, List.not_mem_nil, or_false] at hp
    rcases hp with rfl | rfl | rfl | rfl | rfl <;> assumption
  have pm5 : m <+: m4 ++ [.lst [a, b, a, b, c]] := pm4.trans ⟨_, rfl⟩
  have r3 := repr_lst (m := m4 ++ [.lst [a, b, a, b, c]]) (j := m4.length) st_0 (five pm5) sm5 (show 5 ≤ 900 by decide)
  have pm6 : m <+: m4 ++ [.lst [a, b, a, b, c]] ++ [.lst [a, b, a, b, c]] := pm5.trans ⟨_, rfl⟩
  have l6 : (m4 ++ [O.lst [a, b, a, b, c]]).length = m4.length + 1 := by simp
  have r4 := repr_lst (m := m4 ++ [.lst [a, b, a, b, c]] ++ [.lst [a, b, a, b, c]]) (j := m4.length + 1) (by rw [← l6]; exact st_0) (five pm6) sm5 (show 5 ≤ 900 by decide)
  refine ⟨m4 ++ [.lst [a, b, a, b, c]] ++ [.lst [a, b, a, b, c]], ?_, pm6⟩
  unfold fnB b_7
  rw [turn_def, show ent 7 [a, b, c] = [some a, some b, some c, none, none, none, none] from rfl]
  simp only [sSeq, sFor, sIf, sRet, sNext, cEnL, cCall, cCons, cNil, cBi, cBin, cB, cC, cVar, cLst, asB, bind_ok, lift_ok, List.getElem?_cons_zero, List.getElem?_cons_succ, List.length_cons, List.length_nil, Nat.reduceAdd, Nat.reduceSub, Nat.reduceLeDiff, if_true, lim, t3, e1, enumL_ref h1, e2, t5, e5, r1, mul29, l4, hm4, r2, ne_str, Bool.false_eq_true, if_false, t6, more_ok, r3, l6, r4, eq_str, fnR]
theorem eq_lst {m : M} {i j : Nat} {xs : List D} {ps : List PyData} (h1 : m[i]? = some (.lst xs)) (h2 : m[j]? = some (.lst xs)) (hp : ∀ f, pyDs f xs = some ps) (hk : okP (.list ps) = true) : eqD (.ref i) (.ref j) m = ok (.bl true) m := by
  have t : ∀ {i : Nat}, m[i]? = some (.lst xs) → toPy m (.ref i) = some (.list ps) := fun {i} h => by
    show lstP m (7 + 1) i = _
    unfold lstP
    rw [h]
    dsimp only
    rw [hp]
    rfl
  unfold eqD
  rw [eq_same (t h1) (t h2) hk rfl]
def twos : List D := (List.range 34).map fun _ => .int 2
theorem mul34 {m : M} : mulD (.ref m.length) (.int 34) (m ++ [.lst [.int 2]]) = new (.lst twos) (m ++ [.lst [.int 2]]) := by
  unfold mulD
  dsimp only
  rw [st_0]
  dsimp only [List.getElem?_cons_zero]
  rw [if_pos ⟨by unfold bigI; decide, show 1 * Int.toNat 34 ≤ lim by decide⟩]
  rfl
theorem app_lst {m : M} {i : Nat} {x : D} {xs : List D} (h : m[i]? = some (.lst xs)) (hl : xs.length < lim) : appendD [.ref i, x] m = ok .non (m.set i (.lst (xs ++ [x]))) := by
  unfold appendD
  dsimp only
  rw [h]
  dsimp only
  rw [if_pos hl]
theorem isL_lst {m : M} {i : Nat} {xs : List D} (h : m[i]? = some (.lst xs)) : isL (.ref i) m = true := by
  unfold isL
  dsimp only
  rw [h]
theorem len_lst {m : M} {i : Nat} {xs : List D} (h : m[i]? = some (.lst xs)) : lenD [.ref i] m = ok (.int xs.length) m := by
  unfold lenD
  dsimp only
  rw [h]
theorem objs_ok {n : Nat} {m : M} : ∃ m', fnB 6 (b_8 (tab (n + 1))) [] m = ok (.bl true) m' ∧ m <+: m' := by
  have t5 : tab (n + 1) 5 = fnB 2 (b_5 (tab n)) := rfl
  have t6 : tab (n + 1) 6 = fnB 5 (b_6 (tab n)) := rfl
  generalize hM : m ++ [O.lst [.int 1], O.lst [.int 2], O.lst [.int 3]] = M3
  have a0 : M3[m.length]? = some (.lst [.int 1]) := by rw [← hM]; exact st_0
  have a1 : M3[m.length + 1]? = some (.lst [.int 2]) := by rw [← hM]; exact st_at
  have a2 : M3[m.length + 2]? = some (.lst [.int 3]) := by rw [← hM]; exact st_at
  obtain ⟨i5, m4, e5, p5, h5⟩ := fields_ok (F := tab n) (a := .ref m.length) (m := M3)
  have pm4 : m <+: m4 := (show m <+: M3 from ⟨_, hM⟩).trans p5
  generalize hm5 : m4 ++ [O.lst [D.ref m.length, D.ref (m.length + 1), D.ref m.length, D.ref (m.length + 1), D.ref (m.length + 2)]] = m5
  have p45 : m4 <+: m5 := ⟨_, hm5⟩
  have g0 : m5[m.length]? = some (.lst [.int 1]) := pre_at p45 (pre_at p5 a0)
  have g1 : m5[m.length + 1]? = some (.lst [.int 2]) := pre_at p45 (pre_at p5 a1)
  have g2 : m5[m.length + 2]? = some (.lst [.int 3]) := pre_at p45 (pre_at p5 a2)
  have gi : m5[i5]? = some (.lst (List.replicate 29 (.ref m.length))) := pre_at p45 h5
  have gj : m5[m4.length]? = some (.lst [D.ref m.length, D.ref (m.length + 1), D.ref m.length, D.ref (m.length + 1), D.ref (m.length + 2)]) := by rw [← hm5]; exact st_0
  have ne : ∀ {i j : Nat} {x : Int} {ys : List D}, m5[i]? = some (.lst [.int x]) → m5[j]? = some (.lst ys) → ys ≠ [.int x] → i ≠ j := fun {i j x ys} h1 h2 h3 z => by
    rw [z, h2] at h1
    cases h1
    exact h3 rfl
  have l0 : m.length < m5.length := (List.getElem?_eq_some_iff.mp g0).1
  have l1 : m.length + 1 < m5.length := (List.getElem?_eq_some_iff.mp g1).1
  have l2 : m.length + 2 < m5.length := (List.getElem?_eq_some_iff.mp g2).1
  generalize hm8 : ((m5.set m.length (.lst [.int 1, .int 0])).set (m.length + 1) (.lst [.int 2, .int 0])).set (m.length + 2) (.lst [.int 3, .int 0]) = m8
  have k0 : m8[m.length]? = some (.lst [.int 1, .int 0]) := by
    rw [← hm8, List.getElem?_set_ne (by omega), List.getElem?_set_ne (by omega), List.getElem?_set_self l0]
  have k1 : m8[m.length + 1]? = some (.lst [.int 2, .int 0]) := by
    rw [← hm8, List.getElem?_set_ne (by omega), List.getElem?_set_self (by rw [List.length_set]; exact l1)]
  have k2 : m8[m.length + 2]? = some (.lst [.int 3, .int 0]) := by
    rw [← hm8, List.getElem?_set_self (by rw [List.length_set, List.length_set]; exact l2)]
  have kp : ∀ {j : Nat} {ys : List D}, m5[j]? = some (.lst ys) → 2 ≤ ys.length → m8[j]? = some (.lst ys) := fun {j ys} h hl => by
    have no : ∀ {x : Int}, ys ≠ [.int x] := fun {x} z => by rw [z] at hl; simp at hl
    rw [← hm8, List.getElem?_set_ne (ne g2 h no), List.getElem?_set_ne (ne g1 h no), List.getElem?_set_ne (ne g0 h no), h]
  have ki := kp gi (by rw [List.length_replicate]; decide)
  have kj := kp gj (by simp)
  have pm8 : m <+: m8 := by
    obtain ⟨t, ht⟩ := pm4.trans p45
    refine ⟨((t.set 0 (.lst [.int 1, .int 0])).set 1 (.lst [.int 2, .int 0])).set 2 (.lst [.int 3, .int 0]), ?_⟩
    rw [← hm8, ← ht, set_0, set_at, set_at]
  have q0 := app_lst (x := .int 0) g0 (show 1 < lim by decide)
  have q1 := app_lst (m := m5.set m.length (.lst [.int 1, .int 0])) (i := m.length + 1) (x := .int 0) (xs := [.int 2]) (by rw [List.getElem?_set_ne (by omega), g1]) (show 1 < lim by decide)
  have q2 := app_lst (m := (m5.set m.length (.lst [.int 1, .int 0])).set (m.length + 1) (.lst [.int 2, .int 0])) (i := m.length + 2) (x := .int 0) (xs := [.int 3]) (by rw [List.getElem?_set_ne (by omega), List.getElem?_set_ne (by omega), g2]) (show 1 < lim by decide)
  have s0 := isL_lst g0
  have s1 := isL_lst (m := m5.set m.length (.lst [.int 1, .int 0])) (i := m.length + 1) (xs := [.int 2]) (by rw [List.getElem?_set_ne (by omega), g1])
  have s2 := isL_lst (m := (m5.set m.length (.lst [.int 1, .int 0])).set (m.length + 1) (.lst [.int 2, .int 0])) (i := m.length + 2) (xs := [.int 3]) (by rw [List.getElem?_set_ne (by omega), List.getElem?_set_ne (by omega), g2])
  have ad := add_ll ki kj (by rw [List.length_replicate]; exact (show 29 + 5 ≤ lim by decide))
  generalize hxs : List.replicate 29 (D.ref m.length) ++ [D.ref m.length, D.ref (m.length + 1), D.ref m.length, D.ref (m.length + 1), D.ref (m.length + 2)] = xs at ad
  have hx : ∀ d ∈ xs, d = .ref m.length ∨ d = .ref (m.length + 1) ∨ d = .ref (m.length + 2) := fun d hd => by
    rw [← hxs] at hd
    rcases List.mem_append.mp hd with h | h
    · exact .inl (List.mem_replicate.mp h).2
    · simp only [List.mem_cons, List.not_mem_nil, or_false] at h
      rcases h with h | h | h | h | h
      · exact .inl h
      · exact .inr (.inl h)
      · exact .inl h
      · exact .inr (.inl h)
      · exact .inr (.inr h)
  have xl : xs.length = 34 := by rw [← hxs, List.length_append, List.length_replicate]; rfl
  have lc : ∀ {x0 x1 x2 x3 x4 : Option D}, lcN (wkRef m8.length) (.nm 5) cYes (cBi lenD (cCons (cVar 5) (cNil))) [x0, x1, x2, x3, x4, none] fuel 0 [] (m8 ++ [.lst xs]) = ok twos (m8 ++ [.lst xs]) := fun {x0 x1 x2 x3 x4} => by
    have z := lc_pure (w := wkRef m8.length) (t := .nm 5) (tt := cYes) (te := cBi lenD (cCons (cVar 5) (cNil))) (ρ := [x0, x1, x2, x3, x4, none]) (m := m8 ++ [.lst xs]) (fun _ => .int 2) 34 (by decide)
      (fun i hi => by
        have e : (m8 ++ [O.lst xs])[m8.length]? = some (.lst xs) := st_0
        obtain ⟨d, hd⟩ : ∃ d, xs[i]? = some d := ⟨_, List.getElem?_eq_getElem (by rw [xl]; exact hi)⟩
        refine ⟨d, [x0, x1, x2, x3, x4, some d], by rw [wkRef_at e, hd], rfl, rfl, ?_⟩
        have le : lenD [d] (m8 ++ [.lst xs]) = ok (.int 2) (m8 ++ [.lst xs]) := by
          rcases hx d (List.mem_of_getElem? hd) with rfl | rfl | rfl
          · exact len_lst (app_at k0)
          · exact len_lst (app_at k1)
          · exact len_lst (app_at k2)
        simp only [cBi, cCons, cNil, cVar, List.getElem?_cons_zero, List.getElem?_cons_succ, bind_ok, le])
      (by rw [wkRef_at st_0]; show some xs[34]? = _; rw [List.getElem?_eq_none (by rw [xl]; exact Nat.le_refl _)]) fuel 0 [] (Nat.zero_le _) (by unfold fuel; decide) rfl
    rw [z]
    unfold twos
    simp
  have m9l : (m8 ++ [O.lst xs]).length = m8.length + 1 := by simp
  have mA : (m8 ++ [O.lst xs] ++ [O.lst twos]).length = m8.length + 2 := by simp
  have mB : (m8 ++ [O.lst xs] ++ [O.lst twos] ++ [O.lst [.int 2]]).length = m8.length + 3 := by simp
  have ml := mul34 (m := m8 ++ [O.lst xs] ++ [O.lst twos])
  rw [mA] at ml
  have eqq := eq_lst (m := m8 ++ [O.lst xs] ++ [O.lst twos] ++ [O.lst [.int 2]] ++ [O.lst twos]) (i := m8.length + 1) (j := m8.length + 3) (xs := twos) (ps := (List.range 34).map fun _ => .int 2) (app_at (app_at (by rw [← m9l]; exact st_0))) (by rw [← mB]; exact st_0) (fun f => rfl) (by decide +kernel)
  refine ⟨_, ?_, ((((pm8.trans ⟨_, rfl⟩).trans ⟨_, rfl⟩).trans ⟨_, rfl⟩).trans ⟨_, rfl⟩ : m <+: m8 ++ [O.lst xs] ++ [O.lst twos] ++ [O.lst [.int 2]] ++ [O.lst twos])⟩
  unfold fnB b_8
  rw [show ent 6 [] = [none, none, none, none, none, none] from rfl]
  have ml1 : (m ++ [O.lst [D.int 1]]).length = m.length + 1 := by simp
  have ml2 : (m ++ [O.lst [D.int 1]] ++ [O.lst [D.int 2]]).length = m.length + 2 := by simp
  have hM' : m ++ [O.lst [D.int 1]] ++ [O.lst [D.int 2]] ++ [O.lst [D.int 3]] = M3 := by rw [← hM]; simp
  have wk := wkD_ref (m := m8 ++ [O.lst xs]) (j := m8.length) st_0
  simp only [sSeq, sPar, sPar3, sExpr, sRet, cCall, cCons, cNil, cBi, cBin, cB, cC, cVar, cLst, cBM, cLc, cWk, asB, bind_ok, lift_ok, List.getElem?_cons_zero, List.getElem?_cons_succ, List.set_cons_zero, List.set_cons_succ, List.length_cons, List.length_nil, Nat.reduceAdd, Nat.reduceSub, Nat.reduceLeDiff, if_true, lim, ml1, ml2, hM', t5, e5, t6, more_ok, hm5, s0, q0, List.cons_append, List.nil_append, s1, q1, s2, q2, hm8, ad, wk, wipeD, List.map_cons, List.map_nil, lc, m9l, mA, ml, mB, eqq, fnR]
/-! ### the law itself -/
structure Good (m : M) (L : Nat) : Prop where
  a : m[L]? = some (.lst [])
  b : m[L + 1]? = some (.dct [])
  c : m[L + 2]? = some (.lst [.int 0])
  d : m[L + 3]? = some (.dct [(.inr "x", .int 1)])
theorem Good.pre {m m' : M} {L : Nat} (p : m <+: m') (g : Good m L) : Good m' L := ⟨pre_at p g.a, pre_at p g.b, pre_at p g.c, pre_at p g.d⟩
theorem Good.set {m : M} {L i : Nat} {o : O} (g : Good m L) (h : i < L) : Good (m.set i o) L :=
  ⟨by rw [List.getElem?_set_ne (by omega)]; exact g.a, by rw [List.getElem?_set_ne (by omega)]; exact g.b, by rw [List.getElem?_set_ne (by omega)]; exact g.c, by rw [List.getElem?_set_ne (by omega)]; exact g.d⟩
def someL (L : Nat) : List D := [.non, .bl true, .bl false, .int (-1), .int (10 ^ 29), .str "", .str "x", .tup [], .ref L, .ref (L + 1), .tup [.int 0], .ref (L + 2), .ref (L + 3), .tup [.str "->", .int 0, .int 1]]
theorem good_some {m : M} {L : Nat} (g : Good m L) : ∀ d ∈ someL L, ∃ p, pyD (lstR m 7) d = some p ∧ SmP p := by
  have r1 : lstR m 7 L = some (.list []) := by
    show lstR m (6 + 1) L = _
    unfold lstR
    rw [g.a]
    rfl
  have r2 : lstR m 7 (L + 1) = some (.dict []) := by
    show lstR m (6 + 1) (L + 1) = _
    unfold lstR
    rw [g.b]
    rfl
  have r3 : lstR m 7 (L + 2) = some (.list [.int 0]) := by
    show lstR m (6 + 1) (L + 2) = _
    unfold lstR
    rw [g.c]
    rfl
  have r4 : lstR m 7 (L + 3) = some (.dict [(.str "x", .int 1)]) := by
    show lstR m (6 + 1) (L + 3) = _
    unfold lstR
    rw [g.d]
    rfl
  intro d hd
  unfold someL at hd
  simp only [List.mem_cons, List.not_mem_nil, or_false] at hd
  rcases hd with rfl | rfl | rfl | rfl | rfl | rfl | rfl | rfl | rfl | rfl | rfl | rfl | rfl | rfl
  · exact ⟨_, rfl, by decide +kernel, by decide +kernel, by decide +kernel⟩
  · exact ⟨_, rfl, by decide +kernel, by decide +kernel, by decide +kernel⟩
  · exact ⟨_, rfl, by decide +kernel, by decide +kernel, by decide +kernel⟩
  · exact ⟨_, rfl, by decide +kernel, by decide +kernel, by decide +kernel⟩
  · exact ⟨_, rfl, by decide +kernel, by decide +kernel, by decide +kernel⟩
  · exact ⟨_, rfl, by decide +kernel, by decide +kernel, by decide +kernel⟩
  · exact ⟨_, rfl, by decide +kernel, by decide +kernel, by decide +kernel⟩
  · exact ⟨_, rfl, by decide +kernel, by decide +kernel, by decide +kernel⟩
  · exact ⟨_, r1, by decide +kernel, by decide +kernel, by decide +kernel⟩
  · exact ⟨_, r2, by decide +kernel, by decide +kernel, by decide +kernel⟩
  · exact ⟨_, rfl, by decide +kernel, by decide +kernel, by decide +kernel⟩
  · exact ⟨_, r3, by decide +kernel, by decide +kernel, by decide +kernel⟩
  · exact ⟨_, r4, by decide +kernel, by decide +kernel, by decide +kernel⟩
  · exact ⟨_, rfl, by decide +kernel, by decide +kernel, by decide +kernel⟩
theorem one_ok {n i j N : Nat} {m : M} {xs : List D} (h : Dr m i N) (hN : N < 1000000000000) (hx : m[j]? = some (.lst xs)) (hij : j ≠ i) (l0 : 0 < xs.length) (l1 : xs.length < 1073741824) :
    ∃ d o, fnB 2 (b_2 (tab (n + 1))) [.ref i, .ref j] m = ok d (m.set i o) ∧ d ∈ xs ∧ Dr (m.set i o) i (N + 1) := by
  have t1 : tab (n + 1) 1 = fnB 4 nextC := rfl
  obtain ⟨d, o, e, d0, d1, h'⟩ := next_ok (k := (xs.length : Int)) h hN (by omega) (by omega)
  have hx' : (m.set i o)[j]? = some (.lst xs) := by rw [List.getElem?_set_ne (Ne.symm hij)]; exact hx
  have hk : d.toNat < xs.length := by omega
  have at_ : atI xs d = some xs[d.toNat] := by
    unfold atI ixN
    rw [if_pos d0, if_pos (by omega)]
    exact List.getElem?_eq_getElem hk
  refine ⟨xs[d.toNat], o, ?_, List.getElem_mem hk, h'⟩
  unfold fnB b_2
  rw [show ent 2 [.ref i, .ref j] = [some (.ref i), some (.ref j)] from rfl]
  simp only [sRet, cBin, cVar, cCall, cCons, cNil, cBi, bind_ok, lift_ok, List.getElem?_cons_zero, List.getElem?_cons_succ, len_lst hx, List.length_cons, List.length_nil, Nat.reduceAdd, if_true, t1, e, ixD, hx', at_, fnR]
def roundC (F : Nat → List D → M → R D) : Cs := (sIf (cNot (cTru (cCall 3 (F 7) (cCons (cCall 2 (F 2) (cCons (cVar 1) (cCons (cVar 4) (cNil)))) (cCons (cCall 2 (F 2) (cCons (cVar 1) (cCons (cVar 4) (cNil)))) (cCons (cCall 2 (F 2) (cCons (cVar 1) (cCons (cVar 4) (cNil)))) (cNil))))))) (sRet (cC (.bl false))) (sNext))
structure Inv4 (i L N : Nat) (m : M) : Prop where
  dr : Dr m i N
  sm : m[L + 4]? = some (.lst (someL L))
  gd : Good m L
theorem Inv4.draw {n i L N : Nat} {m : M} (h : Inv4 i L N m) (hi : i < L) (hN : N < 1000000000000) : ∃ d m', fnB 2 (b_2 (tab (n + 1))) [.ref i, .ref (L + 4)] m = ok d m' ∧ d ∈ someL L ∧ Inv4 i L (N + 1) m' := by
  obtain ⟨d, o, e, hd, h'⟩ := one_ok (n := n) h.dr hN h.sm (by omega) (show 0 < 14 by decide) (show 14 < 1073741824 by decide)
  exact ⟨d, _, e, hd, h', by rw [List.getElem?_set_ne (by omega)]; exact h.sm, h.gd.set hi⟩
theorem Inv4.pre {i L N : Nat} {m m' : M} (p : m <+: m') (h : Inv4 i L N m) : Inv4 i L N m' := ⟨h.dr.pre p, pre_at p h.sm, h.gd.pre p⟩
theorem round_ok {n i L N : Nat} {m : M} {x0 x2 x3 v5 : Option D} (h : Inv4 i L N m) (hi : i < L) (hN : N < 100000000000) : ∃ m', roundC (tab (n + 2)) [x0, some (.ref i), x2, x3, some (.ref (L + 4)), v5] m = some (.nx [x0, some (.ref i), x2, x3, some (.ref (L + 4)), v5], m') ∧ Inv4 i L (N + 3) m' := by
  have t2 : tab (n + 2) 2 = fnB 2 (b_2 (tab (n + 1))) := rfl
  have t7 : tab (n + 2) 7 = fnB 7 (b_7 (tab (n + 1))) := rfl
  obtain ⟨a, m1, e1, d1, h1⟩ := h.draw (n := n) hi (by omega)
  obtain ⟨b, m2, e2, d2, h2⟩ := h1.draw (n := n) hi (by omega)
  obtain ⟨c, m3, e3, d3, h3⟩ := h2.draw (n := n) hi (by omega)
  obtain ⟨pa, ha, sa⟩ := good_some h3.gd a d1
  obtain ⟨pb, hb, sb⟩ := good_some h3.gd b d2
  obtain ⟨pc, hc, sc⟩ := good_some h3.gd c d3
  obtain ⟨m4, e4, p4⟩ := right_ok (n := n) ha hb hc sa sb sc
  refine ⟨m4, ?_, h3.pre p4⟩
  unfold roundC
  simp only [sIf, sNext, cNot, cTru, cCall, cCons, cNil, cVar, bind_ok, lift_ok, List.getElem?_cons_zero, List.getElem?_cons_succ, List.length_cons, List.length_nil, Nat.reduceAdd, if_true, t2, t7, e1, e2, e3, e4, truD, Bool.not_true, Bool.false_eq_true, if_false]
theorem dueP (f : Nat → Option PyData) : pyDs f [.int 199, .int 200, .int 30, .int 80, .int 50, .int 6, .int 60, .int 8, .int 200, .int 40, .int 500, .int 1000, .int 8, .int 2000, .int 500, .int 3, .int 60, .int 20] = some [.int 199, .int 200, .int 30, .int 80, .int 50, .int 6, .int 60, .int 8, .int 200, .int 40, .int 500, .int 1000, .int 8, .int 2000, .int 500, .int 3, .int 60, .int 20] := rfl
def lv : Nat := 20
def limL : List D := [.int 199, .int 200, .int 30, .int 80, .int 50, .int 6, .int 60, .int 8, .int 200, .int 40, .int 500, .int 1000, .int 8, .int 2000]
def dueL : List D := [.int 199, .int 200, .int 30, .int 80, .int 50, .int 6, .int 60, .int 8, .int 200, .int 40, .int 500, .int 1000, .int 8, .int 2000, .int 500, .int 3, .int 60, .int 20]
theorem lim_eq : ([.int 199, .int 200, .int 30, .int 80, .int 50, .int 6, .int 60, .int 8, .int 200, .int 40, .int 500, .int 1000, .int 8, .int 2000] : List D) = limL := rfl
theorem due_eq : ([.int 199, .int 200, .int 30, .int 80, .int 50, .int 6, .int 60, .int 8, .int 200, .int 40, .int 500, .int 1000, .int 8, .int 2000, .int 500, .int 3, .int 60, .int 20] : List D) = dueL := rfl
theorem some_eq {L : Nat} : ([.non, .bl true, .bl false, .int (-1), .int (10 ^ 29), .str "", .str "x", .tup [], .ref L, .ref (L + 1), .tup [.int 0], .ref (L + 2), .ref (L + 3), .tup [.str "->", .int 0, .int 1]] : List D) = someL L := rfl
theorem limN : limL.length = 14 := rfl
theorem dueN : dueL.length = 18 := rfl
theorem someN {L : Nat} : (someL L).length = 14 := rfl
theorem disp_x {ρ : En} {m : M} : cDisp [(cC (.str "x"), cC (.int 1))] ρ m = new (.dct [(.inr "x", .int 1)]) m := rfl
theorem pow29 {m : M} : powD (.int 10) (.int 29) m = ok (.int (10 ^ 29)) m := by
  unfold powD
  dsimp only
  rw [if_pos (by decide)]
  rfl
theorem neg1 {m : M} : negD (.int 1) m = ok (.int (-1)) m := rfl
theorem rng4 {m : M} : rngD1 (.int 4) m = ok (wkR 0 4) m := by
  unfold rngD1
  dsimp only
  rw [if_pos (by unfold bigI; decide)]
theorem law_ok {m0 : M} {ns : List Int} {B : Nat} (hl : ns.length ≤ 63) (hb : ∀ z ∈ ns, z.natAbs < 2 ^ B) (hB : B ≤ 2000000) : ∃ m', fnB 6 (b_9 (tab 19)) [.fl (ns.map D.int)] m0 = ok (.bl true) m' := by
  have t0 : tab 19 0 = fnB 4 drawsC := rfl
  have t8 : tab 19 8 = fnB 6 (b_8 (tab (17 + 1))) := rfl
  obtain ⟨j1, m1, e1, p1, h1⟩ := draws_ok (m := m0) hl hb hB
  have n1 : (m1 ++ [O.lst limL]).length = m1.length + 1 := by simp
  have n2 : (m1 ++ [O.lst limL] ++ [O.lst dueL]).length = m1.length + 2 := by simp
  have n3 : (m1 ++ [O.lst limL] ++ [O.lst dueL] ++ [O.lst [.int 500, .int 3, .int 60, .int 20]]).length = m1.length + 3 := by simp
  have ad : addD (.ref m1.length) (.ref (m1.length + 2)) (m1 ++ [O.lst limL] ++ [O.lst dueL] ++ [O.lst [.int 500, .int 3, .int 60, .int 20]]) = new (.lst dueL) (m1 ++ [O.lst limL] ++ [O.lst dueL] ++ [O.lst [.int 500, .int 3, .int 60, .int 20]]) :=
    add_ll (xs := limL) (ys := [.int 500, .int 3, .int 60, .int 20]) (app_at (app_at st_0)) (by rw [← n2]; exact st_0) (show 14 + 4 ≤ lim by decide)
  generalize hm2 : m1 ++ [O.lst limL] ++ [O.lst dueL] ++ [O.lst [.int 500, .int 3, .int 60, .int 20]] ++ [O.lst dueL] = m2
  have ne2 : neD (.ref (m1.length + 3)) (.ref (m1.length + 1)) m2 = ok (.bl false) m2 := by
    rw [← hm2]
    exact ne_lst (xs := dueL) (by rw [← n3]; exact st_0) (app_at (app_at (by rw [← n1]; exact st_0))) dueP (by decide +kernel)
  obtain ⟨m3, e3, p3⟩ := objs_ok (n := 17) (m := m2)
  have p13 : m1 <+: m3 := (show m1 <+: m2 from by rw [← hm2]; exact (((List.prefix_append _ _).trans (List.prefix_append _ _)).trans (List.prefix_append _ _)).trans (List.prefix_append _ _)).trans p3
  have k1 : (m3 ++ [O.lst []]).length = m3.length + 1 := by simp
  have k2 : (m3 ++ [O.lst []] ++ [O.dct []]).length = m3.length + 2 := by simp
  have k3 : (m3 ++ [O.lst []] ++ [O.dct []] ++ [O.lst [.int 0]]).length = m3.length + 3 := by simp
  have k4 : (m3 ++ [O.lst []] ++ [O.dct []] ++ [O.lst [.int 0]] ++ [O.dct [(.inr "x", .int 1)]]).length = m3.length + 4 := by simp
  have lt : j1 < m3.length := Nat.lt_of_lt_of_le h1.lt p13.length_le
  have i4 : Inv4 j1 m3.length 0 (m3 ++ [O.lst []] ++ [O.dct []] ++ [O.lst [.int 0]] ++ [O.dct [(.inr "x", .int 1)]] ++ [O.lst (someL m3.length)]) := by
    refine ⟨h1.pre (p13.trans ?_), by rw [← k4]; exact st_0, ⟨app_at (app_at (app_at (app_at st_0))), app_at (app_at (app_at (by rw [← k1]; exact st_0))), app_at (app_at (by rw [← k2]; exact st_0)), app_at (by rw [← k3]; exact st_0)⟩⟩
    exact ((((List.prefix_append _ _).trans (List.prefix_append _ _)).trans (List.prefix_append _ _)).trans (List.prefix_append _ _)).trans (List.prefix_append _ _)
  generalize hm4 : m3 ++ [O.lst []] ++ [O.dct []] ++ [O.lst [.int 0]] ++ [O.dct [(.inr "x", .int 1)]] ++ [O.lst (someL m3.length)] = m4 at i4
  obtain ⟨ρ5, m5, e5, _, v5, rfl⟩ := for_ind (w := wkR 0 4) (t := .nm 5) (b := roundC (tab 19)) (fun i ρ m' => Inv4 j1 m3.length (3 * i) m' ∧ ∃ v5, ρ = [some (.fl (ns.map D.int)), some (.ref j1), some (.ref m1.length), some (.ref (m1.length + 1)), some (.ref (m3.length + 4)), v5]) 4
    (fun i ρ m' hi hp => by
      obtain ⟨iv, v5, rfl⟩ := hp
      obtain ⟨m'', q1, q2⟩ := round_ok (n := 17) (x0 := some (.fl (ns.map D.int))) (x2 := some (.ref m1.length)) (x3 := some (.ref (m1.length + 1))) (v5 := some (.int (0 + (i : Int)))) iv lt (by omega)
      exact ⟨.int (0 + (i : Int)), _, _, _, by unfold wkR; rw [if_pos (by omega)], rfl, .inl q1, q2, _, rfl⟩)
    (fun ρ m' hp => by unfold wkR; rw [if_neg (by decide)]) fuel 0 [some (.fl (ns.map D.int)), some (.ref j1), some (.ref m1.length), some (.ref (m1.length + 1)), some (.ref (m3.length + 4)), none] m4 (Nat.zero_le _) (by unfold fuel; decide) ⟨i4, none, rfl⟩
  have rd : (sIf (cNot (cTru (cCall 3 ((tab 19) 7) (cCons (cCall 2 ((tab 19) 2) (cCons (cVar 1) (cCons (cVar 4) (cNil)))) (cCons (cCall 2 ((tab 19) 2) (cCons (cVar 1) (cCons (cVar 4) (cNil)))) (cCons (cCall 2 ((tab 19) 2) (cCons (cVar 1) (cCons (cVar 4) (cNil)))) (cNil))))))) (sRet (cC (.bl false))) (sNext)) = roundC (tab 19) := rfl
  refine ⟨m5, ?_⟩
  unfold fnB b_9
  rw [rd, show ent 6 [.fl (ns.map D.int)] = [some (.fl (ns.map D.int)), none, none, none, none, none] from rfl]
  have e3' : tab 19 8 [] m2 = ok (.bl true) m3 := e3
  have e1' : tab 19 0 [.fl (ns.map D.int)] m0 = ok (.ref j1) m1 := e1
  simp only [sSeq, sSet, sFor, sRet, cLst, cTup, cRng1, cCons, cNil, cCall, cBin, cUn, cVar, cC, bind_ok, lift_ok, List.getElem?_cons_zero, List.getElem?_cons_succ, List.set_cons_zero, List.set_cons_succ, List.length_cons, List.length_nil, Nat.reduceAdd, Nat.reduceLeDiff, if_true, lim, e1', lim_eq, due_eq, limN, dueN, someN, n1, sIf, sNext, cOr, cNot, cTru, cB, asB, truD, n2, ad, n3, hm2, ne2, e3', Bool.not_true, Bool.false_eq_true, if_false, neg1, pow29, disp_x, k1, k2, k3, some_eq, k4, hm4, rng4, e5, fnR]
theorem spec : ∀ ns : List Int, ns.length ≤ 63 → (∀ z ∈ ns, Builtin.Int.intBits z ≤ 1048576) → ∃ m', tab lv 9 [.fl (ns.map D.int)] [] = some (.ok (.bl true), m') := by
  intro ns hl hb
  have t9 : tab lv 9 = fnB 6 (b_9 (tab 19)) := rfl
  rw [t9]
  obtain ⟨B, hB⟩ : ∃ B : Nat, B = 1048576 := ⟨_, rfl⟩
  exact law_ok (B := B) hl (fun z hz => Nat.lt_of_lt_of_le (bits_lt z) (Nat.pow_le_pow_right (by decide) (by rw [hB]; exact hb z hz))) (by omega)
end Sx.K84

set_option maxHeartbeats 0
namespace Sx.K84
open PySem PySem.Spec PyProof.Rows L2
abbrev RR : PySem.W.OpenRow := PySem.W.OpenLaw.row PySem.Challenge.rw_shapelang_k84_errors_and_bounds
abbrev hk : PySem.W.Hook := hookS 4 chkB fnsK valsK
def ob (s : PySem.W.SharedT) : Bool × List FnV := obsSG 4 chkB fnsK (HandSHeadRun.getT s)
theorem run (w : World) : HandSHeadRun.RunEq RR (PySem.W.view RR.prog [68]) hk ob 15000 ((["LangError", "BadShape", "BadCount", "NoMeeting", "NoSolution", "TooMany", "TooLarge", "Clash", "BadChain", "BadValue", "BadForm", "BadSize", "NoValue", "HasValues", "NotMet", "Idle", "BadRows", "BadBook", "HasHole", "NotPlain", "BadDatas", "Used", "Refused", "TooManyEdits", "NothingToUndo", "BadEdits", "BadEdit", "Rejected", "Busy", "BadExpression"] : List PySem.Str) ++ (["Incomplete", "BadText", "NoPlace", "NoMaker", "NoIndex", "NoRow", "NoDefinition", "NoWord", "NoVersion", "VARIABLES", "NODES", "DEPTH", "GROUPS", "LISTED", "DATAS", "PLACES", "ROWS", "MET", "SIZES", "FORM", "TREE", "DEFINITIONS", "CALLS", "SHOWN", "PARAMETERS", "EDITS", "BATCH", "_law_draws", "_law_next", "_law_one"] : List PySem.Str) ++ (["_law_errors", "_law_flags", "_law_fields", "_law_more_fields", "_law_right", "_law_objects_right"] : List PySem.Str)) w := by
  intro os
  kernel_rfl
end Sx.K84
open PySem PySem.W PySem.Calls PyProof.Rows
theorem PySem.Challenge.cw_shapelang_k84_errors_and_bounds_holds : PySem.Challenge.rw_shapelang_k84_errors_and_bounds.Holds := by
  w_on; o_law
  refine HandSHeadRun.head_any (r := OpenLaw.row PySem.Challenge.rw_shapelang_k84_errors_and_bounds) (q := view (OpenLaw.row PySem.Challenge.rw_shapelang_k84_errors_and_bounds).prog [68]) (H := Sx.K84.hk) (ob := Sx.K84.ob) (M := 15000) (loose := (["LangError", "BadShape", "BadCount", "NoMeeting", "NoSolution", "TooMany", "TooLarge", "Clash", "BadChain", "BadValue", "BadForm", "BadSize", "NoValue", "HasValues", "NotMet", "Idle", "BadRows", "BadBook", "HasHole", "NotPlain", "BadDatas", "Used", "Refused", "TooManyEdits", "NothingToUndo", "BadEdits", "BadEdit", "Rejected", "Busy", "BadExpression"] : List PySem.Str) ++ (["Incomplete", "BadText", "NoPlace", "NoMaker", "NoIndex", "NoRow", "NoDefinition", "NoWord", "NoVersion", "VARIABLES", "NODES", "DEPTH", "GROUPS", "LISTED", "DATAS", "PLACES", "ROWS", "MET", "SIZES", "FORM", "TREE", "DEFINITIONS", "CALLS", "SHOWN", "PARAMETERS", "EDITS", "BATCH", "_law_draws", "_law_next", "_law_one"] : List PySem.Str) ++ (["_law_errors", "_law_flags", "_law_fields", "_law_more_fields", "_law_right", "_law_objects_right"] : List PySem.Str)) (d := HandSHeadRun.topDef (OpenLaw.row PySem.Challenge.rw_shapelang_k84_errors_and_bounds).prog 68) (kwd := []) (fun s => Sx.obsSG_eq s)
    (by kernel_rfl) (fun s => by kernel_rfl) Sx.K84.run (by kernel_rfl) (by kernel_rfl) (by kernel_rfl) (by rfl) (by first | assumption | decide +kernel) (by decide +kernel) ⟨rfl, rfl, rfl, rfl, rfl, by decide +kernel⟩ ?hw ?hc
  case hw => w_witness2
  case hc =>
    refine Sx.walk_ofX (l := PySem.Challenge.rw_shapelang_k84_errors_and_bounds) (n := 63) (k := 2 * Sx.K84.lv + 2) (x := "_law_script") (g := Sx.K84.tab Sx.K84.lv 9) rfl (by decide) (by kernel_rfl) ⟨rfl, by decide, by decide⟩ (by kernel_rfl) ?F Sx.K84.spec
    intro w mg fa h Y G hmg0
    obtain ⟨K, KX, c⟩ := Y
    have hmg : mg ("law" : PySem.Str) = some (.ref fa) := by
      have e : (HandSHeadRun.topDef (OpenLaw.row PySem.Challenge.rw_shapelang_k84_errors_and_bounds).prog 68).name = ("law" : PySem.Str) := by kernel_rfl
      rw [← e]
      exact hmg0
    obtain ⟨fd, T, h1, h2⟩ := Sx.K84.law_of (P := (PySem.Challenge.rw_shapelang_k84_errors_and_bounds).prog) (w := w) (lv := Sx.K84.lv) KX G hmg (Sx.K84.chk_of c)
    exact ⟨K, fd, T, KX, h1, h2⟩
