import PyProof.Rows.All
import Wide.All
import OpenK.AllK
import Wide.FinOn
import KE.KStateDown
import HandS.Base
import HandS.Call
import HandS.List
import HandS.Comp
import HandS.Ends
import HandS.Iter
import HandS.Zip
import HandS.Text
import HandS.Exc
import HandS.Codes
import HandS.TryOnly
import HandS.TryMany
import HandS.ExcOwn
import HandS.ExcCtx
import HandS.Words
import HandS.WordsExc
import HandS.Lambda
import HandS.IsInst
import HandS.Conv
import HandS.FStr
import HandS.RaiseMore
import HandS.Style
import HandS.Defaults
import KE.GoesEnum
import KE.GoesMore
import HandS.SetFor
import HandS.Walk
import KE.KRevSl
import HandS.Hot
import HandS.HotCalls
import HandS.ExcField
import HandS.ExcInit
import PyProof.Rows.TupIter
import HandS.ExcIs
import HandS.EndBits
import HandS.EndTab
import HandS.Head0
import HandS.Head1
import HandS.Head2
import HandS.HeadEnd
import HandS.HeadHook1
import HandS.HeadHook2
import HandS.HeadHook3
import HandS.HeadHook4
import HandS.HeadWalk
import HandS.NestedK
import PySem.Challenge.RW_keptplaces_k01_queues_recognized
set_option Elab.async false
set_option linter.all false
set_option maxRecDepth 100000
set_option maxHeartbeats 4000000
/-! PvA: values as data, the store, what stands for what; the readings of expressions by a function of data. -/
namespace PV
open PySem PySem.Spec PyProof.Rows L2

/-- a value as data: lists are read only here; obj n: the n-th changing object; fn k: the k-th def -/
inductive D where
  | non | bl (b : Bool) | int (i : Int) | str (s : Str) | tup (xs : List D) | lst (xs : List D) | obj (n : Nat) | fn (k : Nat) | exn (a : Nat)
/-- a changing object -/
inductive Ob where
  | lst (xs : List D)
abbrev Store := List Ob
inductive Out (α : Type) where
  | ok (a : α)
  | exc (c : Str) (fl : Option D)
abbrev Mm (α : Type) := Store → Option (Out α × Store)
def ret {α : Type} (a : α) : Mm α := fun S => some (.ok a, S)
def fail {α : Type} : Mm α := fun _ => none
def bnd {α β : Type} (x : Mm α) (f : α → Mm β) : Mm β := fun S => match x S with
  | none => none
  | some (.ok a, S') => f a S'
  | some (.exc c fl, S') => some (.exc c fl, S')
def opt {α : Type} (o : Option α) : Mm α := match o with
  | none => fail
  | some a => ret a
/-- nothing may be raised -/
def nox {α : Type} (x : Mm α) : Mm α := fun S => match x S with
  | some (.ok a, S') => some (.ok a, S')
  | _ => none
theorem bnd_ret {α β : Type} (a : α) (f : α → Mm β) : bnd (ret a) f = f a := rfl
theorem bnd_fail {α β : Type} (f : α → Mm β) : bnd fail f = fail := rfl
theorem bnd_bnd {α β γ : Type} (x : Mm α) (f : α → Mm β) (h : β → Mm γ) : bnd (bnd x f) h = bnd x fun a => bnd (f a) h := by
  funext S
  unfold bnd
  cases x S with
  | none => rfl
  | some p =>
    obtain ⟨o, S'⟩ := p
    cases o <;> rfl
theorem opt_some {α : Type} (a : α) : opt (some a) = ret a := rfl
theorem opt_none {α : Type} : opt (none : Option α) = fail := rfl
theorem nox_ret {α : Type} (a : α) : nox (ret a) = ret a := rfl

/-! ### what stands for what -/
/-- what never changes any more; the changing objects' addresses -/
structure Gh where
  F : Addr → Prop
  M : List Addr
/-- the fixed part: the written part, the defs' addresses, the code tables, the exception classes, their fields -/
structure Cf where
  K : PySem.W.Frag
  fa : Nat → Addr
  T : List (Addr × Str)
  xa : Str → Addr
  xf : Str → Str
def H0 : Hp := fun _ => none
/-- a tuple, a list that stands for good -/
def FzT (c : Cf) (g : Gh) (H : Hp) (a : Addr) (vs : List V) : Prop := (g.F a ∧ H a = some (HO.tup vs) ∧ vs.length ≤ sizeLine) ∨ SqT c.K H0 a vs
def FzL (c : Cf) (g : Gh) (H : Hp) (a : Addr) (vs : List V) : Prop := (g.F a ∧ Rd H a (HO.lst vs) ∧ vs.length ≤ sizeLine) ∨ SqL c.K H0 a vs
mutual
def Rep (c : Cf) (g : Gh) (H : Hp) : D → V → Prop
  | .non, v => v = V.non
  | .bl b, v => v = V.bl b
  | .int i, v => v = V.int i
  | .str s, v => v = V.str s
  | .tup xs, v => ∃ a vs, v = V.ref a ∧ FzT c g H a vs ∧ Reps c g H xs vs
  | .lst xs, v => ∃ a vs, v = V.ref a ∧ FzL c g H a vs ∧ Reps c g H xs vs
  | .obj n, v => ∃ a, g.M[n]? = some a ∧ v = V.ref a
  | .fn k, v => v = V.ref (c.fa k)
  | .exn a, v => v = V.ref a
def Reps (c : Cf) (g : Gh) (H : Hp) : List D → List V → Prop
  | [], vs => vs = []
  | x :: xs, vs => ∃ v ws, vs = v :: ws ∧ Rep c g H x v ∧ Reps c g H xs ws
end
/-- what stands for good stays -/
structure FExt (g : Gh) (H : Hp) (g' : Gh) (H' : Hp) : Prop where
  fz : ∀ a, g.F a → g'.F a ∧ H' a = H a
  pre : g.M <+: g'.M
theorem FExt.refl (g : Gh) (H : Hp) : FExt g H g H := ⟨fun _ h => ⟨h, rfl⟩, List.prefix_refl _⟩
theorem FExt.trans {g g1 g2 : Gh} {H H1 H2 : Hp} (a : FExt g H g1 H1) (b : FExt g1 H1 g2 H2) : FExt g H g2 H2 :=
  ⟨fun x h => ⟨(b.fz x (a.fz x h).1).1, ((b.fz x (a.fz x h).1).2).trans (a.fz x h).2⟩, a.pre.trans b.pre⟩
theorem pre_get {α : Type} {l m : List α} (h : l <+: m) {n : Nat} {a : α} (e : l[n]? = some a) : m[n]? = some a := by
  obtain ⟨t, rfl⟩ := h
  obtain ⟨h1, _⟩ := List.getElem?_eq_some_iff.mp e
  rw [List.getElem?_append_left h1]
  exact e
section
variable {c : Cf} {g g' : Gh} {H H' : Hp}
theorem FzT.ext {a : Addr} {vs : List V} (x : FExt g H g' H') (h : FzT c g H a vs) : FzT c g' H' a vs := by
  rcases h with ⟨h1, h2, h3⟩ | h
  · exact .inl ⟨(x.fz a h1).1, (x.fz a h1).2.trans h2, h3⟩
  · exact .inr h
theorem FzL.ext {a : Addr} {vs : List V} (x : FExt g H g' H') (h : FzL c g H a vs) : FzL c g' H' a vs := by
  rcases h with ⟨h1, h2, h3⟩ | h
  · refine .inl ⟨(x.fz a h1).1, ?_, h3⟩
    have e := (x.fz a h1).2
    rcases h2 with h2 | ⟨o, h2⟩
    · exact .inl (e.trans h2)
    · exact .inr ⟨o, e.trans h2⟩
  · exact .inr h
mutual
theorem Rep.ext (x : FExt g H g' H') : ∀ (d : D) (v : V), Rep c g H d v → Rep c g' H' d v
  | .non, _, h => h
  | .bl _, _, h => h
  | .int _, _, h => h
  | .str _, _, h => h
  | .tup xs, _, h => by
    obtain ⟨a, vs, e, h1, h2⟩ := h
    exact ⟨a, vs, e, h1.ext x, Reps.ext x xs vs h2⟩
  | .lst xs, _, h => by
    obtain ⟨a, vs, e, h1, h2⟩ := h
    exact ⟨a, vs, e, h1.ext x, Reps.ext x xs vs h2⟩
  | .obj n, _, h => by
    obtain ⟨a, h1, h2⟩ := h
    exact ⟨a, pre_get x.pre h1, h2⟩
  | .fn _, _, h => h
  | .exn _, _, h => h
theorem Reps.ext (x : FExt g H g' H') : ∀ (ds : List D) (vs : List V), Reps c g H ds vs → Reps c g' H' ds vs
  | [], _, h => h
  | d :: ds, _, h => by
    obtain ⟨v, ws, e, h1, h2⟩ := h
    exact ⟨v, ws, e, Rep.ext x d v h1, Reps.ext x ds ws h2⟩
end
theorem Reps.nil : Reps c g H [] [] := rfl
theorem Reps.cons {d : D} {ds : List D} {v : V} {vs : List V} (h : Rep c g H d v) (h2 : Reps c g H ds vs) : Reps c g H (d :: ds) (v :: vs) := ⟨v, vs, rfl, h, h2⟩
theorem Reps.len : ∀ {ds : List D} {vs : List V}, Reps c g H ds vs → ds.length = vs.length
  | [], _, h => by
    have e : _ = [] := h
    rw [e]
    rfl
  | d :: ds, _, h => by
    obtain ⟨v, ws, rfl, h1, h2⟩ := h
    rw [List.length_cons, List.length_cons, h2.len]
theorem Reps.get : ∀ {ds : List D} {vs : List V}, Reps c g H ds vs → ∀ {i : Nat} {d : D}, ds[i]? = some d → ∃ v, vs[i]? = some v ∧ Rep c g H d v
  | [], _, h, i, d, e => by simp at e
  | x :: ds, _, h, 0, d, e => by
    obtain ⟨v, ws, rfl, h1, h2⟩ := h
    simp at e
    subst e
    exact ⟨v, rfl, h1⟩
  | x :: ds, _, h, i + 1, d, e => by
    obtain ⟨v, ws, rfl, h1, h2⟩ := h
    obtain ⟨v', e1, e2⟩ := h2.get (i := i) (d := d) (by simpa using e)
    exact ⟨v', by simpa using e1, e2⟩
theorem Reps.get' : ∀ {ds : List D} {vs : List V}, Reps c g H ds vs → ∀ {i : Nat} {v : V}, vs[i]? = some v → ∃ d, ds[i]? = some d ∧ Rep c g H d v
  | [], _, h, i, d, e => by
    have z : _ = [] := h
    rw [z] at e
    simp at e
  | x :: ds, _, h, 0, d, e => by
    obtain ⟨v, ws, rfl, h1, h2⟩ := h
    simp at e
    subst e
    exact ⟨x, rfl, h1⟩
  | x :: ds, _, h, i + 1, d, e => by
    obtain ⟨v, ws, rfl, h1, h2⟩ := h
    obtain ⟨v', e1, e2⟩ := h2.get' (i := i) (v := d) (by simpa using e)
    exact ⟨v', by simpa using e1, e2⟩
theorem Reps.app : ∀ {ds es : List D} {vs ws : List V}, Reps c g H ds vs → Reps c g H es ws → Reps c g H (ds ++ es) (vs ++ ws)
  | [], es, _, ws, h, h2 => by
    have z : _ = [] := h
    rw [z]
    exact h2
  | d :: ds, es, _, ws, h, h2 => by
    obtain ⟨v, us, rfl, h3, h4⟩ := h
    exact ⟨v, us ++ ws, rfl, h3, h4.app h2⟩
theorem Reps.drop : ∀ {ds : List D} {vs : List V} (n : Nat), Reps c g H ds vs → Reps c g H (ds.drop n) (vs.drop n)
  | _, _, 0, h => h
  | [], _, n + 1, h => by
    have z : _ = [] := h
    rw [z]
    rfl
  | d :: ds, _, n + 1, h => by
    obtain ⟨v, us, rfl, h3, h4⟩ := h
    exact h4.drop n
theorem Reps.take : ∀ {ds : List D} {vs : List V} (n : Nat), Reps c g H ds vs → Reps c g H (ds.take n) (vs.take n)
  | _, _, 0, h => by
    simp only [List.take_zero]
    rfl
  | [], _, n + 1, h => by
    have z : _ = [] := h
    rw [z]
    rfl
  | d :: ds, _, n + 1, h => by
    obtain ⟨v, us, rfl, h3, h4⟩ := h
    exact ⟨v, us.take n, rfl, h3, h4.take n⟩
theorem Reps.set : ∀ {ds : List D} {vs : List V} (n : Nat) {d : D} {v : V}, Reps c g H ds vs → Rep c g H d v → Reps c g H (ds.set n d) (vs.set n v)
  | [], _, n, d, v, h, _ => by
    have z : _ = [] := h
    rw [z]
    rfl
  | x :: ds, _, 0, d, v, h, r => by
    obtain ⟨u, us, rfl, h3, h4⟩ := h
    exact ⟨v, us, rfl, r, h4⟩
  | x :: ds, _, n + 1, d, v, h, r => by
    obtain ⟨u, us, rfl, h3, h4⟩ := h
    exact ⟨u, us.set n v, rfl, h3, h4.set n r⟩
theorem Reps.reverse {ds : List D} {vs : List V} (h : Reps c g H ds vs) : Reps c g H ds.reverse vs.reverse := by
  induction ds generalizing vs with
  | nil =>
    have z : vs = [] := h
    rw [z]
    rfl
  | cons d ds ih =>
    obtain ⟨v, us, rfl, h3, h4⟩ := h
    rw [List.reverse_cons, List.reverse_cons]
    exact (ih h4).app ⟨v, [], rfl, h3, rfl⟩
theorem FzT.sq {a : Addr} {vs : List V} (h : FzT c g H a vs) : SqT c.K H a vs := by
  rcases h with ⟨_, h, _⟩ | h
  · exact SqT.of h
  · rcases h with h | h
    · rcases h with h | ⟨o, h⟩ <;> cases h
    · exact .inr h
theorem FzL.sq {a : Addr} {vs : List V} (h : FzL c g H a vs) : SqL c.K H a vs := by
  rcases h with ⟨_, h, _⟩ | h
  · exact .inl h
  · rcases h with h | h
    · rcases h with h | ⟨o, h⟩ <;> cases h
    · exact .inr h
theorem FzT.bd {a : Addr} {vs : List V} (h : FzT c g H a vs) : vs.length ≤ sizeLine := by
  rcases h with ⟨_, _, h⟩ | h
  · exact h
  · rcases h with h | ⟨o, its, n, _, _, _, hz, r⟩
    · rcases h with h | ⟨o, h⟩ <;> cases h
    · have e := r.length
      simp only [Array.length_toList] at e
      omega
theorem FzL.bd {a : Addr} {vs : List V} (h : FzL c g H a vs) : vs.length ≤ sizeLine := by
  rcases h with ⟨_, _, h⟩ | h
  · exact h
  · rcases h with h | ⟨o, its, n, _, _, _, _, hz, r⟩
    · rcases h with h | ⟨o, h⟩ <;> cases h
    · have e := r.length
      simp only [Array.length_toList] at e
      omega
end

/-- nothing there, or a table -/
def NK : Option HO → Prop
  | none => True
  | some (.tbl _) => True
  | some _ => False
theorem NK.tbl {o : HO} (h : NK (some o)) : ∃ ps, o = .tbl ps := by
  cases o <;> first | exact ⟨_, rfl⟩ | exact h.elim
theorem NK.of {o : Option HO} (h : o = none) : NK o := by
  subst h
  trivial
/-! ### the store -/
def ObRep (c : Cf) (g : Gh) (H : Hp) (a : Addr) : Ob → Prop
  | .lst xs => ∃ vs, H a = some (HO.lst vs) ∧ Reps c g H xs vs
structure Good (c : Cf) (g : Gh) (S : Store) (H : Hp) : Prop where
  len : g.M.length = S.length
  ob : ∀ (n : Nat) (a : Addr) (o : Ob), g.M[n]? = some a → S[n]? = some o → ObRep c g H a o
  nF : ∀ a ∈ g.M, ¬ g.F a
  nd : g.M.Nodup
  tr : ∀ a, g.F a → ¬ NK (H a)
  tab : LamX.Tabs c.T H
/-- what an expression may do: new things, changed objects -/
structure Ext (g : Gh) (H : Hp) (g' : Gh) (H' : Hp) : Prop where
  fx : FExt g H g' H'
  keep : ∀ a o, H a = some o → a ∉ g.M → (∀ ps, o ≠ .tbl ps) → H' a = some o
  nF : ∀ a, g'.F a → g.F a ∨ NK (H a)
  nM : ∀ a ∈ g'.M, a ∈ g.M ∨ NK (H a)
  tr : ∀ a, NK (H' a) → NK (H a)
theorem Ext.refl (g : Gh) (H : Hp) : Ext g H g H := ⟨.refl g H, fun _ _ h _ _ => h, fun _ h => .inl h, fun _ h => .inl h, fun _ h => h⟩
theorem Ext.trans {g g1 g2 : Gh} {H H1 H2 : Hp} (a : Ext g H g1 H1) (b : Ext g1 H1 g2 H2) : Ext g H g2 H2 := by
  refine ⟨a.fx.trans b.fx, fun x o h n t => ?_, fun x h => ?_, fun x h => ?_, fun x h => a.tr x (b.tr x h)⟩
  · refine b.keep x o (a.keep x o h n t) (fun z => ?_) t
    rcases a.nM x z with z | z
    · exact n z
    · rw [h] at z
      obtain ⟨ps, e⟩ := z.tbl
      exact t ps e
  · rcases b.nF x h with z | z
    · exact a.nF x z
    · exact .inr (a.tr x z)
  · rcases b.nM x h with z | z
    · exact a.nM x z
    · exact .inr (a.tr x z)
theorem nk_upd {H : Hp} {p a : Addr} {o : HO} (hp : NK (H p)) (h : NK (upd H p o a)) : NK (H a) := by
  by_cases e : a = p
  · rw [e]
    exact hp
  · rwa [upd_ne e] at h
/-- a new thing that stands for good -/
def Gh.fz (g : Gh) (p : Addr) : Gh := ⟨fun a => g.F a ∨ a = p, g.M⟩
section
variable {c : Cf} {g : Gh} {S : Store} {H : Hp}
theorem ext_new {p : Addr} {o : HO} (hp : H p = none) : Ext g H g (upd H p o) ↔ ∀ a, g.F a → a ≠ p := by
  constructor
  · intro h a ha e
    subst e
    have := (h.fx.fz a ha).2
    rw [upd_same, hp] at this
    cases this
  · intro h
    refine ⟨⟨fun a ha => ⟨ha, upd_ne (h a ha)⟩, List.prefix_refl _⟩, fun a o' ha _ _ => ?_, fun a ha => .inl ha, fun a ha => .inl ha, fun a ha => nk_upd (.of hp) ha⟩
    rw [upd_ne (ne_of_none ha hp)]
    exact ha
theorem tabs_upd {T : List (Addr × Str)} {p : Addr} {o : HO} (t : LamX.Tabs T H) (hp : H p = none) : LamX.Tabs T (upd H p o) := t.ext fun b u e => by
  rw [upd_ne (ne_of_none e hp)]
  exact e
theorem Good.new (G : Good c g S H) {p : Addr} {o : HO} (hp : H p = none) (ho : ¬ NK (some o) := by exact fun z => z) : Ext g H (g.fz p) (upd H p o) ∧ Good c (g.fz p) S (upd H p o) := by
  have hne : ∀ a, g.F a → a ≠ p := fun a ha e => G.tr a ha (by rw [e]; exact .of hp)
  have x : FExt g H (g.fz p) (upd H p o) := ⟨fun a ha => ⟨.inl ha, upd_ne (hne a ha)⟩, List.prefix_refl _⟩
  have hM : ∀ a ∈ g.M, a ≠ p := fun a ha e => by
    obtain ⟨n, hn, e1⟩ := List.mem_iff_getElem.mp ha
    have hn2 : n < S.length := by rw [← G.len]; exact hn
    have h1 := G.ob n a S[n] (by rw [List.getElem?_eq_getElem hn, e1]) (List.getElem?_eq_getElem hn2)
    cases hS : S[n] with
    | lst xs =>
      rw [hS] at h1
      obtain ⟨vs, h1, _⟩ := h1
      rw [e, hp] at h1
      cases h1
  refine ⟨⟨x, fun a o' ha _ _ => ?_, fun a ha => ?_, fun a ha => .inl ha, fun a ha => nk_upd (.of hp) ha⟩, ⟨G.len, fun n a ob h1 h2 => ?_, fun a ha z => ?_, G.nd, fun a ha => ?_, tabs_upd G.tab hp⟩⟩
  · rw [upd_ne (ne_of_none ha hp)]
    exact ha
  · rcases ha with ha | ha
    · exact .inl ha
    · exact .inr (by rw [ha]; exact .of hp)
  · have h3 := G.ob n a ob h1 h2
    cases ob with
    | lst xs =>
      obtain ⟨vs, h4, h5⟩ := h3
      exact ⟨vs, by rw [upd_ne (ne_of_none h4 hp)]; exact h4, Reps.ext x xs vs h5⟩
  · rcases z with z | z
    · exact G.nF a ha z
    · exact hM a ha z
  · rcases ha with ha | ha
    · rw [upd_ne (hne a ha)]
      exact G.tr a ha
    · rw [ha, upd_same]
      exact ho
/-- a new thing that is not yet fixed -/
theorem Good.new0 (G : Good c g S H) {p : Addr} {o : HO} (hp : H p = none) : Ext g H g (upd H p o) ∧ Good c g S (upd H p o) := by
  have hne : ∀ a, g.F a → a ≠ p := fun a ha e => G.tr a ha (by rw [e]; exact .of hp)
  have x : FExt g H g (upd H p o) := ⟨fun a ha => ⟨ha, upd_ne (hne a ha)⟩, List.prefix_refl _⟩
  refine ⟨(ext_new hp).mpr hne, ⟨G.len, fun n a ob h1 h2 => ?_, G.nF, G.nd, fun a ha => ?_, tabs_upd G.tab hp⟩⟩
  · have h3 := G.ob n a ob h1 h2
    cases ob with
    | lst xs =>
      obtain ⟨vs, h4, h5⟩ := h3
      exact ⟨vs, by rw [upd_ne (ne_of_none h4 hp)]; exact h4, Reps.ext x xs vs h5⟩
  · rw [upd_ne (hne a ha)]
    exact G.tr a ha
/-- an unfixed thing is fixed -/
theorem Good.fix (G : Good c g S H) {p : Addr} (hp : ¬ NK (H p)) (hM : p ∉ g.M) : Good c (g.fz p) S H := by
  have x : FExt g H (g.fz p) H := ⟨fun a ha => ⟨.inl ha, rfl⟩, List.prefix_refl _⟩
  refine ⟨G.len, fun n a ob h1 h2 => ?_, fun a ha z => ?_, G.nd, fun a ha => ?_, G.tab⟩
  · have h3 := G.ob n a ob h1 h2
    cases ob with
    | lst xs =>
      obtain ⟨vs, h4, h5⟩ := h3
      exact ⟨vs, h4, Reps.ext x xs vs h5⟩
  · rcases z with z | z
    · exact G.nF a ha z
    · exact hM (z ▸ ha)
  · rcases ha with ha | ha
    · exact G.tr a ha
    · rw [ha]
      exact hp
theorem Good.mem (G : Good c g S H) {a : Addr} (ha : a ∈ g.M) : H a ≠ none := by
  obtain ⟨n, hn, e1⟩ := List.mem_iff_getElem.mp ha
  have hn2 : n < S.length := by rw [← G.len]; exact hn
  have h1 := G.ob n a S[n] (by rw [List.getElem?_eq_getElem hn, e1]) (List.getElem?_eq_getElem hn2)
  cases hS : S[n] with
  | lst xs =>
    rw [hS] at h1
    obtain ⟨vs, h1, _⟩ := h1
    rw [h1]
    intro z
    cases z
end

/-! ### the frame's names -/
inductive Slot where
  | un
  | val (d : D)
  | own (xs : List D)
abbrev Ev := List Slot
def SlotRep (c : Cf) (B : Hp) (g : Gh) (H : Hp) : Slot → Option V → Prop
  | .un, _ => True
  | .val d, o => ∃ v, o = some v ∧ Rep c g H d v
  | .own xs, o => ∃ p vs, o = some (V.ref p) ∧ H p = some (HO.lst vs) ∧ Reps c g H xs vs ∧ ¬ g.F p ∧ p ∉ g.M ∧ vs.length ≤ sizeLine ∧ NK (B p)
structure EnvRep (c : Cf) (B : Hp) (g : Gh) (H : Hp) (ρ : Ev) (σ : L2.St) : Prop where
  len : σ.length = ρ.length
  at_ : ∀ (i : Nat) (s : Slot), ρ[i]? = some s → ∃ o, σ[i]? = some o ∧ SlotRep c B g H s o
  nd : ∀ (i j : Nat) (xs ys : List D) (p : Addr), ρ[i]? = some (.own xs) → ρ[j]? = some (.own ys) → σ[i]? = some (some (V.ref p)) → σ[j]? = some (some (V.ref p)) → i = j
section
variable {c : Cf} {B : Hp} {g g' : Gh} {H H' : Hp} {ρ : Ev} {σ : L2.St}
theorem SlotRep.ext (x : Ext g H g' H') {s : Slot} {o : Option V} (h : SlotRep c B g H s o) : SlotRep c B g' H' s o := by
  cases s with
  | un => trivial
  | val d =>
    obtain ⟨v, e, r⟩ := h
    exact ⟨v, e, Rep.ext x.fx d v r⟩
  | own xs =>
    obtain ⟨p, vs, e, h1, h2, h3, h4, h5⟩ := h
    refine ⟨p, vs, e, x.keep p _ h1 h4 (fun ps z => by cases z), Reps.ext x.fx xs vs h2, fun z => ?_, fun z => ?_, h5⟩
    · rcases x.nF p z with z | z
      · exact h3 z
      · rw [h1] at z
        cases z
    · rcases x.nM p z with z | z
      · exact h4 z
      · rw [h1] at z
        cases z
theorem EnvRep.ext (x : Ext g H g' H') (h : EnvRep c B g H ρ σ) : EnvRep c B g' H' ρ σ := by
  refine ⟨h.len, fun i s e => ?_, h.nd⟩
  obtain ⟨o, e1, r⟩ := h.at_ i s e
  exact ⟨o, e1, r.ext x⟩
/-- a name is stored: a value -/
theorem EnvRep.setV (h : EnvRep c B g H ρ σ) (i : Nat) {d : D} {v : V} (r : Rep c g H d v) : EnvRep c B g H (ρ.set i (.val d)) (σ.set i (some v)) := by
  refine ⟨by rw [List.length_set, List.length_set]; exact h.len, fun j s e => ?_, fun j k xs ys p e1 e2 e3 e4 => ?_⟩
  · by_cases hj : i = j
    · subst hj
      have hl : i < ρ.length := by
        have := (List.getElem?_eq_some_iff.mp e).1
        rwa [List.length_set] at this
      rw [List.getElem?_set_self hl] at e
      cases e
      exact ⟨some v, List.getElem?_set_self (by rw [h.len]; exact hl), v, rfl, r⟩
    · rw [List.getElem?_set_ne hj] at e
      rw [List.getElem?_set_ne hj]
      exact h.at_ j s e
  · have hji : i ≠ j := fun z => by
      subst z
      have hl : i < ρ.length := by
        have := (List.getElem?_eq_some_iff.mp e1).1
        rwa [List.length_set] at this
      rw [List.getElem?_set_self hl] at e1
      cases e1
    have hki : i ≠ k := fun z => by
      subst z
      have hl : i < ρ.length := by
        have := (List.getElem?_eq_some_iff.mp e2).1
        rwa [List.length_set] at this
      rw [List.getElem?_set_self hl] at e2
      cases e2
    rw [List.getElem?_set_ne hji] at e1 e3
    rw [List.getElem?_set_ne hki] at e2 e4
    exact h.nd j k xs ys p e1 e2 e3 e4
/-- a name is stored: a list of its own, new -/
theorem EnvRep.setO (h : EnvRep c B g H ρ σ) (i : Nat) {xs : List D} {p : Addr} {vs : List V} (hp : H p = some (HO.lst vs)) (r : Reps c g H xs vs) (nF : ¬ g.F p) (nM : p ∉ g.M) (hz : vs.length ≤ sizeLine) (hB : NK (B p))
    (ne : ∀ (j : Nat) (ys : List D), j ≠ i → ρ[j]? = some (.own ys) → σ[j]? ≠ some (some (V.ref p))) : EnvRep c B g H (ρ.set i (.own xs)) (σ.set i (some (V.ref p))) := by
  refine ⟨by rw [List.length_set, List.length_set]; exact h.len, fun j s e => ?_, fun j k as bs q e1 e2 e3 e4 => ?_⟩
  · by_cases hj : i = j
    · subst hj
      have hl : i < ρ.length := by
        have := (List.getElem?_eq_some_iff.mp e).1
        rwa [List.length_set] at this
      rw [List.getElem?_set_self hl] at e
      cases e
      exact ⟨some (.ref p), List.getElem?_set_self (by rw [h.len]; exact hl), p, vs, rfl, hp, r, nF, nM, hz, hB⟩
    · rw [List.getElem?_set_ne hj] at e
      rw [List.getElem?_set_ne hj]
      exact h.at_ j s e
  · have at_i : ∀ {j : Nat} {o : Option V}, i = j → j < ρ.length → (σ.set i (some (V.ref p)))[j]? = some o → o = some (.ref p) := fun {j o} e hl z => by
      subst e
      rw [List.getElem?_set_self (by rw [h.len]; exact hl)] at z
      exact (Option.some.inj z).symm
    have lj : j < ρ.length := by
      have := (List.getElem?_eq_some_iff.mp e1).1
      rwa [List.length_set] at this
    have lk : k < ρ.length := by
      have := (List.getElem?_eq_some_iff.mp e2).1
      rwa [List.length_set] at this
    by_cases hj : i = j
    · by_cases hk : i = k
      · exact hj.symm.trans hk
      · have e5 := at_i hj lj e3
        cases e5
        rw [List.getElem?_set_ne hk] at e2 e4
        exact absurd e4 (ne k bs (fun z => hk z.symm) e2)
    · by_cases hk : i = k
      · have e5 := at_i hk lk e4
        cases e5
        rw [List.getElem?_set_ne hj] at e1 e3
        exact absurd e3 (ne j as (fun z => hj z.symm) e1)
      · rw [List.getElem?_set_ne hj] at e1 e3
        rw [List.getElem?_set_ne hk] at e2 e4
        exact h.nd j k as bs q e1 e2 e3 e4
end
end PV

set_option Elab.async false
set_option linter.all false
set_option maxRecDepth 100000
set_option maxHeartbeats 4000000
/-! PvS: what the rules ask of a text's form, by Bools of the text. -/
namespace PV
open PySem PySem.Spec PyProof.Rows L2
def isStar : Expr → Bool
  | .Starred .. => true
  | _ => false
theorem star_cons {e : Expr} {es : List Expr} {env : Env} (h : isStar e = false) : starEach (e :: es) env = (false, eval e env) :: starEach es env := by
  cases e <;> first | rfl | cases h
def noStar (es : List Expr) : Bool := es.all fun e => !isStar e
theorem noStar_cons {e : Expr} {es : List Expr} (h : noStar (e :: es) = true) : isStar e = false ∧ noStar es = true := by
  unfold noStar at h
  rw [List.all_cons, Bool.and_eq_true] at h
  refine ⟨?_, h.2⟩
  cases q : isStar e with
  | false => rfl
  | true =>
    rw [q] at h
    cases h.1
theorem plain_any {pos : Pos} {env : Env} : ∀ {es : List Expr}, noStar es = true → (backTo pos (starEach es env)).any (·.1) = false
  | [], _ => rfl
  | e :: es, h => by
    obtain ⟨h1, h2⟩ := noStar_cons h
    rw [star_cons h1]
    show (false || (backTo pos (starEach es env)).any (·.1)) = false
    rw [plain_any h2]
    rfl
theorem plain_all {pos : Pos} {env : Env} : ∀ {es : List Expr}, noStar es = true → (backTo pos (starEach es env)).all (fun x => !x.1) = true
  | [], _ => rfl
  | e :: es, h => by
    obtain ⟨h1, h2⟩ := noStar_cons h
    rw [star_cons h1]
    show (true && (backTo pos (starEach es env)).all (fun x => !x.1)) = true
    rw [plain_all h2]
    rfl
def isCall0 : Expr → Bool
  | .Call (.Name ..) [] [] _ => true
  | _ => false
theorem base_of {o : Expr} {f : Str} {env : Env} {whole : Sem Value} (h : isCall0 o = false) : attributeBase o f env whole = whole := by
  unfold attributeBase
  split
  · cases h
  · rfl
def isSl : Expr → Bool
  | .Slice .. => true
  | _ => false
theorem plainIx {b : Expr} (h : isSl b = false) : PlainIx b := by
  intro o i
  cases b <;> first | rfl | cases h
def isSet : Expr → Bool
  | .Set .. => true
  | _ => false
theorem fsi {e : Expr} {env : Env} {x : Value} (h : isSet e = false) : foldedSetIterable e env x = pure x := by
  cases e <;> first | rfl | cases h
def isComp : Expr → Bool
  | .ListComp .. => true
  | .SetComp .. => true
  | .DictComp .. => true
  | _ => false
theorem noSwap {e : Expr} {t : Option Expr} {l : Nat} {env : Env} (h : isComp e = false) : swapsWith e t l env = pure false := by
  cases e <;> first | rfl | cases h
def isTest : Expr → Bool
  | .UnaryOp .Not _ _ => true
  | .BoolOp .. => true
  | .IfExp .. => true
  | .Compare .. => true
  | _ => false
theorem plainT {e : Expr} {env : Env} (h : isTest e = false) (whole : Sem Value) : isTrue e env whole = (do let v ← whole; standAt e.pos; holding [v] (truthy v)) := by
  cases e with
  | UnaryOp op x p => cases op <;> first | rfl | cases h
  | _ => first | rfl | cases h
def isSet0 : Expr → Bool
  | .Set .. => true
  | _ => false
theorem inMarks {op : CmpOp} {e : Expr} (h : isSet e = false) : behindInMarks op e = false := by
  cases e <;> first | rfl | cases h
/-! ### what an expression is -/
def asName : Expr → Option Str
  | .Name x _ => some x
  | _ => none
theorem asName_eq {e : Expr} {x : Str} (h : asName e = some x) : ∃ p, e = .Name x p := by
  cases e <;> simp [asName] at h
  subst h
  exact ⟨_, rfl⟩
def asConst : Expr → Option Const
  | .Constant c _ _ => some c
  | _ => none
theorem asConst_eq {e : Expr} {c : Const} (h : asConst e = some c) : ∃ k p, e = .Constant c k p := by
  cases e <;> simp [asConst] at h
  subst h
  exact ⟨_, _, rfl⟩
def asBin : Expr → Option (Expr × Operator × Expr)
  | .BinOp a o b _ => some (a, o, b)
  | _ => none
theorem asBin_eq {e a b : Expr} {o : Operator} (h : asBin e = some (a, o, b)) : ∃ p, e = .BinOp a o b p := by
  cases e <;> simp [asBin] at h
  obtain ⟨rfl, rfl, rfl⟩ := h
  exact ⟨_, rfl⟩
def asUn : Expr → Option (UnaryOp × Expr)
  | .UnaryOp o a _ => some (o, a)
  | _ => none
theorem asUn_eq {e a : Expr} {o : UnaryOp} (h : asUn e = some (o, a)) : ∃ p, e = .UnaryOp o a p := by
  cases e <;> simp [asUn] at h
  obtain ⟨rfl, rfl⟩ := h
  exact ⟨_, rfl⟩
def asBool : Expr → Option (BoolOp × List Expr × Pos)
  | .BoolOp o es p => some (o, es, p)
  | _ => none
theorem asBool_eq {e : Expr} {o : BoolOp} {es : List Expr} {p : Pos} (h : asBool e = some (o, es, p)) : e = .BoolOp o es p := by
  cases e <;> simp [asBool] at h
  obtain ⟨rfl, rfl, rfl⟩ := h
  rfl
def asCmp : Expr → Option (Expr × List CmpOp × List Expr)
  | .Compare a os bs _ => some (a, os, bs)
  | _ => none
theorem asCmp_eq {e a : Expr} {os : List CmpOp} {bs : List Expr} (h : asCmp e = some (a, os, bs)) : ∃ p, e = .Compare a os bs p := by
  cases e <;> simp [asCmp] at h
  obtain ⟨rfl, rfl, rfl⟩ := h
  exact ⟨_, rfl⟩
def asIf : Expr → Option (Expr × Expr × Expr)
  | .IfExp t a b _ => some (t, a, b)
  | _ => none
theorem asIf_eq {e t a b : Expr} (h : asIf e = some (t, a, b)) : ∃ p, e = .IfExp t a b p := by
  cases e <;> simp [asIf] at h
  obtain ⟨rfl, rfl, rfl⟩ := h
  exact ⟨_, rfl⟩
def asTup : Expr → Option (List Expr)
  | .Tuple es _ _ => some es
  | _ => none
theorem asTup_eq {e : Expr} {es : List Expr} (h : asTup e = some es) : ∃ k p, e = .Tuple es k p := by
  cases e <;> simp [asTup] at h
  subst h
  exact ⟨_, _, rfl⟩
def asLst : Expr → Option (List Expr)
  | .List es _ => some es
  | _ => none
theorem asLst_eq {e : Expr} {es : List Expr} (h : asLst e = some es) : ∃ p, e = .List es p := by
  cases e <;> simp [asLst] at h
  subst h
  exact ⟨_, rfl⟩
def asSub : Expr → Option (Expr × Expr)
  | .Subscript a b _ => some (a, b)
  | _ => none
theorem asSub_eq {e a b : Expr} (h : asSub e = some (a, b)) : ∃ p, e = .Subscript a b p := by
  cases e <;> simp [asSub] at h
  obtain ⟨rfl, rfl⟩ := h
  exact ⟨_, rfl⟩
/-- a slice without a step -/
def asSl : Expr → Option (Option Expr × Option Expr)
  | .Slice a b none _ => some (a, b)
  | _ => none
theorem asSl_eq {e : Expr} {a b : Option Expr} (h : asSl e = some (a, b)) : ∃ p, e = .Slice a b none p := by
  cases e with
  | Slice x y z p =>
    cases z with
    | none =>
      simp [asSl] at h
      obtain ⟨rfl, rfl⟩ := h
      exact ⟨_, rfl⟩
    | some _ => simp [asSl] at h
  | _ => simp [asSl] at h
/-- a call of a name, without keywords -/
def asCall : Expr → Option (Str × List Expr)
  | .Call (.Name x _) es [] _ => some (x, es)
  | _ => none
theorem asCall_eq {e : Expr} {x : Str} {es : List Expr} (h : asCall e = some (x, es)) : ∃ p q, e = .Call (.Name x p) es [] q := by
  unfold asCall at h
  split at h
  · cases h
    exact ⟨_, _, rfl⟩
  · cases h
/-- a method's call, without keywords, on one line -/
def asMeth : Expr → Option (Expr × Str × List Expr × Pos × Pos)
  | .Call (.Attribute o m p) es [] q => some (o, m, es, p, q)
  | _ => none
theorem asMeth_eq {e o : Expr} {m : Str} {es : List Expr} {p q : Pos} (h : asMeth e = some (o, m, es, p, q)) : e = .Call (.Attribute o m p) es [] q := by
  unfold asMeth at h
  split at h
  · cases h
    rfl
  · cases h
/-- a comprehension over one thing -/
def asComp : Expr → Option (Expr × Expr × Expr × List Expr × Scope)
  | .ListComp elt [⟨tg, it, ifs, 0⟩] sc _ => some (elt, tg, it, ifs, sc)
  | _ => none
theorem asComp_eq {e elt tg it : Expr} {ifs : List Expr} {sc : Scope} (h : asComp e = some (elt, tg, it, ifs, sc)) : ∃ p, e = .ListComp elt [⟨tg, it, ifs, 0⟩] sc p := by
  unfold asComp at h
  split at h
  · cases h
    exact ⟨_, rfl⟩
  · cases h
def asJs : Expr → Option (List Expr)
  | .JoinedStr es _ => some es
  | _ => none
theorem asJs_eq {e : Expr} {es : List Expr} (h : asJs e = some es) : ∃ p, e = .JoinedStr es p := by
  cases e <;> simp [asJs] at h
  subst h
  exact ⟨_, rfl⟩
def asFmt : Expr → Option Expr
  | .FormattedValue e (-1) none _ => some e
  | _ => none
theorem asFmt_eq {e a : Expr} (h : asFmt e = some a) : ∃ p, e = .FormattedValue a (-1) none p := by
  unfold asFmt at h
  split at h
  · cases h
    exact ⟨_, rfl⟩
  · cases h
/-- xs[::-1] -/
def asRev : Expr → Option Expr
  | .Subscript e (.Slice none none (some (.UnaryOp .USub (.Constant (.int 1) _ _) _)) _) _ => some e
  | _ => none
theorem asRev_eq {e a : Expr} (h : asRev e = some a) : ∃ k p1 p2 p3 p4, e = .Subscript a (.Slice none none (some (.UnaryOp .USub (.Constant (.int 1) k p1) p2)) p3) p4 := by
  unfold asRev at h
  split at h
  · cases h
    exact ⟨_, _, _, _, _, rfl⟩
  · cases h
/-! ### names -/
def visB (sc : Scope) (x : Str) : Bool := match sc.names.lookup x with
  | some .local => true
  | some .cell => true
  | some .free => true
  | _ => false
theorem vis_of {sc : Scope} {x : Str} (h : visB sc x = true) : Vis sc x := by
  unfold visB at h
  unfold Vis
  split at h <;> simp_all
def nmB (x : Str) : Bool := !(x == ("__debug__" : Str)) && !(x == ("__classdict__" : Str)) && !decide (x = "__name__")
theorem nm_of {x : Str} (h : nmB x = true) : (x == ("__debug__" : Str)) = false ∧ (x == ("__classdict__" : Str)) = false ∧ x ≠ "__name__" := by
  unfold nmB at h
  simp only [Bool.and_eq_true, Bool.not_eq_true', decide_eq_false_iff_not] at h
  exact ⟨h.1.1, h.1.2, h.2⟩
def glB (sc : Scope) (x : Str) : Bool := decide (sc.names.lookup x = some .globalImplicit)
theorem gl_of {X : Cx} {x : Str} (h : glB X.env.scope x = true) : Gl X x := by
  have h2 : X.env.scope.names.lookup x = some .globalImplicit := of_decide_eq_true h
  exact h2
end PV

set_option Elab.async false
set_option linter.all false
set_option maxRecDepth 100000
set_option maxHeartbeats 4000000
/-! PvB: readings by functions of data; expressions. -/
namespace PV
open PySem PySem.Spec PyProof.Rows L2

theorem imp {X : Cx} {e : Expr} {t t' : TE} (h : PE X e t) (m : ∀ σ H Q, t' σ H Q → t σ H Q) : PE X e t' := ⟨fun pins s σ H Q I q => h.run pins s σ H Q I (m σ H Q q)⟩
theorem impA {X : Cx} {e : List Expr} {t t' : TA} (h : PA X e t) (m : ∀ σ H Q, t' σ H Q → t σ H Q) : PA X e t' := ⟨fun pos pins s σ H Q I q => h.run pos pins s σ H Q I (m σ H Q q)⟩
theorem impT {X : Cx} {e : Expr} {t t' : TT} (h : PT X e t) (m : ∀ σ H Q, t' σ H Q → t σ H Q) : PT X e t' := ⟨fun pins s σ H Q I q => h.run pins s σ H Q I (m σ H Q q)⟩
theorem impS {X : Cx} {e : Stmt} {t t' : TS} (h : PS X e t) (m : ∀ D σ H, t' D σ H → t D σ H) : PS X e t' := ⟨fun pins s σ H D I q => h.run pins s σ H D I (m D σ H q)⟩
theorem impSs {X : Cx} {e : List Stmt} {t t' : TS} (h : PSs X e t) (m : ∀ D σ H, t' D σ H → t D σ H) : PSs X e t' := ⟨fun pins s σ H D I q => h.run pins s σ H D I (m D σ H q)⟩
theorem impI {X : Cx} {tg e : Expr} {t t' : TI} (h : PI X tg e t) (m : ∀ σ H Q, t' σ H Q → t σ H Q) : PI X tg e t' := ⟨fun pins s σ H Q I q => h.run pins s σ H Q I (m σ H Q q)⟩

/-- an exception as data: the class's name, what its one field holds -/
def Exn (c : Cf) (g : Gh) (H : Hp) (x : Str) (fl : Option D) (cls : Value) (dx : Option Addr) : Prop :=
  cls = .ref (c.xa x) ∧ match fl with
    | none => dx = none
    | some d => ∃ a v, dx = some a ∧ H a = some (HO.xd [(c.xf x, v)]) ∧ Rep c g H d v
abbrev RelT (α β : Type) := Hp → Gh → Hp → α → β → Prop
/-- what is wanted of a function's outcome -/
def Con (c : Cf) (W : WX) {α β : Type} (rel : RelT α β) (g : Gh) (H : Hp) (σ : L2.St) (Q : β → Hp → Prop) : Option (Out α × Store) → Prop
  | none => False
  | some (.ok a, S') => ∀ g' H' b, Ext g H g' H' → Good c g' S' H' → rel H g' H' a b → Q b H'
  | some (.exc x fl, S') => ∀ g' H' cls dx, Ext g H g' H' → Good c g' S' H' → Exn c g' H' x fl cls dx → W cls dx σ H'
structure St1 (c : Cf) (g : Gh) (ρ : Ev) (S : Store) (σ : L2.St) (H : Hp) : Prop where
  good : Good c g S H
  env : ∃ B, EnvRep c B g H ρ σ
def tX (c : Cf) (W : WX) {α β : Type} (rel : RelT α β) (f : Ev → Mm α) : L2.St → Hp → (β → Hp → Prop) → Prop := fun σ H Q => ∃ g ρ S, St1 c g ρ S σ H ∧ Con c W rel g H σ Q (f ρ S)
def relV (c : Cf) : RelT D V := fun _ g' H' d v => Rep c g' H' d v
def relA (c : Cf) : RelT (List D) (List V) := fun _ g' H' d v => Reps c g' H' d v
def relB : RelT Bool Bool := fun _ _ _ a b => a = b
def relO : RelT (Option Int) (Option Int) := fun _ _ _ a b => a = b
/-- a new list, nobody else's -/
def relL (c : Cf) : RelT (List D) V := fun H g' H' xs v => ∃ p vs, v = V.ref p ∧ H' p = some (HO.lst vs) ∧ Reps c g' H' xs vs ∧ NK (H p) ∧ ¬ g'.F p ∧ p ∉ g'.M ∧ vs.length ≤ sizeLine
def Weak {α β : Type} (rel : RelT α β) : Prop := ∀ g H g1 H1 g' H' a b, Ext g H g1 H1 → rel H1 g' H' a b → rel H g' H' a b
theorem wV {c : Cf} : Weak (relV c) := fun _ _ _ _ _ _ _ _ _ h => h
theorem wA {c : Cf} : Weak (relA c) := fun _ _ _ _ _ _ _ _ _ h => h
theorem wB : Weak relB := fun _ _ _ _ _ _ _ _ _ h => h
theorem wO : Weak relO := fun _ _ _ _ _ _ _ _ _ h => h
theorem wL {c : Cf} : Weak (relL c) := fun _ _ _ _ _ _ _ _ x h => by
  obtain ⟨p, vs, e, h1, h2, h3, h4⟩ := h
  exact ⟨p, vs, e, h1, h2, x.tr p h3, h4⟩
abbrev EvE (c : Cf) (W : WX) (X : Cx) (e : Expr) (f : Ev → Mm D) : Prop := PE X e (tX c W (relV c) f)
abbrev EvA (c : Cf) (W : WX) (X : Cx) (es : List Expr) (f : Ev → Mm (List D)) : Prop := PA X es (tX c W (relA c) f)
abbrev EvL (c : Cf) (W : WX) (X : Cx) (e : Expr) (f : Ev → Mm (List D)) : Prop := PE X e (tX c W (relL c) f)
abbrev EvT (c : Cf) (W : WX) (X : Cx) (e : Expr) (f : Ev → Mm Bool) : Prop := PT X e (tX c W relB f)
abbrev EvO (c : Cf) (W : WX) (X : Cx) (e : Option Expr) (f : Ev → Mm (Option Int)) : Prop := PO X e (tX c W relO f)

section
variable {c : Cf} {W : WX} {X : Cx} {g g1 : Gh} {ρ : Ev} {S : Store} {σ : L2.St} {H H1 : Hp}
theorem Con.weak {α β : Type} {rel : RelT α β} (w : Weak rel) {Q : β → Hp → Prop} (x : Ext g H g1 H1) : ∀ {r : Option (Out α × Store)}, Con c W rel g H σ Q r → Con c W rel g1 H1 σ Q r
  | none, h => h
  | some (.ok a, S'), h => fun g' H' b y G r => h g' H' b (x.trans y) G (w _ _ _ _ _ _ _ _ x r)
  | some (.exc n fl, S'), h => fun g' H' cls dx y G r => h g' H' cls dx (x.trans y) G r
/-- one step, then the rest -/
theorem step {α β γ δ : Type} {rel1 : RelT α γ} {rel2 : RelT β δ} {f : Ev → Mm α} {k : α → Mm β} {Q : δ → Hp → Prop} {R : γ → Hp → Prop} (w : Weak rel2) (st : St1 c g ρ S σ H) (h : Con c W rel2 g H σ Q (bnd (f ρ) k S))
    (nx : ∀ a S' g' H' b, St1 c g' ρ S' σ H' → Ext g H g' H' → rel1 H g' H' a b → Con c W rel2 g' H' σ Q (k a S') → R b H') : tX c W rel1 f σ H R := by
  refine ⟨g, ρ, S, st, ?_⟩
  unfold bnd at h
  cases e : f ρ S with
  | none =>
    rw [e] at h
    exact h
  | some p =>
    obtain ⟨o, S'⟩ := p
    rw [e] at h
    cases o with
    | ok a => exact fun g' H' b x G r => nx a S' g' H' b ⟨G, st.env.imp fun _ e => e.ext x⟩ x r (Con.weak w x h)
    | exc n fl => exact h
/-- .. told of the state ahead -/
theorem step0 {α β γ δ : Type} {rel1 : RelT α γ} {rel2 : RelT β δ} {f : Ev → Mm α} {k : α → Mm β} {Q : δ → Hp → Prop} {R : γ → Hp → Prop} (st : St1 c g ρ S σ H) (h : Con c W rel2 g H σ Q (bnd (f ρ) k S))
    (nx : ∀ a S' g' H' b, St1 c g' ρ S' σ H' → Ext g H g' H' → rel1 H g' H' a b → Con c W rel2 g H σ Q (k a S') → R b H') : tX c W rel1 f σ H R := by
  refine ⟨g, ρ, S, st, ?_⟩
  unfold bnd at h
  cases e : f ρ S with
  | none =>
    rw [e] at h
    exact h
  | some p =>
    obtain ⟨o, S'⟩ := p
    rw [e] at h
    cases o with
    | ok a => exact fun g' H' b x G r => nx a S' g' H' b ⟨G, st.env.imp fun _ e => e.ext x⟩ x r h
    | exc n fl => exact h
/-- the end of it -/
theorem fin {α β : Type} {rel : RelT α β} {o : Option α} {Q : β → Hp → Prop} (h : Con c W rel g H σ Q (opt o S)) : ∃ a, o = some a ∧ ∀ g' H' b, Ext g H g' H' → Good c g' S H' → rel H g' H' a b → Q b H' := by
  cases o with
  | none => exact h.elim
  | some a => exact ⟨a, rfl, h⟩
/-! ### the simplest -/
def getV (ρ : Ev) (i : Nat) : Option D := match ρ[i]? with
  | some (.val d) => some d
  | _ => none
theorem getV_eq {i : Nat} {d : D} (h : getV ρ i = some d) : ρ[i]? = some (.val d) := by
  unfold getV at h
  split at h
  · cases h
    assumption
  · cases h
theorem ev_var {i : Nat} {x : Str} {pos : Pos} (hN : X.N[i]? = some x) (hv : Vis X.env.scope x) (hn : nmB x = true) : EvE c W X (.Name x pos) (fun ρ => opt (getV ρ i)) := by
  obtain ⟨h1, h2, _⟩ := nm_of hn
  refine imp (pe_var (i := i) hN hv h1 h2) fun σ H Q h => ?_
  obtain ⟨g, ρ, S, st, h⟩ := h
  obtain ⟨d, e, h⟩ := fin h
  obtain ⟨B, er⟩ := st.env
  obtain ⟨o, e1, v, e2, r⟩ := er.at_ i _ (getV_eq e)
  subst e2
  exact ⟨v, e1, h g H v (.refl _ _) st.good r⟩
theorem ev_const {e : Expr} {d : D} {v : V} (hp : PE X e (tC v)) (r : ∀ g H, Rep c g H d v) : EvE c W X e (fun _ => ret d) := by
  refine imp hp fun σ H Q h => ?_
  obtain ⟨g, ρ, S, st, h⟩ := h
  exact h g H v (.refl _ _) st.good (r g H)
theorem ev_nil : EvA c W X [] (fun _ => ret []) := by
  refine impA pa_nil fun σ H Q h => ?_
  obtain ⟨g, ρ, S, st, h⟩ := h
  exact h g H [] (.refl _ _) st.good rfl
theorem ev_cons {e : Expr} {es : List Expr} {f : Ev → Mm D} {fs : Ev → Mm (List D)} (h1 : EvE c W X e f) (h2 : EvA c W X es fs) (hs : isStar e = false) : EvA c W X (e :: es) (fun ρ => bnd (f ρ) fun d => bnd (fs ρ) fun ds => ret (d :: ds)) := by
  refine impA (pa_cons h1 h2 (star_cons hs)) fun σ H Q h => ?_
  obtain ⟨g, ρ, S, st, h⟩ := h
  refine step wA st h fun d S1 g1 H1 v st1 x1 r1 h => ?_
  refine step wA st1 h fun ds S2 g2 H2 vs st2 x2 r2 h => ?_
  exact h g2 H2 (v :: vs) (.refl _ _) st2.good ⟨v, vs, rfl, Rep.ext x2.fx d v r1, r2⟩
/-! ### operators by values -/
def OpOk (c : Cf) (r : R2) (f : D → D → Option D) : Prop := ∀ (g : Gh) (S : Store) (H : Hp) (x y d : D) (u v : V) (Q : VK), Good c g S H → Rep c g H x u → Rep c g H y v → f x y = some d →
  (∀ g' H' w, Ext g H g' H' → Good c g' S H' → Rep c g' H' d w → Q w H') → r u v H Q
theorem OpOk.or {r r' : R2} {f f' : D → D → Option D} (h : OpOk c r f) (h' : OpOk c r' f') : OpOk c (fun x y H Q => r x y H Q ∨ r' x y H Q) (fun x y => (f x y).or (f' x y)) := fun g S H x y d u v Q G ru rv e k => by
  have e : (f x y).or (f' x y) = some d := e
  cases q : f x y with
  | none =>
    rw [q] at e
    exact .inr (h' g S H x y d u v Q G ru rv e k)
  | some d' =>
    rw [q] at e
    exact .inl (h g S H x y d u v Q G ru rv (q.trans e) k)
theorem ev_op2 {e a b : Expr} {r : R2} {f1 f2 : Ev → Mm D} {f : D → D → Option D} (hp : PE X a (tX c W (relV c) f1) → PE X b (tX c W (relV c) f2) → PE X e (tOp r (tX c W (relV c) f1) (tX c W (relV c) f2))) (ok : OpOk c r f) (h1 : EvE c W X a f1) (h2 : EvE c W X b f2) :
    EvE c W X e (fun ρ => bnd (f1 ρ) fun x => bnd (f2 ρ) fun y => opt (f x y)) := by
  refine imp (hp h1 h2) fun σ H Q h => ?_
  obtain ⟨g, ρ, S, st, h⟩ := h
  refine step wV st h fun x S1 g1 H1 u st1 x1 r1 h => ?_
  refine step wV st1 h fun y S2 g2 H2 v st2 x2 r2 h => ?_
  obtain ⟨d, e, h⟩ := fin h
  exact ok g2 S2 H2 x y d u v Q st2.good (Rep.ext x2.fx x u r1) r2 e h
theorem ev_bin {op : Operator} {a b : Expr} {pos : Pos} {r : R2} {f1 f2 : Ev → Mm D} {f : D → D → Option D} (ho : OpR X (binaryOp op) r) (ok : OpOk c r f) (h1 : EvE c W X a f1) (h2 : EvE c W X b f2) :
    EvE c W X (.BinOp a op b pos) (fun ρ => bnd (f1 ρ) fun x => bnd (f2 ρ) fun y => opt (f x y)) := ev_op2 (fun p q => pe_op ho p q) ok h1 h2
theorem ev_cmp {op : CmpOp} {a b : Expr} {pos : Pos} {r : R2} {f1 f2 : Ev → Mm D} {f : D → D → Option D} (ho : OpR X (compareOp op) r) (hm : isSet b = false) (ok : OpOk c r f) (h1 : EvE c W X a f1) (h2 : EvE c W X b f2) :
    EvE c W X (.Compare a [op] [b] pos) (fun ρ => bnd (f1 ρ) fun x => bnd (f2 ρ) fun y => opt (f x y)) := ev_op2 (fun p q => pe_cmpR ho p q (inMarks hm)) ok h1 h2
def isB : D → Option Bool
  | .bl b => some b
  | _ => none
/-- a test by its value -/
theorem ev_testT {e : Expr} {te : TE} {f : Ev → Mm D} (ht : PT X e (tTest te)) (hi : ∀ σ H Q, tX c W (relV c) f σ H Q → te σ H Q) : EvT c W X e (fun ρ => bnd (f ρ) fun d => opt (isB d)) := by
  refine impT ht fun σ H Q h => ?_
  obtain ⟨g, ρ, S, st, h⟩ := h
  refine hi σ H _ ?_
  refine step wB st h fun d S1 g1 H1 v st1 x1 r1 h => ?_
  obtain ⟨b, e, h⟩ := fin h
  cases d <;> simp [isB] at e
  subst e
  exact ⟨_, r1, h g1 H1 _ (.refl _ _) st1.good rfl⟩
theorem ev_plainT {e : Expr} {f : Ev → Mm D} (h : EvE c W X e f) (hp : isTest e = false) : EvT c W X e (fun ρ => bnd (f ρ) fun d => opt (isB d)) :=
  ev_testT (te := tX c W (relV c) f) (pt_val h (plainT hp)) fun _ _ _ h => h
theorem ev_cmpT {op : CmpOp} {a b : Expr} {pos : Pos} {r : R2} {f1 f2 : Ev → Mm D} {f : D → D → Option D} (ho : OpR X (compareOp op) r) (hm : isSet b = false) (ok : OpOk c r f) (h1 : EvE c W X a f1) (h2 : EvE c W X b f2) :
    EvT c W X (.Compare a [op] [b] pos) (fun ρ => bnd (bnd (f1 ρ) fun x => bnd (f2 ρ) fun y => opt (f x y)) fun d => opt (isB d)) := by
  refine ev_testT (pt_cmpR ho h1 h2 (inMarks hm)) fun σ H Q h => ?_
  obtain ⟨g, ρ, S, st, h⟩ := h
  refine step wV st h fun x S1 g1 H1 u st1 x1 r1 h => ?_
  refine step wV st1 h fun y S2 g2 H2 v st2 x2 r2 h => ?_
  obtain ⟨d, e, h⟩ := fin h
  exact ok g2 S2 H2 x y d u v Q st2.good (Rep.ext x2.fx x u r1) r2 e h
/-! ### and, or, not, if -/
theorem ev_not {a : Expr} {pos : Pos} {f : Ev → Mm D} (h : EvE c W X a f) : EvE c W X (.UnaryOp .Not a pos) (fun ρ => bnd (f ρ) fun d => opt ((isB d).map fun b => .bl (!b))) := by
  refine imp (pe_not h) fun σ H Q h => ?_
  obtain ⟨g, ρ, S, st, h⟩ := h
  refine step wV st h fun d S1 g1 H1 v st1 x1 r1 h => ?_
  obtain ⟨b, e, h⟩ := fin h
  cases d <;> simp [isB] at e
  subst e
  exact ⟨_, r1, h g1 H1 _ (.refl _ _) st1.good rfl⟩
theorem ev_notT {a : Expr} {pos : Pos} {f : Ev → Mm Bool} (h : EvT c W X a f) : EvT c W X (.UnaryOp .Not a pos) (fun ρ => bnd (f ρ) fun b => ret (!b)) := by
  refine impT (pt_not h) fun σ H Q h => ?_
  obtain ⟨g, ρ, S, st, h⟩ := h
  refine step wB st h fun b S1 g1 H1 v st1 x1 r1 h => ?_
  cases r1
  exact h g1 H1 _ (.refl _ _) st1.good rfl
theorem ev_one {op : BoolOp} {a : Expr} {pos : Pos} {f : Ev → Mm D} (h : EvE c W X a f) : EvE c W X (.BoolOp op [a] pos) f := pe_one h
theorem ev_and {a b : Expr} {rest : List Expr} {pos : Pos} {f1 f2 : Ev → Mm D} (h1 : EvE c W X a f1) (h2 : EvE c W X (.BoolOp .And (b :: rest) pos) f2) :
    EvE c W X (.BoolOp .And (a :: b :: rest) pos) (fun ρ => bnd (f1 ρ) fun d => bnd (opt (isB d)) fun q => if q = true then f2 ρ else ret (.bl false)) := by
  refine imp (pe_and h1 h2) fun σ H Q h => ?_
  obtain ⟨g, ρ, S, st, h⟩ := h
  refine step wV st h fun d S1 g1 H1 v st1 x1 r1 h => ?_
  cases d with
  | bl q =>
    refine ⟨q, r1, ?_⟩
    cases q with
    | true =>
      rw [if_pos rfl]
      exact ⟨g1, ρ, S1, st1, h⟩
    | false =>
      rw [if_neg Bool.false_ne_true]
      exact h g1 H1 _ (.refl _ _) st1.good rfl
  | _ => exact h.elim
theorem ev_or {a b : Expr} {rest : List Expr} {pos : Pos} {f1 f2 : Ev → Mm D} (h1 : EvE c W X a f1) (h2 : EvE c W X (.BoolOp .Or (b :: rest) pos) f2) :
    EvE c W X (.BoolOp .Or (a :: b :: rest) pos) (fun ρ => bnd (f1 ρ) fun d => bnd (opt (isB d)) fun q => if q = true then ret (.bl true) else f2 ρ) := by
  refine imp (pe_or h1 h2) fun σ H Q h => ?_
  obtain ⟨g, ρ, S, st, h⟩ := h
  refine step wV st h fun d S1 g1 H1 v st1 x1 r1 h => ?_
  cases d with
  | bl q =>
    refine ⟨q, r1, ?_⟩
    cases q with
    | true =>
      rw [if_pos rfl]
      exact h g1 H1 _ (.refl _ _) st1.good rfl
    | false =>
      rw [if_neg Bool.false_ne_true]
      exact ⟨g1, ρ, S1, st1, h⟩
  | _ => exact h.elim
abbrev EvW (c : Cf) (W : WX) (X : Cx) (e : Expr) (f : Ev → Mm Bool) : Prop := PW X e (tX c W relB f)
theorem impW {X : Cx} {e : Expr} {t t' : TT} (h : PW X e t) (m : ∀ σ H Q, t' σ H Q → t σ H Q) : PW X e t' := ⟨fun wh pins s σ H Q I q => h.run wh pins s σ H Q I (m σ H Q q)⟩
theorem ev_oneW {op : BoolOp} {a : Expr} {pos : Pos} {f : Ev → Mm Bool} (h : EvT c W X a f) : EvW c W X (.BoolOp op [a] pos) f := by
  cases op with
  | And => exact pw_and1 h
  | Or => exact pw_or1 h
theorem ev_andW {a b : Expr} {rest : List Expr} {pos : Pos} {f1 f2 : Ev → Mm Bool} (h1 : EvT c W X a f1) (h2 : EvW c W X (.BoolOp .And (b :: rest) pos) f2) :
    EvW c W X (.BoolOp .And (a :: b :: rest) pos) (fun ρ => bnd (f1 ρ) fun q => if q = true then f2 ρ else ret false) := by
  refine impW (pw_and h1 h2) fun σ H Q h => ?_
  obtain ⟨g, ρ, S, st, h⟩ := h
  refine step wB st h fun q S1 g1 H1 v st1 x1 r1 h => ?_
  cases r1
  cases q with
  | true =>
    rw [if_pos rfl]
    exact ⟨g1, ρ, S1, st1, h⟩
  | false =>
    rw [if_neg Bool.false_ne_true]
    exact h g1 H1 _ (.refl _ _) st1.good rfl
theorem ev_orW {a b : Expr} {rest : List Expr} {pos : Pos} {f1 f2 : Ev → Mm Bool} (h1 : EvT c W X a f1) (h2 : EvW c W X (.BoolOp .Or (b :: rest) pos) f2) :
    EvW c W X (.BoolOp .Or (a :: b :: rest) pos) (fun ρ => bnd (f1 ρ) fun q => if q = true then ret true else f2 ρ) := by
  refine impW (pw_or h1 h2) fun σ H Q h => ?_
  obtain ⟨g, ρ, S, st, h⟩ := h
  refine step wB st h fun q S1 g1 H1 v st1 x1 r1 h => ?_
  cases r1
  cases q with
  | true =>
    rw [if_pos rfl]
    exact h g1 H1 _ (.refl _ _) st1.good rfl
  | false =>
    rw [if_neg Bool.false_ne_true]
    exact ⟨g1, ρ, S1, st1, h⟩
theorem ev_if {t a b : Expr} {pos : Pos} {ft : Ev → Mm Bool} {f1 f2 : Ev → Mm D} (ht : EvT c W X t ft) (h1 : EvE c W X a f1) (h2 : EvE c W X b f2) :
    EvE c W X (.IfExp t a b pos) (fun ρ => bnd (ft ρ) fun q => if q = true then f1 ρ else f2 ρ) := by
  refine imp (pe_ifExp ht h1 h2) fun σ H Q h => ?_
  obtain ⟨g, ρ, S, st, h⟩ := h
  refine step wV st h fun q S1 g1 H1 v st1 x1 r1 h => ?_
  cases r1
  cases q with
  | true =>
    rw [if_pos rfl]
    exact ⟨g1, ρ, S1, st1, h⟩
  | false =>
    rw [if_neg Bool.false_ne_true]
    exact ⟨g1, ρ, S1, st1, h⟩
/-- .. where both are new lists -/
theorem ev_ifL {t a b : Expr} {pos : Pos} {ft : Ev → Mm Bool} {f1 f2 : Ev → Mm (List D)} (ht : EvT c W X t ft) (h1 : EvL c W X a f1) (h2 : EvL c W X b f2) :
    EvL c W X (.IfExp t a b pos) (fun ρ => bnd (ft ρ) fun q => if q = true then f1 ρ else f2 ρ) := by
  refine imp (pe_ifExp ht h1 h2) fun σ H Q h => ?_
  obtain ⟨g, ρ, S, st, h⟩ := h
  refine step wL st h fun q S1 g1 H1 v st1 x1 r1 h => ?_
  cases r1
  cases q with
  | true =>
    rw [if_pos rfl]
    exact ⟨g1, ρ, S1, st1, h⟩
  | false =>
    rw [if_neg Bool.false_ne_true]
    exact ⟨g1, ρ, S1, st1, h⟩
/-! ### displays -/
theorem ev_tup {es : List Expr} {k : Nat} {pos : Pos} {fs : Ev → Mm (List D)} (h : EvA c W X es fs) : EvE c W X (.Tuple es k pos) (fun ρ => bnd (fs ρ) fun ds => opt (if ds.length ≤ sizeLine then some (.tup ds) else none)) := by
  refine imp (pe_tup h) fun σ H Q h => ?_
  obtain ⟨g, ρ, S, st, h⟩ := h
  refine step wV st h fun ds S1 g1 H1 vs st1 x1 r1 h => ?_
  obtain ⟨d, e, h⟩ := fin h
  split at e
  · rename_i hl
    cases e
    refine ⟨by rw [← Reps.len r1]; exact hl, fun p hp => ?_⟩
    obtain ⟨x, G⟩ := st1.good.new (o := .tup vs) hp
    exact h _ _ _ x G ⟨p, vs, rfl, .inl ⟨.inr rfl, upd_same, by rw [← Reps.len r1]; exact hl⟩, Reps.ext x.fx ds vs r1⟩
  · cases e
theorem newL (G : Good c g S H) {p : Addr} {ds : List D} {vs : List V} (hp : H p = none) (r : Reps c g H ds vs) (hl : ds.length ≤ sizeLine) : Ext g H g (upd H p (.lst vs)) ∧ Good c g S (upd H p (.lst vs)) ∧ relL c H g (upd H p (.lst vs)) ds (V.ref p) := by
  obtain ⟨x, G'⟩ := G.new0 (o := .lst vs) hp
  exact ⟨x, G', p, vs, rfl, upd_same, Reps.ext x.fx ds vs r, .of hp, fun z => G.tr p z (.of hp), fun z => G.mem z hp, by rw [← r.len]; exact hl⟩
theorem ev_dsp {es : List Expr} {pos : Pos} {fs : Ev → Mm (List D)} (h : EvA c W X es fs) : EvL c W X (.List es pos) (fun ρ => bnd (fs ρ) fun ds => opt (if ds.length ≤ sizeLine then some ds else none)) := by
  refine imp (pe_lst h) fun σ H Q h => ?_
  obtain ⟨g, ρ, S, st, h⟩ := h
  refine step wL st h fun ds S1 g1 H1 vs st1 x1 r1 h => ?_
  obtain ⟨d, e, h⟩ := fin h
  split at e
  · rename_i hl
    cases e
    refine ⟨by rw [← Reps.len r1]; exact hl, fun p hp => ?_⟩
    obtain ⟨x, G, r⟩ := newL st1.good hp r1 hl
    exact h _ _ _ x G r
  · cases e
/-- a new list, read from now on -/
theorem ev_frz {e : Expr} {f : Ev → Mm (List D)} (h : EvL c W X e f) : EvE c W X e (fun ρ => bnd (f ρ) fun ds => ret (.lst ds)) := by
  refine imp h fun σ H Q h => ?_
  obtain ⟨g, ρ, S, st, h⟩ := h
  refine step0 st h fun ds S1 g1 H1 v st1 x1 r1 h => ?_
  obtain ⟨p, vs, rfl, h1, h2, h3, h4, h5, h6⟩ := r1
  have hn : ¬ NK (H1 p) := by
    rw [h1]
    exact fun z => z
  have x2 : FExt g1 H1 (g1.fz p) H1 := ⟨fun a ha => ⟨.inl ha, rfl⟩, List.prefix_refl _⟩
  refine h (g1.fz p) H1 (V.ref p) ⟨x1.fx.trans x2, x1.keep, fun a ha => ?_, x1.nM, x1.tr⟩ (st1.good.fix hn h5) ⟨p, vs, rfl, .inl ⟨.inr rfl, .inl h1, h6⟩, Reps.ext x2 ds vs h2⟩
  rcases ha with ha | ha
  · exact x1.nF a ha
  · exact .inr (ha ▸ h3)
end
end PV

set_option Elab.async false
set_option linter.all false
set_option maxRecDepth 100000
set_option maxHeartbeats 4000000
/-! PvR: further rules of the machine: t + u with an empty left, lists + of any kind, whole slices of tuples, sum of a tuple, enumerate of a tuple, len(set(t)). -/
namespace PV
open PySem PySem.Spec PyProof.Rows L2
section
variable {prog : Program} {w : World} {A : Around} {E : Value → Shared → Prop} {s : Shared}
theorem cat_tup0 {t b : Addr} {ws : List Value} {Q : Value → Shared → Prop} (ht : IsTup s.heap t #[]) (hb : IsTup s.heap b ws.toArray) (h1 : Q (.ref b) s) : wpAny (model prog w) A (binaryOp .Add (.ref t) (.ref b)) Q E s := by
  obtain ⟨⟨cls, dd, data, sl⟩, ho, hc, n, hd⟩ := id ht
  obtain ⟨⟨cls2, dd2, data2, sl2⟩, ho2, hc2, n2, hd2⟩ := id hb
  simp only at hc hd hc2 hd2
  subst hc hd hc2 hd2
  exact concat_meets ⟨_, ho, rfl⟩ ⟨_, ho2, rfl⟩ noFill_tuple_add seq_tuple_add PySem.F.slot_tuple_add PySem.F.entry_tuple_add (PySem.F.args_tuple_add_2 _ _)
      (tuple_addW0 t b #[] ws.toArray n n2 dd dd2 sl sl2 rfl) ⟨ho, ho2, h1⟩
theorem getItem_tuple_whole {t sl : Addr} {items : Array Value} {vl vu : Value} {lo hi : Option Int} {Q : Value → Shared → Prop} (ht : IsTup s.heap t items) (hs : s.heap.IsSliceOf sl vl vu .none) (pl : IsPart vl lo) (pu : IsPart vu hi)
    (hw : HT.sIx items.size 0 lo = 0 ∧ HT.sIx items.size items.size hi = items.size)
    (h : Q (.ref t) s) : wpAny (model prog w) A (getItem (.ref t) (.ref sl)) Q E s := by
  obtain ⟨os, hos, hcs, hds⟩ := id hs
  have hTs : s.TypeIs (.ref sl) "slice" := ⟨os, hos, hcs⟩
  unfold getItem
  try with_reducible refine wpAny_holding ?_
  first | refine wpAny_bind (wpAny_pure ?_) | skip
  refine wpAny_bind (wpAny_sequenceKey ht.typeIs (by decide) ?_)
  refine wpAny_bind (wpAny_callSpecial?_slot (name := Str.ofString "__getitem__") ht.typeIs PyProof.Rows.slot_tuple_getitem
    (wpAny_call_entry PyProof.Rows.slot_tuple_getitem ht.typeIs PyProof.Rows.entry_tuple_getitem ?_ (PyProof.Rows.args_tuple_getitem _ _)))
  show wpAny _ _ (Builtin.Tuple.tupleItemsOf (.ref t) >>= _) _ _ s
  refine wpAny_bind (tupleItemsOf_ ht ?_)
  refine wpAny_bind (wpAny_typeOf hTs ?_)
  rw [if_pos (by decide)]
  refine wpAny_bind (HT.sliceApplied_gen hs pl pu ?_)
  have hyes : ((((HT.sIx items.size 0 lo : Nat) : Int) == 0 && (1 : Int) == 1 && (HT.sIx items.size items.size hi - HT.sIx items.size 0 lo) == items.size) = true) := by
    rw [hw.1, hw.2]
    simp
  show wpAny _ _ (if (((HT.sIx items.size 0 lo : Nat) : Int) == 0 && (1 : Int) == 1 && (HT.sIx items.size items.size hi - HT.sIx items.size 0 lo) == items.size) = true then _ else _) _ _ s
  rw [if_pos hyes]
  refine wpAny_bind ?_
  unfold Builtin.Tuple.tupleIsExact
  refine wpAny_bind (wpAny_typeOf ht.typeIs ?_)
  refine wpAny_pure ?_
  rw [if_pos (by decide)]
  exact wpAny_bind (wpAny_rule (wpAny_pure ⟨_, rfl, wpAny_pure h⟩))
end

section
variable {X : Cx}
/-- t + u of tuples -/
def rCatT2 (K : PySem.W.Frag) : R2 := fun x y H Q => ∃ a b xs ys, x = .ref a ∧ y = .ref b ∧ SqT K H a xs ∧ SqT K H b ys ∧ xs.length + ys.length ≤ sizeLine ∧
  (xs = [] → Q (.ref b) H) ∧ (xs ≠ [] → ys = [] → Q (.ref a) H) ∧ (xs ≠ [] → ys ≠ [] → ∀ p, H p = none → Q (.ref p) (upd H p (.tup (xs ++ ys))))
theorem op_catT2 : OpR X (binaryOp .Add) (rCatT2 X.K) := by
  intro pins s σ H x y v u Q I rx ry h
  obtain ⟨a, b, xs, ys, rfl, rfl, ha, hb, hz, q0, q1, q2⟩ := h
  by_cases hx : xs = []
  · subst hx
    cases rx
    cases ry
    obtain ⟨its, r1, p1, _⟩ := I.tuple ha
    obtain ⟨its2, r2, p2, _⟩ := I.tuple hb
    have e : its = [] := r1.nil_iff.mpr rfl
    subst e
    exact cat_tup0 p1 p2 ⟨.ref b, H, I, rfl, q0 rfl⟩
  · exact op_catT pins s σ H _ _ v u Q I rx ry ⟨a, b, xs, ys, rfl, rfl, ha, hb, hx, hz, fun e => q1 hx e, fun e => q2 hx e⟩
/-- xs + ys of lists, whatever they are held by -/
def rCatL (K : PySem.W.Frag) : R2 := fun x y H Q => ∃ l b xs zs, x = .ref l ∧ y = .ref b ∧ SqL K H l xs ∧ SqL K H b zs ∧ xs.length + zs.length ≤ sizeLine ∧ ∀ p, H p = none → Q (.ref p) (upd H p (.lst (xs ++ zs)))
theorem op_catL : OpR X (binaryOp .Add) (rCatL X.K) := by
  intro pins s σ H x y v u Q I rx ry h
  obtain ⟨l, b, xs, zs, rfl, rfl, hH, hB, hz, q⟩ := h
  cases rx
  cases ry
  obtain ⟨its, r, ⟨o, n, e, hc, hd, hs⟩, z⟩ := I.list hH
  obtain ⟨its2, r2, ⟨o2, n2, e2, hc2, hd2, hs2⟩, z2⟩ := I.list hB
  obtain ⟨oc, od, dt, sl⟩ := o
  obtain ⟨oc2, od2, dt2, sl2⟩ := o2
  simp only at hc hd hs hc2 hd2 hs2
  subst hc hd hs hc2 hd2 hs2
  have h1 := r.length
  have h2 := r2.length
  refine concat_meets ⟨_, e, rfl⟩ ⟨_, e2, rfl⟩ noFill_list_add seq_list_add PySem.F.slot_list_add PySem.F.entry_list_add (PySem.F.args_list_add_2 _ _)
      (list_addW l b its.toArray its2.toArray n n2 none none sl sl2 (by rw [List.size_toArray, List.size_toArray]; omega)) ⟨e, e2, ?_⟩
  have ea : its.toArray ++ its2.toArray = (its ++ its2).toArray := by simp
  rw [ea]
  exact ⟨.ref _, _, I.lnew (t' := s.toks) (r.append r2) (by rw [List.length_append]; omega), rfl, q _ I.fresh⟩
/-- t[lo:hi] of a tuple -/
def rSlT2 (K : PySem.W.Frag) : V → Option Int → Option Int → Hp → VK → Prop := fun x lo hi H Q => ∃ a xs, x = .ref a ∧ SqT K H a xs ∧
  ((HT.sIx xs.length 0 lo = 0 ∧ HT.sIx xs.length xs.length hi = xs.length) → Q (.ref a) H) ∧ (¬ (HT.sIx xs.length 0 lo = 0 ∧ HT.sIx xs.length xs.length hi = xs.length) → ∀ p, H p = none → Q (.ref p) (upd H p (.tup (cutV xs lo hi))))
theorem sl_tup2 : SlR X (rSlT2 X.K) := by
  intro pins s σ H x v vl vu lo hi sl Q I rx hs pl pu h
  obtain ⟨a, xs, rfl, hx, q1, q2⟩ := h
  by_cases hw : HT.sIx xs.length 0 lo = 0 ∧ HT.sIx xs.length xs.length hi = xs.length
  · cases rx
    obtain ⟨its, r, ht, hz⟩ := I.tuple hx
    have hlen : its.toArray.size = xs.length := by rw [List.size_toArray]; exact r.length.symm
    refine ⟨"tuple", _, PyProof.Rows.slot_tuple_getitem.lookup, ht.typeIs, ?_⟩
    exact getItem_tuple_whole ht hs pl pu (by rw [hlen]; exact hw) ⟨.ref a, H, I, rfl, q1 hw⟩
  · exact sl_tup pins s σ H _ v vl vu lo hi sl Q I rx hs pl pu ⟨a, xs, rfl, hx, hw, q2 hw⟩
/-- sum of a tuple of ints -/
def rSumT (K : PySem.W.Frag) : List V → Hp → VK → Prop := fun vs H Q => ∃ (a : Addr) (ns : List Int), vs = [V.ref a] ∧ SqT K H a (ns.map V.int) ∧ Q (.int ns.sum) H
theorem cr_sumT (hc : X.calm = true) : CallR X (.builtin "sum") (rSumT X.K) := by
  intro pins s σ H xs us Q I r h
  obtain ⟨a, ns, rfl, ha, q⟩ := h
  have e := Vals.ref1 r
  subst e
  obtain ⟨its, rv, ht, hz⟩ := I.tuple ha
  have hi := Vals.ints rv
  obtain ⟨ys, ey⟩ := hi.allInts.items
  have hn : numsOf (intItems ys).toList = ns := by rw [← ey]; exact hi.numsOf
  rw [nums_intItems] at hn
  have hh := I.ok.hd hc
  have hT : s.heap.IsTuple a (intItems ys) := by rw [← ey]; exact ht
  refine PySem.call_sum_walkG (wpAny_pyIter_tuple hT ?_)
  refine ⟨_, _, _, _, _, _, numAt ys, rfl, Walks.tuple (A := X.A.in1) hh s.heap.objs.size a (Nat.ne_of_lt (by obtain ⟨o, ho, _⟩ := hT; exact Heap.lt_size ho)) (intItems ys),
    ⟨⟨_, Heap.get?_push_size _ rfl, rfl, rfl⟩, hT.at fun o e => Heap.get?_push_of_some _ e⟩, ?_, fun i v hv => intItems_at hv, fun h' tk t' hk => ?_⟩
  · intro b hb
    have e' : b = s.heap.objs.size ∨ b = a := by simpa using hb
    rw [Heap.size_push]
    rcases e' with z | z
    · rw [z]; exact Nat.lt_succ_self _
    · rw [z]; obtain ⟨o, ho, _⟩ := hT; exact Nat.lt_succ_of_lt (Heap.lt_size ho)
  · have e1 : preSum (numAt ys) (intItems ys).size = ns.sum := by
      rw [show (intItems ys).size = ys.size by simp [intItems], preSum_eq, List.take_of_length_le (by simp), hn]
    rw [e1]
    have hk2 : ∀ b o, s.heap.get? b = some o → h'.get? b = some o := fun b o e => hk b o (by simp; intro z; rw [z] at e; exact absurd (Heap.lt_size e) (Nat.lt_irrefl _)) (Heap.get?_push_of_some _ e)
    exact ⟨.int ns.sum, H, I.kept (t' := tk) hk2, ⟨_, rfl⟩, q⟩
end

/-! ### enumerate(tuple) -/
theorem meets_enumerate_newT (l : Addr) (items : Array Value) :
    Meets (Builtin.«enumerate.__new__» ⟨[.type "enumerate", .ref l], []⟩) (fun _ R s => s.heap.IsTuple l items ∧
      R (.ok (.ret (.ref (s.heap.push { cls := .type "tuple_iterator", data := .fields #[.ref l, .int 0 0] }).objs.size)))
        { s with heap := (s.heap.push { cls := .type "tuple_iterator", data := .fields #[.ref l, .int 0 0] }).push { cls := .type "enumerate", data := .fields #[.none, .bool false, .ref s.heap.objs.size, rawInt 0, .none, .none] } }) :=
  .of_wp fun prog w A R s h => by
    obtain ⟨hp, g, d, tk, os⟩ := s; obtain ⟨hL, h⟩ := h
    have hsub := sub_enumerate
    have hL : Heap.IsTuple (Shared.heap ⟨hp, g, d, tk, os⟩) l items := hL
    wp_walk using wpAny_pyIter_tuple hL
    refine wpAny_stack_any fun st => wpAny_pure ?_
    split
    · rename_i c _ _ _ _ _
      cases (c == Value.type "enumerate")
      · wp_walk using wpAny_pyIter_tuple hL
        exact ⟨_, rfl, h⟩
      · wp_walk using wpAny_pyIter_tuple hL
        exact ⟨_, rfl, h⟩
    · wp_walk using wpAny_pyIter_tuple hL
      exact ⟨_, rfl, h⟩
section
variable {prog : Program} {w : World} {A : Around} {E : Value → Shared → Prop} {s : Shared}
theorem call_enumerate_tup {l : Addr} {items : Array Value} {Q : Value → Shared → Prop} (hL : s.heap.IsTuple l items)
    (h : ∀ h', IsEnum h' (s.heap.objs.size + 1) s.heap.objs.size 0 .none → h'.IsTupleIter s.heap.objs.size l 0 → h'.objs.size = s.heap.objs.size + 2 →
      (∀ b o, s.heap.get? b = some o → h'.get? b = some o) → Q (.ref (s.heap.objs.size + 1)) { s with heap := h' }) :
    wpAny (model prog w) A (call (.type "enumerate") [.ref l]) Q E s := by
  refine callType_new F.called_enumerate (by decide) (F.typeCall_enumerate_1 _) (F.newCall_enumerate_1 _) (fun obj => F.args_object_init_2 obj _) F.entry_enumerate_new
    (meets_enumerate_newT l items) ⟨hL, ?_⟩
  have hz : (s.heap.push { cls := .type "tuple_iterator", data := .fields #[.ref l, .int 0 0] }).objs.size = s.heap.objs.size + 1 := Heap.size_push ..
  show _ ∧ _
  rw [hz]
  have he : IsEnum ((s.heap.push { cls := .type "tuple_iterator", data := .fields #[.ref l, .int 0 0] }).push
      { cls := .type "enumerate", data := .fields #[.none, .bool false, .ref s.heap.objs.size, rawInt 0, .none, .none] }) (s.heap.objs.size + 1) s.heap.objs.size 0 .none := by
    have := Heap.get?_push_size (s.heap.push { cls := .type "tuple_iterator", data := .fields #[.ref l, .int 0 0] })
      (o := { cls := .type "enumerate", data := .fields #[.none, .bool false, .ref s.heap.objs.size, rawInt 0, .none, .none] }) rfl
    rw [hz] at this
    exact this
  refine ⟨⟨_, he, rfl⟩, h _ he ⟨_, Heap.get?_push_of_some _ (Heap.get?_push_size _ rfl), rfl, rfl⟩ (by rw [Heap.size_push, hz]) fun b o x => Heap.get?_push_of_some _ (Heap.get?_push_of_some _ x)⟩
end
def IteT (K : PySem.W.Frag) (a : Addr) : It :=
  ⟨fun i H => ∃ (xs : List V) (x : V), SqT K H a xs ∧ xs[i]? = some x, fun i H v H' => ∃ T x, v = .ref T ∧ H T = none ∧ H' = upd H T (.tup [.int (i : Nat), x]) ∧ ∀ xs, SqT K H a xs → xs[i]? = some x, fun i H => ∃ xs : List V, SqT K H a xs ∧ xs.length = i⟩
theorem walk_enumT {K : PySem.W.Frag} {a : Addr} {xs : List V} : Walk (IteT K a) xs.length (fun H => SqT K H a xs) (YPair (fun i => some (.int (i : Nat))) (fun i => xs[i]?)) := by
  refine ⟨fun i _ hi q => ⟨xs, xs[i], q, by simp [hi]⟩, fun _ q => ⟨xs, q, rfl⟩, fun i H v H' _ q y => ?_⟩
  obtain ⟨T, x, h1, h2, h3, h4⟩ := y
  exact ⟨T, .int (i : Nat), x, h1, h2, h3, rfl, h4 xs q⟩
theorem turn_enumT {P : Program} {w : World} {K : PySem.W.Frag} {elts : List Expr} {kk : Nat} {tpos : Pos} (a e it : Addr) :
    Turn P w K (.Tuple elts kk tpos) (IteT K a) [e, it] e (fun i h => (∃ old, IsEnum h e it ((i : Nat) : Int) old) ∧ h.IsTupleIter it a i ∧ e ≠ it) where
  mem := by simp
  obj := fun i h st b hb => by
    obtain ⟨⟨old, he⟩, ⟨o, ho, hc, hd⟩, _⟩ := st
    have e' : b = e ∨ b = it := by simpa using hb
    rcases e' with z | z
    · rw [z]; exact ⟨_, he, fun v q => nomatch q⟩
    · rw [z]; exact ⟨o, ho, fun v q => by rw [hd] at q; cases q⟩
  keep := fun i h h' st k => let ⟨⟨old, he⟩, hi, hne⟩ := st; ⟨⟨old, k e (by simp) _ he⟩, hi.at fun o q => k it (by simp) o q, hne⟩
  item := by
    intro X hP hw hK hc i pins s σ H E I hf st hg
    subst hP hw hK
    obtain ⟨⟨old, he⟩, hit, hne⟩ := st
    obtain ⟨xs, x, hq, hx⟩ := hg
    obtain ⟨its, rv, p, hz⟩ := I.tuple hq
    obtain ⟨u, hu, ru⟩ := rv.get hx
    have hel : e < s.heap.objs.size := Heap.lt_size he
    have hil : it < s.heap.objs.size := by obtain ⟨_, q, _⟩ := hit; exact Heap.lt_size q
    have hIT : s.heap.IsTuple a its.toArray := p
    have hne_it : a ≠ it := fun z => by
      obtain ⟨o1, q1, c1, _⟩ := hit
      obtain ⟨o2, q2, c2, _⟩ := hIT
      rw [z, q1] at q2
      cases q2
      rw [c1] at c2
      exact absurd c2 (by decide)
    have hne_e : e ∉ [it, a] := fun z => by
      have z' : e = it ∨ e = a := by simpa using z
      rcases z' with z' | z'
      · exact hne z'
      · obtain ⟨o2, q2, c2, _⟩ := hIT
        rw [← z', he] at q2
        cases q2
        exact absurd (show Value.type "enumerate" = Value.type "tuple" from c2) (by decide)
    have hit' : i < its.toArray.size := by
      have := (List.getElem?_eq_some_iff.mp hu).1
      simpa using this
    refine wpAny_pyNext_enum_itemD (Draws.tuple (A := X.A.in1) (I.ok.hd hc) it a hne_it its.toArray) he ⟨hit, hIT⟩ hit' hne hne_e fun x' h' tk hP ho hst hT hsz hk => ?_
    have ex : x' = u := by
      have hP : its.toArray[i]? = some x' := hP
      rw [List.getElem?_toArray, hu] at hP
      exact (Option.some.inj hP).symm
    subst ex
    refine ⟨_, rfl, wpAny_letOwnedTupleGo_enum (s := { s with heap := h', toks := tk + 1 }) ho fun h'' he' sb => ?_⟩
    have hT2 : h''.get? s.heap.objs.size = some { cls := .type "tuple", data := .seq #[.int i tk, x'] } := (sb.2 _ (Nat.ne_of_gt hel)).trans hT
    have new : ObjOk X.prog X.w (upd H s.heap.objs.size (.tup [.int (i : Nat), x])) h'' s.heap.objs.size (.tup [.int (i : Nat), x]) :=
      ⟨by show 2 ≤ sizeLine; decide, [.int i tk, x'], .cons ⟨_, rfl⟩ (.cons ru .nil), ⟨_, hT2, rfl, _, rfl⟩⟩
    have I1 : Inv X pins σ (upd H s.heap.objs.size (.tup [.int (i : Nat), x])) { s with heap := h'', toks := tk + 1 } :=
      I.turnedNew (ch := [e, it]) (fun b ob hb q => (sb.2 b (fun z => hb (by simp [z]))).trans (hk b ob (fun z => hb (by simp [z])) (fun z => hb (by simp [z])) q)) hf (Nat.le_refl _) new
    refine ⟨.ref s.heap.objs.size, _, I1, rfl, ⟨_, x, rfl, I.hok.fresh (Nat.le_refl _), rfl, fun ys hy => by rw [I.tuple_inj hy hq]; exact hx⟩, ⟨⟨x', ?_⟩, hst.1.at fun o q => (sb.2 it (Ne.symm hne)).trans q, hne⟩, fun b hb => ?_⟩
    · have e1 : ((i + 1 : Nat) : Int) = (i : Int) + 1 := by omega
      rw [e1]; exact he'
    · have hb' : b < s.heap.objs.size := by
        have e' : b = e ∨ b = it := by simpa using hb
        rcases e' with z | z
        · rw [z]; exact hel
        · rw [z]; exact hil
      rw [upd_ne (Nat.ne_of_lt hb')]
      exact (hf b hb).1
  done := by
    intro X hP hw hK hc i pins s σ H E I hf st hg
    subst hP hw hK
    obtain ⟨⟨old, he⟩, hit, hne⟩ := st
    obtain ⟨xs, hq, hx⟩ := hg
    obtain ⟨its, rv, p, hz⟩ := I.tuple hq
    obtain ⟨f0, f1, f2, f3, f4, f5⟩ := hf it (by simp)
    have hIT : s.heap.IsTuple a its.toArray := p
    have hne_it : a ≠ it := fun z => by
      obtain ⟨o1, q1, c1, _⟩ := hit
      obtain ⟨o2, q2, c2, _⟩ := hIT
      rw [z, q1] at q2
      cases q2
      rw [c1] at c2
      exact absurd c2 (by decide)
    have hl := rv.length
    have hn : its.toArray.size = i := by rw [List.size_toArray, ← hl, hx]
    refine wpAny_pyNext_enum_endD (Draws.tuple (A := X.A.in1) (I.ok.hd hc) it a hne_it its.toArray) he (by rw [hn]; exact ⟨hit, hIT⟩) fun h' eb => ⟨rfl, I.turned (t' := s.toks) (fun b o hb q => eb b o hb q) f0 f1 f3 f4 f5⟩
  self := fun A i s Q E st h => let ⟨⟨_, he⟩, _⟩ := st; wpAny_pyIter_enum he h
def iEnumT (K : PySem.W.Frag) (ta : TA) : TI := fun σ H R => ta σ H fun vs H1 => ∃ a xs, vs = [.ref a] ∧ ((SqL K H1 a xs ∧ R (Ite K a) H1) ∨ (SqT K H1 a xs ∧ R (IteT K a) H1))
theorem pi_enumT {X : Cx} {e : Expr} {ta : TA} {p pos tpos : Pos} {elts : List Expr} {kk : Nat} (hg : Gl X "enumerate") (hm : X.mg "enumerate" = none) (ha : PA X [e] ta) (hs : starEach [e] X.env = [(false, eval e X.env)]) :
    PI X (.Tuple elts kk tpos) (.Call (.Name "enumerate" p) [e] [] pos) (iEnumT X.K ta) := by
  refine ⟨fun pins s σ H R I h => ?_⟩
  refine Call_ (ld_blt I hg hm boot_enumerate (PyProof.Rows.callWith_type1 (thn (ha.run pos pins s σ H _ I h) fun us s1 ⟨vs, H1, I1, r1, q1⟩ => ?_) hs rfl))
  obtain ⟨a, xs, ex, q⟩ := q1
  subst ex
  cases r1 with
  | cons r rr =>
    cases rr
    cases r
    rcases q with ⟨hq, q⟩ | ⟨hq, q⟩
    · obtain ⟨its, rv, p', hz⟩ := I1.list hq
      refine call_enumerate_list p'.isList fun h' he hit hsz hk => wpAny_pyIter_enum he ?_
      have I2 : Inv X pins σ H1 { s1 with heap := h' } := I1.kept (t' := s1.toks) hk
      refine ⟨s1.heap.objs.size + 1, [s1.heap.objs.size + 1, s1.heap.objs.size], _, _, H1, rfl, I2, turn_enum a (s1.heap.objs.size + 1) s1.heap.objs.size, ⟨⟨.none, he⟩, hit, Nat.succ_ne_self _⟩, fun b hb => ?_, q⟩
      have e' : b = s1.heap.objs.size + 1 ∨ b = s1.heap.objs.size := by simpa using hb
      have hle : s1.heap.objs.size ≤ b := by
        rcases e' with z | z
        · rw [z]; exact Nat.le_add_right _ _
        · rw [z]; exact Nat.le_refl _
      exact I1.fpOk hle (I1.hok.fresh hle)
    · obtain ⟨its, rv, p', hz⟩ := I1.tuple hq
      refine call_enumerate_tup (show s1.heap.IsTuple a its.toArray from p') fun h' he hit hsz hk => wpAny_pyIter_enum he ?_
      have I2 : Inv X pins σ H1 { s1 with heap := h' } := I1.kept (t' := s1.toks) hk
      refine ⟨s1.heap.objs.size + 1, [s1.heap.objs.size + 1, s1.heap.objs.size], _, _, H1, rfl, I2, turn_enumT a (s1.heap.objs.size + 1) s1.heap.objs.size, ⟨⟨.none, he⟩, hit, Nat.succ_ne_self _⟩, fun b hb => ?_, q⟩
      have e' : b = s1.heap.objs.size + 1 ∨ b = s1.heap.objs.size := by simpa using hb
      have hle : s1.heap.objs.size ≤ b := by
        rcases e' with z | z
        · rw [z]; exact Nat.le_add_right _ _
        · rw [z]; exact Nat.le_refl _
      exact I1.fpOk hle (I1.hok.fresh hle)
/-! ### len(set(t)), t a tuple of ints -/
/-- each once -/
def dist : List Int → List Int
  | [] => []
  | x :: xs => if x ∈ xs then dist xs else x :: dist xs
theorem mem_dist {k : Int} : ∀ {l : List Int}, k ∈ dist l ↔ k ∈ l
  | [] => Iff.rfl
  | x :: xs => by
    unfold dist
    split
    · rename_i h
      rw [mem_dist, List.mem_cons]
      exact ⟨.inr, fun z => z.elim (fun e => e ▸ h) id⟩
    · rw [List.mem_cons, List.mem_cons, mem_dist]
theorem nodup_dist : ∀ l : List Int, (dist l).Nodup
  | [] => List.nodup_nil
  | x :: xs => by
    unfold dist
    split
    · exact nodup_dist xs
    · rename_i h
      exact List.nodup_cons.mpr ⟨fun z => h (mem_dist.mp z), nodup_dist xs⟩
theorem dist_len {l : List Int} : (dist l).length = l.length ↔ l.Nodup := by
  induction l with
  | nil => exact ⟨fun _ => List.nodup_nil, fun _ => rfl⟩
  | cons x xs ih =>
    have hle : ∀ l : List Int, (dist l).length ≤ l.length := fun l => by
      induction l with
      | nil => exact Nat.le_refl _
      | cons y ys ih2 =>
        unfold dist
        split
        · exact Nat.le_succ_of_le ih2
        · exact Nat.succ_le_succ ih2
    unfold dist
    split
    · rename_i h
      constructor
      · intro e
        have := hle xs
        rw [e, List.length_cons] at this
        omega
      · intro e
        exact absurd h (List.nodup_cons.mp e).1
    · rename_i h
      rw [List.length_cons, List.length_cons, List.nodup_cons]
      constructor
      · intro e
        exact ⟨h, ih.mp (by omega)⟩
      · intro e
        rw [ih.mpr e.2]
theorem nodup_len {l m : List Int} (hl : l.Nodup) (hm : m.Nodup) (h : ∀ k, k ∈ l ↔ k ∈ m) : l.length = m.length :=
  Nat.le_antisymm (List.Nodup.length_le_of_subset hl fun k hk => (h k).mp hk) (List.Nodup.length_le_of_subset hm fun k hk => (h k).mpr hk)
def tLenSetT (K : PySem.W.Frag) (ta : TE) : TE := fun σ H Q => ta σ H fun x H1 => ∃ (l : Addr) (ns : List Int), x = .ref l ∧ SqT K H1 l (ns.map V.int) ∧ ns.length ≤ 4000 ∧ Q (.int ((dist ns).length : Nat)) H1
theorem pe_lenSetT {X : Cx} {a : Expr} {ta : TE} {p p2 q pos : Pos} (hg : Gl X "len") (hm : X.mg "len" = none) (hg2 : Gl X "set") (hm2 : X.mg "set" = none) (ha : PE X a ta) (hc : X.calm = true)
    (na : starEach [a] X.env = (false, eval a X.env) :: starEach [] X.env) : PE X (.Call (.Name "len" p) [.Call (.Name "set" p2) [a] [] q] [] pos) (tLenSetT X.K ta) := by
  refine ⟨fun pins s σ H Q I h => ?_⟩
  refine Call_ (ld_blt I hg hm boot_len ?_)
  refine PyProof.Rows.callWith_builtin1 (PyProof.Rows.args_cons ?_ rfl) rfl rfl
  refine Call_ (ld_blt I hg2 hm2 boot_set ?_)
  refine PyProof.Rows.callWith_type1 (PyProof.Rows.args_cons (thn (ha.run pins s σ H _ I h) fun v s1 ⟨x, H1, I1, r1, q1⟩ => PyProof.Rows.args_nil ?_) na) na rfl
  obtain ⟨l, ns, rfl, hq, hl, q1⟩ := q1
  cases r1
  obtain ⟨its, r, pl, hz⟩ := I1.tuple hq
  refine call_set_tupI ns (I1.ok.hd hc) (show s1.heap.IsTuple l its.toArray from pl) (by simpa using Vals.ints r) (by unfold scanBound; omega) fun h' tk c hS hc' hk => ?_
  refine PyProof.Rows.args_nil ?_
  obtain ⟨o, es, ep, t, ho, hex, hd, _, hnd, hmem, _, hf, hn, _⟩ := hS
  have I2 : Inv X pins σ H1 { s1 with heap := h', toks := tk } := I1.kept hk
  have en : es.size = (dist ns).length := by
    have e1 : (es.toList.map L2.keyOf).length = (dist ns).length := nodup_len hnd (nodup_dist ns) fun k => by
      rw [← hmem k, mem_dist]
      simp
    simpa using e1
  exact call_len_set ho hex hd hf (by rw [hn] <;> omega) ⟨.int ((dist ns).length : Nat), H1, I2.tok _, ⟨_, by rw [en]⟩, q1⟩
end PV

set_option Elab.async false
set_option linter.all false
set_option maxRecDepth 100000
set_option maxHeartbeats 4000000
/-! PvC: the operators, the built-ins, lists, comprehensions, by data. -/
namespace PV
open PySem PySem.Spec PyProof.Rows L2

/-! ### arithmetic -/
def addD : D → D → Option D
  | .int i, .int j => some (.int (i + j))
  | .str a, .str b => if a.length + b.length ≤ sizeLine then some (.str (a ++ b)) else none
  | .tup a, .tup b => if a.length + b.length ≤ sizeLine then some (.tup (a ++ b)) else none
  | _, _ => none
def subD : D → D → Option D
  | .int i, .int j => some (.int (i - j))
  | _, _ => none
def small64 (i : Int) : Bool := decide (-(2 ^ 64) < i ∧ i < 2 ^ 64)
def mulD : D → D → Option D
  | .int i, .int j => if small64 i || small64 j then some (.int (i * j)) else none
  | _, _ => none
def fdivD : D → D → Option D
  | .int i, .int j => if j ≠ 0 ∧ j.natAbs < 1073741824 then some (.int (i.fdiv j)) else none
  | _, _ => none
def modD : D → D → Option D
  | .int i, .int j => if j ≠ 0 then some (.int (i.fmod j)) else none
  | _, _ => none
def powD : D → D → Option D
  | .int i, .int j => if 0 ≤ j ∧ j ≤ 1000000 ∧ i.natAbs < 2 ^ 64 then some (.int (i ^ j.toNat)) else none
  | _, _ => none
section
variable {c : Cf} {g : Gh} {S : Store} {H : Hp} {X : Cx}
theorem repS (G : Good c g S H) {d : D} {v : V} {Q : VK} (k : ∀ g' H' w, Ext g H g' H' → Good c g' S H' → Rep c g' H' d w → Q w H') (r : Rep c g H d v) : Q v H := k g H v (.refl _ _) G r
/-- a new tuple -/
theorem newT (G : Good c g S H) {ds : List D} {vs : List V} (r : Reps c g H ds vs) (hl : ds.length ≤ sizeLine) {Q : VK} (k : ∀ g' H' w, Ext g H g' H' → Good c g' S H' → Rep c g' H' (.tup ds) w → Q w H') : ∀ p, H p = none → Q (.ref p) (upd H p (.tup vs)) := fun p hp => by
  obtain ⟨x, G'⟩ := G.new (o := .tup vs) hp
  exact k _ _ _ x G' ⟨p, vs, rfl, .inl ⟨.inr rfl, upd_same, by rw [← r.len]; exact hl⟩, Reps.ext x.fx ds vs r⟩
theorem op_addA : OpR X (binaryOp .Add) (fun x y H Q => (rI0 (fun i j => .int (i + j)) x y H Q ∨ ∃ i j, x = .str i ∧ y = .str j ∧ i.length + j.length ≤ sizeLine ∧ Q (.str (i ++ j)) H) ∨ rCatT2 X.K x y H Q) := (op_add.or op_add_str).or op_catT2
theorem ok_add (hK : X.K = c.K) : OpOk c (fun x y H Q => (rI0 (fun i j => .int (i + j)) x y H Q ∨ ∃ i j, x = .str i ∧ y = .str j ∧ i.length + j.length ≤ sizeLine ∧ Q (.str (i ++ j)) H) ∨ rCatT2 X.K x y H Q) addD := by
  intro g S H x y d u v Q G ru rv e k
  cases x <;> cases y <;> simp only [addD] at e <;> try cases e
  · cases ru
    cases rv
    exact .inl (.inl ⟨_, _, rfl, rfl, repS G k rfl⟩)
  · split at e <;> cases e
    cases ru
    cases rv
    exact .inl (.inr ⟨_, _, rfl, rfl, by assumption, repS G k rfl⟩)
  · split at e <;> cases e
    rename_i hl
    obtain ⟨a, vs, rfl, ha, ra⟩ := ru
    obtain ⟨b, ws, rfl, hb, rb⟩ := rv
    refine .inr ⟨a, b, vs, ws, rfl, rfl, hK ▸ ha.sq, hK ▸ hb.sq, by rw [← ra.len, ← rb.len]; exact hl, fun z => ?_, fun z1 z => ?_, fun _ _ => newT G (ra.app rb) (by rw [List.length_append]; exact hl) k⟩
    · subst z
      have ez := ra.len
      rw [List.length_nil] at ez
      have ez := List.length_eq_zero_iff.mp ez
      subst ez
      exact repS G k ⟨b, ws, rfl, hb, rb⟩
    · subst z
      have ez := rb.len
      rw [List.length_nil] at ez
      have ez := List.length_eq_zero_iff.mp ez
      subst ez
      rw [List.append_nil] at k
      exact repS G k ⟨a, vs, rfl, ha, ra⟩
theorem ok_I {C : Int → Int → Prop} {h : Int → Int → Int} {f : D → D → Option D} (hf : ∀ x y d, f x y = some d → ∃ i j, x = .int i ∧ y = .int j ∧ C i j ∧ d = .int (h i j)) : OpOk c (rI C fun i j => .int (h i j)) f := by
  intro g S H x y d u v Q G ru rv e k
  obtain ⟨i, j, rfl, rfl, hc, rfl⟩ := hf x y d e
  cases ru
  cases rv
  exact ⟨i, j, rfl, rfl, hc, repS G k rfl⟩
theorem ok_I0 {h : Int → Int → Int} {f : D → D → Option D} (hf : ∀ x y d, f x y = some d → ∃ i j, x = .int i ∧ y = .int j ∧ d = .int (h i j)) : OpOk c (rI0 fun i j => .int (h i j)) f := by
  intro g S H x y d u v Q G ru rv e k
  obtain ⟨i, j, rfl, rfl, rfl⟩ := hf x y d e
  cases ru
  cases rv
  exact ⟨i, j, rfl, rfl, repS G k rfl⟩
theorem ok_B0 {h : Int → Int → Bool} {f : D → D → Option D} (hf : ∀ x y d, f x y = some d → ∃ i j, x = .int i ∧ y = .int j ∧ d = .bl (h i j)) : OpOk c (rI0 fun i j => .bl (h i j)) f := by
  intro g S H x y d u v Q G ru rv e k
  obtain ⟨i, j, rfl, rfl, rfl⟩ := hf x y d e
  cases ru
  cases rv
  exact ⟨i, j, rfl, rfl, repS G k rfl⟩
theorem ok_sub : OpOk c (rI0 fun i j => .int (i - j)) subD := ok_I0 fun x y d e => by
  cases x <;> cases y <;> simp only [subD] at e <;> try cases e
  exact ⟨_, _, rfl, rfl, rfl⟩
theorem ok_mul : OpOk c (rI CMul fun i j => .int (i * j)) mulD := ok_I fun x y d e => by
  cases x <;> cases y <;> simp only [mulD] at e <;> try cases e
  split at e <;> cases e
  rename_i h
  refine ⟨_, _, rfl, rfl, ?_, rfl⟩
  rw [Bool.or_eq_true] at h
  rcases h with h | h
  · exact .inl (of_decide_eq_true h)
  · exact .inr (of_decide_eq_true h)
theorem ok_fdiv : OpOk c (rI CDivN fun i j => .int (i.fdiv j)) fdivD := ok_I fun x y d e => by
  cases x <;> cases y <;> simp only [fdivD] at e <;> try cases e
  split at e <;> cases e
  exact ⟨_, _, rfl, rfl, by assumption, rfl⟩
theorem ok_mod : OpOk c (rI (fun _ j => j ≠ 0) fun i j => .int (i.fmod j)) modD := ok_I fun x y d e => by
  cases x <;> cases y <;> simp only [modD] at e <;> try cases e
  split at e <;> cases e
  exact ⟨_, _, rfl, rfl, by assumption, rfl⟩
theorem ok_pow : OpOk c (rI CPow fun i j => .int (i ^ j.toNat)) powD := ok_I fun x y d e => by
  cases x <;> cases y <;> simp only [powD] at e <;> try cases e
  split at e <;> cases e
  exact ⟨_, _, rfl, rfl, by assumption, rfl⟩
/-! ### comparisons -/
def ordD (h : Int → Int → Bool) : D → D → Option D
  | .int i, .int j => some (.bl (h i j))
  | _, _ => none
theorem ok_ord {h : Int → Int → Bool} : OpOk c (rI0 fun i j => .bl (h i j)) (ordD h) := ok_B0 fun x y d e => by
  cases x <;> cases y <;> simp only [ordD] at e <;> try cases e
  exact ⟨_, _, rfl, rfl, rfl⟩
def isNon : D → Bool
  | .non => true
  | _ => false
theorem rep_non {d : D} {v : V} (r : Rep c g H d v) : decide (v = V.non) = isNon d := by
  cases d with
  | non => cases r; rfl
  | bl _ => cases r; rfl
  | int _ => cases r; rfl
  | str _ => cases r; rfl
  | tup _ => obtain ⟨a, vs, rfl, _⟩ := r; rfl
  | lst _ => obtain ⟨a, vs, rfl, _⟩ := r; rfl
  | obj _ => obtain ⟨a, _, rfl⟩ := r; rfl
  | fn _ => cases r; rfl
  | exn _ => cases r; rfl
def isND (n : Bool) : D → D → Option D
  | x, .non => some (.bl (if n then !isNon x else isNon x))
  | .bl a, .bl b => some (.bl (if n then !decide (a = b) else decide (a = b)))
  | _, _ => none
theorem ok_isN : OpOk c (fun x y H Q => (y = .non ∧ Q (.bl (decide (x = .non))) H) ∨ rIsB x y H Q) (isND false) := by
  intro g S H x y d u v Q G ru rv e k
  cases y with
  | non =>
    cases e
    cases rv
    refine .inl ⟨rfl, ?_⟩
    rw [rep_non ru]
    exact repS G k rfl
  | bl b =>
    cases x with
    | bl a =>
      cases e
      cases ru
      cases rv
      exact .inr ⟨a, b, rfl, rfl, repS G k rfl⟩
    | _ => cases e
  | _ => cases x <;> cases e
theorem ok_notN : OpOk c (fun x y H Q => (y = .non ∧ Q (.bl (!decide (x = .non))) H) ∨ rNotB x y H Q) (isND true) := by
  intro g S H x y d u v Q G ru rv e k
  cases y with
  | non =>
    cases e
    cases rv
    refine .inl ⟨rfl, ?_⟩
    rw [rep_non ru]
    exact repS G k rfl
  | bl b =>
    cases x with
    | bl a =>
      cases e
      cases ru
      cases rv
      exact .inr ⟨a, b, rfl, rfl, repS G k rfl⟩
    | _ => cases e
  | _ => cases x <;> cases e
mutual
def toPy : D → Option PyData
  | .non => some .none
  | .bl b => some (.bool b)
  | .int i => some (.int i)
  | .str s => some (.str s)
  | .tup xs => (toPys xs).map .tuple
  | .lst xs => (toPys xs).map .list
  | .obj _ => none
  | .fn _ => none
  | .exn _ => none
def toPys : List D → Option (List PyData)
  | [] => some []
  | x :: xs => match toPy x, toPys xs with
    | some d, some ds => some (d :: ds)
    | _, _ => none
end
mutual
theorem rep_dp : ∀ (d : D) (p : PyData) (v : V), toPy d = some p → Rep c g H d v → Dp c.K H v p
  | .non, p, v, e, r => by cases e; cases r; exact .non
  | .bl b, p, v, e, r => by cases e; cases r; exact .bl b
  | .int b, p, v, e, r => by cases e; cases r; exact .int b
  | .str b, p, v, e, r => by cases e; cases r; exact .str b
  | .tup xs, p, v, e, r => by
    unfold toPy at e
    cases q : toPys xs with
    | none => rw [q] at e; cases e
    | some ds =>
      rw [q] at e
      cases e
      obtain ⟨a, vs, rfl, ha, ra⟩ := r
      exact .tup ha.sq (reps_dp xs ds vs q ra)
  | .lst xs, p, v, e, r => by
    unfold toPy at e
    cases q : toPys xs with
    | none => rw [q] at e; cases e
    | some ds =>
      rw [q] at e
      cases e
      obtain ⟨a, vs, rfl, ha, ra⟩ := r
      exact .lst ha.sq (reps_dp xs ds vs q ra)
  | .obj _, p, v, e, r => by cases e
  | .fn _, p, v, e, r => by cases e
theorem reps_dp : ∀ (xs : List D) (ps : List PyData) (vs : List V), toPys xs = some ps → Reps c g H xs vs → DpAll c.K H vs ps
  | [], ps, vs, e, r => by
    cases e
    have z : vs = [] := r
    subst z
    exact .nil
  | x :: xs, ps, vs, e, r => by
    unfold toPys at e
    obtain ⟨v, ws, rfl, r1, r2⟩ := r
    cases q1 : toPy x with
    | none => rw [q1] at e; cases e
    | some d =>
      cases q2 : toPys xs with
      | none => rw [q1, q2] at e; cases e
      | some ds =>
        rw [q1, q2] at e
        cases e
        exact .cons (rep_dp x d v q1 r1) (reps_dp xs ds ws q2 r2)
end
/-- == -/
def deq (x y : D) : Option Bool := match toPy x, toPy y with
  | some d, some e => if SeqAt.shaped d && SeqAt.shaped e then some (PyData.eqv d e) else none
  | _, _ => none
def eqD (n : Bool) (x y : D) : Option D := (deq x y).map fun b => .bl (if n then !b else b)
theorem deq_eq {x y : D} {b : Bool} (h : deq x y = some b) : ∃ d e, toPy x = some d ∧ toPy y = some e ∧ SeqAt.shaped d = true ∧ SeqAt.shaped e = true ∧ PyData.eqv d e = b := by
  unfold deq at h
  split at h
  · split at h
    · rename_i d e h1 h2 h3
      rw [Bool.and_eq_true] at h3
      cases h
      exact ⟨_, _, h1, h2, h3.1, h3.2, rfl⟩
    · cases h
  · cases h
theorem ok_eq (hK : X.K = c.K) : OpOk c (rEqD X.K) (eqD false) := by
  intro g S H x y d u v Q G ru rv e k
  unfold eqD at e
  cases q : deq x y with
  | none => rw [q] at e; cases e
  | some b =>
    rw [q] at e
    cases e
    obtain ⟨p, r, h1, h2, h3, h4, h5⟩ := deq_eq q
    exact ⟨p, r, hK ▸ rep_dp x p u h1 ru, hK ▸ rep_dp y r v h2 rv, h3, h4, h5 ▸ repS G k rfl⟩
theorem ok_ne (hK : X.K = c.K) : OpOk c (rNeD X.K) (eqD true) := by
  intro g S H x y d u v Q G ru rv e k
  unfold eqD at e
  cases q : deq x y with
  | none => rw [q] at e; cases e
  | some b =>
    rw [q] at e
    cases e
    obtain ⟨p, r, h1, h2, h3, h4, h5⟩ := deq_eq q
    exact ⟨p, r, hK ▸ rep_dp x p u h1 ru, hK ▸ rep_dp y r v h2 rv, h3, h4, h5 ▸ repS G k rfl⟩
/-! ### in -/
def flatD : D → Bool
  | .non => true
  | .bl _ => true
  | .int _ => true
  | .str _ => true
  | _ => false
def eqF : D → D → Bool
  | .non, .non => true
  | .bl a, .bl b => a == b
  | .bl a, .int b => (if a then 1 else 0) == b
  | .int a, .bl b => a == (if b then 1 else 0)
  | .int a, .int b => a == b
  | .str a, .str b => a == b
  | _, _ => false
theorem rep_flat {x : D} {u : V} (f : flatD x = true) (r : Rep c g H x u) : flatV u = true := by
  cases x <;> simp [flatD] at f <;> (cases r; rfl)
theorem rep_eqF {x y : D} {u v : V} (f : flatD x = true) (h : flatD y = true) (r : Rep c g H x u) (q : Rep c g H y v) : eqV u v = eqF x y := by
  cases x <;> simp [flatD] at f <;> cases y <;> simp [flatD] at h <;> (cases r; cases q; rfl)
theorem reps_flat : ∀ {xs : List D} {us : List V}, xs.all flatD = true → Reps c g H xs us → us.all flatV = true
  | [], _, _, r => by
    have z : _ = [] := r
    rw [z]
    rfl
  | x :: xs, _, f, r => by
    obtain ⟨v, ws, rfl, r1, r2⟩ := r
    rw [List.all_cons, Bool.and_eq_true] at f
    rw [List.all_cons, rep_flat f.1 r1, reps_flat f.2 r2]
    rfl
theorem reps_in {x : D} {u : V} (fx : flatD x = true) (rx : Rep c g H x u) : ∀ {xs : List D} {us : List V}, xs.all flatD = true → Reps c g H xs us → inV u us = xs.any fun y => eqF y x
  | [], _, _, r => by
    have z : _ = [] := r
    rw [z]
    rfl
  | y :: xs, _, f, r => by
    obtain ⟨v, ws, rfl, r1, r2⟩ := r
    rw [List.all_cons, Bool.and_eq_true] at f
    have ih := reps_in fx rx f.2 r2
    unfold inV at ih ⊢
    rw [List.any_cons, List.any_cons, ih, rep_eqF f.1 fx r1 rx]
def inStr (i j : Str) : Bool := !(Builtin.Str.occurrences j i 0 j.length 1).isEmpty
def inB : D → D → Option Bool
  | .str i, .str j => some (inStr i j)
  | x, .tup ys => if flatD x && ys.all flatD then some (ys.any fun y => eqF y x) else none
  | x, .lst ys => if flatD x && ys.all flatD then some (ys.any fun y => eqF y x) else none
  | _, _ => none
def inD (n : Bool) (x y : D) : Option D := (inB x y).map fun b => .bl (if n then !b else b)
theorem inB_cases {x y : D} {b : Bool} (h : inB x y = some b) : (∃ i j, x = .str i ∧ y = .str j ∧ b = inStr i j) ∨ (∃ ys, (y = .tup ys ∨ y = .lst ys) ∧ flatD x = true ∧ ys.all flatD = true ∧ b = ys.any fun y => eqF y x) := by
  cases y with
  | str j =>
    cases x <;> simp [inB] at h
    exact .inl ⟨_, _, rfl, rfl, h.symm⟩
  | tup ys =>
    have h : (if flatD x && ys.all flatD then some (ys.any fun y => eqF y x) else none) = some b := by
      cases x <;> exact h
    split at h
    · rename_i hh
      rw [Bool.and_eq_true] at hh
      cases h
      exact .inr ⟨ys, .inl rfl, hh.1, hh.2, rfl⟩
    · cases h
  | lst ys =>
    have h : (if flatD x && ys.all flatD then some (ys.any fun y => eqF y x) else none) = some b := by
      cases x <;> exact h
    split at h
    · rename_i hh
      rw [Bool.and_eq_true] at hh
      cases h
      exact .inr ⟨ys, .inr rfl, hh.1, hh.2, rfl⟩
    · cases h
  | _ => cases x <;> cases h
theorem ok_in (hK : X.K = c.K) : OpOk c (fun x y H Q => rIn X.K false x y H Q ∨ ∃ i j, x = .str i ∧ y = .str j ∧ Q (.bl (!(Builtin.Str.occurrences j i 0 j.length 1).isEmpty)) H) (inD false) := by
  intro g S H x y d u v Q G ru rv e k
  unfold inD at e
  cases q : inB x y with
  | none => rw [q] at e; cases e
  | some b =>
    rw [q] at e
    cases e
    rcases inB_cases q with ⟨i, j, rfl, rfl, rfl⟩ | ⟨ys, hy, fx, fy, rfl⟩
    · cases ru
      cases rv
      exact .inr ⟨i, j, rfl, rfl, repS G k rfl⟩
    · have : ∃ p ws, v = .ref p ∧ (SqL X.K H p ws ∨ SqT X.K H p ws) ∧ Reps c g H ys ws := by
        rcases hy with rfl | rfl
        · obtain ⟨a, ws, e, ha, ra⟩ := rv
          exact ⟨a, ws, e, .inr (hK ▸ ha.sq), ra⟩
        · obtain ⟨a, ws, e, ha, ra⟩ := rv
          exact ⟨a, ws, e, .inl (hK ▸ ha.sq), ra⟩
      obtain ⟨p, ws, e, h1, h2⟩ := this
      refine .inl ⟨p, ws, e, h1, rep_flat fx ru, reps_flat fy h2, ?_⟩
      rw [reps_in fx ru fy h2]
      exact repS G k rfl
theorem ok_nin (hK : X.K = c.K) : OpOk c (fun x y H Q => rIn X.K true x y H Q ∨ ∃ i j, x = .str i ∧ y = .str j ∧ Q (.bl (!(!(Builtin.Str.occurrences j i 0 j.length 1).isEmpty))) H) (inD true) := by
  intro g S H x y d u v Q G ru rv e k
  unfold inD at e
  cases q : inB x y with
  | none => rw [q] at e; cases e
  | some b =>
    rw [q] at e
    cases e
    rcases inB_cases q with ⟨i, j, rfl, rfl, rfl⟩ | ⟨ys, hy, fx, fy, rfl⟩
    · cases ru
      cases rv
      exact .inr ⟨i, j, rfl, rfl, repS G k rfl⟩
    · have : ∃ p ws, v = .ref p ∧ (SqL X.K H p ws ∨ SqT X.K H p ws) ∧ Reps c g H ys ws := by
        rcases hy with rfl | rfl
        · obtain ⟨a, ws, e, ha, ra⟩ := rv
          exact ⟨a, ws, e, .inr (hK ▸ ha.sq), ra⟩
        · obtain ⟨a, ws, e, ha, ra⟩ := rv
          exact ⟨a, ws, e, .inl (hK ▸ ha.sq), ra⟩
      obtain ⟨p, ws, e, h1, h2⟩ := this
      refine .inl ⟨p, ws, e, h1, rep_flat fx ru, reps_flat fy h2, ?_⟩
      rw [reps_in fx ru fy h2]
      exact repS G k rfl
end
end PV

set_option Elab.async false
set_option linter.all false
set_option maxRecDepth 100000
set_option maxHeartbeats 4000000
/-! PvD: subscripts, slices, built-ins, texts, new lists. -/
namespace PV
open PySem PySem.Spec PyProof.Rows L2

/-- reads the store -/
def rd {α : Type} (k : Store → Option α) : Mm α := fun S => match k S with
  | none => none
  | some a => some (.ok a, S)
section
variable {c : Cf} {W : WX} {X : Cx} {g g1 : Gh} {ρ : Ev} {S : Store} {σ : L2.St} {H H1 : Hp}
theorem finR {α β : Type} {rel : RelT α β} {k : Store → Option α} {Q : β → Hp → Prop} (h : Con c W rel g H σ Q (rd k S)) : ∃ a, k S = some a ∧ ∀ g' H' b, Ext g H g' H' → Good c g' S H' → rel H g' H' a b → Q b H' := by
  unfold rd at h
  cases e : k S with
  | none => rw [e] at h; exact h.elim
  | some a => rw [e] at h; exact ⟨a, rfl, h⟩
def idxD (S : Store) : D → D → Option D
  | .tup xs, .int i => atI xs i
  | .lst xs, .int i => atI xs i
  | .str z, .int i => if z.length ≤ sizeLine then (atI z.cps.toList i).map fun k => .str ⟨#[k]⟩ else none
  | .obj n, .int i => match S[n]? with
    | some (.lst xs) => atI xs i
    | none => none
  | _, _ => none
theorem rep_atI {xs : List D} {vs : List V} {i : Int} {d : D} (r : Reps c g H xs vs) (e : atI xs i = some d) : ∃ v, atI vs i = some v ∧ Rep c g H d v := by
  unfold atI at e ⊢
  rw [← r.len]
  cases q : ixN xs.length i with
  | none => rw [q] at e; cases e
  | some j =>
    rw [q] at e
    exact r.get e
theorem mem_get {l : List Addr} {n : Nat} {a : Addr} (h : l[n]? = some a) : a ∈ l := List.mem_of_getElem? h
theorem ev_idx {a b : Expr} {pos : Pos} {f1 f2 : Ev → Mm D} (hK : X.K = c.K) (hs : isSl b = false) (h1 : EvE c W X a f1) (h2 : EvE c W X b f2) :
    EvE c W X (.Subscript a b pos) (fun ρ => bnd (f1 ρ) fun x => bnd (f2 ρ) fun y => rd fun S => idxD S x y) := by
  refine imp (pe_ix ix_seq h1 h2 (plainIx hs)) fun σ H Q h => ?_
  obtain ⟨g, ρ, S, st, h⟩ := h
  refine step wV st h fun x S1 g1 H1 u st1 x1 r1 h => ?_
  refine step wV st1 h fun y S2 g2 H2 v st2 x2 r2 h => ?_
  obtain ⟨d, e, k⟩ := finR h
  clear h
  have r1 := Rep.ext x2.fx x u r1
  have G := st2.good
  cases y with
  | int i =>
    cases r2
    cases x with
    | tup xs =>
      obtain ⟨p, vs, rfl, hp, rp⟩ := r1
      obtain ⟨w, hw, rw_⟩ := rep_atI rp e
      exact .inr (.inl ⟨p, vs, i, w, rfl, rfl, hK ▸ hp.sq, hw, k g2 H2 w (.refl _ _) G rw_⟩)
    | lst xs =>
      obtain ⟨p, vs, rfl, hp, rp⟩ := r1
      obtain ⟨w, hw, rw_⟩ := rep_atI rp e
      exact .inl ⟨p, vs, i, w, rfl, rfl, hK ▸ hp.sq, hw, k g2 H2 w (.refl _ _) G rw_⟩
    | str z =>
      cases r1
      simp only [idxD] at e
      split at e
      · rename_i hl
        cases q : atI z.cps.toList i with
        | none => rw [q] at e; cases e
        | some kk =>
          rw [q] at e
          cases e
          exact .inr (.inr ⟨z, i, kk, rfl, rfl, hl, q, k g2 H2 _ (.refl _ _) G rfl⟩)
      · cases e
    | obj n =>
      obtain ⟨p, hp, rfl⟩ := r1
      simp only [idxD] at e
      cases q : S2[n]? with
      | none => rw [q] at e; cases e
      | some o =>
        rw [q] at e
        cases o with
        | lst xs =>
          obtain ⟨vs, hv, rp⟩ := G.ob n p _ hp q
          obtain ⟨w, hw, rw_⟩ := rep_atI rp e
          exact .inl ⟨p, vs, i, w, rfl, rfl, SqL.of hv, hw, k g2 H2 w (.refl _ _) G rw_⟩
    | _ => cases e
  | _ => cases x <;> cases e
/-- an item of a name's own list -/
def ownV (ρ : Ev) (i : Nat) : Option (List D) := match ρ[i]? with
  | some (.own xs) => some xs
  | _ => none
theorem ownV_eq {i : Nat} {d : List D} (h : ownV ρ i = some d) : ρ[i]? = some (.own d) := by
  unfold ownV at h
  split at h
  · cases h
    assumption
  · cases h
def atD (xs : List D) : D → Option D
  | .int i => atI xs i
  | _ => none
theorem ev_oix {i : Nat} {x : Str} {b : Expr} {p pos : Pos} {f2 : Ev → Mm D} (hN : X.N[i]? = some x) (hv : Vis X.env.scope x) (hn : nmB x = true) (hs : isSl b = false) (h2 : EvE c W X b f2) :
    EvE c W X (.Subscript (.Name x p) b pos) (fun ρ => bnd (opt (ownV ρ i)) fun xs => bnd (f2 ρ) fun y => opt (atD xs y)) := by
  obtain ⟨n1, n2, _⟩ := nm_of hn
  refine imp (pe_ix ix_seq (pe_var (i := i) hN hv n1 n2) h2 (plainIx hs)) fun σ H Q h => ?_
  obtain ⟨g, ρ, S, st, h⟩ := h
  have h : Con c W (relV c) g H σ Q (bnd (opt (ownV ρ i)) (fun xs => bnd (f2 ρ) fun y => opt (atD xs y)) S) := h
  cases q : ownV ρ i with
  | none => rw [q] at h; exact h.elim
  | some xs =>
    rw [q] at h
    have h : Con c W (relV c) g H σ Q (bnd (f2 ρ) (fun y => opt (atD xs y)) S) := h
    obtain ⟨B, er⟩ := st.env
    obtain ⟨o, e1, p1, vs, e2, hp, rp, nF, nM, _⟩ := er.at_ i _ (ownV_eq q)
    subst e2
    refine ⟨_, e1, ?_⟩
    refine step wV st h fun y S2 g2 H2 v st2 x2 r2 h => ?_
    obtain ⟨d, e, kk⟩ := fin h
    clear h
    cases y with
    | int k =>
      cases r2
      obtain ⟨w, hw, rw_⟩ := rep_atI (Reps.ext x2.fx xs vs rp) e
      exact .inl ⟨p1, vs, k, w, rfl, rfl, SqL.of (x2.keep p1 _ hp nM fun ps z => by cases z), hw, kk g2 H2 w (.refl _ _) st2.good rw_⟩
    | _ => cases e
/-! ### slices -/
theorem ev_nopt : EvO c W X none (fun _ => ret none) := by
  refine ⟨fun pins s σ H Q I h => ?_⟩
  obtain ⟨g, ρ, S, st, h⟩ := h
  exact po_none.run pins s σ H Q I (h g H none (.refl _ _) st.good rfl)
def isI : D → Option Int
  | .int i => some i
  | _ => none
theorem ev_part {e : Expr} {f : Ev → Mm D} (h : EvE c W X e f) : EvO c W X (some e) (fun ρ => bnd (f ρ) fun d => opt ((isI d).map some)) := by
  refine ⟨fun pins s σ H Q I q => (po_some h).run pins s σ H Q I ?_⟩
  obtain ⟨g, ρ, S, st, q⟩ := q
  refine step wO st q fun d S1 g1 H1 v st1 x1 r1 h => ?_
  obtain ⟨o, e, h⟩ := fin h
  cases d with
  | int i =>
    cases e
    exact ⟨i, r1, h g1 H1 _ (.refl _ _) st1.good rfl⟩
  | _ => cases e
def cut {α : Type} (xs : List α) (lo hi : Option Int) : List α := (xs.drop (HT.sIx xs.length 0 lo)).take (HT.sIx xs.length xs.length hi - HT.sIx xs.length 0 lo)
theorem reps_cut {xs : List D} {vs : List V} {lo hi : Option Int} (r : Reps c g H xs vs) : Reps c g H (cut xs lo hi) (cutV vs lo hi) := by
  unfold cut cutV
  rw [r.len]
  exact (r.drop _).take _
theorem cut_whole {α : Type} {xs : List α} {lo hi : Option Int} (h : HT.sIx xs.length 0 lo = 0 ∧ HT.sIx xs.length xs.length hi = xs.length) : cut xs lo hi = xs := by
  unfold cut
  rw [h.1, h.2, List.drop_zero, Nat.sub_zero, List.take_length]
theorem cut_len {α : Type} (xs : List α) (lo hi : Option Int) : (cut xs lo hi).length ≤ xs.length := by
  unfold cut
  rw [List.length_take, List.length_drop]
  omega
def slcD : D → Option Int → Option Int → Option D
  | .tup xs, lo, hi => some (.tup (cut xs lo hi))
  | _, _, _ => none
theorem ev_slc {a : Expr} {lo hi : Option Expr} {p pos : Pos} {f : Ev → Mm D} {fl fh : Ev → Mm (Option Int)} (hK : X.K = c.K) (h1 : EvE c W X a f) (h2 : EvO c W X lo fl) (h3 : EvO c W X hi fh) :
    EvE c W X (.Subscript a (.Slice lo hi none p) pos) (fun ρ => bnd (f ρ) fun x => bnd (fl ρ) fun l => bnd (fh ρ) fun u => opt (slcD x l u)) := by
  refine imp (pe_slice sl_tup2 h1 h2 h3) fun σ H Q h => ?_
  obtain ⟨g, ρ, S, st, h⟩ := h
  refine step wV st h fun x S1 g1 H1 u st1 x1 r1 h => ?_
  refine step wV st1 h fun l S2 g2 H2 v st2 x2 r2 h => ?_
  refine step wV st2 h fun l2 S3 g3 H3 v3 st3 x3 r3 h => ?_
  obtain ⟨d, e, h⟩ := fin h
  have r2 : l = v := r2
  have r3 : l2 = v3 := r3
  subst r2
  subst r3
  have r1 := Rep.ext x3.fx x u (Rep.ext x2.fx x u r1)
  cases x with
  | tup xs =>
    cases e
    obtain ⟨p, vs, rfl, hp, rp⟩ := r1
    refine ⟨p, vs, rfl, hK ▸ hp.sq, fun hw => ?_, fun _ => newT st3.good (reps_cut rp) (Nat.le_trans (cut_len _ _ _) (by rw [rp.len]; exact hp.bd)) h⟩
    rw [← rp.len] at hw
    rw [cut_whole hw] at h
    exact h g3 H3 _ (.refl _ _) st3.good ⟨p, vs, rfl, hp, rp⟩
  | _ => cases e
/-- a slice of a list: new -/
def lslD : D → Option Int → Option Int → Option (List D)
  | .lst xs, lo, hi => some (cut xs lo hi)
  | _, _, _ => none
theorem ev_lslc {a : Expr} {lo hi : Option Expr} {p pos : Pos} {f : Ev → Mm D} {fl fh : Ev → Mm (Option Int)} (hK : X.K = c.K) (h1 : EvE c W X a f) (h2 : EvO c W X lo fl) (h3 : EvO c W X hi fh) :
    EvL c W X (.Subscript a (.Slice lo hi none p) pos) (fun ρ => bnd (f ρ) fun x => bnd (fl ρ) fun l => bnd (fh ρ) fun u => opt (lslD x l u)) := by
  refine imp (pe_slice sl_list h1 h2 h3) fun σ H Q h => ?_
  obtain ⟨g, ρ, S, st, h⟩ := h
  refine step wL st h fun x S1 g1 H1 u st1 x1 r1 h => ?_
  refine step wL st1 h fun l S2 g2 H2 v st2 x2 r2 h => ?_
  refine step wL st2 h fun l2 S3 g3 H3 v3 st3 x3 r3 h => ?_
  obtain ⟨d, e, h⟩ := fin h
  have r2 : l = v := r2
  have r3 : l2 = v3 := r3
  subst r2
  subst r3
  have r1 := Rep.ext x3.fx x u (Rep.ext x2.fx x u r1)
  cases x with
  | lst xs =>
    cases e
    obtain ⟨p, vs, rfl, hp, rp⟩ := r1
    refine ⟨p, vs, rfl, hK ▸ hp.sq, fun q hq => ?_⟩
    obtain ⟨x, G, r⟩ := newL st3.good hq (reps_cut (lo := l) (hi := l2) rp) (Nat.le_trans (cut_len _ _ _) (by rw [rp.len]; exact hp.bd))
    exact h _ _ _ x G r
  | _ => cases e
/-! ### built-ins -/
def CallOk (c : Cf) (r : List V → Hp → VK → Prop) (f : List D → Option D) : Prop := ∀ (g : Gh) (S : Store) (H : Hp) (ds : List D) (d : D) (vs : List V) (Q : VK), Good c g S H → Reps c g H ds vs → f ds = some d →
  (∀ g' H' w, Ext g H g' H' → Good c g' S H' → Rep c g' H' d w → Q w H') → r vs H Q
theorem ev_call1 {e : Expr} {es : List Expr} {r : List V → Hp → VK → Prop} {fs : Ev → Mm (List D)} {f : List D → Option D} (hp : PA X es (tX c W (relA c) fs) → PE X e (tCB r (tX c W (relA c) fs))) (ok : CallOk c r f) (h1 : EvA c W X es fs) :
    EvE c W X e (fun ρ => bnd (fs ρ) fun ds => opt (f ds)) := by
  refine imp (hp h1) fun σ H Q h => ?_
  obtain ⟨g, ρ, S, st, h⟩ := h
  refine step wV st h fun ds S1 g1 H1 vs st1 x1 r1 h => ?_
  obtain ⟨d, e, h⟩ := fin h
  exact ok g1 S1 H1 ds d vs Q st1.good r1 e h
theorem CallOk.or {r r' : List V → Hp → VK → Prop} {f f' : List D → Option D} (h : CallOk c r f) (h' : CallOk c r' f') : CallOk c (fun x H Q => r x H Q ∨ r' x H Q) (fun x => (f x).or (f' x)) := fun g S H ds d vs Q G r e k => by
  have e : (f ds).or (f' ds) = some d := e
  cases q : f ds with
  | none =>
    rw [q] at e
    exact .inr (h' g S H ds d vs Q G r e k)
  | some d' =>
    rw [q] at e
    exact .inl (h g S H ds d vs Q G r (q.trans e) k)
def lenD : List D → Option D
  | [.tup xs] => some (.int xs.length)
  | [.lst xs] => some (.int xs.length)
  | [.str z] => if z.length ≤ sizeLine then some (.int z.length) else none
  | _ => none
theorem len_ok (hK : X.K = c.K) : CallOk c (fun xs H Q => (∃ p ys, xs = [.ref p] ∧ (SqL X.K H p ys ∨ SqT X.K H p ys) ∧ Q (.int ys.length) H) ∨ ∃ z, xs = [.str z] ∧ z.length ≤ sizeLine ∧ Q (.int z.length) H) lenD := by
  intro g S H ds d vs Q G r e k
  match ds, e with
  | [.tup xs], e =>
    cases e
    obtain ⟨v, ws, rfl, ⟨p, us, rfl, hp, rp⟩, hz⟩ := r
    cases hz
    refine .inl ⟨p, us, rfl, .inr (hK ▸ hp.sq), ?_⟩
    rw [← rp.len]
    exact repS G k rfl
  | [.lst xs], e =>
    cases e
    obtain ⟨v, ws, rfl, ⟨p, us, rfl, hp, rp⟩, hz⟩ := r
    cases hz
    refine .inl ⟨p, us, rfl, .inl (hK ▸ hp.sq), ?_⟩
    rw [← rp.len]
    exact repS G k rfl
  | [.str z], e =>
    simp only [lenD] at e
    split at e <;> cases e
    obtain ⟨v, ws, rfl, hv, hz⟩ := r
    cases hz
    cases hv
    exact .inr ⟨z, rfl, by assumption, repS G k rfl⟩
def max2D : List D → Option D
  | [.int i, .int j] => some (.int (if j > i then j else i))
  | _ => none
def min2D : List D → Option D
  | [.int i, .int j] => some (.int (if j < i then j else i))
  | _ => none
theorem max2_ok : CallOk c (fun xs H Q => ∃ i j, xs = [.int i, .int j] ∧ Q (.int (if j > i then j else i)) H) max2D := by
  intro g S H ds d vs Q G r e k
  match ds, e with
  | [.int i, .int j], e =>
    cases e
    obtain ⟨v, ws, rfl, hv, v2, ws2, rfl, hv2, hz⟩ := r
    cases hz
    cases hv
    cases hv2
    exact ⟨i, j, rfl, repS G k rfl⟩
theorem min2_ok : CallOk c (fun xs H Q => ∃ i j, xs = [.int i, .int j] ∧ Q (.int (if j < i then j else i)) H) min2D := by
  intro g S H ds d vs Q G r e k
  match ds, e with
  | [.int i, .int j], e =>
    cases e
    obtain ⟨v, ws, rfl, hv, v2, ws2, rfl, hv2, hz⟩ := r
    cases hz
    cases hv
    cases hv2
    exact ⟨i, j, rfl, repS G k rfl⟩
def intD : List D → Option D
  | [.int i] => some (.int i)
  | [.bl k] => some (.int (if k then 1 else 0))
  | [.str a] => if a.length ≤ 640 then (PySem.intText? a).map .int else none
  | _ => none
theorem int_ok : CallOk c (fun xs H Q => ((∃ i, xs = [.int i] ∧ Q (.int i) H) ∨ ∃ k, xs = [.bl k] ∧ Q (.int (if k then 1 else 0)) H) ∨ ∃ a n, xs = [.str a] ∧ PySem.intText? a = some n ∧ a.length ≤ 640 ∧ Q (.int n) H) intD := by
  intro g S H ds d vs Q G r e k
  match ds, e with
  | [.int i], e =>
    cases e
    obtain ⟨v, ws, rfl, hv, hz⟩ := r
    cases hz
    cases hv
    exact .inl (.inl ⟨i, rfl, repS G k rfl⟩)
  | [.bl b], e =>
    cases e
    obtain ⟨v, ws, rfl, hv, hz⟩ := r
    cases hz
    cases hv
    exact .inl (.inr ⟨b, rfl, repS G k rfl⟩)
  | [.str a], e =>
    simp only [intD] at e
    split at e
    · cases q : PySem.intText? a with
      | none => rw [q] at e; cases e
      | some n =>
        rw [q] at e
        cases e
        obtain ⟨v, ws, rfl, hv, hz⟩ := r
        cases hz
        cases hv
        exact .inr ⟨a, n, rfl, q, by assumption, repS G k rfl⟩
    · cases e
def strI (i : Int) : Str := (toString i : String)
def strD : List D → Option D
  | [.int i] => if i.natAbs.log2 < 1920 then some (.str (strI i)) else none
  | [.str a] => some (.str a)
  | _ => none
theorem str_ok : CallOk c (fun xs H Q => (∃ i, xs = [.int i] ∧ i.natAbs.log2 < 1920 ∧ Q (.str (toString i)) H) ∨ ∃ a, xs = [.str a] ∧ Q (.str a) H) strD := by
  intro g S H ds d vs Q G r e k
  match ds, e with
  | [.int i], e =>
    simp only [strD] at e
    split at e <;> cases e
    obtain ⟨v, ws, rfl, hv, hz⟩ := r
    cases hz
    cases hv
    exact .inl ⟨i, rfl, by assumption, repS G k rfl⟩
  | [.str a], e =>
    cases e
    obtain ⟨v, ws, rfl, hv, hz⟩ := r
    cases hz
    cases hv
    exact .inr ⟨a, rfl, repS G k rfl⟩
def isInts : List D → Option (List Int)
  | [] => some []
  | .int i :: xs => (isInts xs).map (i :: ·)
  | _ :: _ => none
theorem ints_reps : ∀ {xs : List D} {ns : List Int} {vs : List V}, isInts xs = some ns → Reps c g H xs vs → vs = ns.map V.int
  | [], ns, vs, e, r => by
    cases e
    exact r
  | d :: xs, ns, vs, e, r => by
    cases d with
    | int i =>
      simp only [isInts] at e
      cases q : isInts xs with
      | none => rw [q] at e; cases e
      | some ms =>
        rw [q] at e
        cases e
        obtain ⟨v, ws, rfl, hv, r2⟩ := r
        cases hv
        rw [ints_reps q r2]
        rfl
    | _ => cases e
def isBls : List D → Option (List Bool)
  | [] => some []
  | .bl i :: xs => (isBls xs).map (i :: ·)
  | _ :: _ => none
theorem bls_reps : ∀ {xs : List D} {ns : List Bool} {vs : List V}, isBls xs = some ns → Reps c g H xs vs → vs = ns.map V.bl
  | [], ns, vs, e, r => by
    cases e
    exact r
  | d :: xs, ns, vs, e, r => by
    cases d with
    | bl i =>
      simp only [isBls] at e
      cases q : isBls xs with
      | none => rw [q] at e; cases e
      | some ms =>
        rw [q] at e
        cases e
        obtain ⟨v, ws, rfl, hv, r2⟩ := r
        cases hv
        rw [bls_reps q r2]
        rfl
    | _ => cases e
def isStrs : List D → Option (List Str)
  | [] => some []
  | .str i :: xs => (isStrs xs).map (i :: ·)
  | _ :: _ => none
theorem strs_reps : ∀ {xs : List D} {ns : List Str} {vs : List V}, isStrs xs = some ns → Reps c g H xs vs → vs = ns.map V.str
  | [], ns, vs, e, r => by
    cases e
    exact r
  | d :: xs, ns, vs, e, r => by
    cases d with
    | str i =>
      simp only [isStrs] at e
      cases q : isStrs xs with
      | none => rw [q] at e; cases e
      | some ms =>
        rw [q] at e
        cases e
        obtain ⟨v, ws, rfl, hv, r2⟩ := r
        cases hv
        rw [strs_reps q r2]
        rfl
    | _ => cases e
def sumD : List D → Option D
  | [.tup xs] => (isInts xs).map fun ns => .int ns.sum
  | [.lst xs] => (isInts xs).map fun ns => .int ns.sum
  | _ => none
theorem sum_ok (hK : X.K = c.K) : CallOk c (fun xs H Q => rSum X.K xs H Q ∨ rSumT X.K xs H Q) sumD := by
  intro g S H ds d vs Q G r e k
  match ds, e with
  | [.tup xs], e =>
    simp only [sumD] at e
    cases q : isInts xs with
    | none => rw [q] at e; cases e
    | some ns =>
      rw [q] at e
      cases e
      obtain ⟨v, ws, rfl, ⟨p, us, rfl, hp, rp⟩, hz⟩ := r
      cases hz
      have eu := ints_reps q rp
      subst eu
      exact .inr ⟨p, ns, rfl, hK ▸ hp.sq, repS G k rfl⟩
  | [.lst xs], e =>
    simp only [sumD] at e
    cases q : isInts xs with
    | none => rw [q] at e; cases e
    | some ns =>
      rw [q] at e
      cases e
      obtain ⟨v, ws, rfl, ⟨p, us, rfl, hp, rp⟩, hz⟩ := r
      cases hz
      have eu := ints_reps q rp
      subst eu
      exact .inl ⟨p, ns, rfl, hK ▸ hp.sq, repS G k rfl⟩
def allD : List D → Option D
  | [.lst xs] => (isBls xs).map fun bs => .bl (bs.all id)
  | _ => none
theorem all_ok (hK : X.K = c.K) : CallOk c (rAll X.K) allD := by
  intro g S H ds d vs Q G r e k
  match ds, e with
  | [.lst xs], e =>
    simp only [allD] at e
    cases q : isBls xs with
    | none => rw [q] at e; cases e
    | some ns =>
      rw [q] at e
      cases e
      obtain ⟨v, ws, rfl, ⟨p, us, rfl, hp, rp⟩, hz⟩ := r
      cases hz
      have eu := bls_reps q rp
      subst eu
      exact ⟨p, ns, rfl, hK ▸ hp.sq, repS G k rfl⟩
def tupD : List D → Option D
  | [.lst xs] => some (.tup xs)
  | [.tup xs] => some (.tup xs)
  | _ => none
theorem tup_ok (hK : X.K = c.K) : CallOk c (fun xs H Q => ∃ p ys, xs = [.ref p] ∧ ((SqL X.K H p ys ∧ ∀ l, H l = none → Q (.ref l) (upd H l (.tup ys))) ∨ (SqT X.K H p ys ∧ Q (.ref p) H))) tupD := by
  intro g S H ds d vs Q G r e k
  match ds, e with
  | [.tup xs], e =>
    cases e
    obtain ⟨v, ws, rfl, ⟨p, us, rfl, hp, rp⟩, hz⟩ := r
    cases hz
    exact ⟨p, us, rfl, .inr ⟨hK ▸ hp.sq, repS G k ⟨p, us, rfl, hp, rp⟩⟩⟩
  | [.lst xs], e =>
    cases e
    obtain ⟨v, ws, rfl, ⟨p, us, rfl, hp, rp⟩, hz⟩ := r
    cases hz
    exact ⟨p, us, rfl, .inl ⟨hK ▸ hp.sq, newT G rp (by rw [rp.len]; exact hp.bd) k⟩⟩
/-- len(set(t)) -/
def lenSetD : D → Option D
  | .tup xs => match isInts xs with
    | some ns => if ns.length ≤ 4000 then some (.int (dist ns).length) else none
    | none => none
  | _ => none
theorem ev_lenSet {a : Expr} {p p2 q pos : Pos} {f : Ev → Mm D} (hK : X.K = c.K) (hc : X.calm = true) (hg : Gl X "len") (hm : X.mg "len" = none) (hg2 : Gl X "set") (hm2 : X.mg "set" = none) (hs : isStar a = false) (h : EvE c W X a f) :
    EvE c W X (.Call (.Name "len" p) [.Call (.Name "set" p2) [a] [] q] [] pos) (fun ρ => bnd (f ρ) fun d => opt (lenSetD d)) := by
  refine imp (pe_lenSetT hg hm hg2 hm2 h hc (star_cons hs)) fun σ H Q h => ?_
  obtain ⟨g, ρ, S, st, h⟩ := h
  refine step wV st h fun x S1 g1 H1 u st1 x1 r1 h => ?_
  obtain ⟨d, e, h⟩ := fin h
  cases x with
  | tup xs =>
    obtain ⟨p, us, rfl, hp, rp⟩ := r1
    simp only [lenSetD] at e
    split at e
    · split at e <;> cases e
      rename_i ns q hl
      have eu := ints_reps q rp
      subst eu
      exact ⟨p, ns, rfl, hK ▸ hp.sq, hl, h g1 H1 _ (.refl _ _) st1.good rfl⟩
    · cases e
  | _ => cases e
/-! ### isinstance -/
def tyD : D → Option String
  | .non => some "NoneType"
  | .bl _ => some "bool"
  | .int _ => some "int"
  | .str _ => some "str"
  | .tup _ => some "tuple"
  | .lst _ => some "list"
  | _ => none
theorem rep_ty {d : D} {v : V} {T : String} (h : tyD d = some T) (r : Rep c g H d v) : TyX c.K H v (.type T) := by
  cases d with
  | non => cases h; cases r; exact .base .non
  | bl b => cases h; cases r; exact .base (.bl b)
  | int b => cases h; cases r; exact .base (.int b)
  | str b => cases h; cases r; exact .base (.str b)
  | tup xs =>
    cases h
    obtain ⟨p, us, rfl, hp, rp⟩ := r
    rcases hp with ⟨_, hp, _⟩ | hp
    · exact .base (.tup hp)
    · rcases hp with hp | ⟨o, its, n, hk, hc, _⟩
      · rcases hp with hp | ⟨o, hp⟩ <;> cases hp
      · exact .kTuple hk hc
  | lst xs =>
    cases h
    obtain ⟨p, us, rfl, hp, rp⟩ := r
    rcases hp with ⟨_, hp, _⟩ | hp
    · rcases hp with hp | ⟨o, hp⟩
      · exact .base (.lst hp)
      · exact .base (.frz hp)
    · rcases hp with hp | ⟨o, its, n, hk, hc, _⟩
      · rcases hp with hp | ⟨o, hp⟩ <;> cases hp
      · exact .kList hk hc
  | _ => cases h
def isiD (T : String) (d : D) : Option D := match tyD d with
  | some t => (kitB t T).map .bl
  | none => none
theorem ev_isi {a : Expr} {T : Str} {t : String} {p p2 pos : Pos} {f : Ev → Mm D} (hK : X.K = c.K) (hg : Gl X "isinstance") (hm : X.mg "isinstance" = none) (hs : isStar a = false) (hgT : Gl X T) (hmT : X.mg T = none) (hb : bootBuiltins T = some (.type t)) (hn : nmB T = true) (h : EvE c W X a f) :
    EvE c W X (.Call (.Name "isinstance" p) [a, .Name T p2] [] pos) (fun ρ => bnd (f ρ) fun d => opt (isiD t d)) := by
  obtain ⟨n1, n2, n3⟩ := nm_of hn
  have ha : PA X [a, .Name T p2] (tCons (tX c W (relV c) f) (tCons (tC (.ty t)) tNil)) := pa_cons h (pa_cons (pe_bltn (v := .ty t) hgT hmT hb rfl n3 n1) pa_nil rfl) (star_cons hs)
  refine imp (pe_callB call_isi hg hm boot_isinstance ha (by decide) (by decide) (star_cons hs) rfl) fun σ H Q h => ?_
  obtain ⟨g, ρ, S, st, h⟩ := h
  refine step wV st h fun x S1 g1 H1 u st1 x1 r1 h => ?_
  obtain ⟨d, e, h⟩ := fin h
  unfold isiD at e
  cases q : tyD x with
  | none => rw [q] at e; cases e
  | some T' =>
    rw [q] at e
    have e : (kitB T' t).map D.bl = some d := e
    cases q2 : kitB T' t with
    | none => rw [q2] at e; cases e
    | some b =>
      rw [q2] at e
      cases e
      exact ⟨u, .ty t, .type T', .type t, b, rfl, .ty t, hK ▸ rep_ty q r1, kit_ty q2, h g1 H1 _ (.refl _ _) st1.good rfl⟩
/-! ### texts -/
def isS : D → Option Str
  | .str a => some a
  | _ => none
theorem rep_S {d : D} {a : Str} {v : V} (h : isS d = some a) (r : Rep c g H d v) : v = V.str a := by
  cases d <;> simp [isS] at h
  subst h
  exact r
def joinD (a : Str) : D → Option D
  | .lst xs => match isStrs xs with
    | some ys => if (ys.map (·.length)).sum + ys.length * a.length ≤ 16777216 then some (.str (Txt.join a ys)) else none
    | none => none
  | _ => none
theorem ev_join {o e : Expr} {apos pos : Pos} {f1 f2 : Ev → Mm D} (hK : X.K = c.K) (hs : isStar e = false) (hb : isCall0 o = false) (hl : (apos.endLine == pos.line) = true) (h1 : EvE c W X o f1) (h2 : EvE c W X e f2) :
    EvE c W X (.Call (.Attribute o "join" apos) [e] [] pos) (fun ρ => bnd (f1 ρ) fun x => bnd (opt (isS x)) fun a => bnd (f2 ρ) fun y => opt (joinD a y)) := by
  refine imp (pe_join h1 h2 (star_cons hs) (base_of hb) hl) fun σ H Q h => ?_
  obtain ⟨g, ρ, S, st, h⟩ := h
  refine step wV st h fun x S1 g1 H1 u st1 x1 r1 h => ?_
  cases q : isS x with
  | none => rw [q] at h; exact h.elim
  | some a =>
    rw [q] at h
    have h : Con c W (relV c) g1 H1 σ Q (bnd (f2 ρ) (fun y => opt (joinD a y)) S1) := h
    have eu := rep_S q r1
    subst eu
    refine ⟨⟨a, rfl⟩, ?_⟩
    refine step wV st1 h fun y S2 g2 H2 v st2 x2 r2 h => ?_
    obtain ⟨d, e, k⟩ := fin h
    clear h
    cases y with
    | lst xs =>
      simp only [joinD] at e
      split at e
      · rename_i ys q2
        split at e <;> cases e
        obtain ⟨p, us, rfl, hp, rp⟩ := r2
        have eu := strs_reps q2 rp
        subst eu
        exact ⟨a, p, ys, rfl, rfl, .inl (hK ▸ hp.sq), by assumption, k g2 H2 _ (.refl _ _) st2.good rfl⟩
      · cases e
    | _ => cases e
theorem strs_rep (ys : List Str) : Reps c g H (ys.map D.str) (ys.map V.str) := by
  induction ys with
  | nil => rfl
  | cons y ys ih => exact ⟨_, _, rfl, rfl, ih⟩
def splitD (a : Str) : D → Option (List D)
  | .str b => if (b.length == 0) = false ∧ a.length + 2 ≤ sizeLine ∧ (Txt.split a b).length ≤ sizeLine then some ((Txt.split a b).map .str) else none
  | _ => none
theorem ev_split {o e : Expr} {apos pos : Pos} {f1 f2 : Ev → Mm D} (hs : isStar e = false) (hb : isCall0 o = false) (hl : (apos.endLine == pos.line) = true) (h1 : EvE c W X o f1) (h2 : EvE c W X e f2) :
    EvL c W X (.Call (.Attribute o "split" apos) [e] [] pos) (fun ρ => bnd (f1 ρ) fun x => bnd (opt (isS x)) fun a => bnd (f2 ρ) fun y => opt (splitD a y)) := by
  refine imp (pe_split h1 h2 (star_cons hs) (base_of hb) hl) fun σ H Q h => ?_
  obtain ⟨g, ρ, S, st, h⟩ := h
  refine step wL st h fun x S1 g1 H1 u st1 x1 r1 h => ?_
  cases q : isS x with
  | none => rw [q] at h; exact h.elim
  | some a =>
    rw [q] at h
    have h : Con c W (relL c) g1 H1 σ Q (bnd (f2 ρ) (fun y => opt (splitD a y)) S1) := h
    have eu := rep_S q r1
    subst eu
    refine ⟨⟨a, rfl⟩, ?_⟩
    refine step wL st1 h fun y S2 g2 H2 v st2 x2 r2 h => ?_
    obtain ⟨d, e, k⟩ := fin h
    clear h
    cases y with
    | str b =>
      simp only [splitD] at e
      split at e <;> cases e
      rename_i hh
      cases r2
      refine ⟨a, b, rfl, rfl, hh.1, hh.2.1, fun p hp => ?_⟩
      obtain ⟨x, G, r⟩ := newL st2.good hp (strs_rep _) (by rw [List.length_map]; exact hh.2.2)
      exact k _ _ _ x G r
    | _ => cases e
def fmtD : D → Option D
  | .str y => if y.length ≤ sizeLine then some (.str y) else none
  | .int i => if i.natAbs.log2 < 1920 then some (.str (strI i)) else none
  | _ => none
theorem ev_fmt {e : Expr} {pos : Pos} {f : Ev → Mm D} (h : EvE c W X e f) : EvE c W X (.FormattedValue e (-1) none pos) (fun ρ => bnd (f ρ) fun d => opt (fmtD d)) := by
  refine imp (pe_fmt h) fun σ H Q h => ?_
  obtain ⟨g, ρ, S, st, h⟩ := h
  refine step wV st h fun x S1 g1 H1 u st1 x1 r1 h => ?_
  obtain ⟨d, e, k⟩ := fin h
  cases x <;> simp only [fmtD] at e <;> try cases e
  · split at e <;> cases e
    cases r1
    exact .inr ⟨_, rfl, by assumption, k g1 H1 _ (.refl _ _) st1.good rfl⟩
  · split at e <;> cases e
    cases r1
    exact .inl ⟨_, rfl, by assumption, k g1 H1 _ (.refl _ _) st1.good rfl⟩
/-- the parts of an f-string, one behind the other -/
def catS (acc : Str) : List D → Option Str
  | [] => some acc
  | .str y :: ds => if (acc ++ y).length ≤ sizeLine then catS (acc ++ y) ds else none
  | _ :: _ => none
/-- parts: each is evaluated, then hung on -/
def jsM : List (Ev → Mm D) → Str → Ev → Mm Str
  | [], acc, _ => ret acc
  | f :: fs, acc, ρ => bnd (f ρ) fun d => bnd (opt (isS d)) fun y => if (acc ++ y).length ≤ sizeLine then jsM fs (acc ++ y) ρ else fail
inductive EvJ (c : Cf) (W : WX) (X : Cx) : List Expr → List (Ev → Mm D) → Prop where
  | nil : EvJ c W X [] []
  | cons {e : Expr} {es : List Expr} {f : Ev → Mm D} {fs : List (Ev → Mm D)} (h : EvE c W X e f) (r : EvJ c W X es fs) : EvJ c W X (e :: es) (f :: fs)
theorem EvJ.pj {es : List Expr} {fs : List (Ev → Mm D)} (h : EvJ c W X es fs) : PJ X es (fs.map fun f => tX c W (relV c) f) := by
  induction h with
  | nil => exact .nil
  | cons h _ ih => exact .cons h ih
theorem js_run : ∀ {fs : List (Ev → Mm D)} {acc : Str} {g : Gh} {S : Store} {H : Hp} {Q : VK}, St1 c g ρ S σ H → Con c W (relV c) g H σ Q (bnd (jsM fs acc ρ) (fun y => ret (.str y)) S) → tJs (fs.map fun f => tX c W (relV c) f) acc σ H fun out H1 => Q (.str out) H1
  | [], acc, g, S, H, Q, st, h => h g H _ (.refl _ _) st.good rfl
  | f :: fs, acc, g, S, H, Q, st, h => by
    unfold jsM at h
    rw [bnd_bnd] at h
    refine step wV st h fun d S1 g1 H1 u st1 x1 r1 h => ?_
    cases q : isS d with
    | none => rw [q] at h; exact h.elim
    | some y =>
      rw [q] at h
      have h : Con c W (relV c) g1 H1 σ Q (bnd (if (acc ++ y).length ≤ sizeLine then jsM fs (acc ++ y) ρ else fail) (fun y => ret (.str y)) S1) := h
      split at h
      · rename_i hl
        exact ⟨y, rep_S q r1, hl, js_run st1 h⟩
      · exact h.elim
theorem ev_js {e1 e2 : Expr} {es : List Expr} {pos : Pos} {fs : List (Ev → Mm D)} (h : EvJ c W X (e1 :: e2 :: es) fs) : EvE c W X (.JoinedStr (e1 :: e2 :: es) pos) (fun ρ => bnd (jsM fs Str.empty ρ) fun y => ret (.str y)) := by
  refine imp (pe_joined h.pj) fun σ H Q h => ?_
  obtain ⟨g, ρ, S, st, h⟩ := h
  exact js_run st h
/-! ### new lists -/
def catD : D → D → Option (List D)
  | .lst a, .lst b => if a.length + b.length ≤ sizeLine then some (a ++ b) else none
  | _, _ => none
theorem ev_lcat {a b : Expr} {pos : Pos} {f1 f2 : Ev → Mm D} (hK : X.K = c.K) (h1 : EvE c W X a f1) (h2 : EvE c W X b f2) :
    EvL c W X (.BinOp a .Add b pos) (fun ρ => bnd (f1 ρ) fun x => bnd (f2 ρ) fun y => opt (catD x y)) := by
  refine imp (pe_op op_catL h1 h2) fun σ H Q h => ?_
  obtain ⟨g, ρ, S, st, h⟩ := h
  refine step wL st h fun x S1 g1 H1 u st1 x1 r1 h => ?_
  refine step wL st1 h fun y S2 g2 H2 v st2 x2 r2 h => ?_
  obtain ⟨d, e, k⟩ := fin h
  clear h
  have r1 := Rep.ext x2.fx x u r1
  cases x <;> cases y <;> simp only [catD] at e <;> try cases e
  split at e <;> cases e
  rename_i hl
  obtain ⟨p, us, rfl, hp, rp⟩ := r1
  obtain ⟨q, vs, rfl, hq, rq⟩ := r2
  refine ⟨p, q, us, vs, rfl, rfl, hK ▸ hp.sq, hK ▸ hq.sq, by rw [← rp.len, ← rq.len]; exact hl, fun l hl2 => ?_⟩
  obtain ⟨x, G, r⟩ := newL st2.good hl2 (rp.app rq) (by rw [List.length_append]; exact hl)
  exact k _ _ _ x G r
def repD (xs : List D) : D → Option (List D)
  | .int k => if -(2 ^ 63) ≤ k ∧ k < 2 ^ 63 ∧ xs.length * k.toNat ≤ sizeLine then some (List.replicate k.toNat xs).flatten else none
  | _ => none
theorem reps_rep {xs : List D} {vs : List V} (r : Reps c g H xs vs) : ∀ k : Nat, Reps c g H (List.replicate k xs).flatten (List.replicate k vs).flatten
  | 0 => rfl
  | k + 1 => by
    rw [List.replicate_succ, List.replicate_succ, List.flatten_cons, List.flatten_cons]
    exact r.app (reps_rep r k)
theorem ev_lrep {a b : Expr} {pos : Pos} {f1 : Ev → Mm (List D)} {f2 : Ev → Mm D} (h1 : EvL c W X a f1) (h2 : EvE c W X b f2) :
    EvL c W X (.BinOp a .Mult b pos) (fun ρ => bnd (f1 ρ) fun x => bnd (f2 ρ) fun y => opt (repD x y)) := by
  refine imp (pe_op op_rep h1 h2) fun σ H Q h => ?_
  obtain ⟨g, ρ, S, st, h⟩ := h
  refine step wL st h fun x S1 g1 H1 u st1 x1 r1 h => ?_
  refine step wL st1 h fun y S2 g2 H2 v st2 x2 r2 h => ?_
  obtain ⟨d, e, k⟩ := fin h
  clear h
  obtain ⟨p, us, rfl, hp, rp, _, _, nM, _⟩ := r1
  cases y with
  | int n =>
    cases r2
    simp only [repD] at e
    split at e <;> cases e
    rename_i hh
    refine ⟨p, n, us, rfl, rfl, x2.keep p _ hp nM (fun ps z => by cases z), hh.1, hh.2.1, by rw [← rp.len]; exact hh.2.2, fun l hl2 => ?_⟩
    obtain ⟨x, G, r⟩ := newL st2.good hl2 (reps_rep (Reps.ext x2.fx _ _ rp) n.toNat) (by simp; rw [Nat.mul_comm]; exact hh.2.2)
    exact k _ _ _ x G r
  | _ => cases e
/-- 0, 1, .. -/
def upto (n : Int) : List D := (List.range n.toNat).map fun i => .int (i : Nat)
def rngD : D → Option (List D)
  | .int n => if -(2 ^ 62) ≤ n ∧ n ≤ 16777216 then some (upto n) else none
  | _ => none
theorem ev_lrng {a : Expr} {p p2 pos q : Pos} {f : Ev → Mm D} (hc : X.calm = true) (hg : Gl X "list") (hm : X.mg "list" = none) (hg2 : Gl X "range") (hm2 : X.mg "range" = none) (hs : isStar a = false) (h : EvE c W X a f) :
    EvL c W X (.Call (.Name "list" p) [.Call (.Name "range" p2) [a] [] q] [] pos) (fun ρ => bnd (f ρ) fun d => opt (rngD d)) := by
  refine imp (pe_listRg hc hg hm (prg_1 hg2 hm2 h (star_cons hs)) rfl) fun σ H Q h => ?_
  obtain ⟨g, ρ, S, st, h⟩ := h
  refine step wL st h fun x S1 g1 H1 u st1 x1 r1 h => ?_
  obtain ⟨d, e, k⟩ := fin h
  clear h
  cases x with
  | int n =>
    cases r1
    simp only [rngD] at e
    split at e <;> cases e
    rename_i hh
    refine ⟨n, rfl, ⟨by decide, by decide, hh.1, by omega, by omega⟩, fun l hl2 => ?_⟩
    have rr : Reps c g1 H1 (upto n) (rgV 0 n) := by
      unfold upto rgV
      rw [Int.sub_zero]
      induction (List.range n.toNat) with
      | nil => rfl
      | cons i is ih => exact ⟨_, _, rfl, by show V.int (0 + (i : Int)) = V.int i; rw [Int.zero_add], ih⟩
    obtain ⟨x, G, r⟩ := newL st1.good hl2 rr (by simp [upto]; rw [sizeLine_eq]; omega)
    exact k _ _ _ x G r
  | _ => cases e
def lofD : D → Option (List D)
  | .lst xs => some xs
  | .tup xs => some xs
  | _ => none
theorem ev_lof {a : Expr} {p pos : Pos} {f : Ev → Mm D} (hK : X.K = c.K) (hg : Gl X "list") (hm : X.mg "list" = none) (hs : isStar a = false) (h : EvE c W X a f) :
    EvL c W X (.Call (.Name "list" p) [a] [] pos) (fun ρ => bnd (f ρ) fun d => opt (lofD d)) := by
  refine imp (pe_callTy call_list_of hg hm boot_list (pa_cons h pa_nil (star_cons hs)) (by decide) (by decide) (star_cons hs) rfl) fun σ H Q h => ?_
  obtain ⟨g, ρ, S, st, h⟩ := h
  refine step wL st h fun x S1 g1 H1 u st1 x1 r1 h => ?_
  obtain ⟨d, e, k⟩ := fin h
  clear h
  cases x with
  | lst xs =>
    cases e
    obtain ⟨p, us, rfl, hp, rp⟩ := r1
    refine ⟨p, us, rfl, .inl (hK ▸ hp.sq), fun l hl2 => ?_⟩
    obtain ⟨x, G, r⟩ := newL st1.good hl2 rp (by rw [rp.len]; exact hp.bd)
    exact k _ _ _ x G r
  | tup xs =>
    cases e
    obtain ⟨p, us, rfl, hp, rp⟩ := r1
    refine ⟨p, us, rfl, .inr (hK ▸ hp.sq), fun l hl2 => ?_⟩
    obtain ⟨x, G, r⟩ := newL st1.good hl2 rp (by rw [rp.len]; exact hp.bd)
    exact k _ _ _ x G r
  | _ => cases e
theorem ev_lrev {a : Expr} {k : Nat} {p1 p2 p3 pos : Pos} {f : Ev → Mm D} (hK : X.K = c.K) (h : EvE c W X a f) :
    EvL c W X (.Subscript a (.Slice none none (some (.UnaryOp .USub (.Constant (.int 1) k p1) p2)) p3) pos) (fun ρ => bnd (f ρ) fun d => opt ((match d with | .lst xs => some xs.reverse | _ => none : Option (List D)))) := by
  refine imp (pe_revL h) fun σ H Q h => ?_
  obtain ⟨g, ρ, S, st, h⟩ := h
  refine step wL st h fun x S1 g1 H1 u st1 x1 r1 h => ?_
  obtain ⟨d, e, k⟩ := fin h
  clear h
  cases x with
  | lst xs =>
    cases e
    obtain ⟨p, us, rfl, hp, rp⟩ := r1
    refine ⟨p, us, rfl, hK ▸ hp.sq, fun l hl2 => ?_⟩
    obtain ⟨x, G, r⟩ := newL st1.good hl2 rp.reverse (by rw [List.length_reverse, rp.len]; exact hp.bd)
    exact k _ _ _ x G r
  | _ => cases e
end
end PV

set_option Elab.async false
set_option linter.all false
set_option maxRecDepth 100000
set_option maxHeartbeats 4000000
/-! PvE: what is walked; targets; comprehensions. -/
namespace PV
open PySem PySem.Spec PyProof.Rows L2

/-- what is walked, as data -/
def relI (c : Cf) : RelT (List D) It := fun _ g' H' items J => items.length ≤ sizeLine ∧ ∃ (G : Hp → Prop) (Y : Nat → Hp → V → Hp → Prop), Walk J items.length G Y ∧ (∀ g1 H1, FExt g' H' g1 H1 → G H1) ∧
  ∀ i H1 x H2 g1 S, i < items.length → FExt g' H' g1 H1 → Good c g1 S H1 → Y i H1 x H2 → ∃ d g2, items[i]? = some d ∧ Ext g1 H1 g2 H2 ∧ Good c g2 S H2 ∧ Rep c g2 H2 d x
theorem wI {c : Cf} : Weak (relI c) := fun _ _ _ _ _ _ _ _ _ h => h
abbrev EvI (c : Cf) (W : WX) (X : Cx) (tg e : Expr) (f : Ev → Mm (List D)) : Prop := PI X tg e (tX c W (relI c) f)
section
variable {c : Cf} {W : WX} {X : Cx} {B : Hp} {g g1 : Gh} {ρ : Ev} {S : Store} {σ : L2.St} {H H1 : Hp} {tg : Expr}
theorem mkI {items : List D} {J : It} {n : Nat} {G : Hp → Prop} {Y : Nat → Hp → V → Hp → Prop} {H0 : Hp} (w : Walk J n G Y) (hn : items.length = n) (hl : items.length ≤ sizeLine) (hG : ∀ g1 H1, FExt g H g1 H1 → G H1)
    (hY : ∀ i H1 x H2 g1 S, i < items.length → FExt g H g1 H1 → Good c g1 S H1 → Y i H1 x H2 → ∃ d g2, items[i]? = some d ∧ Ext g1 H1 g2 H2 ∧ Good c g2 S H2 ∧ Rep c g2 H2 d x) : relI c H0 g H items J :=
  ⟨hl, G, Y, hn ▸ w, hG, hY⟩
/-- what a list, a tuple, a text gives -/
def itemsD : D → Option (List D)
  | .lst xs => some xs
  | .tup xs => some xs
  | .str z => if z.cps.size ≤ sizeLine then some (z.cps.toList.map fun k => .str ⟨#[k]⟩) else none
  | _ => none
theorem relI_lst {xs : List D} {a : Addr} {vs : List V} (hp : FzL c g H a vs) (rp : Reps c g H xs vs) : relI c H g H xs (Itl c.K a) := by
  refine mkI (walk_list (K := c.K) (a := a) (xs := vs)) rp.len (by rw [rp.len]; exact hp.bd) (fun g1 H1 x => (hp.ext x).sq) fun i H1 x H2 g1 S hi fx G y => ?_
  obtain ⟨rfl, y⟩ := y
  obtain ⟨d, e, r⟩ := rp.get' y
  exact ⟨d, g1, e, .refl _ _, G, Rep.ext fx d x r⟩
theorem relI_tup {xs : List D} {a : Addr} {vs : List V} (hp : FzT c g H a vs) (rp : Reps c g H xs vs) : relI c H g H xs (Itt c.K a) := by
  refine mkI (walk_tup (K := c.K) (a := a) (xs := vs)) rp.len (by rw [rp.len]; exact hp.bd) (fun g1 H1 x => (hp.ext x).sq) fun i H1 x H2 g1 S hi fx G y => ?_
  obtain ⟨rfl, y⟩ := y
  obtain ⟨d, e, r⟩ := rp.get' y
  exact ⟨d, g1, e, .refl _ _, G, Rep.ext fx d x r⟩
theorem ev_iseq {e : Expr} {f : Ev → Mm D} (hK : X.K = c.K) (h : EvE c W X e f) : EvI c W X tg e (fun ρ => bnd (f ρ) fun d => opt (itemsD d)) := by
  have key : PI X tg e (fun σ H R => (iList X.K (tX c W (relV c) f) σ H R ∨ iTup X.K (tX c W (relV c) f) σ H R) ∨ iStr (tX c W (relV c) f) σ H R) := by
    refine ⟨fun pins s σ H R I q => ?_⟩
    rcases q with (q | q) | q
    · exact (pi_list h).run pins s σ H R I q
    · exact (pi_tup h).run pins s σ H R I q
    · exact (pi_str h).run pins s σ H R I q
  refine impI key fun σ H R h => ?_
  obtain ⟨g, ρ, S, st, h⟩ := h
  have h : Con c W (relI c) g H σ R (bnd (f ρ) (fun d => opt (itemsD d)) S) := h
  have q := h
  unfold bnd at q
  cases e1 : f ρ S with
  | none => rw [e1] at q; exact q.elim
  | some p =>
    obtain ⟨o, S'⟩ := p
    rw [e1] at q
    cases o with
    | exc n fl =>
      refine .inl (.inl ⟨g, ρ, S, st, ?_⟩)
      rw [e1]
      exact q
    | ok d =>
      cases d with
      | lst xs =>
        refine .inl (.inl ⟨g, ρ, S, st, ?_⟩)
        rw [e1]
        intro g' H' v x G r
        obtain ⟨a, vs, rfl, hp, rp⟩ := r
        exact ⟨a, rfl, ⟨vs, hK ▸ hp.sq⟩, q g' H' _ x G (hK ▸ relI_lst hp rp)⟩
      | tup xs =>
        refine .inl (.inr ⟨g, ρ, S, st, ?_⟩)
        rw [e1]
        intro g' H' v x G r
        obtain ⟨a, vs, rfl, hp, rp⟩ := r
        exact ⟨a, rfl, ⟨vs, hK ▸ hp.sq⟩, q g' H' _ x G (hK ▸ relI_tup hp rp)⟩
      | str z =>
        refine .inr ⟨g, ρ, S, st, ?_⟩
        rw [e1]
        intro g' H' v x G r
        cases r
        have q : Con c W (relI c) g H σ R (opt (if z.cps.size ≤ sizeLine then some (z.cps.toList.map fun k => D.str ⟨#[k]⟩) else none) S') := q
        split at q
        case isFalse => exact q.elim
        rename_i hz
        refine ⟨z, rfl, q g' H' _ x G (mkI walk_str (by simp) (by simpa using hz) (fun _ _ _ => trivial) fun i H1 x H2 g1 S hi fx G y => ?_)⟩
        obtain ⟨rfl, k, hk, rfl⟩ := y
        exact ⟨.str ⟨#[k]⟩, g1, by simp [hk], .refl _ _, G, rfl⟩
      | _ => exact q.elim
def irngD : D → Option (List D)
  | .int n => if -(2 ^ 62) ≤ n ∧ n ≤ 16777216 then some (upto n) else none
  | _ => none
theorem ev_irng {a : Expr} {p pos : Pos} {f : Ev → Mm D} (hg : Gl X "range") (hm : X.mg "range" = none) (hs : isStar a = false) (h : EvE c W X a f) :
    EvI c W X tg (.Call (.Name "range" p) [a] [] pos) (fun ρ => bnd (f ρ) fun d => opt (irngD d)) := by
  refine impI (pi_range1 hg hm (pa_cons h pa_nil (star_cons hs)) (star_cons hs)) fun σ H R h => ?_
  obtain ⟨g, ρ, S, st, h⟩ := h
  refine step wI st h fun x S1 g1 H1 u st1 x1 r1 h => ?_
  obtain ⟨d, e, k⟩ := fin h
  clear h
  cases x with
  | int n =>
    cases r1
    simp only [irngD] at e
    split at e <;> cases e
    rename_i hh
    refine ⟨n, rfl, hh.1, by omega, k g1 H1 _ (.refl _ _) st1.good (mkI walk_range (by simp [upto]) (by simp [upto]; rw [sizeLine_eq]; omega) (fun _ _ _ => trivial) fun i H1 x H2 g1 S hi fx G y => ?_)⟩
    obtain ⟨rfl, rfl⟩ := y
    have hi2 : i < n.toNat := by simpa [upto] using hi
    exact ⟨.int (i : Nat), g1, by simp [upto, hi2], .refl _ _, G, by show V.int (0 + (i : Int)) = V.int i; rw [Int.zero_add]⟩
  | _ => cases e
/-- from i on -/
def fromto (a b : Int) : List D := (List.range (b - a).toNat).map fun i => .int (a + (i : Nat))
def irng2D : D → D → Option (List D)
  | .int a, .int b => if -(2 ^ 61) ≤ a ∧ a < 2 ^ 61 ∧ b - a ≤ 16777216 ∧ -(2 ^ 62) ≤ b then some (fromto a b) else none
  | _, _ => none
theorem irng2_eq {x y : D} {l : List D} (e : irng2D x y = some l) : ∃ a b, x = .int a ∧ y = .int b ∧ (-(2 ^ 61) ≤ a ∧ a < 2 ^ 61 ∧ b - a ≤ 16777216 ∧ -(2 ^ 62) ≤ b) ∧ l = fromto a b := by
  cases x <;> cases y <;> simp only [irng2D] at e <;> try cases e
  split at e <;> cases e
  exact ⟨_, _, rfl, rfl, by assumption, rfl⟩
theorem ev_irng2 {a b : Expr} {p pos : Pos} {f1 f2 : Ev → Mm D} (hg : Gl X "range") (hm : X.mg "range" = none) (hs : isStar a = false) (hs2 : isStar b = false) (h1 : EvE c W X a f1) (h2 : EvE c W X b f2) :
    EvI c W X tg (.Call (.Name "range" p) [a, b] [] pos) (fun ρ => bnd (f1 ρ) fun x => bnd (f2 ρ) fun y => opt (irng2D x y)) := by
  refine impI (pi_range2 hg hm (pa_cons h1 (pa_cons h2 pa_nil (star_cons hs2)) (star_cons hs)) (by rw [star_cons hs, star_cons hs2]; rfl) (by rw [star_cons hs2]; rfl)) fun σ H R h => ?_
  obtain ⟨g, ρ, S, st, h⟩ := h
  refine step wI st h fun x S1 g1 H1 u st1 x1 r1 h => ?_
  refine step wI st1 h fun y S2 g2 H2 v st2 x2 r2 h => ?_
  obtain ⟨d, e, k⟩ := fin h
  clear h
  have r1 := Rep.ext x2.fx x u r1
  obtain ⟨a, b, rfl, rfl, hh, rfl⟩ := irng2_eq e
  cases r1
  cases r2
  refine ⟨a, b, rfl, ⟨by omega, by omega, by omega, by omega⟩, k g2 H2 _ (.refl _ _) st2.good (mkI walk_range (by simp [fromto]) (by simp [fromto]; rw [sizeLine_eq]; omega) (fun _ _ _ => trivial) fun i H1 x H2 g1 S hi fx G y => ?_)⟩
  obtain ⟨rfl, rfl⟩ := y
  have hi2 : i < (b - a).toNat := by simpa [fromto] using hi
  exact ⟨.int (a + (i : Nat)), g1, by simp [fromto, hi2], .refl _ _, G, rfl⟩
/-- a new pair at each turn -/
theorem pair_ok {xs ys : Nat → Option V} {n : Nat} {items : List D} (hi : ∀ i, i < n → ∀ x y, xs i = some x → ys i = some y → ∃ d e, items[i]? = some (.tup [d, e]) ∧ ∀ g1 H1, FExt g H g1 H1 → Rep c g1 H1 d x ∧ Rep c g1 H1 e y) :
    ∀ i H1 x H2 g1 S, i < n → FExt g H g1 H1 → Good c g1 S H1 → YPair xs ys i H1 x H2 → ∃ d g2, items[i]? = some d ∧ Ext g1 H1 g2 H2 ∧ Good c g2 S H2 ∧ Rep c g2 H2 d x := by
  intro i H1 x H2 g1 S hlt fx G y
  obtain ⟨T, u, v, rfl, hT, rfl, h1, h2⟩ := y
  obtain ⟨d, e, he, hr⟩ := hi i hlt u v h1 h2
  obtain ⟨x, G'⟩ := G.new (o := .tup [u, v]) hT
  obtain ⟨ra, rb⟩ := hr g1 H1 fx
  exact ⟨_, _, he, x, G', T, [u, v], rfl, .inl ⟨.inr rfl, upd_same, by show 2 ≤ sizeLine; decide⟩, _, _, rfl, Rep.ext x.fx d u ra, _, _, rfl, Rep.ext x.fx e v rb, rfl⟩
/-- enumerate -/
def enumL : Nat → List D → List D
  | _, [] => []
  | n, x :: xs => .tup [.int n, x] :: enumL (n + 1) xs
theorem enumL_len : ∀ (n : Nat) (xs : List D), (enumL n xs).length = xs.length
  | _, [] => rfl
  | n, x :: xs => by simp [enumL, enumL_len]
theorem enumL_get : ∀ (n : Nat) (xs : List D) (i : Nat) (d : D), xs[i]? = some d → (enumL n xs)[i]? = some (.tup [.int ((n + i : Nat) : Int), d])
  | _, [], i, d, h => by simp at h
  | n, x :: xs, 0, d, h => by
    simp at h
    subst h
    simp [enumL]
  | n, x :: xs, i + 1, d, h => by
    have := enumL_get (n + 1) xs i d (by simpa using h)
    simp only [enumL, List.getElem?_cons_succ, this]
    congr 5
    omega
def ienumD : D → Option (List D)
  | .lst xs => some (enumL 0 xs)
  | .tup xs => some (enumL 0 xs)
  | _ => none
theorem ev_ienum {a : Expr} {elts : List Expr} {kk : Nat} {tpos p pos : Pos} {f : Ev → Mm D} (hK : X.K = c.K) (hg : Gl X "enumerate") (hm : X.mg "enumerate" = none) (hs : isStar a = false) (h : EvE c W X a f) :
    EvI c W X (.Tuple elts kk tpos) (.Call (.Name "enumerate" p) [a] [] pos) (fun ρ => bnd (f ρ) fun d => opt (ienumD d)) := by
  refine impI (pi_enumT hg hm (pa_cons h pa_nil (star_cons hs)) (star_cons hs)) fun σ H R h => ?_
  obtain ⟨g, ρ, S, st, h⟩ := h
  refine step wI st h fun x S1 g1 H1 u st1 x1 r1 h => ?_
  obtain ⟨d, e, k⟩ := fin h
  clear h
  have go : ∀ {xs : List D} {vs : List V} {J : It} {G : Hp → Prop}, Reps c g1 H1 xs vs → vs.length ≤ sizeLine → Walk J vs.length G (YPair (fun i => some (.int (i : Nat))) (fun i => vs[i]?)) → (∀ g2 H2, FExt g1 H1 g2 H2 → G H2) → relI c H1 g1 H1 (enumL 0 xs) J := fun {xs vs J G} rp hl w hG => by
    refine mkI w (by rw [enumL_len, rp.len]) (by rw [enumL_len, rp.len]; exact hl) hG ?_
    rw [enumL_len]
    refine pair_ok fun i hi x y h1 h2 => ?_
    obtain ⟨d, e, r⟩ := rp.get' h2
    refine ⟨.int ((0 + i : Nat) : Int), d, enumL_get 0 xs i d e, fun g2 H2 fx => ⟨?_, Rep.ext fx d y r⟩⟩
    cases h1
    show V.int (i : Int) = V.int ((0 + i : Nat) : Int)
    rw [Nat.zero_add]
  cases x with
  | lst xs =>
    cases e
    obtain ⟨p, us, rfl, hp, rp⟩ := r1
    exact ⟨p, us, rfl, .inl ⟨hK ▸ hp.sq, k g1 H1 _ (.refl _ _) st1.good (go rp hp.bd (walk_enum (K := X.K)) fun g2 H2 fx => hK ▸ (hp.ext fx).sq)⟩⟩
  | tup xs =>
    cases e
    obtain ⟨p, us, rfl, hp, rp⟩ := r1
    exact ⟨p, us, rfl, .inr ⟨hK ▸ hp.sq, k g1 H1 _ (.refl _ _) st1.good (go rp hp.bd (walk_enumT (K := X.K)) fun g2 H2 fx => hK ▸ (hp.ext fx).sq)⟩⟩
  | _ => cases e
def zipL : List D → List D → List D
  | x :: xs, y :: ys => .tup [x, y] :: zipL xs ys
  | _, _ => []
theorem zipL_len : ∀ (xs ys : List D), (zipL xs ys).length = min xs.length ys.length
  | [], ys => by simp [zipL]
  | x :: xs, [] => by simp [zipL]
  | x :: xs, y :: ys => by simp [zipL, zipL_len]
theorem zipL_get : ∀ (xs ys : List D) (i : Nat) (d e : D), xs[i]? = some d → ys[i]? = some e → (zipL xs ys)[i]? = some (.tup [d, e])
  | [], ys, i, d, e, h, _ => by simp at h
  | x :: xs, [], i, d, e, _, h => by simp at h
  | x :: xs, y :: ys, 0, d, e, h1, h2 => by
    simp at h1 h2
    subst h1 h2
    rfl
  | x :: xs, y :: ys, i + 1, d, e, h1, h2 => by
    have := zipL_get xs ys i d e (by simpa using h1) (by simpa using h2)
    simpa [zipL] using this
def izipD : D → D → Option (List D)
  | .lst xs, .lst ys => some (zipL xs ys)
  | _, _ => none
theorem ev_izip {a b : Expr} {elts : List Expr} {kk : Nat} {tpos p pos : Pos} {f1 f2 : Ev → Mm D} (hK : X.K = c.K) (hg : Gl X "zip") (hm : X.mg "zip" = none) (hs : isStar a = false) (hs2 : isStar b = false) (h1 : EvE c W X a f1) (h2 : EvE c W X b f2) :
    EvI c W X (.Tuple elts kk tpos) (.Call (.Name "zip" p) [a, b] [] pos) (fun ρ => bnd (f1 ρ) fun x => bnd (f2 ρ) fun y => opt (izipD x y)) := by
  refine impI (pi_zip hg hm (pa_cons h1 (pa_cons h2 pa_nil (star_cons hs2)) (star_cons hs)) (star_cons hs) (plain_any (by unfold noStar; rw [List.all_cons, hs2]; rfl))) fun σ H R h => ?_
  obtain ⟨g, ρ, S, st, h⟩ := h
  refine step wI st h fun x S1 g1 H1 u st1 x1 r1 h => ?_
  refine step wI st1 h fun y S2 g2 H2 v st2 x2 r2 h => ?_
  obtain ⟨d, e, k⟩ := fin h
  clear h
  have r1 := Rep.ext x2.fx x u r1
  cases x <;> cases y <;> simp only [izipD] at e <;> try cases e
  obtain ⟨p, us, rfl, hp, rp⟩ := r1
  obtain ⟨q, vs, rfl, hq, rq⟩ := r2
  refine ⟨p, q, us, vs, rfl, hK ▸ hp.sq, hK ▸ hq.sq, k g2 H2 _ (.refl _ _) st2.good (mkI (walk_zip rfl) (by rw [zipL_len, rp.len, rq.len]) (by have := hp.bd; rw [zipL_len, rp.len]; omega) (fun g3 H3 fx => ⟨hK ▸ (hp.ext fx).sq, hK ▸ (hq.ext fx).sq⟩) ?_)⟩
  refine pair_ok fun i hi x y h1 h2 => ?_
  obtain ⟨d, e, r⟩ := rp.get' h1
  obtain ⟨d2, e2, r2⟩ := rq.get' h2
  exact ⟨d, d2, zipL_get _ _ i d d2 e e2, fun g3 H3 fx => ⟨Rep.ext fx d x r, Rep.ext fx d2 y r2⟩⟩
/-! ### targets -/
/-- a target: a name's place; several names' places -/
inductive Tg where
  | one (i : Nat)
  | many (is : List Nat)
def Tg.ps : Tg → List Nat
  | .one i => [i]
  | .many is => is
def setMany : Ev → List Nat → List D → Option Ev
  | ρ, [], [] => some ρ
  | ρ, i :: is, d :: ds => setMany (ρ.set i (.val d)) is ds
  | _, _, _ => none
def asgn : Tg → D → Ev → Option Ev
  | .one i, d, ρ => some (ρ.set i (.val d))
  | .many is, .tup ds, ρ => setMany ρ is ds
  | .many _, _, _ => none
theorem wipe_set {i : Nat} {o : Option V} : ∀ (vs : List Nat) (σ : L2.St), L2.wipe (σ.set i o) vs = if i ∈ vs then L2.wipe σ vs else (L2.wipe σ vs).set i o
  | [], σ => rfl
  | v :: vs, σ => by
    show (L2.wipe (σ.set i o) vs).set v none = _
    rw [wipe_set vs σ]
    by_cases h : i ∈ vs
    · rw [if_pos h, if_pos (List.mem_cons_of_mem _ h)]
      rfl
    · rw [if_neg h]
      by_cases e : i = v
      · subst e
        rw [if_pos List.mem_cons_self, List.set_set]
        rfl
      · rw [if_neg (by simp [e, h]), List.set_comm _ _ e]
        rfl
theorem wipe_in {i : Nat} {o : Option V} {vs : List Nat} (h : i ∈ vs) (σ : L2.St) : L2.wipe (σ.set i o) vs = L2.wipe σ vs := by rw [wipe_set, if_pos h]
theorem wipe_wipe : ∀ (ws vs : List Nat) (σ : L2.St), (∀ i ∈ ws, i ∈ vs) → L2.wipe (L2.wipe σ ws) vs = L2.wipe σ vs
  | [], _, _, _ => rfl
  | w :: ws, vs, σ, h => by
    show L2.wipe ((L2.wipe σ ws).set w none) vs = _
    rw [wipe_in (h w List.mem_cons_self), wipe_wipe ws vs σ fun i hi => h i (List.mem_cons_of_mem _ hi)]
/-- a target's reading by data; nothing but the places is touched -/
def tG (c : Cf) (ps : List Nat) (f : D → Ev → Option Ev) : TG := fun v σ H Q => ∃ B g ρ d ρ', EnvRep c B g H ρ σ ∧ Rep c g H d v ∧ f d ρ = some ρ' ∧ ∀ σ', EnvRep c B g H ρ' σ' → (∀ vs, (∀ i ∈ ps, i ∈ vs) → L2.wipe σ' vs = L2.wipe σ vs) → Q σ' H
abbrev EvG (c : Cf) (X : Cx) (tg : Expr) (ps : List Nat) (f : D → Ev → Option Ev) : Prop := PG X tg (tG c ps f)
theorem impG {t t' : TG} (h : PG X tg t) (m : ∀ v σ H Q, t' v σ H Q → t v σ H Q) : PG X tg t' := ⟨fun pins s σ H v u Q I r q => h.run pins s σ H v u Q I r (m v σ H Q q)⟩
theorem ev_one_g {i : Nat} {x : Str} {pos : Pos} (hN : X.N.Nodup) (hi : X.N[i]? = some x) (hx : Loc X.env.scope x) (hf : X.fn x = true ∨ X.env.scope.names.lookup x = some .local) : EvG c X (.Name x pos) [i] (asgn (.one i)) := by
  refine impG (pg_name hN hi hx hf) fun v σ H Q h => ?_
  obtain ⟨B, g, ρ, d, ρ', er, r, e, k⟩ := h
  cases e
  exact k _ (er.setV i r) fun vs hv => wipe_in (hv i (by simp)) _
/-- several names -/
inductive NamesG (X : Cx) : List Expr → List Nat → Prop where
  | nil : NamesG X [] []
  | cons {i : Nat} {x : Str} {pos : Pos} {es : List Expr} {is : List Nat} (hi : X.N[i]? = some x) (hx : Loc X.env.scope x) (hf : X.fn x = true ∨ X.env.scope.names.lookup x = some .local) (r : NamesG X es is) : NamesG X (.Name x pos :: es) (i :: is)
def gNames : List Nat → TGs
  | [] => gNil
  | i :: is => gCons (gName i) (gNames is)
theorem NamesG.pgs (hN : X.N.Nodup) {es : List Expr} {is : List Nat} (h : NamesG X es is) : PGs X es (gNames is) := by
  induction h with
  | nil => exact pgs_nil
  | cons hi hx hf r ih => exact pgs_cons (pg_name hN hi hx hf) ih rfl
theorem NamesG.len {es : List Expr} {is : List Nat} (h : NamesG X es is) : (assignEach es X.env).length = is.length ∧ (assignEach es X.env).findIdx? (·.1) = none := by
  induction h with
  | nil => exact ⟨rfl, rfl⟩
  | @cons i x pos es is hi hx hf r ih =>
    have e : assignEach (.Name x pos :: es) X.env = (false, assign (.Name x pos) X.env) :: assignEach es X.env := rfl
    rw [e]
    refine ⟨by rw [List.length_cons, List.length_cons, ih.1], ?_⟩
    rw [List.findIdx?_cons, ih.2]
    rfl
theorem gNames_run : ∀ {is : List Nat} {ds : List D} {vs : List V} {ρ ρ' : Ev} {σ : L2.St} {Q : L2.St → Hp → Prop}, EnvRep c B g H ρ σ → Reps c g H ds vs → setMany ρ is ds = some ρ' → (∀ σ', EnvRep c B g H ρ' σ' → (∀ vs, (∀ i ∈ is, i ∈ vs) → L2.wipe σ' vs = L2.wipe σ vs) → Q σ' H) → gNames is vs σ H Q
  | [], [], vs, ρ, ρ', σ, Q, er, r, e, k => by
    cases e
    have z : vs = [] := r
    exact ⟨z, k σ er fun _ _ => rfl⟩
  | i :: is, d :: ds, vs, ρ, ρ', σ, Q, er, r, e, k => by
    obtain ⟨v, ws, rfl, r1, r2⟩ := r
    exact ⟨v, ws, rfl, gNames_run (er.setV i r1) r2 e fun σ' er' hw => k σ' er' fun vs hv => (hw vs fun j hj => hv j (List.mem_cons_of_mem _ hj)).trans (wipe_in (hv i List.mem_cons_self) _)⟩
  | [], d :: ds, vs, ρ, ρ', σ, Q, er, r, e, k => by cases e
  | i :: is, [], vs, ρ, ρ', σ, Q, er, r, e, k => by cases e
theorem setMany_len : ∀ {is : List Nat} {ds : List D} {ρ ρ' : Ev}, setMany ρ is ds = some ρ' → ds.length = is.length
  | [], [], _, _, _ => rfl
  | i :: is, d :: ds, ρ, ρ', e => by
    have := setMany_len (is := is) (ds := ds) e
    simp [this]
  | [], d :: ds, _, _, e => by cases e
  | i :: is, [], _, _, e => by cases e
theorem ev_many_g {es : List Expr} {is : List Nat} {k : Nat} {pos : Pos} (hK : X.K = c.K) (hc : X.calm = true) (hN : X.N.Nodup) (h : NamesG X es is) : EvG c X (.Tuple es k pos) is (asgn (.many is)) := by
  refine impG (pg_tup (n := is.length) hc (h.pgs hN) h.len.1 h.len.2) fun v σ H Q q => ?_
  obtain ⟨B, g, ρ, d, ρ', er, r, e, kk⟩ := q
  cases d with
  | tup ds =>
    obtain ⟨p, us, rfl, hp, rp⟩ := r
    exact ⟨p, us, rfl, hK ▸ hp.sq, by rw [← rp.len]; exact setMany_len e, gNames_run er rp e kk⟩
  | _ => cases e
/-! ### comprehensions -/
def wipeE (ρ : Ev) : List Nat → Ev
  | [] => ρ
  | v :: vs => (wipeE ρ vs).set v .un
theorem EnvRep.setU (h : EnvRep c B g H ρ σ) (i : Nat) : EnvRep c B g H (ρ.set i .un) (σ.set i none) := by
  refine ⟨by rw [List.length_set, List.length_set]; exact h.len, fun j s e => ?_, fun j k xs ys p e1 e2 e3 e4 => ?_⟩
  · by_cases hj : i = j
    · subst hj
      have hl : i < ρ.length := by
        have := (List.getElem?_eq_some_iff.mp e).1
        rwa [List.length_set] at this
      rw [List.getElem?_set_self hl] at e
      cases e
      exact ⟨none, List.getElem?_set_self (by rw [h.len]; exact hl), trivial⟩
    · rw [List.getElem?_set_ne hj] at e
      rw [List.getElem?_set_ne hj]
      exact h.at_ j s e
  · have hji : i ≠ j := fun z => by
      subst z
      have hl : i < ρ.length := by
        have := (List.getElem?_eq_some_iff.mp e1).1
        rwa [List.length_set] at this
      rw [List.getElem?_set_self hl] at e1
      cases e1
    have hki : i ≠ k := fun z => by
      subst z
      have hl : i < ρ.length := by
        have := (List.getElem?_eq_some_iff.mp e2).1
        rwa [List.length_set] at this
      rw [List.getElem?_set_self hl] at e2
      cases e2
    rw [List.getElem?_set_ne hji] at e1 e3
    rw [List.getElem?_set_ne hki] at e2 e4
    exact h.nd j k xs ys p e1 e2 e3 e4
theorem EnvRep.wipe (h : EnvRep c B g H ρ σ) : ∀ vs : List Nat, EnvRep c B g H (wipeE ρ vs) (L2.wipe σ vs)
  | [] => h
  | v :: vs => (h.wipe vs).setU v
/-- one turn after another; nothing may be raised within -/
def compM (asg : D → Ev → Option Ev) (ft : Ev → Mm Bool) (fe : Ev → Mm D) (ρ : Ev) : List D → Mm (List D)
  | [] => ret []
  | x :: xs => bnd (opt (asg x ρ)) fun ρ1 => bnd (nox (ft ρ1)) fun b => if b = true then bnd (nox (fe ρ1)) fun d => bnd (compM asg ft fe ρ xs) fun ds => ret (d :: ds) else compM asg ft fe ρ xs
/-- the same, a turn as one function -/
def mapO (f : D → Mm (Option D)) : List D → Mm (List D)
  | [] => ret []
  | x :: xs => bnd (f x) fun o => match o with
    | some d => bnd (mapO f xs) fun ds => ret (d :: ds)
    | none => mapO f xs
def turnM (asg : D → Ev → Option Ev) (ft : Ev → Mm Bool) (fe : Ev → Mm D) (ρ : Ev) (x : D) : Mm (Option D) := bnd (opt (asg x ρ)) fun ρ1 => bnd (nox (ft ρ1)) fun b => if b = true then bnd (nox (fe ρ1)) fun d => ret (some d) else ret none
theorem compM_mapO (asg : D → Ev → Option Ev) (ft : Ev → Mm Bool) (fe : Ev → Mm D) (ρ : Ev) : ∀ xs : List D, compM asg ft fe ρ xs = mapO (turnM asg ft fe ρ) xs
  | [] => rfl
  | x :: xs => by
    unfold compM mapO turnM
    rw [bnd_bnd]
    congr 1
    funext ρ1
    rw [bnd_bnd]
    congr 1
    funext b
    cases b with
    | true =>
      rw [if_pos rfl, if_pos rfl, bnd_bnd]
      congr 1
      funext d
      rw [compM_mapO asg ft fe ρ xs]
      rfl
    | false =>
      rw [if_neg Bool.false_ne_true, if_neg Bool.false_ne_true, compM_mapO asg ft fe ρ xs]
      rfl
theorem bnd_some {α β : Type} {x : Mm α} {f : α → Mm β} {r : Out β} {S' : Store} (h : bnd x f S = some (r, S')) : (∃ a S1, x S = some (.ok a, S1) ∧ f a S1 = some (r, S')) ∨ (∃ n fl, x S = some (.exc n fl, S') ∧ r = .exc n fl) := by
  unfold bnd at h
  split at h
  · cases h
  · exact .inl ⟨_, _, by assumption, h⟩
  · cases h
    exact .inr ⟨_, _, by assumption, rfl⟩
theorem nox_some {α : Type} {x : Mm α} {r : Out α} {S' : Store} (h : nox x S = some (r, S')) : ∃ a, r = .ok a ∧ x S = some (.ok a, S') := by
  unfold nox at h
  split at h
  · cases h
    exact ⟨_, rfl, by assumption⟩
  · cases h
theorem opt_some' {α : Type} {x : Option α} {r : Out α} {S' : Store} (h : opt x S = some (r, S')) : ∃ a, r = .ok a ∧ x = some a ∧ S' = S := by
  cases x with
  | none => cases h
  | some a =>
    cases h
    exact ⟨a, rfl, rfl, rfl⟩
/-- what a step of it was -/
theorem compM_step {asg : D → Ev → Option Ev} {ft : Ev → Mm Bool} {fe : Ev → Mm D} {x : D} {xs : List D} {r : Out (List D)} {S' : Store} (h : compM asg ft fe ρ (x :: xs) S = some (r, S')) :
    ∃ ρ1 b S1, asg x ρ = some ρ1 ∧ ft ρ1 S = some (.ok b, S1) ∧ ((b = true ∧ ∃ d S2 r2, fe ρ1 S1 = some (.ok d, S2) ∧ compM asg ft fe ρ xs S2 = some (r2, S') ∧ r = (match r2 with | .ok ds => .ok (d :: ds) | .exc n fl => .exc n fl)) ∨ (b = false ∧ compM asg ft fe ρ xs S1 = some (r, S'))) := by
  unfold compM at h
  rcases bnd_some h with ⟨ρ1, S0, h1, k1⟩ | ⟨n, fl, h1, _⟩
  · obtain ⟨_, z, q1, rfl⟩ := opt_some' h1
    cases z
    rcases bnd_some k1 with ⟨b, S1, h2, k2⟩ | ⟨n, fl, h2, _⟩
    · obtain ⟨_, z, q2⟩ := nox_some h2
      cases z
      refine ⟨ρ1, b, S1, q1, q2, ?_⟩
      cases b with
      | false => exact .inr ⟨rfl, k2⟩
      | true =>
        rw [if_pos rfl] at k2
        rcases bnd_some k2 with ⟨d, S2, h3, k3⟩ | ⟨n, fl, h3, _⟩
        · obtain ⟨_, z, q3⟩ := nox_some h3
          cases z
          rcases bnd_some k3 with ⟨ds, S3, h4, k4⟩ | ⟨n, fl, h4, e⟩
          · cases k4
            exact .inl ⟨rfl, d, S2, .ok ds, q3, h4, rfl⟩
          · subst e
            exact .inl ⟨rfl, d, S2, .exc n fl, q3, h4, rfl⟩
        · obtain ⟨_, z, _⟩ := nox_some h3
          cases z
    · obtain ⟨_, z, _⟩ := nox_some h2
      cases z
  · obtain ⟨_, z, _⟩ := opt_some' h1
    cases z
theorem compM_nox {asg : D → Ev → Option Ev} {ft : Ev → Mm Bool} {fe : Ev → Mm D} : ∀ {xs : List D} {S S' : Store} {r : Out (List D)}, compM asg ft fe ρ xs S = some (r, S') → ∃ ds, r = .ok ds
  | [], S, S', r, h => by
    cases h
    exact ⟨_, rfl⟩
  | x :: xs, S, S', r, h => by
    obtain ⟨ρ1, b, S1, h1, h2, h3⟩ := compM_step h
    rcases h3 with ⟨_, d, S2, r2, h4, h5, rfl⟩ | ⟨_, h5⟩
    · obtain ⟨ds, rfl⟩ := compM_nox h5
      exact ⟨_, rfl⟩
    · exact compM_nox h5
/-- a list of one's own is written -/
theorem Good.upd (G : Good c g S H) {p : Addr} {vs : List V} {o : HO} (hp : H p = some (.lst vs)) (nF : ¬ g.F p) (nM : p ∉ g.M) : FExt g H g (upd H p o) ∧ Good c g S (upd H p o) := by
  have hne : ∀ a, g.F a → a ≠ p := fun a ha e => nF (e ▸ ha)
  have x : FExt g H g (L2.upd H p o) := ⟨fun a ha => ⟨ha, upd_ne (hne a ha)⟩, List.prefix_refl _⟩
  refine ⟨x, G.len, fun n a ob h1 h2 => ?_, G.nF, G.nd, fun a ha => ?_, ?_⟩
  · have h3 := G.ob n a ob h1 h2
    cases ob with
    | lst xs =>
      obtain ⟨us, h4, h5⟩ := h3
      exact ⟨us, by rw [upd_ne (fun z : a = p => nM (z ▸ mem_get h1))]; exact h4, Reps.ext x xs us h5⟩
  · rw [upd_ne (hne a ha)]
    exact G.tr a ha
  · intro t ht
    obtain ⟨ps, h1, h2, h3⟩ := G.tab t ht
    refine ⟨ps, by rw [upd_ne (fun z => by rw [z, hp] at h1; cases h1)]; exact h1, h2, fun pos cv hcv => ?_⟩
    obtain ⟨k, e, h4⟩ := h3 pos cv hcv
    exact ⟨k, e, by rw [upd_ne (fun z => by rw [z, hp] at h4; cases h4)]; exact h4⟩
theorem Ext.upd {g' : Gh} {H' : Hp} (x : Ext g H g' H') {p : Addr} {o : HO} (hp : NK (H p)) (nF : ¬ g'.F p) : Ext g H g' (upd H' p o) := by
  refine ⟨⟨fun a ha => ⟨(x.fx.fz a ha).1, ?_⟩, x.fx.pre⟩, fun a u ha hM ht => ?_, x.nF, x.nM, fun a ha => ?_⟩
  · rw [upd_ne (fun z : a = p => nF (z ▸ (x.fx.fz a ha).1))]
    exact (x.fx.fz a ha).2
  · rw [upd_ne (fun z : a = p => by
      subst z
      rw [ha] at hp
      obtain ⟨ps, e⟩ := hp.tbl
      exact ht ps e)]
    exact x.keep a u ha hM ht
  · by_cases e : a = p
    · rw [e]
      exact hp
    · rw [upd_ne e] at ha
      exact x.tr a ha
abbrev W0 : WX := fun _ _ _ _ => False
abbrev EvTs (c : Cf) (W : WX) (X : Cx) (ifs : List Expr) (f : Ev → Mm Bool) : Prop := PTs X ifs (tX c W relB f)
theorem comp_read {own : List (Str × Nat)} {ps : List Nat} {fi : Ev → Mm (List D)} {asg : D → Ev → Option Ev} {ft : Ev → Mm Bool} {fe : Ev → Mm D} (hps : ∀ i ∈ ps, i ∈ own.map (·.2)) {σ : L2.St} {H : Hp} {Q : VK}
    (h : tX c W (relL c) (fun ρ => bnd (fi ρ) fun items => compM asg ft fe (wipeE ρ (own.map (·.2))) items) σ H Q) : tLc (tX c W (relI c) fi) (tG c ps asg) (tX c W0 relB ft) (tX c W0 (relV c) fe) (own.map (·.2)) σ H Q := by
  obtain ⟨g, ρ, S, st, h⟩ := h
  refine step wL st h fun items S1 g1 H1 J st1 x1 r1 h => ?_
  obtain ⟨hz, G, Y, w, hG, hY⟩ := r1
  intro p hp
  have hps2 := hps
  generalize hvs : own.map (·.2) = vs at *
  cases q : compM asg ft fe (wipeE ρ vs) items S1 with
  | none => rw [q] at h; exact h.elim
  | some r =>
    obtain ⟨r, S'⟩ := r
    obtain ⟨ds, rfl⟩ := compM_nox q
    rw [q] at h
    obtain ⟨B, er0⟩ := st1.env
    have er := er0.wipe vs
    refine lc_it w (fun i H2 => ∃ (g2 : Gh) (S2 : Store) (acc rest : List D) (av : List V), H2 p = some (.lst av) ∧ Reps c g2 H2 acc av ∧ Good c g2 S2 H2 ∧ Ext g1 H1 g2 H2 ∧ ¬ g2.F p ∧ p ∉ g2.M ∧ acc.length ≤ i ∧
      compM asg ft fe (wipeE ρ vs) (items.drop i) S2 = some (.ok rest, S') ∧ acc ++ rest = ds) ?_ (fun i H2 _ hh => ?_) ?_ ?_
    · obtain ⟨x2, G2⟩ := st1.good.new0 (o := .lst []) hp
      exact ⟨g1, S1, [], ds, [], upd_same, rfl, G2, x2, fun z => st1.good.tr p z (.of hp), fun z => st1.good.mem z hp, Nat.le_refl _, q, rfl⟩
    · obtain ⟨g2, S2, acc, rest, av, _, _, _, x2, _⟩ := hh
      exact hG g2 H2 x2.fx
    · intro i x H2 H3 hlt hh y
      obtain ⟨g2, S2, acc, rest, av, hpv, ra, G2, x2, nF, nM, hacc, hm, hds⟩ := hh
      obtain ⟨d, g3, hd, x3, G3, rd_⟩ := hY i H2 x H3 g2 S2 hlt x2.fx G2 y
      have hdr : items.drop i = d :: items.drop (i + 1) := by
        obtain ⟨hl, e⟩ := List.getElem?_eq_some_iff.mp hd
        rw [List.drop_eq_getElem_cons hl, e]
      rw [hdr] at hm
      obtain ⟨ρ1, b, S3, a1, a2, a3⟩ := compM_step hm
      have x13 := x2.trans x3
      have keep : ∀ {g4 : Gh} {H4 : Hp}, Ext g2 H2 g4 H4 → H4 p = some (.lst av) ∧ ¬ g4.F p ∧ p ∉ g4.M := fun {g4 H4} x4 => by
        refine ⟨x4.keep p _ hpv nM fun ps z => (by cases z), fun z => ?_, fun z => ?_⟩
        · rcases x4.nF p z with z | z
          · exact nF z
          · rw [hpv] at z; exact z.elim
        · rcases x4.nM p z with z | z
          · exact nM z
          · rw [hpv] at z; exact z.elim
      refine ⟨B, g3, wipeE ρ vs, d, ρ1, er.ext x13, rd_, a1, fun σ2 er2 hw => ⟨?_, ?_⟩⟩
      · rw [hw vs hps2, wipe_wipe vs vs σ fun _ z => z]
      · refine ⟨g3, ρ1, S2, ⟨G3, B, er2⟩, ?_⟩
        rw [a2]
        intro g4 H4 b' x4 G4 eb
        cases eb
        rcases a3 with ⟨rfl, d2, S4, r2, b1, b2, b3⟩ | ⟨rfl, b2⟩
        · rw [if_pos rfl]
          refine ⟨g4, ρ1, S3, ⟨G4, B, er2.ext x4⟩, ?_⟩
          rw [b1]
          intro g5 H5 v x5 G5 rv
          have x25 := (x3.trans x4).trans x5
          obtain ⟨k1, k2, k3⟩ := keep x25
          obtain ⟨f6, G6⟩ := G5.upd (o := .lst (av ++ [v])) k1 k2 k3
          cases r2 with
          | exc n fl => cases b3
          | ok ds2 =>
            cases b3
            have hav := ra.len
            refine ⟨av, k1, by omega, g5, S4, acc ++ [d2], ds2, av ++ [v], upd_same, ?_, G6, ((x2.trans x25).upd (.of hp) k2), k2, k3, by rw [List.length_append]; exact Nat.succ_le_succ hacc, b2, by rw [← hds, List.append_assoc]; rfl⟩
            exact Reps.ext f6 _ _ (Reps.app (Reps.ext x25.fx acc av ra) ⟨v, [], rfl, rv, rfl⟩)
        · rw [if_neg Bool.false_ne_true]
          obtain ⟨k1, k2, k3⟩ := keep (x3.trans x4)
          exact ⟨g4, S3, acc, rest, av, k1, Reps.ext (x3.trans x4).fx acc av ra, G4, x13.trans x4, k2, k3, Nat.le_succ_of_le hacc, b2, hds⟩
    · intro H2 hh
      obtain ⟨g2, S2, acc, rest, av, hpv, ra, G2, x2, nF, nM, hacc, hm, hds⟩ := hh
      rw [List.drop_length] at hm
      cases hm
      rw [List.append_nil] at hds
      subst hds
      exact h g2 H2 (V.ref p) x2 G2 ⟨p, av, rfl, hpv, ra, .of hp, nF, nM, by rw [← ra.len]; omega⟩
theorem ev_comp {elt tg it : Expr} {ifs : List Expr} {sc : Scope} {own : List (Str × Nat)} {pos : Pos} {ps : List Nat} {fi : Ev → Mm (List D)} {asg : D → Ev → Option Ev} {ft : Ev → Mm Bool} {fe : Ev → Mm D} (hc : X.calm = true) (hN : X.N.Nodup) (hi : EvI c W X tg it fi) (ok : BlkOk X.N X.env.scope sc own) (hs : isSet it = false) (hps : ∀ i ∈ ps, i ∈ own.map (·.2))
    (hg : ∀ (s : Shared) (H : Hp) (C : Addr) (cl : List (Str × Addr)) (fp : List Addr), EvG c (X.blk s H sc (compEnvC sc cl C X.env) fp) tg ps asg)
    (ht : ∀ (s : Shared) (H : Hp) (C : Addr) (cl : List (Str × Addr)) (fp : List Addr), EvTs c W0 (X.blk s H sc (compEnvC sc cl C X.env) fp) ifs ft)
    (he : ∀ (s : Shared) (H : Hp) (C : Addr) (cl : List (Str × Addr)) (fp : List Addr), EvE c W0 (X.blk s H sc (compEnvC sc cl C X.env) fp) elt fe) :
    EvL c W X (.ListComp elt [⟨tg, it, ifs, 0⟩] sc pos) (fun ρ => bnd (fi ρ) fun items => compM asg ft fe (wipeE ρ (own.map (·.2))) items) :=
  imp (pe_lc hc hN hi ok hg ht he fun _ => fsi hs) fun σ H Q h => comp_read hps h
end
end PV

set_option Elab.async false
set_option linter.all false
set_option maxRecDepth 100000
set_option maxHeartbeats 4000000
/-! PvF: calls of defs; statements read by functions of data. -/
namespace PV
open PySem PySem.Spec PyProof.Rows L2

/-! ### calls -/
/-- what the k-th def promises: f by data -/
def spOf (c : Cf) (n : Nat) (f : List D → Mm D) : Sp := fun vs H Q E => ∃ g S ds, Good c g S H ∧ Reps c g H ds vs ∧ ds.length = n ∧ Con c (fun cls dx _ H => E cls dx H) (relV c) g H [] Q (f ds S)
theorem spOf_len {c : Cf} {n : Nat} {f : List D → Mm D} {vs : List V} {H : Hp} {Q : VK} {E : XK} (h : spOf c n f vs H Q E) : vs.length = n := by
  obtain ⟨g, S, ds, _, r, hl, _⟩ := h
  rw [← r.len, hl]
structure CalOk (X : Cx) (c : Cf) (n : Nat) (k : Nat) (f : List D → Mm D) : Prop where
  kp : PySem.W.keepIn X.K (.ref (c.fa k)) = true
  fn : ∃ fd ps, FnOk X.prog X.w X.K X.mg X.base (L2N.CX X.prog X.w) n (c.fa k) fd ps (spOf c ps.length f) ∧ Binds X.K fd ps [] ∧ ∀ ds S, f ds S ≠ none → ds.length = ps.length
section
variable {c : Cf} {W : WX} {X : Cx} {B : Hp} {g g1 g0 : Gh} {ρ : Ev} {S : Store} {σ : L2.St} {H H1 : Hp}
theorem Con.swap {W' : WX} {α β : Type} {rel : RelT α β} {σ' : L2.St} {Q : β → Hp → Prop} (hW : ∀ cls dx H, W cls dx σ H → W' cls dx σ' H) : ∀ {r : Option (Out α × Store)}, Con c W rel g H σ Q r → Con c W' rel g H σ' Q r
  | none, h => h
  | some (.ok a, S'), h => h
  | some (.exc n fl, S'), h => fun g' H' cls dx x G r => hW _ _ _ (h g' H' cls dx x G r)
theorem cal_sp {f : List D → Mm D} {n : Nat} {ds : List D} {vs : List V} {Q : VK} (st : St1 c g ρ S σ H) (r : Reps c g H ds vs) (hf : ∀ ds S, f ds S ≠ none → ds.length = n) (h : Con c W (relV c) g H σ Q (f ds S)) : spOf c n f vs H Q (WE W σ) := by
  refine ⟨g, S, ds, st.good, r, hf ds S fun z => ?_, Con.swap (fun _ _ _ w => w) h⟩
  rw [z] at h
  exact h
theorem ev_call {x : Str} {e : Expr} {es : List Expr} {p pos : Pos} {n k : Nat} {f : List D → Mm D} {fs : Ev → Mm (List D)} (C : CalOk X c n k f) (hr : Room n X.A) (tk : L2N.Takes X W) (hg : Gl X x) (hm : X.mg x = some (.ref (c.fa k))) (hn : nmB x = true) (hs : noStar (e :: es) = true) (h : EvA c W X (e :: es) fs) :
    EvE c W X (.Call (.Name x p) (e :: es) [] pos) (fun ρ => bnd (fs ρ) fun ds => f ds) := by
  obtain ⟨fd, ps, F, hb, hf⟩ := C.fn
  obtain ⟨hs1, hs2⟩ := noStar_cons hs
  refine imp (pe_callS F hr hg hm C.kp hb (fun σ => L2N.passAt tk σ) h (nm_of hn).1 (star_cons hs1) (plain_any hs2)) fun σ H Q h => ?_
  obtain ⟨g, ρ, S, st, h⟩ := h
  exact step wV st h fun ds S1 g1 H1 vs st1 x1 r1 h => cal_sp st1 r1 hf h
theorem ev_call0 {x : Str} {p pos : Pos} {n k : Nat} {f : List D → Mm D} (C : CalOk X c n k f) (hr : Room n X.A) (tk : L2N.Takes X W) (hg : Gl X x) (hm : X.mg x = some (.ref (c.fa k))) (hn : nmB x = true) :
    EvE c W X (.Call (.Name x p) [] [] pos) (fun ρ => f []) := by
  obtain ⟨fd, ps, F, hb, hf⟩ := C.fn
  refine ⟨fun pins s σ H Q I h => ?_⟩
  obtain ⟨g, ρ, S, st, h⟩ := h
  refine wpAny_Call_Name_kw (ld_glob I hg hm ?_ (nm_of hn).1)
  exact PySem.W.callWith_K0 I.kIn C.kp (run_fnS (us := []) (vs := []) F hr hb (L2N.passAt tk σ) I .nil (cal_sp st (ds := []) rfl hf h))
def fnV (N : Nat) (ρ : Ev) (i : Nat) : Option Nat := match getV ρ i with
  | some (.fn k) => if k < N then some k else none
  | _ => none
/-- a name that holds a def -/
theorem ev_callv {x : Str} {e : Expr} {es : List Expr} {p pos : Pos} {i n N : Nat} {F : Nat → List D → Mm D} {fs : Ev → Mm (List D)} (C : ∀ k, k < N → CalOk X c n k (F k)) (hr : Room n X.A) (tk : L2N.Takes X W) (hN : X.N[i]? = some x) (hv : Vis X.env.scope x) (hn : nmB x = true) (hs : noStar (e :: es) = true) (h : EvA c W X (e :: es) fs) :
    EvE c W X (.Call (.Name x p) (e :: es) [] pos) (fun ρ => bnd (opt (fnV N ρ i)) fun k => bnd (fs ρ) fun ds => F k ds) := by
  obtain ⟨hs1, hs2⟩ := noStar_cons hs
  refine ⟨fun pins s σ H Q I h' => ?_⟩
  obtain ⟨g, ρ, S, st, h'⟩ := h'
  have h' : Con c W (relV c) g H σ Q (bnd (opt (fnV N ρ i)) (fun k => bnd (fs ρ) fun ds => F k ds) S) := h'
  cases q : fnV N ρ i with
  | none => rw [q] at h'; exact h'.elim
  | some k =>
    rw [q] at h'
    have h' : Con c W (relV c) g H σ Q (bnd (fs ρ) (fun ds => F k ds) S) := h'
    have hv1 : getV ρ i = some (.fn k) ∧ k < N := by
      unfold fnV at q
      split at q
      · split at q
        · cases q
          exact ⟨by assumption, by assumption⟩
        · cases q
      · cases q
    obtain ⟨hv1, hk⟩ := hv1
    obtain ⟨B, er⟩ := st.env
    obtain ⟨o, e1, v, e2, r⟩ := er.at_ i _ (getV_eq hv1)
    subst e2
    have r : v = V.ref (c.fa k) := r
    subst r
    obtain ⟨h1, h2, _⟩ := nm_of hn
    obtain ⟨fd, ps, Fk, hb, hf⟩ := (C k hk).fn
    refine wpAny_Call_Name_kw (thn ((pe_var (pos := p) hN hv h1 h2).run pins s σ H (fun v H1 => v = V.ref (c.fa k) ∧ H1 = H) I ⟨_, e1, rfl, rfl⟩) fun u s1 ⟨v, H1, I1, r1, q1, q2⟩ => ?_)
    subst q1 q2
    cases r1
    refine PySem.W.callWith_K (h₀ := X.base) I.ok.mod.kin (C k hk).kp (thn (h.run pos pins s1 σ _ (fun vs H1 => spOf c ps.length (F k) vs H1 Q (WE W σ)) I1 ?_) fun us s2 ⟨vs, H2, I2, r, q⟩ => ⟨I2.kIn, run_fnS Fk hr hb (L2N.passAt tk σ) I2 r q⟩) (star_cons hs1) (plain_any hs2)
    exact step wV st h' fun ds S1 g1 H2 vs st1 x1 r1 h => cal_sp st1 r1 hf h

/-! ### statements -/
inductive SO where
  | nx (ρ : Ev) | bk (ρ : Ev) | ct (ρ : Ev) | rt (d : D)
/-- the state within a def's body that was entered at g0, B -/
structure SSt (c : Cf) (g0 : Gh) (B : Hp) (g : Gh) (ρ : Ev) (S : Store) (σ : L2.St) (H : Hp) : Prop where
  good : Good c g S H
  env : EnvRep c B g H ρ σ
  ext : Ext g0 B g H
def ConS (c : Cf) (W : WX) (g0 : Gh) (B : Hp) (g : Gh) (H : Hp) (Dn : Ends) : Option (Out SO × Store) → Prop
  | none => False
  | some (.ok (.nx ρ'), S') => ∀ g' H' σ', FExt g H g' H' → SSt c g0 B g' ρ' S' σ' H' → Dn.nx σ' H'
  | some (.ok (.bk ρ'), S') => ∀ g' H' σ', FExt g H g' H' → SSt c g0 B g' ρ' S' σ' H' → Dn.bk σ' H'
  | some (.ok (.ct ρ'), S') => ∀ g' H' σ', FExt g H g' H' → SSt c g0 B g' ρ' S' σ' H' → Dn.ct σ' H'
  | some (.ok (.rt d), S') => ∀ g' H' v, Ext g0 B g' H' → Good c g' S' H' → Rep c g' H' d v → Dn.rt v H'
  | some (.exc n fl, S') => ∀ g' H' σ' cls dx, Ext g0 B g' H' → Good c g' S' H' → Exn c g' H' n fl cls dx → W cls dx σ' H'
def tS (c : Cf) (W : WX) (f : Ev → Mm SO) : TS := fun Dn σ H => ∃ g0 B g ρ S, SSt c g0 B g ρ S σ H ∧ ConS c W g0 B g H Dn (f ρ S)
abbrev EvS (c : Cf) (W : WX) (X : Cx) (s : Stmt) (f : Ev → Mm SO) : Prop := PS X s (tS c W f)
abbrev EvB (c : Cf) (W : WX) (X : Cx) (ss : List Stmt) (f : Ev → Mm SO) : Prop := PSs X ss (tS c W f)
theorem SSt.st1 (s : SSt c g0 B g ρ S σ H) : St1 c g ρ S σ H := ⟨s.good, B, s.env⟩
theorem SSt.fresh (s : SSt c g0 B g ρ S σ H) {p : Addr} (h : NK (H p)) : NK (B p) := s.ext.tr p h
theorem ConS.weak {Dn : Ends} (x : FExt g H g1 H1) : ∀ {r : Option (Out SO × Store)}, ConS c W g0 B g H Dn r → ConS c W g0 B g1 H1 Dn r
  | none, h => h
  | some (.ok (.nx ρ'), S'), h => fun g' H' σ' y s => h g' H' σ' (x.trans y) s
  | some (.ok (.bk ρ'), S'), h => fun g' H' σ' y s => h g' H' σ' (x.trans y) s
  | some (.ok (.ct ρ'), S'), h => fun g' H' σ' y s => h g' H' σ' (x.trans y) s
  | some (.ok (.rt d), S'), h => h
  | some (.exc n fl, S'), h => h
/-- an expression, then the rest -/
theorem stepS {α γ : Type} {rel1 : RelT α γ} {f : Ev → Mm α} {k : α → Mm SO} {Dn : Ends} {R : γ → Hp → Prop} (st : SSt c g0 B g ρ S σ H) (h : ConS c W g0 B g H Dn (bnd (f ρ) k S))
    (nx : ∀ a S' g' H' b, SSt c g0 B g' ρ S' σ H' → Ext g H g' H' → rel1 H g' H' a b → ConS c W g0 B g' H' Dn (k a S') → R b H') : tX c W rel1 f σ H R := by
  refine ⟨g, ρ, S, st.st1, ?_⟩
  unfold bnd at h
  cases e : f ρ S with
  | none =>
    rw [e] at h
    exact h
  | some p =>
    obtain ⟨o, S'⟩ := p
    rw [e] at h
    cases o with
    | ok a => exact fun g' H' b x G r => nx a S' g' H' b ⟨G, st.env.ext x, st.ext.trans x⟩ x r (ConS.weak x.fx h)
    | exc n fl => exact fun g' H' cls dx x G r => h g' H' σ cls dx (st.ext.trans x) G r
/-- an option that is none is never reached -/
theorem finO {α : Type} {Dn : Ends} {o : Option α} {k : α → Mm SO} (h : ConS c W g0 B g H Dn (bnd (opt o) k S)) : ∃ a, o = some a ∧ ConS c W g0 B g H Dn (k a S) := by
  cases o with
  | none => exact h.elim
  | some a => exact ⟨a, rfl, h⟩
def seqM (f1 f2 : Ev → Mm SO) : Ev → Mm SO := fun ρ => bnd (f1 ρ) fun o => match o with
  | .nx ρ' => f2 ρ'
  | o => ret o
def skipM : Ev → Mm SO := fun ρ => ret (.nx ρ)
theorem ev_nilS : EvB c W X [] skipM := by
  refine impSs pss_nil fun Dn σ H h => ?_
  obtain ⟨g0, B, g, ρ, S, st, h⟩ := h
  exact h g H σ (.refl _ _) st
theorem ev_skip {s : Stmt} (h : PS X s tNext) : EvS c W X s skipM := by
  refine impS h fun Dn σ H h => ?_
  obtain ⟨g0, B, g, ρ, S, st, h⟩ := h
  exact h g H σ (.refl _ _) st
theorem ev_consS {s : Stmt} {ss : List Stmt} {f1 f2 : Ev → Mm SO} (h1 : EvS c W X s f1) (h2 : EvB c W X ss f2) : EvB c W X (s :: ss) (seqM f1 f2) := by
  refine impSs (pss_cons h1 h2) fun Dn σ H h => ?_
  obtain ⟨g0, B, g, ρ, S, st, h⟩ := h
  refine ⟨g0, B, g, ρ, S, st, ?_⟩
  unfold seqM bnd at h
  cases e : f1 ρ S with
  | none => rw [e] at h; exact h
  | some p =>
    obtain ⟨o, S'⟩ := p
    rw [e] at h
    cases o with
    | exc n fl => exact h
    | ok o =>
      cases o with
      | nx ρ' => exact fun g' H' σ' x s => ⟨g0, B, g', ρ', S', s, ConS.weak x h⟩
      | bk ρ' => exact h
      | ct ρ' => exact h
      | rt d => exact h
/-- a name's own list is read only from now on -/
def frzM (i : Nat) (f : Ev → Mm SO) : Ev → Mm SO := fun ρ => bnd (opt (ownV ρ i)) fun xs => f (ρ.set i (.val (.lst xs)))
theorem EnvRep.frz (h : EnvRep c B g H ρ σ) {i : Nat} {xs : List D} {p : Addr} {vs : List V} (hi : ρ[i]? = some (.own xs)) (hs : σ[i]? = some (some (V.ref p))) (hp : H p = some (HO.lst vs)) (r : Reps c g H xs vs) (hz : vs.length ≤ sizeLine) :
    EnvRep c B (g.fz p) H (ρ.set i (.val (.lst xs))) σ := by
  have x : FExt g H (g.fz p) H := ⟨fun a ha => ⟨.inl ha, rfl⟩, List.prefix_refl _⟩
  have hl := (List.getElem?_eq_some_iff.mp hi).1
  refine ⟨by rw [List.length_set]; exact h.len, fun j s e => ?_, fun j k as bs q e1 e2 e3 e4 => ?_⟩
  · by_cases hj : i = j
    · subst hj
      rw [List.getElem?_set_self hl] at e
      cases e
      exact ⟨_, hs, V.ref p, rfl, p, vs, rfl, .inl ⟨.inr rfl, .inl hp, hz⟩, Reps.ext x xs vs r⟩
    · rw [List.getElem?_set_ne hj] at e
      obtain ⟨o, e1, r1⟩ := h.at_ j s e
      refine ⟨o, e1, ?_⟩
      cases s with
      | un => trivial
      | val d =>
        obtain ⟨v, e2, r2⟩ := r1
        exact ⟨v, e2, Rep.ext x d v r2⟩
      | own ys =>
        obtain ⟨q, us, e2, h1, h2, h3, h4, h5⟩ := r1
        refine ⟨q, us, e2, h1, Reps.ext x ys us h2, fun z => ?_, h4, h5⟩
        rcases z with z | z
        · exact h3 z
        · subst z
          subst e2
          exact hj (h.nd i j xs ys q hi e hs e1)
  · have aux : ∀ {k : Nat} {cs : List D}, (ρ.set i (.val (.lst xs)))[k]? = some (.own cs) → ρ[k]? = some (.own cs) := fun {k cs} z => by
      by_cases hk : i = k
      · subst hk
        rw [List.getElem?_set_self hl] at z
        cases z
      · rwa [List.getElem?_set_ne hk] at z
    exact h.nd j k as bs q (aux e1) (aux e2) e3 e4
theorem ev_frzS {ss : List Stmt} {i : Nat} {f : Ev → Mm SO} (h : EvB c W X ss f) : EvB c W X ss (frzM i f) := by
  refine impSs h fun Dn σ H h => ?_
  obtain ⟨g0, B, g, ρ, S, st, h⟩ := h
  obtain ⟨xs, e, h⟩ := finO h
  obtain ⟨o, e1, p, vs, e2, hp, r, nF, nM, hz, hB⟩ := st.env.at_ i _ (ownV_eq e)
  subst e2
  have x : FExt g H (g.fz p) H := ⟨fun a ha => ⟨.inl ha, rfl⟩, List.prefix_refl _⟩
  refine ⟨g0, B, g.fz p, _, S, ⟨st.good.fix (by rw [hp]; exact fun z => z) nM, st.env.frz (ownV_eq e) e1 hp r hz, ⟨st.ext.fx.trans x, st.ext.keep, fun a ha => ?_, st.ext.nM, st.ext.tr⟩⟩, ConS.weak x h⟩
  rcases ha with ha | ha
  · exact st.ext.nF a ha
  · exact .inr (ha ▸ hB)
/-! ### the simplest -/
theorem ev_ret {e : Expr} {pos : Pos} {f : Ev → Mm D} (h : EvE c W X e f) : EvS c W X (.Return (some e) pos) (fun ρ => bnd (f ρ) fun d => ret (.rt d)) := by
  refine impS (ps_ret h) fun Dn σ H h => ?_
  obtain ⟨g0, B, g, ρ, S, st, h⟩ := h
  exact stepS st h fun d S1 g1 H1 v st1 x1 r1 h => h g1 H1 v st1.ext st1.good r1
theorem ev_retN {pos : Pos} : EvS c W X (.Return none pos) (fun _ => ret (.rt .non)) := by
  refine impS ps_retN fun Dn σ H h => ?_
  obtain ⟨g0, B, g, ρ, S, st, h⟩ := h
  exact h g H .non st.ext st.good rfl
theorem ev_expr {e : Expr} {pos : Pos} {f : Ev → Mm D} (hs : isComp e = false) (h : EvE c W X e f) : EvS c W X (.Expr e pos) (fun ρ => bnd (f ρ) fun _ => ret (.nx ρ)) := by
  refine impS (ps_expr h (noSwap hs)) fun Dn σ H h => ?_
  obtain ⟨g0, B, g, ρ, S, st, h⟩ := h
  exact stepS st h fun d S1 g1 H1 v st1 x1 r1 h => h g1 H1 σ (.refl _ _) st1
theorem ev_ifS {t : Expr} {a b : List Stmt} {pos : Pos} {ft : Ev → Mm Bool} {f1 f2 : Ev → Mm SO} (ht : EvT c W X t ft) (h1 : EvB c W X a f1) (h2 : EvB c W X b f2) :
    EvS c W X (.If t a b pos) (fun ρ => bnd (ft ρ) fun q => if q = true then f1 ρ else f2 ρ) := by
  refine impS (ps_if ht h1 h2) fun Dn σ H h => ?_
  obtain ⟨g0, B, g, ρ, S, st, h⟩ := h
  refine stepS st h fun q S1 g1 H1 v st1 x1 r1 h => ?_
  cases r1
  cases q with
  | true =>
    rw [if_pos rfl]
    exact ⟨g0, B, g1, ρ, S1, st1, h⟩
  | false =>
    rw [if_neg Bool.false_ne_true]
    exact ⟨g0, B, g1, ρ, S1, st1, h⟩
/-- name = value -/
theorem ev_set {i : Nat} {x : Str} {e : Expr} {p pos : Pos} {f : Ev → Mm D} (hN : X.N.Nodup) (hi : X.N[i]? = some x) (hx : Loc X.env.scope x) (hf : X.fn x = true ∨ X.env.scope.names.lookup x = some .local) (hs : isComp e = false) (h : EvE c W X e f) :
    EvS c W X (.Assign [.Name x p] e pos) (fun ρ => bnd (f ρ) fun d => ret (.nx (ρ.set i (.val d)))) := by
  refine impS (ps_set hN hi hx h (noSwap hs) hf) fun Dn σ H h => ?_
  obtain ⟨g0, B, g, ρ, S, st, h⟩ := h
  exact stepS st h fun d S1 g1 H1 v st1 x1 r1 h => h g1 H1 _ (.refl _ _) ⟨st1.good, st1.env.setV i r1, st1.ext⟩
/-- name = a list of its own -/
theorem SSt.setO (st : SSt c g0 B g ρ S σ H) (st1 : SSt c g0 B g1 ρ S1 σ H1) {xs : List D} {v : V} (i : Nat) (r : relL c H g1 H1 xs v) (x : Ext g H g1 H1) : SSt c g0 B g1 (ρ.set i (.own xs)) S1 (σ.set i (some v)) H1 := by
  obtain ⟨p, vs, rfl, h1, h2, h3, h4, h5, h6⟩ := r
  refine ⟨st1.good, st1.env.setO i h1 h2 h4 h5 h6 (st.fresh h3) fun j ys _ e1 e2 => ?_, st1.ext⟩
  obtain ⟨o, e3, q, us, e4, k1, _⟩ := st.env.at_ j _ e1
  rw [e2] at e3
  cases e3
  cases e4
  rw [k1] at h3
  exact h3.elim
theorem ev_setO {i : Nat} {x : Str} {e : Expr} {p pos : Pos} {f : Ev → Mm (List D)} (hN : X.N.Nodup) (hi : X.N[i]? = some x) (hx : Loc X.env.scope x) (hf : X.fn x = true ∨ X.env.scope.names.lookup x = some .local) (hs : isComp e = false) (h : EvL c W X e f) :
    EvS c W X (.Assign [.Name x p] e pos) (fun ρ => bnd (f ρ) fun xs => ret (.nx (ρ.set i (.own xs)))) := by
  refine impS (ps_set hN hi hx h (noSwap hs) hf) fun Dn σ H h => ?_
  obtain ⟨g0, B, g, ρ, S, st, h⟩ := h
  exact stepS st h fun d S1 g1 H1 v st1 x1 r1 h => h g1 H1 _ (.refl _ _) (st.setO st1 i r1 x1)
end
end PV

set_option Elab.async false
set_option linter.all false
set_option maxRecDepth 100000
set_option maxHeartbeats 4000000
/-! PvG: more statements: lists written, several names at once, loops, raise. -/
namespace PV
open PySem PySem.Spec PyProof.Rows L2
section
variable {c : Cf} {W : WX} {X : Cx} {B : Hp} {g g1 g0 : Gh} {ρ : Ev} {S : Store} {σ : L2.St} {H H1 : Hp}
/-! ### what the form of a store is -/
/-- a comprehension that ends in the name's own place -/
def swP (sc : Scope) (x : Str) (p : Pos) : Expr → Bool
  | .ListComp _ _ s q => (sc.names.lookup x == some NameKind.local) && p.line == q.line && !(s.names.any fun (n, k) => n == x && (k == NameKind.local || k == NameKind.cell))
  | _ => false
theorem swP_of {x : Str} {p : Pos} {elt : Expr} {gs : List Comprehension} {s : Scope} {q : Pos} {l : Nat} {env : Env} (hk : env.scope.kind = .function) :
    swapsWith (.ListComp elt gs s q) (some (.Name x p)) l env = pure (swP env.scope x p (.ListComp elt gs s q)) := by
  have hb : (env.blockKind == ScopeKind.function) = true := by unfold Env.blockKind; rw [hk]; rfl
  show (pure (env.blockKind == ScopeKind.function && env.kindOf x == some .local && p.line == q.line && !(s.names.any fun (n, k) => n == x && (k == .local || k == .cell))) : Sem Bool) = _
  rw [hb, Bool.true_and]
  rfl
def nmsOf (sc : Scope) (ts : List Expr) : List Str := ts.filterMap fun
  | .Name id pos => if sc.names.lookup id == some NameKind.local && pos.line == (ts.head?.map (·.pos.line)).getD 0 then some id else none
  | _ => none
theorem sst_eq {ts vs : List Expr} {k k2 : Nat} {p p2 : Pos} {env : Env} (hk : env.scope.kind = .function) : swappedStores [.Tuple ts k p] (.Tuple vs k2 p2) env =
    if (!(ts.length == 2 || ts.length == 3) || vs.length != ts.length || false) = true then pure none
    else if (vs.any fun | .Starred .. => true | _ => false) = true then pure none
    else if ((nmsOf env.scope ts).length != ts.length || (nmsOf env.scope ts).eraseDups.length != (nmsOf env.scope ts).length) = true then pure none
    else if vs.all (foldedForSure 8) = true then pure none
    else if vs.all (constantsAlone 8) = true then (do let _ ← (unsupported "assign.tuple-of-constant-expressions:order-of-the-stores" : Sem Unit); pure (some (nmsOf env.scope ts)))
    else pure (some (nmsOf env.scope ts)) := by
  have hb : (env.blockKind != ScopeKind.function) = false := by unfold Env.blockKind; rw [hk]; rfl
  unfold swappedStores
  simp only [hb]
  rfl
/-- several names are not stored from the right -/
def oneWay (sc : Scope) : Expr → Expr → Bool
  | .Tuple ts _ _, .Tuple vs _ _ => (!(ts.length == 2 || ts.length == 3) || vs.length != ts.length) || ((nmsOf sc ts).length != ts.length || (nmsOf sc ts).eraseDups.length != (nmsOf sc ts).length) || vs.all (foldedForSure 8)
  | .List .., _ => false
  | _, _ => true
theorem oneWay_of {tg e : Expr} {env : Env} (hk : env.scope.kind = .function) (h : oneWay env.scope tg e = true) : swappedStores [tg] e env = pure none := by
  cases tg with
  | List => cases h
  | Tuple ts k p =>
    cases e with
    | Tuple vs k2 p2 =>
      rw [sst_eq hk]
      simp only [oneWay, Bool.or_eq_true] at h
      simp only [Bool.or_eq_true]
      split
      · rfl
      · split
        · rfl
        · split
          · rfl
          · split
            · rfl
            · rename_i h1 _ h3 h4
              rcases h with (h | h) | h
              · exact absurd (.inl h) h1
              · exact absurd h h3
              · exact absurd h h4
    | _ => rfl
  | _ => cases e <;> rfl
/-- .. are -/
def fromRight (sc : Scope) (ts vs : List Expr) : Bool := (ts.length == 2 || ts.length == 3) && vs.length == ts.length && noStar vs && (nmsOf sc ts).length == ts.length && (nmsOf sc ts).eraseDups.length == (nmsOf sc ts).length && !(vs.all (foldedForSure 8)) && !(vs.all (constantsAlone 8))
theorem fromRight_of {ts vs : List Expr} {k k2 : Nat} {p p2 : Pos} {env : Env} (hk : env.scope.kind = .function) (h : fromRight env.scope ts vs = true) : swappedStores [.Tuple ts k p] (.Tuple vs k2 p2) env = pure (some (nmsOf env.scope ts)) := by
  unfold fromRight at h
  simp only [Bool.and_eq_true, Bool.not_eq_true', beq_iff_eq, Bool.or_eq_true] at h
  obtain ⟨⟨⟨⟨⟨⟨h1, h2⟩, h3⟩, h4⟩, h5⟩, h6⟩, h7⟩ := h
  have hst : (vs.any fun | .Starred .. => true | _ => false) = false := by
    rw [Bool.eq_false_iff]
    intro z
    rw [List.any_eq_true] at z
    obtain ⟨x, hx, z⟩ := z
    unfold noStar at h3
    rw [List.all_eq_true] at h3
    have := h3 x hx
    cases x <;> first | (cases z; done) | (simp [isStar] at this; done)
  rw [sst_eq hk, hst]
  have e1 : (ts.length == 2 || ts.length == 3) = true := by simp [h1]
  simp [e1, h2, h4, h5, h6, h7]
/-! ### stores -/
/-- name = [..] -/
theorem ev_setc {elt tg it : Expr} {ifs : List Expr} {sc : Scope} {own : List (Str × Nat)} {pos spos p : Pos} {ps : List Nat} {fi : Ev → Mm (List D)} {asg : D → Ev → Option Ev} {ft : Ev → Mm Bool} {fe : Ev → Mm D} {i : Nat} {x : Str}
    (hk : X.env.scope.kind = .function) (hc : X.calm = true) (hN : X.N.Nodup) (hx : X.N[i]? = some x) (hl : Loc X.env.scope x) (hf : X.fn x = true ∨ X.env.scope.names.lookup x = some .local) (hi : EvI c W X tg it fi) (ok : BlkOk X.N X.env.scope sc own) (hs : isSet it = false) (hps : ∀ i ∈ ps, i ∈ own.map (·.2))
    (hg : ∀ (s : Shared) (H : Hp) (C : Addr) (cl : List (Str × Addr)) (fp : List Addr), EvG c (X.blk s H sc (compEnvC sc cl C X.env) fp) tg ps asg)
    (ht : ∀ (s : Shared) (H : Hp) (C : Addr) (cl : List (Str × Addr)) (fp : List Addr), EvTs c W0 (X.blk s H sc (compEnvC sc cl C X.env) fp) ifs ft)
    (he : ∀ (s : Shared) (H : Hp) (C : Addr) (cl : List (Str × Addr)) (fp : List Addr), EvE c W0 (X.blk s H sc (compEnvC sc cl C X.env) fp) elt fe) :
    EvS c W X (.Assign [.Name x p] (.ListComp elt [⟨tg, it, ifs, 0⟩] sc pos) spos) (fun ρ => bnd (bnd (fi ρ) fun items => compM asg ft fe (wipeE ρ (own.map (·.2))) items) fun xs => ret (.nx (ρ.set i (.own xs)))) := by
  have fin : ∀ {te : TE}, (∀ {σ : L2.St} {H : Hp} {Q : VK}, tX c W (relL c) (fun ρ => bnd (fi ρ) fun items => compM asg ft fe (wipeE ρ (own.map (·.2))) items) σ H Q → te σ H Q) → PS X (.Assign [.Name x p] (.ListComp elt [⟨tg, it, ifs, 0⟩] sc pos) spos) (tAsg te (gName i)) →
      EvS c W X (.Assign [.Name x p] (.ListComp elt [⟨tg, it, ifs, 0⟩] sc pos) spos) (fun ρ => bnd (bnd (fi ρ) fun items => compM asg ft fe (wipeE ρ (own.map (·.2))) items) fun xs => ret (.nx (ρ.set i (.own xs)))) := fun {te} m hp => by
    refine impS hp fun Dn σ H h => ?_
    obtain ⟨g0, B, g, ρ, S, st, h⟩ := h
    refine m ?_
    exact stepS (rel1 := relL c) (f := fun ρ => bnd (fi ρ) fun items => compM asg ft fe (wipeE ρ (own.map (·.2))) items) st h fun d S1 g1 H1 v st1 x1 r1 h => h g1 H1 _ (.refl _ _) (st.setO st1 i r1 x1)
  cases q : swP X.env.scope x p (.ListComp elt [⟨tg, it, ifs, 0⟩] sc pos) with
  | true =>
    have hloc : X.env.scope.names.lookup x = some .local := by
      unfold swP at q
      rw [Bool.and_eq_true, Bool.and_eq_true] at q
      exact beq_iff_eq.mp q.1.1
    exact fin (fun h => comp_read hps h) (ps_setLc hc hN hx hloc ((swP_of hk).trans (by rw [q])) hi ok hg ht he fun _ => fsi hs)
  | false => exact fin (fun h => h) (ps_set hN hx hl (ev_comp hc hN hi ok hs hps hg ht he) ((swP_of hk).trans (by rw [q])) hf)
/-- several names = one thing -/
theorem ev_tupS {tg e : Expr} {pos : Pos} {ps : List Nat} {asg : D → Ev → Option Ev} {f : Ev → Mm D} (hk : X.env.scope.kind = .function) (hg : EvG c X tg ps asg) (h : EvE c W X e f) (hw : oneWay X.env.scope tg e = true) (ht : (asTup tg).isSome = true) :
    EvS c W X (.Assign [tg] e pos) (fun ρ => bnd (f ρ) fun d => bnd (opt (asg d ρ)) fun ρ' => ret (.nx ρ')) := by
  have hs : swapsWithSole [tg] e pos.line X.env = pure false := by
    cases tg <;> simp [asTup] at ht
    cases e <;> rfl
  have h1 : (assignEach [tg] X.env).map (·.2) = [assign tg X.env] := by
    cases tg <;> simp [asTup] at ht
    rfl
  refine impS (ps_asg h hg hs (oneWay_of hk hw) h1) fun Dn σ H h => ?_
  obtain ⟨g0, B, g, ρ, S, st, h⟩ := h
  refine stepS st h fun d S1 g1 H1 v st1 x1 r1 h => ?_
  obtain ⟨ρ', e, h⟩ := finO h
  exact ⟨B, g1, ρ, d, ρ', st1.env, r1, e, fun σ' er _ => h g1 H1 σ' (.refl _ _) ⟨st1.good, er, st1.ext⟩⟩
theorem setMany_reps : ∀ {is : List Nat} {ds : List D} {ρ ρ' : Ev}, setMany ρ is ds = some ρ' → ds.length = is.length := setMany_len
/-- two names from the right -/
theorem ev_par2 {i j : Nat} {x y : Str} {a b : Expr} {px py pt : Pos} {kt k2 : Nat} {pt2 pos : Pos} {fs : Ev → Mm (List D)} (hk : X.env.scope.kind = .function) (hc : X.calm = true) (hN : X.N.Nodup) (hi : X.N[i]? = some x) (hj : X.N[j]? = some y) (hij : i ≠ j)
    (hx : X.env.scope.names.lookup x = some .local) (hy : X.env.scope.names.lookup y = some .local) (hr : fromRight X.env.scope [.Name x px, .Name y py] [a, b] = true) (hn : nmsOf X.env.scope [.Name x px, .Name y py] = [x, y]) (h : EvA c W X [a, b] fs) :
    EvS c W X (.Assign [.Tuple [.Name x px, .Name y py] kt pt] (.Tuple [a, b] k2 pt2) pos) (fun ρ => bnd (fs ρ) fun ds => bnd (opt (setMany ρ [i, j] ds)) fun ρ' => ret (.nx ρ')) := by
  refine impS (ps_par hc hN hi hj hij hx hy h ((fromRight_of hk hr).trans (by rw [hn])) rfl) fun Dn σ H h => ?_
  obtain ⟨g0, B, g, ρ, S, st, h⟩ := h
  refine stepS st h fun ds S1 g1 H1 vs st1 x1 r1 h => ?_
  obtain ⟨ρ', e, h⟩ := finO h
  match ds, e with
  | [d1, d2], e =>
    cases e
    obtain ⟨v, ws, rfl, q1, v2, ws2, rfl, q2, q3⟩ := r1
    cases q3
    exact ⟨v, v2, rfl, h g1 H1 _ (.refl _ _) ⟨st1.good, (st1.env.setV i q1).setV j q2, st1.ext⟩⟩
theorem ev_par3 {i j l : Nat} {x y z : Str} {a b d : Expr} {px py pz pt : Pos} {kt k2 : Nat} {pt2 pos : Pos} {fs : Ev → Mm (List D)} (hk : X.env.scope.kind = .function) (hc : X.calm = true) (hN : X.N.Nodup) (hi : X.N[i]? = some x) (hj : X.N[j]? = some y) (hl : X.N[l]? = some z) (hij : i ≠ j) (hil : i ≠ l) (hjl : j ≠ l)
    (hx : X.env.scope.names.lookup x = some .local) (hy : X.env.scope.names.lookup y = some .local) (hz : X.env.scope.names.lookup z = some .local) (hr : fromRight X.env.scope [.Name x px, .Name y py, .Name z pz] [a, b, d] = true) (hn : nmsOf X.env.scope [.Name x px, .Name y py, .Name z pz] = [x, y, z]) (h : EvA c W X [a, b, d] fs) :
    EvS c W X (.Assign [.Tuple [.Name x px, .Name y py, .Name z pz] kt pt] (.Tuple [a, b, d] k2 pt2) pos) (fun ρ => bnd (fs ρ) fun ds => bnd (opt (setMany ρ [i, j, l] ds)) fun ρ' => ret (.nx ρ')) := by
  refine impS (ps_par3 hc hN hi hj hl hij hil hjl hx hy hz h ((fromRight_of hk hr).trans (by rw [hn])) rfl) fun Dn σ H h => ?_
  obtain ⟨g0, B, g, ρ, S, st, h⟩ := h
  refine stepS st h fun ds S1 g1 H1 vs st1 x1 r1 h => ?_
  obtain ⟨ρ', e, h⟩ := finO h
  match ds, e with
  | [d1, d2, d3], e =>
    cases e
    obtain ⟨v, ws, rfl, q1, v2, ws2, rfl, q2, v3, ws3, rfl, q3, q4⟩ := r1
    cases q4
    exact ⟨v, v2, v3, rfl, h g1 H1 _ (.refl _ _) ⟨st1.good, ((st1.env.setV i q1).setV j q2).setV l q3, st1.ext⟩⟩
/-! ### lists that are written -/
/-- writes the store -/
def wr (k : Store → Option Store) : Mm Unit := fun S => match k S with
  | none => none
  | some S' => some (.ok (), S')
def setD (x y d : D) (S : Store) : Option Store := match x, y with
  | .obj n, .int i => match S[n]? with
    | some (.lst xs) => match ixN xs.length i with
      | some j => some (S.set n (.lst (xs.set j d)))
      | none => none
    | none => none
  | _, _ => none
theorem Good.wr (G : Good c g S H) {n : Nat} {a : Addr} {xs xs' : List D} {vs' : List V} (hM : g.M[n]? = some a) (hS : S[n]? = some (.lst xs)) (r : Reps c g H xs' vs') :
    FExt g H g (L2.upd H a (.lst vs')) ∧ Good c g (S.set n (.lst xs')) (L2.upd H a (.lst vs')) := by
  have ha : a ∈ g.M := mem_get hM
  obtain ⟨vs, hH, _⟩ := G.ob n a _ hM hS
  have hne : ∀ b, g.F b → b ≠ a := fun b hb e => G.nF a ha (e ▸ hb)
  have x : FExt g H g (L2.upd H a (.lst vs')) := ⟨fun b hb => ⟨hb, upd_ne (hne b hb)⟩, List.prefix_refl _⟩
  refine ⟨x, by rw [List.length_set]; exact G.len, fun m b ob h1 h2 => ?_, G.nF, G.nd, fun b hb => ?_, ?_⟩
  · by_cases hm : n = m
    · subst hm
      rw [hM] at h1
      cases h1
      have hl := (List.getElem?_eq_some_iff.mp hS).1
      rw [List.getElem?_set_self hl] at h2
      cases h2
      exact ⟨vs', upd_same, Reps.ext x xs' vs' r⟩
    · rw [List.getElem?_set_ne hm] at h2
      have hb : b ≠ a := fun e => by
        subst e
        exact hm ((List.getElem?_inj (List.getElem?_eq_some_iff.mp hM).1 G.nd).mp (hM.trans h1.symm))
      have h3 := G.ob m b ob h1 h2
      cases ob with
      | lst ys =>
        obtain ⟨us, h4, h5⟩ := h3
        exact ⟨us, by rw [upd_ne hb]; exact h4, Reps.ext x ys us h5⟩
  · rw [upd_ne (hne b hb)]
    exact G.tr b hb
  · intro t ht
    obtain ⟨ps, h1, h2, h3⟩ := G.tab t ht
    refine ⟨ps, by rw [upd_ne (fun z => by rw [z, hH] at h1; cases h1)]; exact h1, h2, fun pos cv hcv => ?_⟩
    obtain ⟨k, e, h4⟩ := h3 pos cv hcv
    exact ⟨k, e, by rw [upd_ne (fun z => by rw [z, hH] at h4; cases h4)]; exact h4⟩
/-- nobody's own list, nothing fixed: a changing object's write -/
theorem SSt.wr (st : SSt c g0 B g ρ S σ H) {n : Nat} {a : Addr} {xs xs' : List D} {vs' : List V} (hM : g.M[n]? = some a) (hS : S[n]? = some (.lst xs)) (r : Reps c g H xs' vs') :
    FExt g H g (L2.upd H a (.lst vs')) ∧ SSt c g0 B g ρ (S.set n (.lst xs')) σ (L2.upd H a (.lst vs')) := by
  obtain ⟨x, G⟩ := st.good.wr hM hS r
  have ha : a ∈ g.M := mem_get hM
  refine ⟨x, G, ⟨st.env.len, fun i s e => ?_, st.env.nd⟩, ⟨st.ext.fx.trans x, fun b o hb hn ht => ?_, st.ext.nF, st.ext.nM, fun b hb => ?_⟩⟩
  · obtain ⟨o, e1, h⟩ := st.env.at_ i s e
    refine ⟨o, e1, ?_⟩
    cases s with
    | un => trivial
    | val d =>
      obtain ⟨v, e2, h⟩ := h
      exact ⟨v, e2, Rep.ext x d v h⟩
    | own ys =>
      obtain ⟨p, us, e2, h1, h2, h3, h4, h5⟩ := h
      exact ⟨p, us, e2, by rw [upd_ne (b := p) (a := a) (fun z => h4 (by rw [z]; exact ha))]; exact h1, Reps.ext x ys us h2, h3, h4, h5⟩
  · rw [upd_ne (fun z => ?_)]
    · exact st.ext.keep b o hb hn ht
    · subst z
      rcases st.ext.nM b ha with z | z
      · exact hn z
      · rw [hb] at z
        obtain ⟨ps, e⟩ := z.tbl
        exact ht ps e
  · refine st.ext.tr b ?_
    by_cases e : b = a
    · rw [e] at hb ⊢
      rw [upd_same] at hb
      exact hb.elim
    · rwa [upd_ne e] at hb
/-- .. a name's own list -/
theorem SSt.wrO (st : SSt c g0 B g ρ S σ H) {i : Nat} {p : Addr} {xs xs' : List D} {vs vs' : List V} (hi : ρ[i]? = some (.own xs)) (hs : σ[i]? = some (some (V.ref p))) (hp : H p = some (.lst vs)) (r : Reps c g H xs' vs') (nF : ¬ g.F p) (nM : p ∉ g.M) (hz : vs'.length ≤ sizeLine) (hB : NK (B p)) :
    FExt g H g (L2.upd H p (.lst vs')) ∧ SSt c g0 B g (ρ.set i (.own xs')) S σ (L2.upd H p (.lst vs')) := by
  obtain ⟨x, G⟩ := st.good.upd (o := .lst vs') hp nF nM
  have hl := (List.getElem?_eq_some_iff.mp hi).1
  refine ⟨x, G, ⟨by rw [List.length_set]; exact st.env.len, fun j s e => ?_, fun j k as bs q e1 e2 e3 e4 => ?_⟩, st.ext.upd hB nF⟩
  · by_cases hj : i = j
    · subst hj
      rw [List.getElem?_set_self hl] at e
      cases e
      exact ⟨_, hs, p, vs', rfl, upd_same, Reps.ext x xs' vs' r, nF, nM, hz, hB⟩
    · rw [List.getElem?_set_ne hj] at e
      obtain ⟨o, e1, h⟩ := st.env.at_ j s e
      refine ⟨o, e1, ?_⟩
      cases s with
      | un => trivial
      | val d =>
        obtain ⟨v, e2, h⟩ := h
        exact ⟨v, e2, Rep.ext x d v h⟩
      | own ys =>
        obtain ⟨q, us, e2, h1, h2, h3, h4, h5⟩ := h
        refine ⟨q, us, e2, ?_, Reps.ext x ys us h2, h3, h4, h5⟩
        rw [upd_ne (fun z => ?_)]
        · exact h1
        · subst z
          subst e2
          exact hj (st.env.nd i j xs ys q hi e hs e1)
  · have aux : ∀ {k : Nat} {cs : List D}, (ρ.set i (.own xs'))[k]? = some (.own cs) → ∃ cs, ρ[k]? = some (.own cs) := fun {k cs} z => by
      by_cases hk : i = k
      · subst hk
        exact ⟨xs, hi⟩
      · rw [List.getElem?_set_ne hk] at z
        exact ⟨cs, z⟩
    obtain ⟨as', e1⟩ := aux e1
    obtain ⟨bs', e2⟩ := aux e2
    exact st.env.nd j k as' bs' q e1 e2 e3 e4
theorem rep_ixN {xs : List D} {vs : List V} {k : Int} {j : Nat} (r : Reps c g H xs vs) (h : ixN xs.length k = some j) : ixN vs.length k = some j := by rw [← r.len]; exact h
theorem asg_sub {o b : Expr} {p : Pos} {env : Env} (h : isSl b = false) (v : Value) : assign (.Subscript o b p) env v = (do
      let ov ← holding [v] (eval o env)
      let iv ← holding [v, ov] (eval b env)
      standAt p
      holding [v, ov, iv] (setItem ov iv v)
      release [v, ov, iv] []) := by
  cases b <;> first | rfl | cases h
/-- o[i] = value, o a changing object -/
theorem ev_ost {o b e : Expr} {p pos : Pos} {fe fo fb : Ev → Mm D} (hs : isSl b = false) (he : EvE c W X e fe) (ho : EvE c W X o fo) (hb : EvE c W X b fb) :
    EvS c W X (.Assign [.Subscript o b p] e pos) (fun ρ => bnd (fe ρ) fun d => bnd (fo ρ) fun x => bnd (fb ρ) fun y => bnd (wr (setD x y d)) fun _ => ret (.nx ρ)) := by
  refine impS (ps_asg he (pg_sub ho hb set_list (asg_sub hs)) (by cases e <;> rfl) (by cases e <;> rfl)) fun Dn σ H h => ?_
  obtain ⟨g0, B, g, ρ, S, st, h⟩ := h
  refine stepS st h fun d S1 g1 H1 v st1 x1 r1 h => ?_
  refine stepS st1 h fun x S2 g2 H2 u st2 x2 r2 h => ?_
  refine stepS st2 h fun y S3 g3 H3 w st3 x3 r3 h => ?_
  have r1 := Rep.ext x3.fx d v (Rep.ext x2.fx d v r1)
  have r2 := Rep.ext x3.fx x u r2
  unfold bnd PV.wr at h
  cases q : setD x y d S3 with
  | none => rw [q] at h; exact h.elim
  | some S' =>
    rw [q] at h
    have h : ConS c W g0 B g3 H3 Dn (some (.ok (.nx ρ), S')) := h
    cases x <;> cases y <;> simp only [setD] at q <;> try cases q
    obtain ⟨a, hM, rfl⟩ := r2
    cases r3
    split at q
    · rename_i xs q1
      split at q
      · rename_i j q2
        cases q
        obtain ⟨vs, hH, rv⟩ := st3.good.ob _ a _ hM q1
        obtain ⟨fx, st4⟩ := st3.wr hM q1 (rv.set j r1)
        exact ⟨a, vs, _, j, rfl, rfl, hH, rep_ixN rv q2, h g3 _ σ fx st4⟩
      · cases q
    · cases q
def setO (xs : List D) (y d : D) : Option (List D) := match y with
  | .int i => (ixN xs.length i).map fun j => xs.set j d
  | _ => none
/-- .. a name's own list -/
theorem ev_ostO {i : Nat} {x : Str} {b e : Expr} {p p2 pos : Pos} {fe fb : Ev → Mm D} (hN : X.N[i]? = some x) (hv : Vis X.env.scope x) (hn : nmB x = true) (hs : isSl b = false) (he : EvE c W X e fe) (hb : EvE c W X b fb) :
    EvS c W X (.Assign [.Subscript (.Name x p) b p2] e pos) (fun ρ => bnd (fe ρ) fun d => bnd (opt (ownV ρ i)) fun xs => bnd (fb ρ) fun y => bnd (opt (setO xs y d)) fun xs' => ret (.nx (ρ.set i (.own xs')))) := by
  obtain ⟨n1, n2, _⟩ := nm_of hn
  refine impS (ps_asg he (pg_sub (pe_var (i := i) hN hv n1 n2) hb set_list (asg_sub hs)) (by cases e <;> rfl) (by cases e <;> rfl)) fun Dn σ H h => ?_
  obtain ⟨g0, B, g, ρ, S, st, h⟩ := h
  refine stepS st h fun d S1 g1 H1 v st1 x1 r1 h => ?_
  obtain ⟨xs, e1, h⟩ := finO h
  obtain ⟨o, e2, q, us, e3, _⟩ := st1.env.at_ i _ (ownV_eq e1)
  subst e3
  refine ⟨_, e2, ?_⟩
  refine stepS st1 h fun y S3 g3 H3 w st3 x3 r3 h => ?_
  obtain ⟨xs', e4, h⟩ := finO h
  have r1 := Rep.ext x3.fx d v r1
  obtain ⟨o, e5, q', vs, e6, hH, rv, nF, nM, hz, hB⟩ := st3.env.at_ i _ (ownV_eq e1)
  rw [e2] at e5
  cases e5
  cases e6
  cases y with
  | int k =>
    simp only [setO] at e4
    cases q2 : ixN xs.length k with
    | none => rw [q2] at e4; cases e4
    | some j =>
      rw [q2] at e4
      cases e4
      cases r3
      obtain ⟨fx, st4⟩ := st3.wrO (ownV_eq e1) e2 hH (rv.set j r1) nF nM (by rw [List.length_set]; exact hz) hB
      exact ⟨q, vs, k, j, rfl, rfl, hH, rep_ixN rv q2, h g3 _ σ fx st4⟩
  | _ => cases e4
/-- name.append(e) -/
theorem ev_app {i : Nat} {x : Str} {e : Expr} {p apos pos p2 : Pos} {fe : Ev → Mm D} (hN : X.N[i]? = some x) (hv : Vis X.env.scope x) (hn : nmB x = true) (hs : isStar e = false) (hl : (apos.endLine == pos.line) = true) (he : EvE c W X e fe) :
    EvS c W X (.Expr (.Call (.Attribute (.Name x p) "append" apos) [e] [] pos) p2) (fun ρ => bnd (opt (ownV ρ i)) fun xs => bnd (fe ρ) fun d => bnd (opt (if xs.length < sizeLine then some (xs ++ [d]) else none)) fun xs' => ret (.nx (ρ.set i (.own xs')))) := by
  obtain ⟨n1, n2, _⟩ := nm_of hn
  refine impS (ps_expr (pe_bm PySem.F.plainAttrs_list PySem.F.slot_list_append PySem.F.type_list_append mt_append (pe_var (i := i) hN hv n1 n2) (pa_cons he pa_nil (star_cons hs)) rfl (by rw [star_cons hs]; rfl) hl (star_cons hs) rfl) rfl) fun Dn σ H h => ?_
  obtain ⟨g0, B, g, ρ, S, st, h⟩ := h
  obtain ⟨xs, e1, h⟩ := finO h
  obtain ⟨o, e2, q, us, e3, hH0, _⟩ := st.env.at_ i _ (ownV_eq e1)
  subst e3
  refine ⟨_, e2, show tyV X.K "list" (V.ref q) H from .inl ⟨rfl, us, SqL.of hH0⟩, ?_⟩
  refine stepS st h fun d S3 g3 H3 w st3 x3 r3 h => ?_
  obtain ⟨xs', e4, h⟩ := finO h
  obtain ⟨o, e5, q', vs, e6, hH, rv, nF, nM, hz, hB⟩ := st3.env.at_ i _ (ownV_eq e1)
  rw [e2] at e5
  cases e5
  cases e6
  split at e4
  · rename_i hlt
    cases e4
    rw [rv.len] at hlt
    obtain ⟨fx, st4⟩ := st3.wrO (xs' := xs ++ [d]) (vs' := vs ++ [w]) (ownV_eq e1) e2 hH (rv.app ⟨w, [], rfl, r3, rfl⟩) nF nM (by rw [List.length_append]; exact hlt) hB
    exact ⟨q, vs, w, rfl, rfl, hH, hlt, h g3 _ σ fx st4⟩
  · cases e4
/-! ### loops -/
def forM (asg : D → Ev → Option Ev) (body : Ev → Mm SO) : List D → Ev → Mm SO
  | [], ρ => ret (.nx ρ)
  | x :: xs, ρ => bnd (opt (asg x ρ)) fun ρ1 => bnd (body ρ1) fun o => match o with
    | .nx ρ2 => forM asg body xs ρ2
    | .ct ρ2 => forM asg body xs ρ2
    | .bk ρ2 => ret (.nx ρ2)
    | .rt d => ret (.rt d)
theorem ev_for {tg it : Expr} {body : List Stmt} {pos : Pos} {ps : List Nat} {asg : D → Ev → Option Ev} {fi : Ev → Mm (List D)} {fb : Ev → Mm SO} (hp : PassesOwn (model X.prog X.w) X.A X.env X.xe) (hc : X.calm = true) (hi : EvI c W X tg it fi) (hg : EvG c X tg ps asg) (hb : EvB c W X body fb) (hs : isSet it = false) :
    EvS c W X (.For tg it body [] pos) (fun ρ => bnd (fi ρ) fun items => forM asg fb items ρ) := by
  refine impS (ps_for hp hc hi hg hb fun _ => fsi hs) fun Dn σ H h => ?_
  obtain ⟨g0, B, g, ρ, S, st, h⟩ := h
  refine stepS st h fun items S1 g1 H1 J st1 x1 r1 h => ?_
  obtain ⟨hz, G, Y, w, hG, hY⟩ := r1
  refine for_it w (fun i σ2 H2 => ∃ g2 ρ2 S2, SSt c g0 B g2 ρ2 S2 σ2 H2 ∧ FExt g1 H1 g2 H2 ∧ ConS c W g0 B g2 H2 Dn (forM asg fb (items.drop i) ρ2 S2)) ⟨g1, ρ, S1, st1, .refl _ _, h⟩ (fun i σ2 H2 _ hh => ?_) ?_ ?_
  · obtain ⟨g2, _, _, _, x2, _⟩ := hh
    exact hG g2 H2 x2
  · intro i x σ2 H2 H3 hlt hh y
    obtain ⟨g2, ρ2, S2, st2, x2, h⟩ := hh
    obtain ⟨d, g3, hd, x3, G3, rd_⟩ := hY i H2 x H3 g2 S2 hlt x2 st2.good y
    have hdr : items.drop i = d :: items.drop (i + 1) := by
      obtain ⟨hl, e⟩ := List.getElem?_eq_some_iff.mp hd
      rw [List.drop_eq_getElem_cons hl, e]
    rw [hdr] at h
    obtain ⟨ρ3, e3, h⟩ := finO h
    refine ⟨B, g3, ρ2, d, ρ3, st2.env.ext x3, rd_, e3, fun σ3 er _ => ?_⟩
    have st3 : SSt c g0 B g3 ρ3 S2 σ3 H3 := ⟨G3, er, st2.ext.trans x3⟩
    have h := ConS.weak x3.fx h
    refine ⟨g0, B, g3, ρ3, S2, st3, ?_⟩
    unfold bnd at h
    cases q : fb ρ3 S2 with
    | none => rw [q] at h; exact h
    | some z =>
      obtain ⟨o, S'⟩ := z
      rw [q] at h
      cases o with
      | exc n fl => exact h
      | ok o =>
        cases o with
        | nx ρ' => exact fun g' H' σ' x s => ⟨g', ρ', S', s, (x2.trans x3.fx).trans x, ConS.weak x h⟩
        | ct ρ' => exact fun g' H' σ' x s => ⟨g', ρ', S', s, (x2.trans x3.fx).trans x, ConS.weak x h⟩
        | bk ρ' => exact fun g' H' σ' x s => h g' H' σ' x s
        | rt d => exact h
  · intro σ2 H2 hh
    obtain ⟨g2, ρ2, S2, st2, x2, h⟩ := hh
    rw [List.drop_length] at h
    exact h g2 H2 σ2 (.refl _ _) st2
/-! ### raise -/
theorem ev_raise {e : Expr} {pos : Pos} {n : Str} (hc : X.calm = true) (tk : L2N.Takes X W) (he : L2N.PMk X e (fun _ H Q => Q (.ref (c.xa n)) none H)) : EvS c W X (.Raise (some e) none pos) (fun _ S => some (.exc n none, S)) := by
  refine impS (L2N.ps_raise hc tk he) fun Dn σ H h => ?_
  obtain ⟨g0, B, g, ρ, S, st, h⟩ := h
  exact h g H σ _ _ st.ext st.good ⟨rfl, rfl⟩
end
end PV

set_option Elab.async false
set_option linter.all false
set_option maxRecDepth 100000
set_option maxHeartbeats 4000000
/-! PvGa: isinstance of two kinds; a tuple backwards; one of two readings; two names, the second a list of its own. -/
namespace PV
open PySem PySem.Spec PyProof.Rows L2
/-! ### a tuple backwards -/
theorem tv_places (n : Nat) : Builtin.Slice.slicePlaces ((n : Int) - 1) (-1) (-1) = n := by
  unfold Builtin.Slice.slicePlaces
  rw [if_neg (by decide)]
  by_cases h : n = 0
  · subst h
    rfl
  · rw [if_pos (by omega)]
    have : ((n : Int) - 1 - -1 - 1) / (- -1) + 1 = n := by
      rw [show (- -1 : Int) = 1 from rfl, Int.ediv_one]
      omega
    rw [this]
    rfl
theorem tv_pick (xs : Array Value) : ((List.range xs.size).filterMap fun (m : Nat) => xs[(((xs.size : Int) - 1) + (m : Int) * (-1)).toNat]?).toArray = xs.toList.reverse.toArray := by
  congr 1
  have e : ∀ l : List Value, (List.range l.length).filterMap (fun (m : Nat) => l[((l.length : Int) - 1 + (m : Int) * (-1)).toNat]?) = l.reverse := by
    intro l
    have h : ∀ m ∈ List.range l.length, l[((l.length : Int) - 1 + (m : Int) * (-1)).toNat]? = l.reverse[m]? := by
      intro m hm
      rw [List.mem_range] at hm
      rw [List.getElem?_reverse hm]
      congr 1
      omega
    have z : ∀ (ms : List Nat) (f k : Nat → Option Value), (∀ m ∈ ms, f m = k m) → ms.filterMap f = ms.filterMap k := by
      intro ms f k
      induction ms with
      | nil => intro _; rfl
      | cons m ms ih =>
        intro q
        rw [List.filterMap_cons, List.filterMap_cons, q m List.mem_cons_self, ih fun x hx => q x (List.mem_cons_of_mem _ hx)]
    rw [z _ _ _ h]
    have y : ∀ r : List Value, (List.range r.length).filterMap (fun (m : Nat) => r[m]?) = r := by
      intro r
      induction r with
      | nil => rfl
      | cons b r ih =>
        rw [List.length_cons, List.range_succ_eq_map, List.filterMap_cons, List.filterMap_map]
        exact congrArg (b :: ·) ih
    have := y l.reverse
    rwa [List.length_reverse] at this
  have := e xs.toList
  simpa using this
theorem tv_get {prog : Program} {w : World} {A : Around} {E : Value → Shared → Prop} {s : Shared} {t sl : Addr} {its : Array Value} {vl vu vs : Value} {Q : Value → Shared → Prop} (ht : IsTup s.heap t its) (hs : s.heap.IsSliceOf sl vl vu vs) (pl : IsPart vl none) (pu : IsPart vu none) (ps : IsPart vs (some (-1)))
    (h : Q (.ref s.heap.objs.size) { s with heap := s.heap.push { cls := .type "tuple", data := .seq its.toList.reverse.toArray } }) (hz : its.size ≤ sizeLine) : wpAny (model prog w) A (getItem (.ref t) (.ref sl)) Q E s := by
  obtain ⟨os, ho, hc, hd⟩ := id hs
  have hT : s.TypeIs (.ref sl) "slice" := ⟨os, ho, hc⟩
  have hsz : sizeOk (.seq its.toList.reverse.toArray) := by
    show its.toList.reverse.toArray.size ≤ sizeLine
    simpa using hz
  unfold getItem
  try with_reducible refine wpAny_holding ?_
  first | refine wpAny_bind (wpAny_pure ?_) | skip
  refine wpAny_bind (wpAny_sequenceKey ht.typeIs (by decide) ?_)
  refine wpAny_bind (wpAny_callSpecial?_slot (name := Str.ofString "__getitem__") ht.typeIs PyProof.Rows.slot_tuple_getitem (wpAny_call_entry PyProof.Rows.slot_tuple_getitem ht.typeIs entry_tuple_getitem ?_ (args_tuple_getitem _ _)))
  show wpAny _ _ (Builtin.Tuple.tupleItemsOf (.ref t) >>= _) _ _ s
  refine wpAny_bind (tupleItemsOf_ ht (wpAny_bind (wpAny_typeOf hT ?_)))
  rw [if_pos (by decide)]
  refine wpAny_bind ?_
  unfold Builtin.Slice.sliceApplied Builtin.Slice.sliceFields
  refine wpAny_bind (wpAny_bind (wpAny_field ho hd (x := vl) rfl (wpAny_bind (wpAny_field ho hd (x := vu) rfl (wpAny_bind (wpAny_field ho hd (x := vs) rfl (wpAny_pure ?_)))))))
  refine wpAny_bind (HT.slicePart_ ps ?_)
  show wpAny _ _ (if ((-1 : Int) == 0) = true then _ else _) _ _ s
  rw [if_neg (by decide)]
  refine wpAny_bind (HT.slicePart_ pl (wpAny_bind (HT.slicePart_ pu (wpAny_bind (wpAny_pure ?_)))))
  have ea : Builtin.Slice.sliceAdjust none none (-1) (its.size : Int) = ((its.size : Int) - 1, -1) := rfl
  show wpAny _ _ (match Builtin.Slice.sliceAdjust none none (-1) (its.size : Int) with | (lo, hi) => pure (lo, (-1 : Int), Builtin.Slice.slicePlaces lo hi (-1))) _ _ s
  rw [ea]
  show wpAny _ _ (pure ((its.size : Int) - 1, (-1 : Int), Builtin.Slice.slicePlaces ((its.size : Int) - 1) (-1) (-1))) _ _ s
  rw [tv_places]
  refine wpAny_pure ?_
  have hno : ¬ ((((its.size : Int) - 1) == 0 && (-1 : Int) == 1 && its.size == its.size) = true) := by simp
  show wpAny _ _ (if (((its.size : Int) - 1) == 0 && (-1 : Int) == 1 && its.size == its.size) = true then _ else _) _ _ s
  rw [if_neg hno, tv_pick]
  first
    | exact wpAny_bind (m := Builtin.Tuple.tupleExact _) (wpAny_newObj_type (wpAny_pure ⟨_, rfl, wpAny_pure h⟩) hsz)
    | exact wpAny_bind (m := Builtin.Tuple.tupleExact _) (wpAny_newObj_type (wpAny_bind (wpAny_pure (wpAny_pure ⟨_, rfl, wpAny_pure h⟩))) hsz)
    | exact wpAny_bind (wpAny_bind (m := Builtin.Tuple.tupleExact _) (wpAny_newObj_type (wpAny_pure (wpAny_pure ⟨_, rfl, wpAny_pure h⟩)) hsz))
    | exact wpAny_bind (wpAny_bind (m := Builtin.Tuple.tupleExact _) (wpAny_newObj_type (wpAny_pure ⟨_, rfl, wpAny_pure h⟩) hsz))
def tRevT (K : PySem.W.Frag) (te : TE) : TE := fun σ H Q => te σ H fun x H1 => ∃ a xs, x = .ref a ∧ SqT K H1 a xs ∧ ∀ p, H1 p = none → Q (.ref p) (upd H1 p (.tup xs.reverse))
section
variable {X : Cx}
theorem pe_revT {e : Expr} {te : TE} {k : Nat} {p1 p2 p3 pos : Pos} (he : PE X e te) : PE X (.Subscript e (.Slice none none (some (.UnaryOp .USub (.Constant (.int 1) k p1) p2)) p3) pos) (tRevT X.K te) := by
  refine ⟨fun pins s σ H Q I h => Subscript_ (thn (he.run pins s σ H _ I h) fun v s1 ⟨x, H1, I1, r1, q1⟩ => ?_)⟩
  obtain ⟨a, xs, rfl, hx, q⟩ := q1
  cases r1
  have hst : PO X (some (.UnaryOp .USub (.Constant (.int 1) k p1) p2)) (tPart (tUn (rU fun i => .int (-i)) (tC (.int 1)))) := po_some (pe_un un_neg pe_int)
  refine wpAny_Slice (thn (po_none.run pins s1 σ H1 (fun o H2 => o = none ∧ H2 = H1) I1 ⟨rfl, rfl⟩) fun vl s2 ⟨l, H2, I2, pl, el, e2⟩ => ?_)
  subst el e2
  refine thn (po_none.run pins s2 σ H2 (fun o H3 => o = none ∧ H3 = H2) I2 ⟨rfl, rfl⟩) fun vu s3 ⟨u, H3, I3, pu, eu, e3⟩ => ?_
  subst eu e3
  refine thn (hst.run pins s3 σ H3 (fun o H4 => o = some (-1) ∧ H4 = H3) I3 ⟨1, rfl, -1, rfl, rfl, rfl⟩) fun vs s4 ⟨o, H4, I4, ps, eo, e4⟩ => ?_
  subst eo e4
  have I5 : Inv X pins σ H4 { s4 with heap := s4.heap.push { cls := .type "slice", data := .fields #[vl, vu, vs] } } := I4.kept (t' := s4.toks) fun b ob q => Heap.get?_push_of_some _ q
  obtain ⟨its, r, ht, hz⟩ := I5.tuple hx
  have hlen := r.length
  show wpAny (model X.prog X.w) X.A (subscriptTail e (.Slice none none (some (.UnaryOp .USub (.Constant (.int 1) k p1) p2)) p3) (.ref a) (.ref s4.heap.objs.size)) (EP X pins σ Q) X.xe { s4 with heap := s4.heap.push { cls := .type "slice", data := .fields #[vl, vu, vs] } }
  refine tail_any (ops := [.ref a, .ref s4.heap.objs.size]) ht.typeIs (PyProof.Rows.slot_tuple_getitem.lookup) ?_ (by with_unfolding_all rfl)
  refine tv_get ht (Heap.IsSliceOf.new _ vl vu vs) pl pu ps ?_ (by rw [List.size_toArray]; omega)
  refine ⟨.ref _, _, I5.laid (t' := s4.toks) (o := .tup xs.reverse) (fun b ob q => Heap.get?_push_of_some _ q) (Nat.le_refl _) ?_, rfl, q _ (I5.hok.fresh (Nat.le_refl _))⟩
  exact ⟨by rw [List.length_reverse]; exact hz, _, r.reverse, IsTup.new _ _⟩
end
def trevD : D → Option D
  | .tup xs => some (.tup xs.reverse)
  | _ => none
def isi2D (s1 s2 : String) (d : D) : Option D := match tyD d with
  | some t => match kitB t s1 with
    | some true => some (.bl true)
    | some false => (kitB t s2).map .bl
    | none => none
  | none => none
section
variable {c : Cf} {W : WX} {X : Cx} {B : Hp} {g g1 g0 : Gh} {ρ : Ev} {S : Store} {σ : L2.St} {H H1 : Hp}
theorem ev_trev {a : Expr} {k : Nat} {p1 p2 p3 pos : Pos} {f : Ev → Mm D} (hK : X.K = c.K) (h : EvE c W X a f) :
    EvE c W X (.Subscript a (.Slice none none (some (.UnaryOp .USub (.Constant (.int 1) k p1) p2)) p3) pos) (fun ρ => bnd (f ρ) fun d => opt (trevD d)) := by
  refine imp (pe_revT h) fun σ H Q h => ?_
  obtain ⟨g, ρ, S, st, h⟩ := h
  refine step wV st h fun x S1 g1 H1 u st1 x1 r1 h => ?_
  obtain ⟨d, e, k⟩ := fin h
  clear h
  cases x with
  | tup xs =>
    cases e
    obtain ⟨p, us, rfl, hp, rp⟩ := r1
    exact ⟨p, us, rfl, hK ▸ hp.sq, newT st1.good rp.reverse (by rw [List.length_reverse, rp.len]; exact hp.bd) fun g' H' w x G r => k g' H' w x G r⟩
  | _ => cases e
theorem ev_isi2 {a : Expr} {T1 T2 : Str} {t1 t2 : String} {p p2 p3 p4 pos : Pos} {k : Nat} {f : Ev → Mm D} (hK : X.K = c.K) (hg : Gl X "isinstance") (hm : X.mg "isinstance" = none) (hs : isStar a = false) (hg1 : Gl X T1) (hm1 : X.mg T1 = none) (hb1 : bootBuiltins T1 = some (.type t1)) (hn1 : nmB T1 = true)
    (hg2 : Gl X T2) (hm2 : X.mg T2 = none) (hb2 : bootBuiltins T2 = some (.type t2)) (hn2 : nmB T2 = true) (h : EvE c W X a f) :
    EvE c W X (.Call (.Name "isinstance" p) [a, .Tuple [.Name T1 p2, .Name T2 p3] k p4] [] pos) (fun ρ => bnd (f ρ) fun d => opt (isi2D t1 t2 d)) := by
  obtain ⟨n1, n2, n3⟩ := nm_of hn1
  obtain ⟨m1, m2, m3⟩ := nm_of hn2
  have ht : PA X [.Name T1 p2, .Name T2 p3] (tCons (tC (.ty t1)) (tCons (tC (.ty t2)) tNil)) := pa_cons (pe_bltn (v := .ty t1) hg1 hm1 hb1 rfl n3 n1) (pa_cons (pe_bltn (v := .ty t2) hg2 hm2 hb2 rfl m3 m1) pa_nil rfl) rfl
  have ha : PA X [a, .Tuple [.Name T1 p2, .Name T2 p3] k p4] _ := pa_cons h (pa_cons (pe_tup ht) pa_nil rfl) (star_cons hs)
  refine imp (pe_callB call_isiT hg hm boot_isinstance ha (by decide) (by decide) (star_cons hs) rfl) fun σ H Q h => ?_
  obtain ⟨g, ρ, S, st, h⟩ := h
  refine step wV st h fun x S1 g1 H1 u st1 x1 r1 h => ?_
  obtain ⟨d, e, h⟩ := fin h
  refine ⟨by show 2 ≤ sizeLine; decide, fun pt hp => ?_⟩
  obtain ⟨x2, G2⟩ := st1.good.new (o := .tup [.ty t1, .ty t2]) hp
  unfold isi2D at e
  cases q : tyD x with
  | none => rw [q] at e; cases e
  | some T' =>
    rw [q] at e
    have e : (match kitB T' t1 with | some true => some (.bl true) | some false => (kitB T' t2).map .bl | none => none) = some d := e
    have fi : ∀ b, PySem.W.kitAny X.K (.type T') [.type t1, .type t2] = some b → d = .bl b → rIsiT X.K [u, .ref pt] (upd H1 pt (.tup [.ty t1, .ty t2])) Q := fun b hb hd => by
      subst hd
      exact ⟨u, pt, _, .type T', _, b, rfl, upd_same, .cons (.ty t1) (.cons (.ty t2) .nil), hK ▸ rep_ty q (Rep.ext x2.fx x u r1), hb, h _ _ _ x2 G2 rfl⟩
    cases q1 : kitB T' t1 with
    | none => rw [q1] at e; cases e
    | some b1 =>
      rw [q1] at e
      have k1 : PySem.W.kitOne X.K (.type T') (.type t1) = some b1 := kit_ty q1
      cases b1 with
      | true =>
        cases e
        exact fi true (by unfold PySem.W.kitAny; rw [k1]) rfl
      | false =>
        have e : (kitB T' t2).map .bl = some d := e
        cases q2 : kitB T' t2 with
        | none => rw [q2] at e; cases e
        | some b2 =>
          rw [q2] at e
          cases e
          have k2 : PySem.W.kitOne X.K (.type T') (.type t2) = some b2 := kit_ty q2
          refine fi b2 ?_ rfl
          unfold PySem.W.kitAny
          rw [k1]
          show PySem.W.kitAny X.K (.type T') [.type t2] = some b2
          unfold PySem.W.kitAny
          rw [k2]
          cases b2 <;> rfl
/-- one of two readings of the same text -/
theorem ev_alt {e : Expr} {q : Ev → Bool} {f1 f2 : Ev → Mm D} (h1 : EvE c W X e f1) (h2 : EvE c W X e f2) : EvE c W X e (fun ρ => if q ρ = true then f1 ρ else f2 ρ) := ⟨fun pins s σ H Q I z => by
  obtain ⟨g, ρ, S, st, z⟩ := z
  have z : Con c W (relV c) g H σ Q ((if q ρ = true then f1 ρ else f2 ρ) S) := z
  by_cases hq : q ρ = true
  · rw [if_pos hq] at z
    exact h1.run pins s σ H Q I ⟨g, ρ, S, st, z⟩
  · rw [if_neg hq] at z
    exact h2.run pins s σ H Q I ⟨g, ρ, S, st, z⟩⟩
/-- a, b = e, [..], stored from the left -/
theorem ev_tup2o {i j : Nat} {ts : List Expr} {a b : Expr} {kt k2 : Nat} {pt pt2 pos : Pos} {f : Ev → Mm D} {l : Ev → Mm (List D)} (hK : X.K = c.K) (hk : X.env.scope.kind = .function) (hc : X.calm = true) (hN : X.N.Nodup) (hg : NamesG X ts [i, j])
    (hw : oneWay X.env.scope (.Tuple ts kt pt) (.Tuple [a, b] k2 pt2) = true) (sa : isStar a = false) (sb : isStar b = false) (h : EvE c W X a f) (h2 : EvL c W X b l) :
    EvS c W X (.Assign [.Tuple ts kt pt] (.Tuple [a, b] k2 pt2) pos) (fun ρ => bnd (f ρ) fun d => bnd (l ρ) fun xs => ret (.nx ((ρ.set i (.val d)).set j (.own xs)))) := by
  have ha := pa_cons h (pa_cons h2 pa_nil (star_cons sb)) (star_cons sa)
  refine impS (ps_asg (pe_tup ha) (pg_tup (n := 2) hc (hg.pgs hN) hg.len.1 hg.len.2) rfl (oneWay_of hk hw) rfl) fun Dn σ H h => ?_
  obtain ⟨g0, B, g, ρ, S, st, h⟩ := h
  refine stepS st h fun d S1 g1 H1 v st1 x1 r1 h => ?_
  refine stepS st1 h fun xs S2 g2 H2 w st2 x2 r2 h => ?_
  refine ⟨by show 2 ≤ sizeLine; decide, fun pn hp => ?_⟩
  obtain ⟨x3, G3⟩ := st2.good.new0 (o := .tup [v, w]) hp
  refine ⟨pn, [v, w], rfl, SqT.of upd_same, rfl, v, [w], rfl, w, [], rfl, rfl, ?_⟩
  have r1 : Rep c g1 H1 d v := r1
  obtain ⟨p, vs, rfl, e1, e2, e3, e4, e5, e6⟩ := r2
  have k3 : upd H2 pn (.tup [v, .ref p]) p = some (HO.lst vs) := x3.keep p _ e1 e5 fun ps z => by cases z
  have s1 : SSt c g0 B g1 (ρ.set i (.val d)) S1 (σ.set i (some v)) H1 := ⟨st1.good, st1.env.setV i r1, st1.ext⟩
  have s2 : SSt c g0 B g2 (ρ.set i (.val d)) S2 (σ.set i (some v)) (upd H2 pn (.tup [v, .ref p])) := ⟨G3, (st2.env.ext x3).setV i (Rep.ext x3.fx d v (Rep.ext x2.fx d v r1)), st2.ext.trans x3⟩
  exact h g2 _ _ x3.fx (s1.setO s2 j ⟨p, vs, rfl, k3, Reps.ext x3.fx xs vs e2, e3, e4, e5, e6⟩ (x2.trans x3))
/-- len of a list of the frame's own -/
theorem ev_olen {i : Nat} {x : Str} {p p2 pos : Pos} (hg : Gl X "len") (hm : X.mg "len" = none) (hN : X.N[i]? = some x) (hv : Vis X.env.scope x) (hn : nmB x = true) :
    EvE c W X (.Call (.Name "len" p) [.Name x p2] [] pos) (fun ρ => bnd (opt (ownV ρ i)) fun xs => ret (.int xs.length)) := by
  obtain ⟨n1, n2, _⟩ := nm_of hn
  refine imp (pe_callB call_len hg hm boot_len (pa_cons (pe_var (i := i) hN hv n1 n2) pa_nil rfl) (by decide) (by decide) rfl rfl) fun σ H Q h => ?_
  obtain ⟨g, ρ, S, st, h⟩ := h
  have h : Con c W (relV c) g H σ Q (bnd (opt (ownV ρ i)) (fun xs => ret (.int xs.length)) S) := h
  cases q : ownV ρ i with
  | none => rw [q] at h; exact h.elim
  | some xs =>
    rw [q] at h
    obtain ⟨B, er⟩ := st.env
    obtain ⟨o, e1, p1, vs, e2, hp, rp, nF, nM, _⟩ := er.at_ i _ (ownV_eq q)
    subst e2
    refine ⟨_, e1, .ref p1, vs.length, rfl, .inl ⟨vs, SqL.of hp, rfl⟩, ?_⟩
    rw [← rp.len]
    exact h g H _ (.refl _ _) st.good rfl
/-- a, b = e, [..]: b is a list of its own -/
theorem ev_par2o {i j : Nat} {x y : Str} {a b : Expr} {px py pt : Pos} {kt k2 : Nat} {pt2 pos : Pos} {f : Ev → Mm D} {l : Ev → Mm (List D)} (hk : X.env.scope.kind = .function) (hc : X.calm = true) (hN : X.N.Nodup) (hi : X.N[i]? = some x) (hj : X.N[j]? = some y) (hij : i ≠ j)
    (hx : X.env.scope.names.lookup x = some .local) (hy : X.env.scope.names.lookup y = some .local) (hr : fromRight X.env.scope [.Name x px, .Name y py] [a, b] = true) (hn : nmsOf X.env.scope [.Name x px, .Name y py] = [x, y]) (sa : isStar a = false) (sb : isStar b = false) (h : EvE c W X a f) (h2 : EvL c W X b l) :
    EvS c W X (.Assign [.Tuple [.Name x px, .Name y py] kt pt] (.Tuple [a, b] k2 pt2) pos) (fun ρ => bnd (f ρ) fun d => bnd (l ρ) fun xs => ret (.nx ((ρ.set i (.val d)).set j (.own xs)))) := by
  have ha := pa_cons h (pa_cons h2 pa_nil (star_cons sb)) (star_cons sa)
  refine impS (ps_par hc hN hi hj hij hx hy ha ((fromRight_of hk hr).trans (by rw [hn])) rfl) fun Dn σ H h => ?_
  obtain ⟨g0, B, g, ρ, S, st, h⟩ := h
  refine stepS st h fun d S1 g1 H1 v st1 x1 r1 h => ?_
  refine stepS st1 h fun xs S2 g2 H2 w st2 x2 r2 h => ?_
  have r1 : Rep c g1 H1 d v := r1
  have s1 : SSt c g0 B g1 (ρ.set i (.val d)) S1 (σ.set i (some v)) H1 := ⟨st1.good, st1.env.setV i r1, st1.ext⟩
  have s2 : SSt c g0 B g2 (ρ.set i (.val d)) S2 (σ.set i (some v)) H2 := ⟨st2.good, st2.env.setV i (Rep.ext x2.fx d v r1), st2.ext⟩
  exact ⟨v, w, rfl, h g2 H2 _ (.refl _ _) (s1.setO s2 j r2 x2)⟩
end
end PV

set_option Elab.async false
set_option linter.all false
set_option maxRecDepth 100000
set_option maxHeartbeats 4000000
/-! PvH: the small language of expressions: its meaning, the check against the text, that both agree. -/
namespace PV
open PySem PySem.Spec PyProof.Rows L2

/-! ### the language -/
inductive Ex where
  | var (i : Nat) | kon (d : D) | gco (k : Nat) | fnv (k : Nat)
  | bin (op : Nat) (a b : Ex) | cmp (op : Nat) (a b : Ex) | chn (o1 o2 : Nat) (a b c : Ex)
  | and (a b : Ex) | or (a b : Ex) | one (a : Ex) | not (a : Ex) | neg (a : Ex) | ifx (t a b : Ex)
  | tup (es : Ex) | idx (a b : Ex) | oix (i : Nat) (b : Ex) | slc (a lo hi : Ex)
  | bi (f : Nat) (es : Ex) | lset (a : Ex) | isi (a : Ex) (T : Nat) | ise (i : Nat) (T : Nat) | join (a b : Ex) | fmt (a : Ex) | js (es : Ex) | frz (l : Ex) | obj (l : Ex)
  | call (k : Nat) (es : Ex) | calv (i : Nat) (es : Ex) | tri (k : Nat) (e : Ex)
  | dsp (es : Ex) | lcat (a b : Ex) | lrep (l b : Ex) | lrng (a : Ex) | lof (a : Ex) | lrev (a : Ex) | lslc (a lo hi : Ex) | spl (a b : Ex) | comp (elt : Ex) (tg : Tg) (cond it : Ex) (own : List Nat)
  | nil | cons (e es : Ex)
  | nop | sop (e : Ex)
  | iseq (e : Ex) | irng (e : Ex) | irng2 (a b : Ex) | ienum (e : Ex) | izip (a b : Ex)
  | tru | cnd (t : Ex)
  | olen (i : Nat) | isw (a : Ex) | trev (a : Ex) | alt (i : Nat) (a b : Ex)
/-- how the code runs: a def's body, a block within, while an error is handled, a block within that -/
inductive Md where
  | top | calm | hot | cold
def Md.cool : Md → Bool
  | .top => true
  | .calm => true
  | _ => false
def Md.isTop : Md → Bool
  | .top => true
  | _ => false
def Md.isHot : Md → Bool
  | .hot => true
  | _ => false
def Md.inn : Md → Md
  | .top => .calm
  | .calm => .calm
  | _ => .cold
/-- what is fixed -/
structure Gm where
  nms : List Str
  gv : List (Str × D)
  trs : List (Str × (D → D) × (Str → Option D → Option D))
  ex : List Str
  rs : List Str
  rf : List Str
  isE : Str → Str → Option Bool
/-- what is fixed of the meaning: the defs by level; the error in hand -/
structure Sm where
  G : Gm
  Φ : Nat → Nat → List D → Mm D
  ec : Str
  ea : Addr
def opF : Nat → D → D → Option D
  | 0 => addD
  | 1 => subD
  | 2 => mulD
  | 3 => fdivD
  | 4 => modD
  | 5 => powD
  | _ => fun _ _ => none
def cmpF : Nat → D → D → Option D
  | 0 => eqD false
  | 1 => eqD true
  | 2 => ordD fun i j => decide (i < j)
  | 3 => ordD fun i j => decide (i ≤ j)
  | 4 => ordD fun i j => decide (j < i)
  | 5 => ordD fun i j => decide (j ≤ i)
  | 6 => inD false
  | 7 => inD true
  | 8 => isND false
  | 9 => isND true
  | _ => fun _ _ => none
def biF : Nat → List D → Option D
  | 0 => lenD
  | 1 => max2D
  | 2 => min2D
  | 3 => intD
  | 4 => strD
  | 5 => sumD
  | 6 => allD
  | 7 => tupD
  | _ => fun _ => none
/-- which of them want that no error is handled -/
def biC : Nat → Bool
  | 1 => true
  | 2 => true
  | 5 => true
  | 6 => true
  | _ => false
def negD : D → Option D
  | .int i => some (.int (-i))
  | _ => none
def isiF : Nat → D → Option D
  | 0 => isiD "int"
  | 1 => isiD "bool"
  | 2 => isiD "str"
  | 3 => isiD "list"
  | 4 => isiD "tuple"
  | _ => fun _ => none
def revD : D → Option (List D)
  | .lst xs => some xs.reverse
  | _ => none
/-- told: the value; an error: its names, with its field -/
def triM (told : D → D) (kin : Str → Option D → Option D) (x : Mm D) : Mm D := fun S => match x S with
  | none => none
  | some (.ok d, S') => some (.ok (told d), S')
  | some (.exc n fl, S') => match kin n fl with
    | some d => some (.ok d, S')
    | none => none
/-- a new changing object -/
def newM (o : Ob) : Mm D := fun S => some (.ok (.obj S.length), S ++ [o])
def tupO (ds : List D) : Option D := if ds.length ≤ sizeLine then some (.tup ds) else none
def lstO (ds : List D) : Option (List D) := if ds.length ≤ sizeLine then some ds else none
def appO (xs : List D) (d : D) : Option (List D) := if xs.length < sizeLine then some (xs ++ [d]) else none
structure Dn where
  e : Ev → Mm D := fun _ => fail
  a : Ev → Mm (List D) := fun _ => fail
  l : Ev → Mm (List D) := fun _ => fail
  t : Ev → Mm Bool := fun _ => fail
  w : Ev → Mm Bool := fun _ => fail
  o : Ev → Mm (Option Int) := fun _ => fail
  i : Ev → Mm (List D) := fun _ => fail
  ts : Ev → Mm Bool := fun _ => fail
  j : List (Ev → Mm D) := []
/-- a value that is read as a test, too -/
def Dn.val (f : Ev → Mm D) : Dn := { e := f, t := fun ρ => bnd (f ρ) fun d => opt (isB d) }
def onlyIf {α : Type} (b : Bool) (f : Ev → Mm α) : Ev → Mm α := if b = true then f else fun _ => fail
def iseF (Z : Sm) (i T : Nat) (ρ : Ev) : Option D := match getV ρ i with
  | some (.exn a) => if a = Z.ea then (Z.G.ex[T]?).bind fun x => (Z.G.isE Z.ec x).map .bl else none
  | _ => none
def tupB : D → Bool
  | .tup _ => true
  | _ => false
def isTup (ρ : Ev) (i : Nat) : Bool := match getV ρ i with
  | some d => tupB d
  | none => false
def den (Z : Sm) : Ex → Md → Nat → Dn
  | .var i, _, _ => .val fun ρ => opt (getV ρ i)
  | .kon d, _, _ => .val fun _ => ret d
  | .gco k, _, _ => .val fun _ => opt ((Z.G.gv[k]?).map (·.2))
  | .fnv k, _, _ => .val fun _ => ret (.fn k)
  | .bin op a b, m, n => .val fun ρ => bnd ((den Z a m n).e ρ) fun x => bnd ((den Z b m n).e ρ) fun y => opt (opF op x y)
  | .cmp op a b, m, n => .val fun ρ => bnd ((den Z a m n).e ρ) fun x => bnd ((den Z b m n).e ρ) fun y => opt (cmpF op x y)
  | .chn o1 o2 a b c, m, n => .val fun ρ => bnd ((den Z a m n).e ρ) fun x => bnd ((den Z b m n).e ρ) fun y => bnd (opt (cmpF o1 x y)) fun z => bnd (opt (isB z)) fun k => if k = true then bnd ((den Z c m n).e ρ) fun w => opt (cmpF o2 y w) else ret (.bl false)
  | .and a b, m, n => { e := fun ρ => bnd ((den Z a m n).e ρ) fun d => bnd (opt (isB d)) fun q => if q = true then (den Z b m n).e ρ else ret (.bl false)
                        t := fun ρ => bnd ((den Z a m n).t ρ) fun q => if q = true then (den Z b m n).w ρ else ret false
                        w := fun ρ => bnd ((den Z a m n).t ρ) fun q => if q = true then (den Z b m n).w ρ else ret false }
  | .or a b, m, n => { e := fun ρ => bnd ((den Z a m n).e ρ) fun d => bnd (opt (isB d)) fun q => if q = true then ret (.bl true) else (den Z b m n).e ρ
                       t := fun ρ => bnd ((den Z a m n).t ρ) fun q => if q = true then ret true else (den Z b m n).w ρ
                       w := fun ρ => bnd ((den Z a m n).t ρ) fun q => if q = true then ret true else (den Z b m n).w ρ }
  | .one a, m, n => { e := (den Z a m n).e, w := (den Z a m n).t }
  | .not a, m, n => { e := fun ρ => bnd ((den Z a m n).e ρ) fun d => opt ((isB d).map fun b => .bl (!b)), t := fun ρ => bnd ((den Z a m n).t ρ) fun b => ret (!b) }
  | .neg a, m, n => .val fun ρ => bnd ((den Z a m n).e ρ) fun x => opt (negD x)
  | .ifx t a b, m, n => { e := fun ρ => bnd ((den Z t m n).t ρ) fun q => if q = true then (den Z a m n).e ρ else (den Z b m n).e ρ
                          l := fun ρ => bnd ((den Z t m n).t ρ) fun q => if q = true then (den Z a m n).l ρ else (den Z b m n).l ρ }
  | .tup es, m, n => .val fun ρ => bnd ((den Z es m n).a ρ) fun ds => opt (if ds.length ≤ sizeLine then some (.tup ds) else none)
  | .idx a b, m, n => .val fun ρ => bnd ((den Z a m n).e ρ) fun x => bnd ((den Z b m n).e ρ) fun y => rd fun S => idxD S x y
  | .oix i b, m, n => .val fun ρ => bnd (opt (ownV ρ i)) fun xs => bnd ((den Z b m n).e ρ) fun y => opt (atD xs y)
  | .slc a lo hi, m, n => .val fun ρ => bnd ((den Z a m n).e ρ) fun x => bnd ((den Z lo m n).o ρ) fun l => bnd ((den Z hi m n).o ρ) fun u => opt (slcD x l u)
  | .bi f es, m, n => .val (onlyIf (m.cool || !biC f) fun ρ => bnd ((den Z es m n).a ρ) fun ds => opt (biF f ds))
  | .lset a, m, n => .val (onlyIf m.cool fun ρ => bnd ((den Z a m n).e ρ) fun d => opt (lenSetD d))
  | .isi a T, m, n => .val fun ρ => bnd ((den Z a m n).e ρ) fun d => opt (isiF T d)
  | .ise i T, m, _ => .val (onlyIf m.isHot fun ρ => opt (iseF Z i T ρ))
  | .join a b, m, n => .val fun ρ => bnd ((den Z a m n).e ρ) fun x => bnd (opt (isS x)) fun a => bnd ((den Z b m n).e ρ) fun y => opt (joinD a y)
  | .fmt a, m, n => .val fun ρ => bnd ((den Z a m n).e ρ) fun d => opt (fmtD d)
  | .js es, m, n => .val fun ρ => bnd (jsM (den Z es m n).j Str.empty ρ) fun y => ret (.str y)
  | .frz l, m, n => .val fun ρ => bnd ((den Z l m n).l ρ) fun ds => ret (.lst ds)
  | .obj l, m, n => .val fun ρ => bnd ((den Z l m n).l ρ) fun ds => newM (.lst ds)
  | .call k es, m, n => .val (onlyIf m.cool fun ρ => bnd ((den Z es m n).a ρ) fun ds => Z.Φ n k ds)
  | .calv i es, m, n => .val (onlyIf m.cool fun ρ => bnd (opt (fnV Z.G.nms.length ρ i)) fun k => bnd ((den Z es m n).a ρ) fun ds => Z.Φ n k ds)
  | .tri k e, m, n => .val (onlyIf (m.isTop && decide (2 ≤ n)) fun ρ => match Z.G.trs[k]? with
    | some (_, told, kin) => triM told kin ((den Z e .calm (n - 2)).e ρ)
    | none => fail)
  | .dsp es, m, n => { l := fun ρ => bnd ((den Z es m n).a ρ) fun ds => opt (if ds.length ≤ sizeLine then some ds else none) }
  | .lcat a b, m, n => { l := fun ρ => bnd ((den Z a m n).e ρ) fun x => bnd ((den Z b m n).e ρ) fun y => opt (catD x y) }
  | .lrep l b, m, n => { l := fun ρ => bnd ((den Z l m n).l ρ) fun x => bnd ((den Z b m n).e ρ) fun y => opt (repD x y) }
  | .lrng a, m, n => { l := onlyIf m.cool fun ρ => bnd ((den Z a m n).e ρ) fun d => opt (rngD d) }
  | .lof a, m, n => { l := fun ρ => bnd ((den Z a m n).e ρ) fun d => opt (lofD d) }
  | .lrev a, m, n => { l := fun ρ => bnd ((den Z a m n).e ρ) fun d => opt (revD d) }
  | .lslc a lo hi, m, n => { l := fun ρ => bnd ((den Z a m n).e ρ) fun x => bnd ((den Z lo m n).o ρ) fun l => bnd ((den Z hi m n).o ρ) fun u => opt (lslD x l u) }
  | .spl a b, m, n => { l := fun ρ => bnd ((den Z a m n).e ρ) fun x => bnd (opt (isS x)) fun a => bnd ((den Z b m n).e ρ) fun y => opt (splitD a y) }
  | .comp elt tg cond it own, m, n => { l := onlyIf m.cool fun ρ => bnd ((den Z it m n).i ρ) fun items => mapO (turnM (asgn tg) (den Z cond m.inn n).ts (den Z elt m.inn n).e (wipeE ρ own)) items }
  | .nil, _, _ => { a := fun _ => ret [], j := [] }
  | .cons e es, m, n => { a := fun ρ => bnd ((den Z e m n).e ρ) fun d => bnd ((den Z es m n).a ρ) fun ds => ret (d :: ds), j := (den Z e m n).e :: (den Z es m n).j }
  | .nop, _, _ => { o := fun _ => ret none }
  | .sop e, m, n => { o := fun ρ => bnd ((den Z e m n).e ρ) fun d => opt ((isI d).map some) }
  | .iseq e, m, n => { i := onlyIf m.cool fun ρ => bnd ((den Z e m n).e ρ) fun d => opt (itemsD d) }
  | .irng e, m, n => { i := onlyIf m.cool fun ρ => bnd ((den Z e m n).e ρ) fun d => opt (irngD d) }
  | .irng2 a b, m, n => { i := onlyIf m.cool fun ρ => bnd ((den Z a m n).e ρ) fun x => bnd ((den Z b m n).e ρ) fun y => opt (irng2D x y) }
  | .ienum e, m, n => { i := onlyIf m.cool fun ρ => bnd ((den Z e m n).e ρ) fun d => opt (ienumD d) }
  | .izip a b, m, n => { i := onlyIf m.cool fun ρ => bnd ((den Z a m n).e ρ) fun x => bnd ((den Z b m n).e ρ) fun y => opt (izipD x y) }
  | .olen i, _, _ => .val fun ρ => bnd (opt (ownV ρ i)) fun xs => ret (.int xs.length)
  | .isw a, m, n => .val fun ρ => bnd ((den Z a m n).e ρ) fun d => opt (isi2D "tuple" "list" d)
  | .trev a, m, n => .val fun ρ => bnd ((den Z a m n).e ρ) fun d => opt (trevD d)
  | .alt i a b, m, n => .val fun ρ => if isTup ρ i = true then (den Z a m n).e ρ else (den Z b m n).e ρ
  | .tru, _, _ => { ts := fun _ => ret true }
  | .cnd t, m, n => { ts := (den Z t m n).t }

/-! ### the check against the text -/
structure Ck where
  e : Expr → Bool := fun _ => false
  a : List Expr → Bool := fun _ => false
  l : Expr → Bool := fun _ => false
  t : Expr → Bool := fun _ => false
  w : Expr → Bool := fun _ => false
  o : Option Expr → Bool := fun _ => false
  i : Expr → Expr → Bool := fun _ _ => false
  ts : List Expr → Bool := fun _ => false
  j : List Expr → Bool := fun _ => false
def Ck.val (f : Expr → Bool) : Ck := { e := f, t := fun x => f x && !isTest x }
def isOp : Nat → Operator → Bool
  | 0, .Add => true
  | 1, .Sub => true
  | 2, .Mult => true
  | 3, .FloorDiv => true
  | 4, .Mod => true
  | 5, .Pow => true
  | _, _ => false
def isCmp : Nat → CmpOp → Bool
  | 0, .Eq => true
  | 1, .NotEq => true
  | 2, .Lt => true
  | 3, .LtE => true
  | 4, .Gt => true
  | 5, .GtE => true
  | 6, .In => true
  | 7, .NotIn => true
  | 8, .Is => true
  | 9, .IsNot => true
  | _, _ => false
def konB : D → Const → Bool
  | .non, .none => true
  | .bl a, .bool b => a == b
  | .int a, .int b => a == b
  | .str a, .str b => decide (a = b)
  | _, _ => false
def biN : Nat → Str
  | 0 => "len"
  | 1 => "max"
  | 2 => "min"
  | 3 => "int"
  | 4 => "str"
  | 5 => "sum"
  | 6 => "all"
  | _ => "tuple"
def isiN : Nat → Str
  | 0 => "int"
  | 1 => "bool"
  | 2 => "str"
  | 3 => "list"
  | _ => "tuple"
/-- names of built-ins that the text leaves alone -/
def bltN : List Str := ["len", "max", "min", "int", "str", "sum", "all", "tuple", "set", "range", "list", "enumerate", "zip", "isinstance", "bool"]
def asTri : Expr → Option (Str × Arguments × Expr × Scope)
  | .Call (.Name x _) [.Lambda ps b s _] [] _ => some (x, ps, b, s)
  | _ => none
def noPs : Arguments → Bool
  | a => a.posonlyargs.isEmpty && a.args.isEmpty && a.vararg.isNone && a.kwonlyargs.isEmpty && a.kw_defaults.isEmpty && a.kwarg.isNone && a.defaults.isEmpty
/-- a name of the frame -/
def vrB (N : List Str) (sc : Scope) (i : Nat) (y : Str) : Bool := decide (N[i]? = some y) && visB sc y && nmB y
/-- a global name -/
def glnB (sc : Scope) (y : Str) : Bool := glB sc y && nmB y
def locB (sc : Scope) (cl : Str → Bool) (y : Str) : Bool := match sc.names.lookup y with
  | some .local => true
  | some .cell => cl y
  | _ => false
/-- cells that a block makes itself -/
def ownC (s : Scope) (y : Str) : Bool := s.names.lookup y == some .cell
def tgsB (N : List Str) (sc : Scope) (cl : Str → Bool) : List Nat → List Expr → Bool
  | [], [] => true
  | i :: is, e :: es => (match asName e with
    | some y => decide (N[i]? = some y) && locB sc cl y
    | none => false) && tgsB N sc cl is es
  | _, _ => false
def tgB (N : List Str) (sc : Scope) (cl : Str → Bool) : Tg → Expr → Bool
  | .one i, e => match asName e with
    | some y => decide (N[i]? = some y) && locB sc cl y
    | none => false
  | .many is, e => match asTup e with
    | some es => tgsB N sc cl is es
    | none => false
def ownOf (N : List Str) : List Nat → List (Str × Nat)
  | [] => []
  | v :: vs => match N[v]? with
    | some x => (x, v) :: ownOf N vs
    | none => ownOf N vs
def cmpB (N : List Str) (sc scope : Scope) (tg : Tg) (own : List Nat) : Bool := blkC N sc scope (ownOf N own) && decide ((ownOf N own).map (·.2) = own) && tg.ps.all fun i => own.contains i
def Ex.isNil : Ex → Bool
  | .nil => true
  | _ => false
def twoTg : Expr → Bool
  | .Tuple .. => true
  | _ => false
def ck (Γ : Gm) (N : List Str) : Ex → Scope → Ck
  | .var i, sc => .val fun x => match asName x with
    | some y => vrB N sc i y
    | none => false
  | .kon d, _ => .val fun x => match asConst x with
    | some k => konB d k
    | none => false
  | .gco k, sc => .val fun x => match asName x, Γ.gv[k]? with
    | some y, some (z, _) => decide (z = y) && glnB sc y
    | _, _ => false
  | .fnv k, sc => .val fun x => match asName x, Γ.nms[k]? with
    | some y, some z => decide (z = y) && glnB sc y
    | _, _ => false
  | .bin op a b, sc => .val fun x => match asBin x with
    | some (p, o, q) => isOp op o && (ck Γ N a sc).e p && (ck Γ N b sc).e q
    | none => false
  | .cmp op a b, sc => { e := fun x => match asCmp x with
                          | some (p, [o], [q]) => isCmp op o && !isSet q && (ck Γ N a sc).e p && (ck Γ N b sc).e q
                          | _ => false
                         t := fun x => match asCmp x with
                          | some (p, [o], [q]) => isCmp op o && !isSet q && (ck Γ N a sc).e p && (ck Γ N b sc).e q
                          | _ => false }
  | .chn o1 o2 a b c, sc => { e := fun x => match asCmp x with
                                | some (p, [u, v], [q, r]) => isCmp o1 u && isCmp o2 v && !isSet r && (ck Γ N a sc).e p && (ck Γ N b sc).e q && (ck Γ N c sc).e r
                                | _ => false
                              t := fun x => match asCmp x with
                                | some (p, [u, v], [q, r]) => isCmp o1 u && isCmp o2 v && !isSet r && (ck Γ N a sc).e p && (ck Γ N b sc).e q && (ck Γ N c sc).e r
                                | _ => false }
  | .and a b, sc => { e := fun x => match asBool x with
                        | some (.And, p :: q :: r, pos) => (ck Γ N a sc).e p && (ck Γ N b sc).e (.BoolOp .And (q :: r) pos)
                        | _ => false
                      t := fun x => match asBool x with
                        | some (.And, p :: q :: r, pos) => (ck Γ N a sc).t p && (ck Γ N b sc).w (.BoolOp .And (q :: r) pos)
                        | _ => false
                      w := fun x => match asBool x with
                        | some (.And, p :: q :: r, pos) => (ck Γ N a sc).t p && (ck Γ N b sc).w (.BoolOp .And (q :: r) pos)
                        | _ => false }
  | .or a b, sc => { e := fun x => match asBool x with
                        | some (.Or, p :: q :: r, pos) => (ck Γ N a sc).e p && (ck Γ N b sc).e (.BoolOp .Or (q :: r) pos)
                        | _ => false
                     t := fun x => match asBool x with
                        | some (.Or, p :: q :: r, pos) => (ck Γ N a sc).t p && (ck Γ N b sc).w (.BoolOp .Or (q :: r) pos)
                        | _ => false
                     w := fun x => match asBool x with
                        | some (.Or, p :: q :: r, pos) => (ck Γ N a sc).t p && (ck Γ N b sc).w (.BoolOp .Or (q :: r) pos)
                        | _ => false }
  | .one a, sc => { e := fun x => match asBool x with
                      | some (_, [p], _) => (ck Γ N a sc).e p
                      | _ => false
                    w := fun x => match asBool x with
                      | some (_, [p], _) => (ck Γ N a sc).t p
                      | _ => false }
  | .not a, sc => { e := fun x => match asUn x with
                      | some (.Not, p) => (ck Γ N a sc).e p
                      | _ => false
                    t := fun x => match asUn x with
                      | some (.Not, p) => (ck Γ N a sc).t p
                      | _ => false }
  | .neg a, sc => .val fun x => match asUn x with
    | some (.USub, p) => (ck Γ N a sc).e p
    | _ => false
  | .ifx t a b, sc => { e := fun x => match asIf x with
                          | some (p, q, r) => (ck Γ N t sc).t p && (ck Γ N a sc).e q && (ck Γ N b sc).e r
                          | none => false
                        l := fun x => match asIf x with
                          | some (p, q, r) => (ck Γ N t sc).t p && (ck Γ N a sc).l q && (ck Γ N b sc).l r
                          | none => false }
  | .tup es, sc => .val fun x => match asTup x with
    | some p => (ck Γ N es sc).a p
    | none => false
  | .idx a b, sc => .val fun x => match asSub x with
    | some (p, q) => !isSl q && (ck Γ N a sc).e p && (ck Γ N b sc).e q
    | none => false
  | .oix i b, sc => .val fun x => match asSub x with
    | some (p, q) => (match asName p with
      | some y => vrB N sc i y
      | none => false) && !isSl q && (ck Γ N b sc).e q
    | none => false
  | .slc a lo hi, sc => .val fun x => match asSub x with
    | some (p, q) => (match asSl q with
      | some (u, v) => (ck Γ N a sc).e p && (ck Γ N lo sc).o u && (ck Γ N hi sc).o v
      | none => false)
    | none => false
  | .bi f es, sc => .val fun x => match asCall x with
    | some (y, p :: ps) => decide (y = biN f) && glB sc y && (ck Γ N es sc).a (p :: ps)
    | _ => false
  | .lset a, sc => .val fun x => match asCall x with
    | some (y, [p]) => decide (y = "len") && glB sc y && (match asCall p with
      | some (z, [q]) => decide (z = "set") && glB sc z && !isStar q && (ck Γ N a sc).e q
      | _ => false)
    | _ => false
  | .isi a T, sc => .val fun x => match asCall x with
    | some (y, [p, q]) => decide (y = "isinstance") && glB sc y && !isStar p && (ck Γ N a sc).e p && (match asName q with
      | some z => decide (z = isiN T) && decide (T < 5) && glB sc z
      | none => false)
    | _ => false
  | .olen i, sc => .val fun x => match asCall x with
    | some (y, [p]) => decide (y = "len") && glB sc y && (match asName p with
      | some z => vrB N sc i z
      | none => false)
    | _ => false
  | .isw a, sc => .val fun x => match asCall x with
    | some (y, [p, q]) => decide (y = "isinstance") && glB sc y && !isStar p && (ck Γ N a sc).e p && (match asTup q with
      | some [u, v] => decide (asName u = some "tuple") && decide (asName v = some "list") && glB sc "tuple" && glB sc "list"
      | _ => false)
    | _ => false
  | .trev a, sc => .val fun x => match asRev x with
    | some p => (ck Γ N a sc).e p
    | none => false
  | .alt _ a b, sc => .val fun x => (ck Γ N a sc).e x && (ck Γ N b sc).e x
  | .ise i T, sc => .val fun x => match asCall x, Γ.ex[T]? with
    | some (y, [p, q]), some n => decide (y = "isinstance") && glB sc y && (match asName p, asName q with
      | some u, some z => vrB N sc i u && decide (z = n) && glnB sc z
      | _, _ => false)
    | _, _ => false
  | .join a b, sc => .val fun x => match asMeth x with
    | some (o, m, [p], u, v) => decide (m = "join") && !isStar p && !isCall0 o && (u.endLine == v.line) && (ck Γ N a sc).e o && (ck Γ N b sc).e p
    | _ => false
  | .fmt a, sc => .val fun x => match asFmt x with
    | some p => (ck Γ N a sc).e p
    | none => false
  | .js es, sc => .val fun x => match asJs x with
    | some (p :: q :: r) => (ck Γ N es sc).j (p :: q :: r)
    | _ => false
  | .frz l, sc => .val fun x => (ck Γ N l sc).l x
  | .obj l, sc => .val fun x => (ck Γ N l sc).l x
  | .call k es, sc => .val fun x => match asCall x, Γ.nms[k]? with
    | some (y, ps), some z => decide (z = y) && glnB sc y && (!ps.isEmpty || es.isNil) && (ck Γ N es sc).a ps
    | _, _ => false
  | .calv i es, sc => .val fun x => match asCall x with
    | some (y, p :: ps) => vrB N sc i y && (ck Γ N es sc).a (p :: ps)
    | _ => false
  | .tri k e, sc => .val fun x => match asTri x, Γ.trs[k]? with
    | some (y, ps, b, s), some (z, _) => decide (z = y) && glnB sc y && noPs ps && LamX.lamSB sc s && (ck Γ N e s).e b
    | _, _ => false
  | .dsp es, sc => { l := fun x => match asLst x with
                      | some p => (ck Γ N es sc).a p
                      | none => false }
  | .lcat a b, sc => { l := fun x => match asBin x with
                        | some (p, .Add, q) => (ck Γ N a sc).e p && (ck Γ N b sc).e q
                        | _ => false }
  | .lrep l b, sc => { l := fun x => match asBin x with
                        | some (p, .Mult, q) => (ck Γ N l sc).l p && (ck Γ N b sc).e q
                        | _ => false }
  | .lrng a, sc => { l := fun x => match asCall x with
                      | some (y, [p]) => decide (y = "list") && glB sc y && (match asCall p with
                        | some (z, [q]) => decide (z = "range") && glB sc z && !isStar q && (ck Γ N a sc).e q
                        | _ => false)
                      | _ => false }
  | .lof a, sc => { l := fun x => match asCall x with
                      | some (y, [p]) => decide (y = "list") && glB sc y && !isStar p && (ck Γ N a sc).e p
                      | _ => false }
  | .lrev a, sc => { l := fun x => match asRev x with
                      | some p => (ck Γ N a sc).e p
                      | none => false }
  | .lslc a lo hi, sc => { l := fun x => match asSub x with
                            | some (p, q) => (match asSl q with
                              | some (u, v) => (ck Γ N a sc).e p && (ck Γ N lo sc).o u && (ck Γ N hi sc).o v
                              | none => false)
                            | none => false }
  | .spl a b, sc => { l := fun x => match asMeth x with
                        | some (o, m, [p], u, v) => decide (m = "split") && !isStar p && !isCall0 o && (u.endLine == v.line) && (ck Γ N a sc).e o && (ck Γ N b sc).e p
                        | _ => false }
  | .comp elt tg cond it own, sc => { l := fun x => match asComp x with
      | some (u, g, p, ifs, s) => cmpB N sc s tg own && tgB N (relS s sc) (ownC s) tg g && !isSet p && (ck Γ N it sc).i g p && (ck Γ N cond (relS s sc)).ts ifs && (ck Γ N elt (relS s sc)).e u
      | none => false }
  | .nil, _ => { a := fun x => x.isEmpty, j := fun x => x.isEmpty }
  | .cons e es, sc => { a := fun x => match x with
                          | p :: ps => !isStar p && (ck Γ N e sc).e p && (ck Γ N es sc).a ps
                          | [] => false
                        j := fun x => match x with
                          | p :: ps => (ck Γ N e sc).e p && (ck Γ N es sc).j ps
                          | [] => false }
  | .nop, _ => { o := fun x => x.isNone }
  | .sop e, sc => { o := fun x => match x with
                      | some p => (ck Γ N e sc).e p
                      | none => false }
  | .iseq e, sc => { i := fun _ x => !isSet x && (ck Γ N e sc).e x }
  | .irng e, sc => { i := fun _ x => match asCall x with
                      | some (y, [p]) => decide (y = "range") && glB sc y && !isStar p && (ck Γ N e sc).e p
                      | _ => false }
  | .irng2 a b, sc => { i := fun _ x => match asCall x with
                          | some (y, [p, q]) => decide (y = "range") && glB sc y && !isStar p && !isStar q && (ck Γ N a sc).e p && (ck Γ N b sc).e q
                          | _ => false }
  | .ienum e, sc => { i := fun g x => match asCall x with
                        | some (y, [p]) => decide (y = "enumerate") && twoTg g && glB sc y && !isStar p && (ck Γ N e sc).e p
                        | _ => false }
  | .izip a b, sc => { i := fun g x => match asCall x with
                        | some (y, [p, q]) => decide (y = "zip") && twoTg g && glB sc y && !isStar p && !isStar q && (ck Γ N a sc).e p && (ck Γ N b sc).e q
                        | _ => false }
  | .tru, _ => { ts := fun x => x.isEmpty }
  | .cnd t, sc => { ts := fun x => match x with
                      | [p] => (ck Γ N t sc).t p
                      | _ => false }
end PV

set_option Elab.async false
set_option linter.all false
set_option maxRecDepth 100000
set_option maxHeartbeats 4000000
/-! PvI: what an expression of the text does is what its meaning says. -/
namespace PV
open PySem PySem.Spec PyProof.Rows L2
/-- the context in which code runs -/
structure Okc (c : Cf) (Z : Sm) (n : Nat) (m : Md) (W : WX) (X : Cx) : Prop where
  K : X.K = c.K
  kd : X.env.scope.kind = .function
  cal : m.cool = true → X.calm = true
  room : m.cool = true → Room n X.A
  un : X.A.units + 64 < cLine
  nd : X.N.Nodup
  tk : L2N.Takes X W
  fre : ∀ x ∈ bltN, X.mg x = none
  fns : ∀ (j : Nat), j ≤ n → ∀ (k : Nat) (x : Str), Z.G.nms[k]? = some x → X.mg x = some (.ref (c.fa k)) ∧ CalOk X c j k (Z.Φ j k)
  gvs : ∀ (k : Nat) (x : Str) (d : D), Z.G.gv[k]? = some (x, d) → ∃ v u, X.mg x = some u ∧ RelV v u ∧ ∀ g H, Rep c g H d v
/-- x(lambda: ..), x one of the defs that catch -/
def TriOk (c : Cf) (Z : Sm) (n : Nat) (W : WX) (X : Cx) : Prop :=
  ∀ (k : Nat) (nm : Str) (told : D → D) (kin : Str → Option D → Option D), Z.G.trs[k]? = some (nm, told, kin) → ∀ (ps : Arguments) (b : Expr) (s : Scope) (lpos p pos : Pos) (f : Ev → Mm D), noPs ps = true → LamX.lamSB X.env.scope s = true → glnB X.env.scope nm = true → 2 ≤ n →
    (∀ W' X', Okc c Z (n - 2) .calm W' X' → X'.N = X.N → X'.env.scope = s → EvE c W' X' b f) → EvE c W X (.Call (.Name nm p) [.Lambda ps b s lpos] [] pos) (fun ρ => triM told kin (f ρ))
/-- isinstance of the error in hand -/
def IseOk (c : Cf) (Z : Sm) (W : WX) (X : Cx) : Prop :=
  ∀ (i T : Nat) (u z : Str) (p p2 p3 pos : Pos), X.N[i]? = some u → Vis X.env.scope u → nmB u = true → Z.G.ex[T]? = some z → glnB X.env.scope z = true → Gl X "isinstance" →
    EvE c W X (.Call (.Name "isinstance" p) [.Name u p2, .Name z p3] [] pos) (fun ρ => opt (iseF Z i T ρ))
structure Okx (c : Cf) (Z : Sm) (n : Nat) (m : Md) (W : WX) (X : Cx) : Prop where
  b : Okc c Z n m W X
  tri : m.isTop = true → TriOk c Z n W X
  ise : m.isHot = true → IseOk c Z W X
theorem takesN0 {X : Cx} : L2N.Takes X W0 := fun _ _ x => by
  obtain ⟨_, _, _, _, _, _, _, _, _, _, _, _, _, _, _, _, z⟩ := x
  exact z.elim
section
variable {c : Cf} {Z : Sm} {n : Nat} {m : Md} {W : WX} {X : Cx}
theorem Okx.blk (o : Okx c Z n m W X) (hm : m.cool = true) {s : Shared} {H : Hp} {sc : Scope} {C : Addr} {cl : List (Str × Addr)} {fp : List Addr} (hk : sc.kind = .function) : Okx c Z n m.inn W0 (X.blk s H sc (compEnvC sc cl C X.env) fp) := by
  refine ⟨⟨o.b.K, hk, fun _ => o.b.cal hm, fun _ => o.b.room hm, o.b.un, o.b.nd, takesN0, o.b.fre, fun j hj k x hx => ⟨(o.b.fns j hj k x hx).1, ?_⟩, o.b.gvs⟩, fun z => ?_, fun z => ?_⟩
  · obtain ⟨h1, h2⟩ := (o.b.fns j hj k x hx).2
    exact ⟨h1, h2⟩
  · cases m <;> cases z
  · cases m <;> first | cases z | cases hm
theorem Okc.fr (o : Okc c Z n m W X) {x : Str} (h : x ∈ bltN) : X.mg x = none := o.fre x h
/-! ### the operators -/
theorem bin_ok {k : Nat} {op : Operator} (hK : X.K = c.K) (h : isOp k op = true) : ∃ r, OpR X (binaryOp op) r ∧ OpOk c r (opF k) := by
  unfold isOp at h
  split at h
  · exact ⟨_, op_addA, ok_add hK⟩
  · exact ⟨_, op_sub, ok_sub⟩
  · exact ⟨_, op_mul, ok_mul⟩
  · exact ⟨_, op_fdivN, ok_fdiv⟩
  · exact ⟨_, op_modN, ok_mod⟩
  · exact ⟨_, op_pow, ok_pow⟩
  · cases h
theorem cmp_ok {k : Nat} {op : CmpOp} (hK : X.K = c.K) (hu : X.A.units + 64 < cLine) (h : isCmp k op = true) : ∃ r, OpR X (compareOp op) r ∧ OpOk c r (cmpF k) := by
  unfold isCmp at h
  split at h
  · exact ⟨_, op_eqD hu, ok_eq hK⟩
  · exact ⟨_, op_neD hu, ok_ne hK⟩
  · exact ⟨_, op_lt, ok_ord⟩
  · exact ⟨_, op_le, ok_ord⟩
  · exact ⟨_, op_gt, ok_ord⟩
  · exact ⟨_, op_ge, ok_ord⟩
  · exact ⟨_, op_in_seq.or op_in_str, ok_in hK⟩
  · exact ⟨_, op_notIn_seq.or op_notIn_str, ok_nin hK⟩
  · exact ⟨_, op_isN.or op_isBl, ok_isN⟩
  · exact ⟨_, op_notN.or op_notBl, ok_notN⟩
  · cases h
/-- a chain of two -/
theorem ev_chn {u v : CmpOp} {p q r : Expr} {pos : Pos} {r1 r2 : R2} {F1 F2 : D → D → Option D} {f1 f2 f3 : Ev → Mm D} (h1 : OpR X (compareOp u) r1) (k1 : OpOk c r1 F1) (h2 : OpR X (compareOp v) r2) (k2 : OpOk c r2 F2) (hr : isSet r = false) (e1 : EvE c W X p f1) (e2 : EvE c W X q f2) (e3 : EvE c W X r f3) :
    EvE c W X (.Compare p [u, v] [q, r] pos) (fun ρ => bnd (f1 ρ) fun x => bnd (f2 ρ) fun y => bnd (opt (F1 x y)) fun z => bnd (opt (isB z)) fun k => if k = true then bnd (f3 ρ) fun w => opt (F2 y w) else ret (.bl false)) ∧
    EvT c W X (.Compare p [u, v] [q, r] pos) (fun ρ => bnd (bnd (f1 ρ) fun x => bnd (f2 ρ) fun y => bnd (opt (F1 x y)) fun z => bnd (opt (isB z)) fun k => if k = true then bnd (f3 ρ) fun w => opt (F2 y w) else ret (.bl false)) fun d => opt (isB d)) := by
  have hm : lastMarks [u, v] [q, r] = false := inMarks (op := v) hr
  have key : ∀ σ H Q, tX c W (relV c) (fun ρ => bnd (f1 ρ) fun x => bnd (f2 ρ) fun y => bnd (opt (F1 x y)) fun z => bnd (opt (isB z)) fun k => if k = true then bnd (f3 ρ) fun w => opt (F2 y w) else ret (.bl false)) σ H Q → tChain r1 r2 (tX c W (relV c) f1) (tX c W (relV c) f2) (tX c W (relV c) f3) σ H Q := fun σ H Q h => by
    obtain ⟨g, ρ, S, st, h⟩ := h
    refine step wV st h fun x S1 g1 H1 u st1 x1 r1 h => ?_
    refine step wV st1 h fun y S2 g2 H2 v st2 x2 r2 h => ?_
    cases q1 : F1 x y with
    | none => rw [q1] at h; exact h.elim
    | some z =>
      rw [q1] at h
      have h : Con c W (relV c) g2 H2 σ Q (bnd (opt (isB z)) (fun k => if k = true then bnd (f3 ρ) fun w => opt (F2 y w) else ret (.bl false)) S2) := h
      refine k1 g2 S2 H2 x y z u v _ st2.good (Rep.ext x2.fx x u r1) r2 q1 fun g3 H3 w x3 G3 rz => ?_
      cases z with
      | bl k =>
        refine ⟨k, rz, ?_⟩
        have h : Con c W (relV c) g2 H2 σ Q ((if k = true then bnd (f3 ρ) fun w => opt (F2 y w) else ret (.bl false)) S2) := h
        have st3 : St1 c g3 ρ S2 σ H3 := ⟨G3, st2.env.imp fun _ e => e.ext x3⟩
        have h := Con.weak wV x3 h
        cases k with
        | true =>
          rw [if_pos rfl] at h ⊢
          refine step wV st3 h fun w S4 g4 H4 v4 st4 x4 r4 h => ?_
          obtain ⟨d, e, h⟩ := fin h
          exact k2 g4 S4 H4 y w d v v4 Q st4.good (Rep.ext x4.fx y v (Rep.ext x3.fx y v r2)) r4 e h
        | false =>
          rw [if_neg Bool.false_ne_true] at h ⊢
          exact h g3 H3 _ (.refl _ _) st3.good rfl
      | _ => exact h.elim
  exact ⟨imp (pe_chain h1 h2 e1 e2 e3 hm) key, ev_testT (pt_chain h1 h2 e1 e2 e3 hm) key⟩
theorem ev_neg {p : Expr} {pos : Pos} {f : Ev → Mm D} (h : EvE c W X p f) : EvE c W X (.UnaryOp .USub p pos) (fun ρ => bnd (f ρ) fun x => opt (negD x)) := by
  refine imp (pe_un un_neg h) fun σ H Q h => ?_
  obtain ⟨g, ρ, S, st, h⟩ := h
  refine step wV st h fun x S1 g1 H1 u st1 x1 r1 h => ?_
  obtain ⟨d, e, h⟩ := fin h
  cases x with
  | int i =>
    cases e
    exact ⟨i, r1, h g1 H1 _ (.refl _ _) st1.good rfl⟩
  | _ => cases e
/-! ### names, constants -/
theorem vr_of {N : List Str} {sc : Scope} {i : Nat} {y : Str} (h : vrB N sc i y = true) : N[i]? = some y ∧ Vis sc y ∧ nmB y = true := by
  unfold vrB at h
  simp only [Bool.and_eq_true, decide_eq_true_eq] at h
  exact ⟨h.1.1, vis_of h.1.2, h.2⟩
theorem gln_of {y : Str} (h : glnB X.env.scope y = true) : Gl X y ∧ nmB y = true := by
  unfold glnB at h
  rw [Bool.and_eq_true] at h
  exact ⟨gl_of h.1, h.2⟩
theorem ev_kon {d : D} {e : Expr} {k : Const} (he : asConst e = some k) (h : konB d k = true) : EvE c W X e (fun _ => ret d) := by
  obtain ⟨j, p, rfl⟩ := asConst_eq he
  unfold konB at h
  split at h
  · exact ev_const pe_non fun _ _ => rfl
  · cases beq_iff_eq.mp h
    exact ev_const pe_bl fun _ _ => rfl
  · cases beq_iff_eq.mp h
    exact ev_const pe_int fun _ _ => rfl
  · cases of_decide_eq_true h
    exact ev_const pe_str fun _ _ => rfl
  · cases h
theorem opt_ret {α : Type} (a : α) : opt (some a) = ret a := rfl
theorem ev_fail {e : Expr} {f : Ev → Mm D} (h : ∀ ρ S, f ρ S = none) : EvE c W X e f := ⟨fun pins s σ H Q I q => by
  obtain ⟨g, ρ, S, st, q⟩ := q
  rw [h] at q
  exact q.elim⟩
theorem ev_failT {e : Expr} {f : Ev → Mm Bool} (h : ∀ ρ S, f ρ S = none) : EvT c W X e f := ⟨fun pins s σ H Q I q => by
  obtain ⟨g, ρ, S, st, q⟩ := q
  rw [h] at q
  exact q.elim⟩
theorem ev_failI {tg e : Expr} {f : Ev → Mm (List D)} (h : ∀ ρ S, f ρ S = none) : EvI c W X tg e f := ⟨fun pins s σ H Q I q => by
  obtain ⟨g, ρ, S, st, q⟩ := q
  rw [h] at q
  exact q.elim⟩
theorem bnd_none {α β : Type} {x : Mm α} {f : α → Mm β} {S : Store} (h : x S = none) : bnd x f S = none := by
  unfold bnd
  rw [h]
/-- a value where a test is asked -/
theorem ev_val {e : Expr} {f : Ev → Mm D} (h : EvE c W X e f) (hp : (!isTest e) = true) : EvT c W X e (fun ρ => bnd (f ρ) fun d => opt (isB d)) := ev_plainT h (by simpa using hp)
/-! ### what is to be shown of an expression -/
structure Snd (c : Cf) (Z : Sm) (x : Ex) : Prop where
  e : ∀ {n : Nat} {m : Md} {W : WX} {X : Cx}, Okx c Z n m W X → ∀ a, (ck Z.G X.N x X.env.scope).e a = true → EvE c W X a (den Z x m n).e := by intro n m W X o a h; cases h
  a : ∀ {n : Nat} {m : Md} {W : WX} {X : Cx}, Okx c Z n m W X → ∀ a, (ck Z.G X.N x X.env.scope).a a = true → EvA c W X a (den Z x m n).a ∧ noStar a = true := by intro n m W X o a h; cases h
  l : ∀ {n : Nat} {m : Md} {W : WX} {X : Cx}, Okx c Z n m W X → ∀ a, (ck Z.G X.N x X.env.scope).l a = true → EvL c W X a (den Z x m n).l := by intro n m W X o a h; cases h
  t : ∀ {n : Nat} {m : Md} {W : WX} {X : Cx}, Okx c Z n m W X → ∀ a, (ck Z.G X.N x X.env.scope).t a = true → EvT c W X a (den Z x m n).t := by intro n m W X o a h; cases h
  w : ∀ {n : Nat} {m : Md} {W : WX} {X : Cx}, Okx c Z n m W X → ∀ a, (ck Z.G X.N x X.env.scope).w a = true → EvW c W X a (den Z x m n).w := by intro n m W X o a h; cases h
  o : ∀ {n : Nat} {m : Md} {W : WX} {X : Cx}, Okx c Z n m W X → ∀ a, (ck Z.G X.N x X.env.scope).o a = true → EvO c W X a (den Z x m n).o := by intro n m W X o a h; cases h
  i : ∀ {n : Nat} {m : Md} {W : WX} {X : Cx}, Okx c Z n m W X → ∀ g a, (ck Z.G X.N x X.env.scope).i g a = true → EvI c W X g a (den Z x m n).i ∧ isSet a = false := by intro n m W X o g a h; cases h
  ts : ∀ {n : Nat} {m : Md} {W : WX} {X : Cx}, Okx c Z n m W X → ∀ a, (ck Z.G X.N x X.env.scope).ts a = true → EvTs c W X a (den Z x m n).ts := by intro n m W X o a h; cases h
  j : ∀ {n : Nat} {m : Md} {W : WX} {X : Cx}, Okx c Z n m W X → ∀ a, (ck Z.G X.N x X.env.scope).j a = true → EvJ c W X a (den Z x m n).j := by intro n m W X o a h; cases h
/-- one that is a value -/
theorem Snd.val {x : Ex} {K : Gm → List Str → Scope → Expr → Bool} {F : Sm → Md → Nat → Ev → Mm D} (hc : ∀ Γ N sc, ck Γ N x sc = .val (K Γ N sc)) (hd : ∀ Z m n, den Z x m n = .val (F Z m n))
    (h : ∀ {n : Nat} {m : Md} {W : WX} {X : Cx}, Okx c Z n m W X → ∀ a, K Z.G X.N X.env.scope a = true → EvE c W X a (F Z m n)) : Snd c Z x where
  e := fun {n m W X} o a q => by
    rw [hc] at q
    rw [hd]
    exact h o a q
  a := fun {n m W X} o a q => by rw [hc] at q; cases q
  l := fun {n m W X} o a q => by rw [hc] at q; cases q
  t := fun {n m W X} o a q => by
    rw [hc] at q
    rw [hd]
    have q : (K Z.G X.N X.env.scope a && !isTest a) = true := q
    rw [Bool.and_eq_true] at q
    exact ev_val (h o a q.1) q.2
  w := fun {n m W X} o a q => by rw [hc] at q; cases q
  o := fun {n m W X} o a q => by rw [hc] at q; cases q
  i := fun {n m W X} o g a q => by rw [hc] at q; cases q
  ts := fun {n m W X} o a q => by rw [hc] at q; cases q
  j := fun {n m W X} o a q => by rw [hc] at q; cases q
theorem snd_var (i : Nat) : Snd c Z (.var i) := .val (fun _ _ _ => rfl) (fun _ _ _ => rfl) fun {n m W X} o a q => by
  split at q
  · rename_i y hy
    obtain ⟨p, rfl⟩ := asName_eq hy
    obtain ⟨h1, h2, h3⟩ := vr_of q
    exact ev_var h1 h2 h3
  · cases q
theorem snd_kon (d : D) : Snd c Z (.kon d) := .val (fun _ _ _ => rfl) (fun _ _ _ => rfl) fun {n m W X} o a q => by
  split at q
  · rename_i k hk
    exact ev_kon hk q
  · cases q
theorem snd_gco (k : Nat) : Snd c Z (.gco k) := .val (fun _ _ _ => rfl) (fun _ _ _ => rfl) fun {n m W X} o a q => by
  split at q
  · rename_i y z d hy hk
    rw [Bool.and_eq_true, decide_eq_true_eq] at q
    obtain ⟨rfl, q⟩ := q
    obtain ⟨p, rfl⟩ := asName_eq hy
    obtain ⟨h1, h2⟩ := gln_of q
    obtain ⟨v, u, e1, e2, e3⟩ := o.b.gvs k _ d hk
    rw [hk]
    exact ev_const (pe_glob h1 e1 e2 (nm_of h2).1) e3
  · cases q
theorem snd_fnv (k : Nat) : Snd c Z (.fnv k) := .val (fun _ _ _ => rfl) (fun _ _ _ => rfl) fun {n m W X} o a q => by
  split at q
  · rename_i y z hy hk
    rw [Bool.and_eq_true, decide_eq_true_eq] at q
    obtain ⟨rfl, q⟩ := q
    obtain ⟨p, rfl⟩ := asName_eq hy
    obtain ⟨h1, h2⟩ := gln_of q
    obtain ⟨e1, _⟩ := o.b.fns n (Nat.le_refl _) k _ hk
    exact ev_const (pe_glob (v := .ref (c.fa k)) h1 e1 rfl (nm_of h2).1) fun _ _ => rfl
  · cases q
theorem snd_bin (op : Nat) {x y : Ex} (hx : Snd c Z x) (hy : Snd c Z y) : Snd c Z (.bin op x y) := .val (fun _ _ _ => rfl) (fun _ _ _ => rfl) fun {n m W X} o a q => by
  split at q
  · rename_i p u r hp
    simp only [Bool.and_eq_true] at q
    obtain ⟨⟨q1, q2⟩, q3⟩ := q
    obtain ⟨pos, rfl⟩ := asBin_eq hp
    obtain ⟨r', h1, h2⟩ := bin_ok (X := X) (c := c) o.b.K q1
    exact ev_bin h1 h2 (hx.e o _ q2) (hy.e o _ q3)
  · cases q
theorem snd_cmp (op : Nat) {x y : Ex} (hx : Snd c Z x) (hy : Snd c Z y) : Snd c Z (.cmp op x y) where
  e := fun {n m W X} o a q => by
    simp only [ck] at q
    split at q
    · rename_i p u r hp
      simp only [Bool.and_eq_true, Bool.not_eq_true'] at q
      obtain ⟨⟨⟨q1, q0⟩, q2⟩, q3⟩ := q
      obtain ⟨pos, rfl⟩ := asCmp_eq hp
      obtain ⟨r', h1, h2⟩ := cmp_ok (X := X) (c := c) o.b.K o.b.un q1
      exact ev_cmp h1 q0 h2 (hx.e o _ q2) (hy.e o _ q3)
    · cases q
  t := fun {n m W X} o a q => by
    simp only [ck] at q
    split at q
    · rename_i p u r hp
      simp only [Bool.and_eq_true, Bool.not_eq_true'] at q
      obtain ⟨⟨⟨q1, q0⟩, q2⟩, q3⟩ := q
      obtain ⟨pos, rfl⟩ := asCmp_eq hp
      obtain ⟨r', h1, h2⟩ := cmp_ok (X := X) (c := c) o.b.K o.b.un q1
      exact ev_cmpT h1 q0 h2 (hx.e o _ q2) (hy.e o _ q3)
    · cases q
theorem snd_chn (o1 o2 : Nat) {x y z : Ex} (hx : Snd c Z x) (hy : Snd c Z y) (hz : Snd c Z z) : Snd c Z (.chn o1 o2 x y z) := by
  have key : ∀ {n : Nat} {m : Md} {W : WX} {X : Cx}, Okx c Z n m W X → ∀ a, (ck Z.G X.N (.chn o1 o2 x y z) X.env.scope).e a = true → EvE c W X a (den Z (.chn o1 o2 x y z) m n).e ∧ EvT c W X a (den Z (.chn o1 o2 x y z) m n).t := fun {n m W X} o a q => by
    simp only [ck] at q
    split at q
    · rename_i p u v r s hp
      simp only [Bool.and_eq_true, Bool.not_eq_true'] at q
      obtain ⟨⟨⟨⟨⟨q1, q2⟩, q0⟩, q3⟩, q4⟩, q5⟩ := q
      obtain ⟨pos, rfl⟩ := asCmp_eq hp
      obtain ⟨r1, h1, k1⟩ := cmp_ok (X := X) (c := c) o.b.K o.b.un q1
      obtain ⟨r2, h2, k2⟩ := cmp_ok (X := X) (c := c) o.b.K o.b.un q2
      exact ev_chn h1 k1 h2 k2 q0 (hx.e o _ q3) (hy.e o _ q4) (hz.e o _ q5)
    · cases q
  exact { e := fun o a q => (key o a q).1, t := fun o a q => (key o a q).2 }
theorem snd_and {x y : Ex} (hx : Snd c Z x) (hy : Snd c Z y) : Snd c Z (.and x y) := by
  have key : ∀ {n : Nat} {m : Md} {W : WX} {X : Cx}, Okx c Z n m W X → ∀ a, (ck Z.G X.N (.and x y) X.env.scope).w a = true → EvW c W X a (den Z (.and x y) m n).w := fun {n m W X} o a q => by
    simp only [ck] at q
    split at q
    · rename_i p u r pos hp
      rw [Bool.and_eq_true] at q
      cases asBool_eq hp
      exact ev_andW (hx.t o _ q.1) (hy.w o _ q.2)
    · cases q
  exact { e := fun {n m W X} o a q => by
            simp only [ck] at q
            split at q
            · rename_i p u r pos hp
              rw [Bool.and_eq_true] at q
              cases asBool_eq hp
              exact ev_and (hx.e o _ q.1) (hy.e o _ q.2)
            · cases q
          t := fun o a q => (key o a q).pt, w := key }
theorem snd_or {x y : Ex} (hx : Snd c Z x) (hy : Snd c Z y) : Snd c Z (.or x y) := by
  have key : ∀ {n : Nat} {m : Md} {W : WX} {X : Cx}, Okx c Z n m W X → ∀ a, (ck Z.G X.N (.or x y) X.env.scope).w a = true → EvW c W X a (den Z (.or x y) m n).w := fun {n m W X} o a q => by
    simp only [ck] at q
    split at q
    · rename_i p u r pos hp
      rw [Bool.and_eq_true] at q
      cases asBool_eq hp
      exact ev_orW (hx.t o _ q.1) (hy.w o _ q.2)
    · cases q
  exact { e := fun {n m W X} o a q => by
            simp only [ck] at q
            split at q
            · rename_i p u r pos hp
              rw [Bool.and_eq_true] at q
              cases asBool_eq hp
              exact ev_or (hx.e o _ q.1) (hy.e o _ q.2)
            · cases q
          t := fun o a q => (key o a q).pt, w := key }
theorem snd_one {x : Ex} (hx : Snd c Z x) : Snd c Z (.one x) where
  e := fun {n m W X} o a q => by
    simp only [ck] at q
    split at q
    · rename_i u p pos hp
      cases asBool_eq hp
      exact ev_one (hx.e o _ q)
    · cases q
  w := fun {n m W X} o a q => by
    simp only [ck] at q
    split at q
    · rename_i u p pos hp
      cases asBool_eq hp
      exact ev_oneW (hx.t o _ q)
    · cases q
theorem snd_not {x : Ex} (hx : Snd c Z x) : Snd c Z (.not x) where
  e := fun {n m W X} o a q => by
    simp only [ck] at q
    split at q
    · rename_i p hp
      obtain ⟨pos, rfl⟩ := asUn_eq hp
      exact ev_not (hx.e o _ q)
    · cases q
  t := fun {n m W X} o a q => by
    simp only [ck] at q
    split at q
    · rename_i p hp
      obtain ⟨pos, rfl⟩ := asUn_eq hp
      exact ev_notT (hx.t o _ q)
    · cases q
theorem snd_neg {x : Ex} (hx : Snd c Z x) : Snd c Z (.neg x) := .val (fun _ _ _ => rfl) (fun _ _ _ => rfl) fun {n m W X} o a q => by
  split at q
  · rename_i p hp
    obtain ⟨pos, rfl⟩ := asUn_eq hp
    exact ev_neg (hx.e o _ q)
  · cases q
theorem snd_ifx {t x y : Ex} (ht : Snd c Z t) (hx : Snd c Z x) (hy : Snd c Z y) : Snd c Z (.ifx t x y) where
  e := fun {n m W X} o a q => by
    simp only [ck] at q
    split at q
    · rename_i p u r hp
      simp only [Bool.and_eq_true] at q
      obtain ⟨pos, rfl⟩ := asIf_eq hp
      exact ev_if (ht.t o _ q.1.1) (hx.e o _ q.1.2) (hy.e o _ q.2)
    · cases q
  l := fun {n m W X} o a q => by
    simp only [ck] at q
    split at q
    · rename_i p u r hp
      simp only [Bool.and_eq_true] at q
      obtain ⟨pos, rfl⟩ := asIf_eq hp
      exact ev_ifL (ht.t o _ q.1.1) (hx.l o _ q.1.2) (hy.l o _ q.2)
    · cases q
theorem snd_tup {x : Ex} (hx : Snd c Z x) : Snd c Z (.tup x) := .val (fun _ _ _ => rfl) (fun _ _ _ => rfl) fun {n m W X} o a q => by
  split at q
  · rename_i p hp
    obtain ⟨k, pos, rfl⟩ := asTup_eq hp
    exact ev_tup (hx.a o _ q).1
  · cases q
theorem snd_idx {x y : Ex} (hx : Snd c Z x) (hy : Snd c Z y) : Snd c Z (.idx x y) := .val (fun _ _ _ => rfl) (fun _ _ _ => rfl) fun {n m W X} o a q => by
  split at q
  · rename_i p u hp
    simp only [Bool.and_eq_true, Bool.not_eq_true'] at q
    obtain ⟨pos, rfl⟩ := asSub_eq hp
    exact ev_idx o.b.K q.1.1 (hx.e o _ q.1.2) (hy.e o _ q.2)
  · cases q
theorem snd_oix (i : Nat) {y : Ex} (hy : Snd c Z y) : Snd c Z (.oix i y) := .val (fun _ _ _ => rfl) (fun _ _ _ => rfl) fun {n m W X} o a q => by
  split at q
  · rename_i p u hp
    simp only [Bool.and_eq_true, Bool.not_eq_true'] at q
    obtain ⟨⟨q1, q2⟩, q3⟩ := q
    obtain ⟨pos, rfl⟩ := asSub_eq hp
    split at q1
    · rename_i z hz
      obtain ⟨p2, rfl⟩ := asName_eq hz
      obtain ⟨h1, h2, h3⟩ := vr_of q1
      exact ev_oix h1 h2 h3 q2 (hy.e o _ q3)
    · cases q1
  · cases q
theorem snd_slc {x lo hi : Ex} (hx : Snd c Z x) (hl : Snd c Z lo) (hh : Snd c Z hi) : Snd c Z (.slc x lo hi) := .val (fun _ _ _ => rfl) (fun _ _ _ => rfl) fun {n m W X} o a q => by
  split at q
  · rename_i p u hp
    obtain ⟨pos, rfl⟩ := asSub_eq hp
    split at q
    · rename_i y z hz
      obtain ⟨p2, rfl⟩ := asSl_eq hz
      simp only [Bool.and_eq_true] at q
      exact ev_slc o.b.K (hx.e o _ q.1.1) (hl.o o _ q.1.2) (hh.o o _ q.2)
    · cases q
  · cases q
end
end PV

set_option Elab.async false
set_option linter.all false
set_option maxRecDepth 100000
set_option maxHeartbeats 4000000
/-! PvJ: the same, the rest of the language. -/
namespace PV
open PySem PySem.Spec PyProof.Rows L2
section
variable {c : Cf} {Z : Sm} {n : Nat} {m : Md} {W : WX} {X : Cx}
theorem bi_ok {f : Nat} {p : Expr} {ps : List Expr} {q pos : Pos} {fs : Ev → Mm (List D)} (o : Okc c Z n m W X) (hg : Gl X (biN f)) (hs : noStar (p :: ps) = true) (hm : (m.cool || !biC f) = true) (h : EvA c W X (p :: ps) fs) :
    EvE c W X (.Call (.Name (biN f) q) (p :: ps) [] pos) (fun ρ => bnd (fs ρ) fun ds => opt (biF f ds)) := by
  obtain ⟨h1, h2⟩ := noStar_cons hs
  have cal : biC f = true → X.calm = true := fun z => o.cal (by rw [z] at hm; simpa using hm)
  match f with
  | 0 => exact ev_call1 (fun a => pe_callB (id := "len") (call_len_seq.or call_len_str) hg (o.fr (by decide)) rfl a (by decide) (by decide) (star_cons h1) (plain_any h2)) (len_ok o.K) h
  | 1 => exact ev_call1 (fun a => pe_callB (id := "max") (call_max2 (cal rfl)) hg (o.fr (by decide)) rfl a (by decide) (by decide) (star_cons h1) (plain_any h2)) max2_ok h
  | 2 => exact ev_call1 (fun a => pe_callB (id := "min") (call_min2 (cal rfl)) hg (o.fr (by decide)) rfl a (by decide) (by decide) (star_cons h1) (plain_any h2)) min2_ok h
  | 3 => exact ev_call1 (fun a => pe_callTy (T := "int") (call_int1.or call_int_str) hg (o.fr (by decide)) rfl a (by decide) (by decide) (star_cons h1) (plain_any h2)) int_ok h
  | 4 => exact ev_call1 (fun a => pe_callTy (T := "str") (call_str_int.or SkE.call_str_str) hg (o.fr (by decide)) rfl a (by decide) (by decide) (star_cons h1) (plain_any h2)) str_ok h
  | 5 => exact ev_call1 (fun a => pe_callB (id := "sum") ((cr_sum (cal rfl)).or (cr_sumT (cal rfl))) hg (o.fr (by decide)) rfl a (by decide) (by decide) (star_cons h1) (plain_any h2)) (sum_ok o.K) h
  | 6 => exact ev_call1 (fun a => pe_callB (id := "all") (cr_all (cal rfl)) hg (o.fr (by decide)) rfl a (by decide) (by decide) (star_cons h1) (plain_any h2)) (all_ok o.K) h
  | 7 => exact ev_call1 (fun a => pe_callTy (T := "tuple") call_tuple_of hg (o.fr (by decide)) rfl a (by decide) (by decide) (star_cons h1) (plain_any h2)) (tup_ok o.K) h
  | k + 8 => exact ev_call1 (fun a => pe_callTy (x := "tuple") (T := "tuple") call_tuple_of hg (o.fr (by decide)) rfl a (by decide) (by decide) (star_cons h1) (plain_any h2)) (fun _ _ _ _ _ _ _ _ _ z => nomatch z) h
theorem snd_bi (f : Nat) {x : Ex} (hx : Snd c Z x) : Snd c Z (.bi f x) := .val (fun _ _ _ => rfl) (fun _ _ _ => rfl) fun {n m W X} o a q => by
  split at q
  · rename_i y p ps hp
    simp only [Bool.and_eq_true, decide_eq_true_eq] at q
    obtain ⟨⟨rfl, q1⟩, q2⟩ := q
    obtain ⟨p1, p2, rfl⟩ := asCall_eq hp
    obtain ⟨h1, h2⟩ := hx.a o _ q2
    unfold onlyIf
    split
    · rename_i hm
      exact bi_ok o.b (gl_of q1) h2 hm h1
    · exact ev_fail fun _ _ => rfl
  · cases q
theorem snd_lset {x : Ex} (hx : Snd c Z x) : Snd c Z (.lset x) := .val (fun _ _ _ => rfl) (fun _ _ _ => rfl) fun {n m W X} o a q => by
  unfold onlyIf
  split
  case isFalse => exact ev_fail fun _ _ => rfl
  rename_i hm
  split at q
  · rename_i y p hp
    simp only [Bool.and_eq_true, decide_eq_true_eq] at q
    obtain ⟨⟨rfl, q1⟩, q2⟩ := q
    obtain ⟨p1, p2, rfl⟩ := asCall_eq hp
    split at q2
    · rename_i z r hz
      simp only [Bool.and_eq_true, decide_eq_true_eq, Bool.not_eq_true'] at q2
      obtain ⟨⟨⟨rfl, q2⟩, q3⟩, q4⟩ := q2
      obtain ⟨p3, p4, rfl⟩ := asCall_eq hz
      exact ev_lenSet o.b.K (o.b.cal hm) (gl_of q1) (o.b.fr (by decide)) (gl_of q2) (o.b.fr (by decide)) q3 (hx.e o _ q4)
    · cases q2
  · cases q
theorem snd_isi (T : Nat) {x : Ex} (hx : Snd c Z x) : Snd c Z (.isi x T) := .val (fun _ _ _ => rfl) (fun _ _ _ => rfl) fun {n m W X} o a q => by
  split at q
  · rename_i y p r hp
    simp only [Bool.and_eq_true, decide_eq_true_eq, Bool.not_eq_true'] at q
    obtain ⟨⟨⟨⟨rfl, q1⟩, q2⟩, q3⟩, q4⟩ := q
    obtain ⟨p1, p2, rfl⟩ := asCall_eq hp
    split at q4
    · rename_i z hz
      simp only [Bool.and_eq_true, decide_eq_true_eq] at q4
      obtain ⟨⟨rfl, q5⟩, q4⟩ := q4
      obtain ⟨p3, rfl⟩ := asName_eq hz
      have hg := gl_of (X := X) q1
      have hm := o.b.fr (x := "isinstance") (by decide)
      match T with
      | 0 => exact ev_isi o.b.K hg hm q2 (gl_of q4) (o.b.fr (by decide)) rfl (by decide) (hx.e o _ q3)
      | 1 => exact ev_isi o.b.K hg hm q2 (gl_of q4) (o.b.fr (by decide)) rfl (by decide) (hx.e o _ q3)
      | 2 => exact ev_isi o.b.K hg hm q2 (gl_of q4) (o.b.fr (by decide)) rfl (by decide) (hx.e o _ q3)
      | 3 => exact ev_isi o.b.K hg hm q2 (gl_of q4) (o.b.fr (by decide)) rfl (by decide) (hx.e o _ q3)
      | 4 => exact ev_isi o.b.K hg hm q2 (gl_of q4) (o.b.fr (by decide)) rfl (by decide) (hx.e o _ q3)
      | k + 5 => exact absurd q5 (by omega)
    · cases q4
  · cases q
theorem snd_olen (i : Nat) : Snd c Z (.olen i) := .val (fun _ _ _ => rfl) (fun _ _ _ => rfl) fun {n m W X} o a q => by
  split at q
  · rename_i y p hp
    simp only [Bool.and_eq_true, decide_eq_true_eq] at q
    obtain ⟨⟨rfl, q1⟩, q2⟩ := q
    obtain ⟨p1, p2, rfl⟩ := asCall_eq hp
    split at q2
    · rename_i z hz
      obtain ⟨p3, rfl⟩ := asName_eq hz
      obtain ⟨h1, h2, h3⟩ := vr_of q2
      exact ev_olen (gl_of q1) (o.b.fr (x := "len") (by decide)) h1 h2 h3
    · cases q2
  · cases q
theorem snd_isw {x : Ex} (hx : Snd c Z x) : Snd c Z (.isw x) := .val (fun _ _ _ => rfl) (fun _ _ _ => rfl) fun {n m W X} o a q => by
  split at q
  · rename_i y p r hp
    simp only [Bool.and_eq_true, decide_eq_true_eq, Bool.not_eq_true'] at q
    obtain ⟨⟨⟨⟨rfl, q1⟩, q2⟩, q3⟩, q4⟩ := q
    obtain ⟨p1, p2, rfl⟩ := asCall_eq hp
    split at q4
    · rename_i u v hv
      simp only [Bool.and_eq_true, decide_eq_true_eq] at q4
      obtain ⟨⟨⟨e1, e2⟩, e3⟩, e4⟩ := q4
      obtain ⟨k0, p0, rfl⟩ := asTup_eq hv
      obtain ⟨p3, rfl⟩ := asName_eq e1
      obtain ⟨p4, rfl⟩ := asName_eq e2
      exact ev_isi2 o.b.K (gl_of q1) (o.b.fr (x := "isinstance") (by decide)) q2 (gl_of e3) (o.b.fr (by decide)) rfl (by decide) (gl_of e4) (o.b.fr (by decide)) rfl (by decide) (hx.e o _ q3)
    · cases q4
  · cases q
theorem snd_trev {x : Ex} (hx : Snd c Z x) : Snd c Z (.trev x) := .val (fun _ _ _ => rfl) (fun _ _ _ => rfl) fun {n m W X} o a q => by
  split at q
  · rename_i p hp
    obtain ⟨k, p1, p2, p3, p4, rfl⟩ := asRev_eq hp
    exact ev_trev o.b.K (hx.e o _ q)
  · cases q
theorem snd_alt (i : Nat) {x y : Ex} (hx : Snd c Z x) (hy : Snd c Z y) : Snd c Z (.alt i x y) := .val (fun _ _ _ => rfl) (fun _ _ _ => rfl) fun {n m W X} o a q => by
  rw [Bool.and_eq_true] at q
  exact ev_alt (q := fun ρ => isTup ρ i) (hx.e o _ q.1) (hy.e o _ q.2)
theorem snd_join {x y : Ex} (hx : Snd c Z x) (hy : Snd c Z y) : Snd c Z (.join x y) := .val (fun _ _ _ => rfl) (fun _ _ _ => rfl) fun {n m W X} o a q => by
  split at q
  · rename_i u mt p v w hp
    simp only [Bool.and_eq_true, decide_eq_true_eq, Bool.not_eq_true'] at q
    obtain ⟨⟨⟨⟨⟨rfl, q1⟩, q2⟩, q3⟩, q4⟩, q5⟩ := q
    cases asMeth_eq hp
    exact ev_join o.b.K q1 q2 q3 (hx.e o _ q4) (hy.e o _ q5)
  · cases q
theorem snd_fmt {x : Ex} (hx : Snd c Z x) : Snd c Z (.fmt x) := .val (fun _ _ _ => rfl) (fun _ _ _ => rfl) fun {n m W X} o a q => by
  split at q
  · rename_i p hp
    obtain ⟨p1, rfl⟩ := asFmt_eq hp
    exact ev_fmt (hx.e o _ q)
  · cases q
theorem snd_js {x : Ex} (hx : Snd c Z x) : Snd c Z (.js x) := .val (fun _ _ _ => rfl) (fun _ _ _ => rfl) fun {n m W X} o a q => by
  split at q
  · rename_i p u r hp
    obtain ⟨p1, rfl⟩ := asJs_eq hp
    exact ev_js (hx.j o _ q)
  · cases q
theorem snd_frz {x : Ex} (hx : Snd c Z x) : Snd c Z (.frz x) := .val (K := fun Γ N sc x_1 => (ck Γ N x sc).l x_1) (fun _ _ _ => rfl) (fun _ _ _ => rfl) fun {n m W X} o a q => ev_frz (hx.l o _ q)
/-- a new list that will be written -/
theorem ev_obj {e : Expr} {f : Ev → Mm (List D)} (h : EvL c W X e f) : EvE c W X e (fun ρ => bnd (f ρ) fun ds => newM (.lst ds)) := by
  refine imp h fun σ H Q h => ?_
  obtain ⟨g, ρ, S, st, h⟩ := h
  refine step0 st h fun ds S1 g1 H1 v st1 x1 r1 h => ?_
  obtain ⟨p, vs, rfl, h1, h2, h3, h4, h5, h6⟩ := r1
  have x2 : FExt g1 H1 ⟨g1.F, g1.M ++ [p]⟩ H1 := ⟨fun a ha => ⟨ha, rfl⟩, List.prefix_append _ _⟩
  have G := st1.good
  refine h ⟨g1.F, g1.M ++ [p]⟩ H1 (V.ref p) ⟨x1.fx.trans x2, x1.keep, x1.nF, fun a ha => ?_, x1.tr⟩ ⟨?_, fun n a o e1 e2 => ?_, fun a ha => ?_, ?_, G.tr, G.tab⟩ ⟨p, ?_, rfl⟩
  · rcases List.mem_append.mp ha with ha | ha
    · exact x1.nM a ha
    · rw [List.mem_singleton.mp ha]
      exact .inr h3
  · show (g1.M ++ [p]).length = (S1 ++ [Ob.lst ds]).length
    rw [List.length_append, List.length_append, G.len]
    rfl
  · have e1 : (g1.M ++ [p])[n]? = some a := e1
    by_cases hn : n < g1.M.length
    · rw [List.getElem?_append_left hn] at e1
      rw [List.getElem?_append_left (by rw [← G.len]; exact hn)] at e2
      have h3 := G.ob n a o e1 e2
      cases o with
      | lst xs =>
        obtain ⟨us, h4, h5⟩ := h3
        exact ⟨us, h4, Reps.ext x2 xs us h5⟩
    · rw [List.getElem?_append_right (Nat.le_of_not_lt hn)] at e1
      rw [List.getElem?_append_right (by rw [← G.len]; exact Nat.le_of_not_lt hn)] at e2
      rw [← G.len] at e2
      cases q : n - g1.M.length with
      | zero =>
        rw [q] at e1 e2
        cases e1
        cases e2
        exact ⟨vs, h1, Reps.ext x2 ds vs h2⟩
      | succ k =>
        rw [q] at e1
        cases e1
  · rcases List.mem_append.mp ha with ha | ha
    · exact G.nF a ha
    · rw [List.mem_singleton.mp ha]
      exact h4
  · rw [List.nodup_append]
    refine ⟨G.nd, by simp, fun a ha b hb e => ?_⟩
    rw [List.mem_singleton.mp hb] at e
    exact h5 (e ▸ ha)
  · show (g1.M ++ [p])[S1.length]? = some p
    rw [← G.len, List.getElem?_append_right (Nat.le_refl _), Nat.sub_self]
    rfl
theorem snd_obj {x : Ex} (hx : Snd c Z x) : Snd c Z (.obj x) := .val (K := fun Γ N sc x_1 => (ck Γ N x sc).l x_1) (fun _ _ _ => rfl) (fun _ _ _ => rfl) fun {n m W X} o a q => ev_obj (hx.l o _ q)
theorem snd_call (k : Nat) {x : Ex} (hx : Snd c Z x) : Snd c Z (.call k x) := .val (fun _ _ _ => rfl) (fun _ _ _ => rfl) fun {n m W X} o a q => by
  unfold onlyIf
  split
  case isFalse => exact ev_fail fun _ _ => rfl
  rename_i hm
  split at q
  · rename_i y ps z hp hk
    simp only [Bool.and_eq_true, decide_eq_true_eq] at q
    obtain ⟨⟨⟨rfl, q1⟩, q0⟩, q2⟩ := q
    obtain ⟨p1, p2, rfl⟩ := asCall_eq hp
    obtain ⟨h1, h2⟩ := hx.a o _ q2
    obtain ⟨e1, e2⟩ := gln_of q1
    obtain ⟨e3, C⟩ := o.b.fns n (Nat.le_refl _) k _ hk
    cases ps with
    | nil =>
      cases x <;> first | exact ev_call0 C (o.b.room hm) o.b.tk e1 e3 e2 | (exact absurd q0 Bool.false_ne_true)
    | cons p ps => exact ev_call C (o.b.room hm) o.b.tk e1 e3 e2 h2 h1
  · cases q
theorem snd_calv (i : Nat) {x : Ex} (hx : Snd c Z x) : Snd c Z (.calv i x) := .val (fun _ _ _ => rfl) (fun _ _ _ => rfl) fun {n m W X} o a q => by
  unfold onlyIf
  split
  case isFalse => exact ev_fail fun _ _ => rfl
  rename_i hm
  split at q
  · rename_i y p ps hp
    rw [Bool.and_eq_true] at q
    obtain ⟨p1, p2, rfl⟩ := asCall_eq hp
    obtain ⟨h1, h2⟩ := hx.a o _ q.2
    obtain ⟨e1, e2, e3⟩ := vr_of q.1
    exact ev_callv (N := Z.G.nms.length) (fun k hk => (o.b.fns n (Nat.le_refl _) k _ (List.getElem?_eq_getElem hk)).2) (o.b.room hm) o.b.tk e1 e2 e3 h2 h1
  · cases q
theorem snd_tri (k : Nat) {x : Ex} (hx : Snd c Z x) : Snd c Z (.tri k x) := .val (fun _ _ _ => rfl) (fun _ _ _ => rfl) fun {n m W X} o a q => by
  unfold onlyIf
  split
  case isFalse => exact ev_fail fun _ _ => rfl
  rename_i hm
  rw [Bool.and_eq_true, decide_eq_true_eq] at hm
  split at q
  · rename_i y ps b s z t hp hk
    obtain ⟨told, kin⟩ := t
    simp only [Bool.and_eq_true, decide_eq_true_eq] at q
    obtain ⟨⟨⟨⟨rfl, q1⟩, q2⟩, q3⟩, q4⟩ := q
    have he : ∃ p l r, a = .Call (.Name z p) [.Lambda ps b s l] [] r := by
      unfold asTri at hp
      split at hp
      · cases hp
        exact ⟨_, _, _, rfl⟩
      · cases hp
    obtain ⟨p1, p2, p3, rfl⟩ := he
    rw [hk]
    exact o.tri hm.1 k z told kin hk ps b s p2 p1 p3 _ q2 q3 q1 hm.2 fun W' X' o' hN hs => hx.e ⟨o', fun z => (nomatch z), fun z => (nomatch z)⟩ _ (by rw [hN, hs]; exact q4)
  · cases q
/-! ### lists -/
theorem snd_dsp {x : Ex} (hx : Snd c Z x) : Snd c Z (.dsp x) where
  l := fun {n m W X} o a q => by
    simp only [ck] at q
    split at q
    · rename_i p hp
      obtain ⟨pos, rfl⟩ := asLst_eq hp
      exact ev_dsp (hx.a o _ q).1
    · cases q
theorem snd_lcat {x y : Ex} (hx : Snd c Z x) (hy : Snd c Z y) : Snd c Z (.lcat x y) where
  l := fun {n m W X} o a q => by
    simp only [ck] at q
    split at q
    · rename_i p r hp
      rw [Bool.and_eq_true] at q
      obtain ⟨pos, rfl⟩ := asBin_eq hp
      exact ev_lcat o.b.K (hx.e o _ q.1) (hy.e o _ q.2)
    · cases q
theorem snd_lrep {x y : Ex} (hx : Snd c Z x) (hy : Snd c Z y) : Snd c Z (.lrep x y) where
  l := fun {n m W X} o a q => by
    simp only [ck] at q
    split at q
    · rename_i p r hp
      rw [Bool.and_eq_true] at q
      obtain ⟨pos, rfl⟩ := asBin_eq hp
      exact ev_lrep (hx.l o _ q.1) (hy.e o _ q.2)
    · cases q
theorem ev_failL {e : Expr} {f : Ev → Mm (List D)} (h : ∀ ρ S, f ρ S = none) : EvL c W X e f := ⟨fun pins s σ H Q I q => by
  obtain ⟨g, ρ, S, st, q⟩ := q
  rw [h] at q
  exact q.elim⟩
theorem snd_lrng {x : Ex} (hx : Snd c Z x) : Snd c Z (.lrng x) where
  l := fun {n m W X} o a q => by
    simp only [ck] at q
    simp only [den]
    unfold onlyIf
    split
    case isFalse => exact ev_failL fun _ _ => rfl
    rename_i hm
    split at q
    · rename_i y p hp
      simp only [Bool.and_eq_true, decide_eq_true_eq] at q
      obtain ⟨⟨rfl, q1⟩, q2⟩ := q
      obtain ⟨p1, p2, rfl⟩ := asCall_eq hp
      split at q2
      · rename_i z r hz
        simp only [Bool.and_eq_true, decide_eq_true_eq, Bool.not_eq_true'] at q2
        obtain ⟨⟨⟨rfl, q2⟩, q3⟩, q4⟩ := q2
        obtain ⟨p3, p4, rfl⟩ := asCall_eq hz
        exact ev_lrng (o.b.cal hm) (gl_of q1) (o.b.fr (by decide)) (gl_of q2) (o.b.fr (by decide)) q3 (hx.e o _ q4)
      · cases q2
    · cases q
theorem snd_lof {x : Ex} (hx : Snd c Z x) : Snd c Z (.lof x) where
  l := fun {n m W X} o a q => by
    simp only [ck] at q
    split at q
    · rename_i y p hp
      simp only [Bool.and_eq_true, decide_eq_true_eq, Bool.not_eq_true'] at q
      obtain ⟨⟨⟨rfl, q1⟩, q2⟩, q3⟩ := q
      obtain ⟨p1, p2, rfl⟩ := asCall_eq hp
      exact ev_lof o.b.K (gl_of q1) (o.b.fr (by decide)) q2 (hx.e o _ q3)
    · cases q
theorem snd_lrev {x : Ex} (hx : Snd c Z x) : Snd c Z (.lrev x) where
  l := fun {n m W X} o a q => by
    simp only [ck] at q
    split at q
    · rename_i p hp
      obtain ⟨k, p1, p2, p3, p4, rfl⟩ := asRev_eq hp
      exact ev_lrev o.b.K (hx.e o _ q)
    · cases q
theorem snd_lslc {x lo hi : Ex} (hx : Snd c Z x) (hl : Snd c Z lo) (hh : Snd c Z hi) : Snd c Z (.lslc x lo hi) where
  l := fun {n m W X} o a q => by
    simp only [ck] at q
    split at q
    · rename_i p u hp
      obtain ⟨pos, rfl⟩ := asSub_eq hp
      split at q
      · rename_i y z hz
        obtain ⟨p2, rfl⟩ := asSl_eq hz
        simp only [Bool.and_eq_true] at q
        exact ev_lslc o.b.K (hx.e o _ q.1.1) (hl.o o _ q.1.2) (hh.o o _ q.2)
      · cases q
    · cases q
theorem snd_spl {x y : Ex} (hx : Snd c Z x) (hy : Snd c Z y) : Snd c Z (.spl x y) where
  l := fun {n m W X} o a q => by
    simp only [ck] at q
    split at q
    · rename_i u mt p v w hp
      simp only [Bool.and_eq_true, decide_eq_true_eq, Bool.not_eq_true'] at q
      obtain ⟨⟨⟨⟨⟨rfl, q1⟩, q2⟩, q3⟩, q4⟩, q5⟩ := q
      cases asMeth_eq hp
      exact ev_split q1 q2 q3 (hx.e o _ q4) (hy.e o _ q5)
    · cases q
/-! ### targets, comprehensions -/
theorem loc_of {sc : Scope} {cl : Str → Bool} {y : Str} (h : locB sc cl y = true) : Loc sc y ∧ (cl y = true ∨ sc.names.lookup y = some .local) := by
  unfold locB at h
  split at h
  · rename_i e
    exact ⟨.inl e, .inr e⟩
  · rename_i e
    exact ⟨.inr e, .inl h⟩
  · cases h
theorem tgs_of {cl : Str → Bool} (hf : ∀ x, cl x = true → X.fn x = true) : ∀ {is : List Nat} {es : List Expr}, tgsB X.N X.env.scope cl is es = true → NamesG X es is
  | [], [], _ => .nil
  | i :: is, e :: es, h => by
    unfold tgsB at h
    rw [Bool.and_eq_true] at h
    obtain ⟨h1, h2⟩ := h
    split at h1
    · rename_i y hy
      rw [Bool.and_eq_true, decide_eq_true_eq] at h1
      obtain ⟨p, rfl⟩ := asName_eq hy
      obtain ⟨l1, l2⟩ := loc_of h1.2
      exact .cons h1.1 l1 (l2.imp (hf y) id) (tgs_of hf h2)
    · cases h1
  | [], _ :: _, h => by cases h
  | _ :: _, [], h => by cases h
theorem tg_of {cl : Str → Bool} (hK : X.K = c.K) (hc : X.calm = true) (hN : X.N.Nodup) (hf : ∀ x, cl x = true → X.fn x = true) {tg : Tg} {e : Expr} (h : tgB X.N X.env.scope cl tg e = true) : EvG c X e tg.ps (asgn tg) := by
  cases tg with
  | one i =>
    simp only [tgB] at h
    split at h
    · rename_i y hy
      rw [Bool.and_eq_true, decide_eq_true_eq] at h
      obtain ⟨p, rfl⟩ := asName_eq hy
      obtain ⟨l1, l2⟩ := loc_of h.2
      exact ev_one_g hN h.1 l1 (l2.imp (hf y) id)
    · cases h
  | many is =>
    simp only [tgB] at h
    split at h
    · rename_i es hes
      obtain ⟨k, p, rfl⟩ := asTup_eq hes
      exact ev_many_g hK hc hN (tgs_of hf h)
    · cases h
theorem snd_comp {x cond it : Ex} {tg : Tg} {own : List Nat} (hx : Snd c Z x) (hcd : Snd c Z cond) (hi : Snd c Z it) : Snd c Z (.comp x tg cond it own) where
  l := fun {n m W X} o a q => by
    simp only [ck] at q
    simp only [den]
    unfold onlyIf
    split
    case isFalse => exact ev_failL fun _ _ => rfl
    rename_i hm
    split at q
    · rename_i u g p ifs s hp
      simp only [Bool.and_eq_true, Bool.not_eq_true'] at q
      obtain ⟨⟨⟨⟨⟨q1, q2⟩, q3⟩, q4⟩, q5⟩, q6⟩ := q
      obtain ⟨pos, rfl⟩ := asComp_eq hp
      unfold cmpB at q1
      simp only [Bool.and_eq_true, decide_eq_true_eq, List.all_eq_true] at q1
      obtain ⟨⟨b1, b2⟩, b3⟩ := q1
      have ok := blkOk_by b1
      have hk : s.kind = .function := ok.kind
      have hps : ∀ i ∈ tg.ps, i ∈ (ownOf X.N own).map (·.2) := fun i hi => by
        rw [b2]
        have := b3 i hi
        simpa using this
      have key := ev_comp (own := ownOf X.N own) (pos := pos) (o.b.cal hm) o.b.nd (hi.i o g p q4).1 ok q3 hps
        (fun s' H C cl fp => tg_of (X := X.blk s' H s (compEnvC s cl C X.env) fp) (cl := ownC s) o.b.K (o.b.cal hm) o.b.nd (fun _ z => z) q2)
        (fun s' H C cl fp => hcd.ts (o.blk hm hk) ifs q5)
        (fun s' H C cl fp => hx.e (o.blk hm hk) u q6)
      rw [b2] at key
      simp only [compM_mapO] at key
      exact key
    · cases q
theorem snd_nil : Snd c Z .nil where
  a := fun {n m W X} o a q => by
    cases a with
    | nil => exact ⟨ev_nil, rfl⟩
    | cons _ _ => cases q
  j := fun {n m W X} o a q => by
    cases a with
    | nil => exact .nil
    | cons _ _ => cases q
theorem snd_cons {x y : Ex} (hx : Snd c Z x) (hy : Snd c Z y) : Snd c Z (.cons x y) where
  a := fun {n m W X} o a q => by
    cases a with
    | nil => cases q
    | cons p ps =>
      simp only [ck, Bool.and_eq_true, Bool.not_eq_true'] at q
      obtain ⟨⟨q1, q2⟩, q3⟩ := q
      obtain ⟨h1, h2⟩ := hy.a o _ q3
      refine ⟨ev_cons (hx.e o _ q2) h1 q1, ?_⟩
      unfold noStar at h2 ⊢
      rw [List.all_cons, h2, q1]
      rfl
  j := fun {n m W X} o a q => by
    cases a with
    | nil => cases q
    | cons p ps =>
      simp only [ck, Bool.and_eq_true] at q
      exact .cons (hx.e o _ q.1) (hy.j o _ q.2)
theorem snd_nop : Snd c Z .nop where
  o := fun {n m W X} o a q => by
    cases a with
    | none => exact ev_nopt
    | some _ => cases q
theorem snd_sop {x : Ex} (hx : Snd c Z x) : Snd c Z (.sop x) where
  o := fun {n m W X} o a q => by
    cases a with
    | none => cases q
    | some p => exact ev_part (hx.e o _ q)
theorem snd_tru : Snd c Z .tru where
  ts := fun {n m W X} o a q => by
    cases a with
    | nil =>
      refine ⟨fun pins s σ H Q I h => (pts_nil).run pins s σ H Q I ?_⟩
      obtain ⟨g, ρ, S, st, h⟩ := h
      exact h g H true (.refl _ _) st.good rfl
    | cons _ _ => cases q
theorem snd_cnd {x : Ex} (hx : Snd c Z x) : Snd c Z (.cnd x) where
  ts := fun {n m W X} o a q => by
    match a, q with
    | [p], q => exact pts_one (hx.t o _ q)
theorem setOf {e : Expr} {p : Str × List Expr} (h : asCall e = some p) : isSet e = false := by
  obtain ⟨x, es⟩ := p
  obtain ⟨_, _, rfl⟩ := asCall_eq h
  rfl
theorem tw_of {g : Expr} (h : twoTg g = true) : ∃ es k p, g = .Tuple es k p := by
  cases g <;> first | exact ⟨_, _, _, rfl⟩ | cases h
theorem snd_iseq {x : Ex} (hx : Snd c Z x) : Snd c Z (.iseq x) where
  i := fun {n m W X} o g a q => by
    simp only [ck, Bool.and_eq_true, Bool.not_eq_true'] at q
    simp only [den]
    refine ⟨?_, q.1⟩
    unfold onlyIf
    split
    · exact ev_iseq o.b.K (hx.e o _ q.2)
    · exact ev_failI fun _ _ => rfl
theorem snd_irng {x : Ex} (hx : Snd c Z x) : Snd c Z (.irng x) where
  i := fun {n m W X} o g a q => by
    simp only [ck] at q
    simp only [den]
    split at q
    · rename_i y p hp
      refine ⟨?_, setOf hp⟩
      simp only [Bool.and_eq_true, decide_eq_true_eq, Bool.not_eq_true'] at q
      obtain ⟨⟨⟨rfl, q1⟩, q2⟩, q3⟩ := q
      obtain ⟨p1, p2, rfl⟩ := asCall_eq hp
      unfold onlyIf
      split
      · exact ev_irng (gl_of q1) (o.b.fr (by decide)) q2 (hx.e o _ q3)
      · exact ev_failI fun _ _ => rfl
    · cases q
theorem snd_irng2 {x z : Ex} (hx : Snd c Z x) (hz : Snd c Z z) : Snd c Z (.irng2 x z) where
  i := fun {n m W X} o g a q => by
    simp only [ck] at q
    simp only [den]
    split at q
    · rename_i y p r hp
      refine ⟨?_, setOf hp⟩
      simp only [Bool.and_eq_true, decide_eq_true_eq, Bool.not_eq_true'] at q
      obtain ⟨⟨⟨⟨⟨rfl, q1⟩, q2⟩, q3⟩, q4⟩, q5⟩ := q
      obtain ⟨p1, p2, rfl⟩ := asCall_eq hp
      unfold onlyIf
      split
      · exact ev_irng2 (gl_of q1) (o.b.fr (by decide)) q2 q3 (hx.e o _ q4) (hz.e o _ q5)
      · exact ev_failI fun _ _ => rfl
    · cases q
theorem snd_ienum {x : Ex} (hx : Snd c Z x) : Snd c Z (.ienum x) where
  i := fun {n m W X} o g a q => by
    simp only [ck] at q
    simp only [den]
    split at q
    · rename_i y p hp
      refine ⟨?_, setOf hp⟩
      simp only [Bool.and_eq_true, decide_eq_true_eq, Bool.not_eq_true'] at q
      obtain ⟨⟨⟨⟨rfl, q0⟩, q1⟩, q2⟩, q3⟩ := q
      obtain ⟨p1, p2, rfl⟩ := asCall_eq hp
      obtain ⟨es, k, p, rfl⟩ := tw_of q0
      unfold onlyIf
      split
      · exact ev_ienum o.b.K (gl_of q1) (o.b.fr (by decide)) q2 (hx.e o _ q3)
      · exact ev_failI fun _ _ => rfl
    · cases q
theorem snd_izip {x z : Ex} (hx : Snd c Z x) (hz : Snd c Z z) : Snd c Z (.izip x z) where
  i := fun {n m W X} o g a q => by
    simp only [ck] at q
    simp only [den]
    split at q
    · rename_i y p r hp
      refine ⟨?_, setOf hp⟩
      simp only [Bool.and_eq_true, decide_eq_true_eq, Bool.not_eq_true'] at q
      obtain ⟨⟨⟨⟨⟨⟨rfl, q0⟩, q1⟩, q2⟩, q3⟩, q4⟩, q5⟩ := q
      obtain ⟨p1, p2, rfl⟩ := asCall_eq hp
      obtain ⟨es, k, p, rfl⟩ := tw_of q0
      unfold onlyIf
      split
      · exact ev_izip o.b.K (gl_of q1) (o.b.fr (by decide)) q2 q3 (hx.e o _ q4) (hz.e o _ q5)
      · exact ev_failI fun _ _ => rfl
    · cases q
theorem snd_ise (i T : Nat) : Snd c Z (.ise i T) := .val (fun _ _ _ => rfl) (fun _ _ _ => rfl) fun {n m W X} o a q => by
  unfold onlyIf
  split
  case isFalse => exact ev_fail fun _ _ => rfl
  rename_i hm
  split at q
  · rename_i y p r z hp hz
    simp only [Bool.and_eq_true, decide_eq_true_eq] at q
    obtain ⟨⟨rfl, q1⟩, q2⟩ := q
    obtain ⟨p1, p2, rfl⟩ := asCall_eq hp
    split at q2
    · rename_i u w hu hw
      simp only [Bool.and_eq_true, decide_eq_true_eq] at q2
      obtain ⟨⟨q2, rfl⟩, q3⟩ := q2
      obtain ⟨p3, rfl⟩ := asName_eq hu
      obtain ⟨p4, rfl⟩ := asName_eq hw
      obtain ⟨h1, h2, h3⟩ := vr_of q2
      exact o.ise hm i T u _ p1 p3 p4 p2 h1 h2 h3 hz q3 (gl_of q1)
    · cases q2
  · cases q
/-- THE LAW OF EXPRESSIONS: what the text does is what the meaning says -/
theorem snd (c : Cf) (Z : Sm) : ∀ x : Ex, Snd c Z x := fun x => by
  induction x with
  | var i => exact snd_var i
  | kon d => exact snd_kon d
  | gco k => exact snd_gco k
  | fnv k => exact snd_fnv k
  | bin op a b h1 h2 => exact snd_bin op h1 h2
  | cmp op a b h1 h2 => exact snd_cmp op h1 h2
  | chn o1 o2 a b c h1 h2 h3 => exact snd_chn o1 o2 h1 h2 h3
  | and a b h1 h2 => exact snd_and h1 h2
  | or a b h1 h2 => exact snd_or h1 h2
  | one a h => exact snd_one h
  | not a h => exact snd_not h
  | neg a h => exact snd_neg h
  | ifx t a b h1 h2 h3 => exact snd_ifx h1 h2 h3
  | tup es h => exact snd_tup h
  | idx a b h1 h2 => exact snd_idx h1 h2
  | oix i b h => exact snd_oix i h
  | slc a lo hi h1 h2 h3 => exact snd_slc h1 h2 h3
  | bi f es h => exact snd_bi f h
  | lset a h => exact snd_lset h
  | isi a T h => exact snd_isi T h
  | ise i T => exact snd_ise i T
  | join a b h1 h2 => exact snd_join h1 h2
  | fmt a h => exact snd_fmt h
  | js es h => exact snd_js h
  | frz l h => exact snd_frz h
  | obj l h => exact snd_obj h
  | call k es h => exact snd_call k h
  | calv i es h => exact snd_calv i h
  | tri k e h => exact snd_tri k h
  | dsp es h => exact snd_dsp h
  | lcat a b h1 h2 => exact snd_lcat h1 h2
  | lrep l b h1 h2 => exact snd_lrep h1 h2
  | lrng a h => exact snd_lrng h
  | lof a h => exact snd_lof h
  | lrev a h => exact snd_lrev h
  | lslc a lo hi h1 h2 h3 => exact snd_lslc h1 h2 h3
  | spl a b h1 h2 => exact snd_spl h1 h2
  | comp elt tg cond it own h1 h2 h3 => exact snd_comp h1 h2 h3
  | nil => exact snd_nil
  | cons e es h1 h2 => exact snd_cons h1 h2
  | nop => exact snd_nop
  | sop e h => exact snd_sop h
  | iseq e h => exact snd_iseq h
  | irng e h => exact snd_irng h
  | irng2 a b h1 h2 => exact snd_irng2 h1 h2
  | ienum e h => exact snd_ienum h
  | izip a b h1 h2 => exact snd_izip h1 h2
  | tru => exact snd_tru
  | cnd t h => exact snd_cnd h
  | olen i => exact snd_olen i
  | isw a h => exact snd_isw h
  | trev a h => exact snd_trev h
  | alt i a b h1 h2 => exact snd_alt i h1 h2
end
end PV

set_option Elab.async false
set_option linter.all false
set_option maxRecDepth 100000
set_option maxHeartbeats 4000000
/-! PvK: the small language of statements: its meaning, its check, that both agree. -/
namespace PV
open PySem PySem.Spec PyProof.Rows L2
inductive Stm where
  | nil | cons (s r : Stm) | frz (i : Nat) (r : Stm)
  | set (i : Nat) (e : Ex) | seto (i : Nat) (l : Ex) | setc (i : Nat) (elt : Ex) (tg : Tg) (cond it : Ex) (own : List Nat)
  | tup (tg : Tg) (e : Ex) | par (is : List Nat) (es : Ex)
  | ost (o b e : Ex) | osto (i : Nat) (b e : Ex) | app (i : Nat) (e : Ex)
  | ret (e : Ex) | retn | expr (e : Ex) | ife (t : Ex) (a b : Stm) | for (tg : Tg) (it : Ex) (b : Stm)
  | rai (x : Str) | raif (x : Str) (e : Ex) | nev | pas
  | paro (i j : Nat) (e l : Ex)
def runS (Z : Sm) (m : Md) (n : Nat) : Stm → Ev → Mm SO
  | .nil => skipM
  | .cons s r => seqM (runS Z m n s) (runS Z m n r)
  | .frz i r => frzM i (runS Z m n r)
  | .set i e => fun ρ => bnd ((den Z e m n).e ρ) fun d => ret (.nx (ρ.set i (.val d)))
  | .seto i l => fun ρ => bnd ((den Z l m n).l ρ) fun xs => ret (.nx (ρ.set i (.own xs)))
  | .setc i elt tg cond it own => fun ρ => bnd (bnd ((den Z it m n).i ρ) fun items => mapO (turnM (asgn tg) (den Z cond m.inn n).ts (den Z elt m.inn n).e (wipeE ρ own)) items) fun xs => ret (.nx (ρ.set i (.own xs)))
  | .tup tg e => fun ρ => bnd ((den Z e m n).e ρ) fun d => bnd (opt (asgn tg d ρ)) fun ρ' => ret (.nx ρ')
  | .par is es => fun ρ => bnd ((den Z es m n).a ρ) fun ds => bnd (opt (setMany ρ is ds)) fun ρ' => ret (.nx ρ')
  | .ost o b e => fun ρ => bnd ((den Z e m n).e ρ) fun d => bnd ((den Z o m n).e ρ) fun x => bnd ((den Z b m n).e ρ) fun y => bnd (wr (setD x y d)) fun _ => ret (.nx ρ)
  | .osto i b e => fun ρ => bnd ((den Z e m n).e ρ) fun d => bnd (opt (ownV ρ i)) fun xs => bnd ((den Z b m n).e ρ) fun y => bnd (opt (setO xs y d)) fun xs' => ret (.nx (ρ.set i (.own xs')))
  | .app i e => fun ρ => bnd (opt (ownV ρ i)) fun xs => bnd ((den Z e m n).e ρ) fun d => bnd (opt (if xs.length < sizeLine then some (xs ++ [d]) else none)) fun xs' => ret (.nx (ρ.set i (.own xs')))
  | .ret e => fun ρ => bnd ((den Z e m n).e ρ) fun d => ret (.rt d)
  | .retn => fun _ => ret (.rt .non)
  | .expr e => fun ρ => bnd ((den Z e m n).e ρ) fun _ => ret (.nx ρ)
  | .ife t a b => fun ρ => bnd ((den Z t m n).t ρ) fun q => if q = true then runS Z m n a ρ else runS Z m n b ρ
  | .for tg it b => fun ρ => bnd ((den Z it m n).i ρ) fun items => forM (asgn tg) (runS Z m n b) items ρ
  | .rai x => fun _ S => some (.exc x none, S)
  | .raif x e => fun ρ => bnd ((den Z e m n).e ρ) fun d S => some (.exc x (some d), S)
  | .nev => fun _ => fail
  | .paro i j e l => fun ρ => bnd ((den Z e m n).e ρ) fun d => bnd ((den Z l m n).l ρ) fun xs => ret (.nx ((ρ.set i (.val d)).set j (.own xs)))
  | .pas => skipM
structure CkS where
  s : Stmt → Bool := fun _ => false
  b : List Stmt → Bool := fun _ => false
def asAsg : Stmt → Option (Expr × Expr)
  | .Assign [t] e _ => some (t, e)
  | _ => none
theorem asAsg_eq {s : Stmt} {t e : Expr} (h : asAsg s = some (t, e)) : ∃ p, s = .Assign [t] e p := by
  unfold asAsg at h
  split at h
  · cases h
    exact ⟨_, rfl⟩
  · cases h
def asExp : Stmt → Option Expr
  | .Expr e _ => some e
  | _ => none
theorem asExp_eq {s : Stmt} {e : Expr} (h : asExp s = some e) : ∃ p, s = .Expr e p := by
  unfold asExp at h
  split at h
  · cases h
    exact ⟨_, rfl⟩
  · cases h
def asRet : Stmt → Option (Option Expr)
  | .Return e _ => some e
  | _ => none
theorem asRet_eq {s : Stmt} {e : Option Expr} (h : asRet s = some e) : ∃ p, s = .Return e p := by
  unfold asRet at h
  split at h
  · cases h
    exact ⟨_, rfl⟩
  · cases h
def asIfS : Stmt → Option (Expr × List Stmt × List Stmt)
  | .If t a b _ => some (t, a, b)
  | _ => none
theorem asIfS_eq {s : Stmt} {t : Expr} {a b : List Stmt} (h : asIfS s = some (t, a, b)) : ∃ p, s = .If t a b p := by
  unfold asIfS at h
  split at h
  · cases h
    exact ⟨_, rfl⟩
  · cases h
def asFor : Stmt → Option (Expr × Expr × List Stmt)
  | .For t i b [] _ => some (t, i, b)
  | _ => none
theorem asFor_eq {s : Stmt} {t i : Expr} {b : List Stmt} (h : asFor s = some (t, i, b)) : ∃ p, s = .For t i b [] p := by
  unfold asFor at h
  split at h
  · cases h
    exact ⟨_, rfl⟩
  · cases h
def asRai : Stmt → Option (Str × Expr)
  | .Raise (some (.Call (.Name x _) [e] [] _)) none _ => some (x, e)
  | _ => none
theorem asRai_eq {s : Stmt} {x : Str} {e : Expr} (h : asRai s = some (x, e)) : ∃ p q r, s = .Raise (some (.Call (.Name x p) [e] [] q)) none r := by
  unfold asRai at h
  split at h
  · cases h
    exact ⟨_, _, _, rfl⟩
  · cases h
def asStrK : Expr → Bool
  | .Constant (.str _) _ _ => true
  | _ => false
theorem asStrK_eq {e : Expr} (h : asStrK e = true) : ∃ m j p, e = .Constant (.str m) j p := by
  unfold asStrK at h
  split at h
  · exact ⟨_, _, _, rfl⟩
  · cases h
/-- x.append(e) -/
def asApp : Stmt → Option (Str × Expr × Pos × Pos)
  | .Expr (.Call (.Attribute (.Name x _) m q) [e] [] r) _ => if m = "append" then some (x, e, q, r) else none
  | _ => none
theorem asApp_eq {s : Stmt} {x : Str} {e : Expr} {q r : Pos} (h : asApp s = some (x, e, q, r)) : ∃ p t, s = .Expr (.Call (.Attribute (.Name x p) "append" q) [e] [] r) t := by
  unfold asApp at h
  split at h
  · split at h
    · rename_i hm
      cases h
      subst hm
      exact ⟨_, _, rfl⟩
    · cases h
  · cases h
/-- a name that is stored -/
def stB (N : List Str) (sc : Scope) (i : Nat) : Expr → Bool
  | .Name y _ => decide (N[i]? = some y) && locB sc (fun _ => true) y
  | _ => false
theorem stB_eq {N : List Str} {sc : Scope} {i : Nat} {e : Expr} (h : stB N sc i e = true) : ∃ y p, e = .Name y p ∧ N[i]? = some y ∧ Loc sc y := by
  cases e <;> simp [stB] at h
  exact ⟨_, _, rfl, h.1, (loc_of h.2).1⟩
def parB (N : List Str) (sc : Scope) (is : List Nat) (t e : Expr) : Bool := match t, e with
  | .Tuple [.Name x p, .Name y q] _ _, .Tuple [a, b] _ _ => (match is with
    | [i, j] => decide (N[i]? = some x) && decide (N[j]? = some y) && decide (i ≠ j) && decide (sc.names.lookup x = some .local) && decide (sc.names.lookup y = some .local) && fromRight sc [.Name x p, .Name y q] [a, b] && decide (nmsOf sc [.Name x p, .Name y q] = [x, y])
    | _ => false)
  | .Tuple [.Name x p, .Name y q, .Name z r] _ _, .Tuple [a, b, d] _ _ => (match is with
    | [i, j, l] => decide (N[i]? = some x) && decide (N[j]? = some y) && decide (N[l]? = some z) && decide (i ≠ j) && decide (i ≠ l) && decide (j ≠ l) && decide (sc.names.lookup x = some .local) && decide (sc.names.lookup y = some .local) && decide (sc.names.lookup z = some .local) && fromRight sc [.Name x p, .Name y q, .Name z r] [a, b, d] && decide (nmsOf sc [.Name x p, .Name y q, .Name z r] = [x, y, z])
    | _ => false)
  | _, _ => false
def ckS (Γ : Gm) (N : List Str) (sc : Scope) : Stm → CkS
  | .nil => { b := fun x => x.isEmpty }
  | .cons s r => { b := fun x => match x with
                    | p :: ps => (ckS Γ N sc s).s p && (ckS Γ N sc r).b ps
                    | [] => false }
  | .frz _ r => { b := (ckS Γ N sc r).b }
  | .set i e => { s := fun x => match asAsg x with
                    | some (t, u) => stB N sc i t && !isComp u && (ck Γ N e sc).e u
                    | none => false }
  | .seto i l => { s := fun x => match asAsg x with
                    | some (t, u) => stB N sc i t && !isComp u && (ck Γ N l sc).l u
                    | none => false }
  | .setc i elt tg cond it own => { s := fun x => match asAsg x with
                    | some (t, v) => stB N sc i t && (match asComp v with
                      | some (u, g, p, ifs, s) => cmpB N sc s tg own && tgB N (relS s sc) (ownC s) tg g && !isSet p && (ck Γ N it sc).i g p && (ck Γ N cond (relS s sc)).ts ifs && (ck Γ N elt (relS s sc)).e u
                      | none => false)
                    | none => false }
  | .tup tg e => { s := fun x => match asAsg x with
                    | some (t, u) => (asTup t).isSome && oneWay sc t u && tgB N sc (fun _ => true) tg t && (ck Γ N e sc).e u
                    | none => false }
  | .par is es => { s := fun x => match asAsg x with
                    | some (t, u) => parB N sc is t u && (match asTup u with
                      | some vs => (ck Γ N es sc).a vs
                      | none => false)
                    | none => false }
  | .paro i j e l => { s := fun x => match asAsg x with
                    | some (t, u) => (parB N sc [i, j] t u || ((asTup t).isSome && tgB N sc (fun _ => true) (.many [i, j]) t && oneWay sc t u)) && (match asTup u with
                      | some [v, w] => !isStar v && !isStar w && (ck Γ N e sc).e v && (ck Γ N l sc).l w
                      | _ => false)
                    | none => false }
  | .ost o b e => { s := fun x => match asAsg x with
                    | some (t, u) => (match asSub t with
                      | some (p, q) => !isSl q && (ck Γ N o sc).e p && (ck Γ N b sc).e q && (ck Γ N e sc).e u
                      | none => false)
                    | none => false }
  | .osto i b e => { s := fun x => match asAsg x with
                    | some (t, u) => (match asSub t with
                      | some (p, q) => (match asName p with
                        | some y => vrB N sc i y && !isSl q && (ck Γ N b sc).e q && (ck Γ N e sc).e u
                        | none => false)
                      | none => false)
                    | none => false }
  | .app i e => { s := fun x => match asApp x with
                    | some (y, u, q, r) => vrB N sc i y && !isStar u && (q.endLine == r.line) && (ck Γ N e sc).e u
                    | none => false }
  | .ret e => { s := fun x => match asRet x with
                    | some (some u) => (ck Γ N e sc).e u
                    | _ => false }
  | .retn => { s := fun x => match asRet x with
                    | some none => true
                    | _ => false }
  | .expr e => { s := fun x => match asExp x with
                    | some u => !isComp u && (ck Γ N e sc).e u
                    | none => false }
  | .ife t a b => { s := fun x => match asIfS x with
                    | some (p, q, r) => (ck Γ N t sc).t p && (ckS Γ N sc a).b q && (ckS Γ N sc b).b r
                    | none => false }
  | .for tg it b => { s := fun x => match asFor x with
                    | some (g, p, q) => tgB N sc (fun _ => true) tg g && (ck Γ N it sc).i g p && (ckS Γ N sc b).b q
                    | none => false }
  | .rai y => { s := fun x => match asRai x with
                    | some (z, e) => decide (z = y) && glnB sc y && Γ.rs.contains y && asStrK e
                    | none => false }
  | .raif y e => { s := fun x => match asRai x with
                    | some (z, u) => decide (z = y) && glnB sc y && Γ.rf.contains y && !isStar u && (ck Γ N e sc).e u
                    | none => false }
  | .nev => { s := fun _ => true }
  | .pas => { s := fun x => match x with
                    | .Pass _ => true
                    | _ => false }
/-- a def's body -/
structure OkS (c : Cf) (Z : Sm) (n : Nat) (m : Md) (W : WX) (X : Cx) : Prop where
  x : Okx c Z n m W X
  cool : m.cool = true
  fn : ∀ y, X.fn y = true
  own : PassesOwn (model X.prog X.w) X.A X.env X.xe
  rai : ∀ y ∈ Z.G.rs, ∀ (m : Str) (j : Nat) (p p2 pos : Pos), Gl X y → nmB y = true → L2N.PMk X (.Call (.Name y p) [.Constant (.str m) j p2] [] pos) (fun _ H Q => Q (.ref (c.xa y)) none H)
  raif : ∀ y ∈ Z.G.rf, ∀ (e : Expr) (f : Ev → Mm D) (p q pos : Pos), Gl X y → nmB y = true → isStar e = false → EvE c W X e f → EvS c W X (.Raise (some (.Call (.Name y p) [e] [] q)) none pos) (fun ρ => bnd (f ρ) fun d S => some (.exc y (some d), S))
section
variable {c : Cf} {Z : Sm} {n : Nat} {m : Md} {W : WX} {X : Cx}
structure SndS (c : Cf) (Z : Sm) (x : Stm) : Prop where
  s : ∀ {n : Nat} {m : Md} {W : WX} {X : Cx}, OkS c Z n m W X → ∀ a, (ckS Z.G X.N X.env.scope x).s a = true → EvS c W X a (runS Z m n x) := by intro n m W X o a h; cases h
  b : ∀ {n : Nat} {m : Md} {W : WX} {X : Cx}, OkS c Z n m W X → ∀ a, (ckS Z.G X.N X.env.scope x).b a = true → EvB c W X a (runS Z m n x) := by intro n m W X o a h; cases h
theorem sndS (c : Cf) (Z : Sm) : ∀ x : Stm, SndS c Z x := fun x => by
  have cal : ∀ {n : Nat} {m : Md} {W : WX} {X : Cx}, OkS c Z n m W X → X.calm = true := fun o => o.x.b.cal o.cool
  induction x with
  | nil =>
    refine ⟨fun {n m W X} o a q => (by cases q), fun {n m W X} o a q => ?_⟩
    cases a with
    | nil => exact ev_nilS
    | cons _ _ => cases q
  | cons s r h1 h2 =>
    refine ⟨fun {n m W X} o a q => (by cases q), fun {n m W X} o a q => ?_⟩
    cases a with
    | nil => cases q
    | cons p ps =>
      simp only [ckS, Bool.and_eq_true] at q
      exact ev_consS (h1.s o p q.1) (h2.b o ps q.2)
  | frz i r h => exact ⟨fun {n m W X} o a q => (by cases q), fun {n m W X} o a q => ev_frzS (h.b o a q)⟩
  | set i e =>
    refine ⟨fun {n m W X} o a q => ?_, fun {n m W X} o a q => (by cases q)⟩
    simp only [ckS] at q
    split at q
    · rename_i t u ht
      simp only [Bool.and_eq_true, Bool.not_eq_true'] at q
      obtain ⟨p, rfl⟩ := asAsg_eq ht
      obtain ⟨y, p1, rfl, e1, e2⟩ := stB_eq q.1.1
      exact ev_set o.x.b.nd e1 e2 (.inl (o.fn y)) q.1.2 ((snd c Z e).e o.x u q.2)
    · cases q
  | seto i l =>
    refine ⟨fun {n m W X} o a q => ?_, fun {n m W X} o a q => (by cases q)⟩
    simp only [ckS] at q
    split at q
    · rename_i t u ht
      simp only [Bool.and_eq_true, Bool.not_eq_true'] at q
      obtain ⟨p, rfl⟩ := asAsg_eq ht
      obtain ⟨y, p1, rfl, e1, e2⟩ := stB_eq q.1.1
      exact ev_setO o.x.b.nd e1 e2 (.inl (o.fn y)) q.1.2 ((snd c Z l).l o.x u q.2)
    · cases q
  | setc i elt tg cond it own =>
    refine ⟨fun {n m W X} o a q => ?_, fun {n m W X} o a q => (by cases q)⟩
    simp only [ckS] at q
    split at q
    · rename_i t v ht
      rw [Bool.and_eq_true] at q
      obtain ⟨q0, q⟩ := q
      obtain ⟨sp, rfl⟩ := asAsg_eq ht
      obtain ⟨y, p1, rfl, e1, e2⟩ := stB_eq q0
      split at q
      · rename_i u g p ifs s hp
        simp only [Bool.and_eq_true, Bool.not_eq_true'] at q
        obtain ⟨⟨⟨⟨⟨q1, q2⟩, q3⟩, q4⟩, q5⟩, q6⟩ := q
        obtain ⟨pos, rfl⟩ := asComp_eq hp
        unfold cmpB at q1
        simp only [Bool.and_eq_true, decide_eq_true_eq, List.all_eq_true] at q1
        obtain ⟨⟨b1, b2⟩, b3⟩ := q1
        have ok := blkOk_by b1
        have hk : s.kind = .function := ok.kind
        have hps : ∀ i ∈ tg.ps, i ∈ (ownOf X.N own).map (·.2) := fun i hi => by
          rw [b2]
          have := b3 i hi
          simpa using this
        have key := ev_setc (own := ownOf X.N own) (pos := pos) (spos := sp) (p := p1) o.x.b.kd (cal o) o.x.b.nd e1 e2 (.inl (o.fn y)) ((snd c Z it).i o.x g p q4).1 ok q3 hps
          (fun s' H C cl fp => tg_of (X := X.blk s' H s (compEnvC s cl C X.env) fp) (cl := ownC s) o.x.b.K (o.x.b.cal o.cool) o.x.b.nd (fun _ z => z) q2)
          (fun s' H C cl fp => (snd c Z cond).ts (o.x.blk o.cool hk) ifs q5)
          (fun s' H C cl fp => (snd c Z elt).e (o.x.blk o.cool hk) u q6)
        rw [b2] at key
        simp only [compM_mapO] at key
        exact key
      · cases q
    · cases q
  | tup tg e =>
    refine ⟨fun {n m W X} o a q => ?_, fun {n m W X} o a q => (by cases q)⟩
    simp only [ckS] at q
    split at q
    · rename_i t u ht
      simp only [Bool.and_eq_true] at q
      obtain ⟨p, rfl⟩ := asAsg_eq ht
      exact ev_tupS o.x.b.kd (tg_of (cl := fun _ => true) o.x.b.K (cal o) o.x.b.nd (fun y _ => o.fn y) q.1.2) ((snd c Z e).e o.x u q.2) q.1.1.2 q.1.1.1
    · cases q
  | par is es =>
    refine ⟨fun {n m W X} o a q => ?_, fun {n m W X} o a q => (by cases q)⟩
    simp only [ckS] at q
    split at q
    · rename_i t u ht
      rw [Bool.and_eq_true] at q
      obtain ⟨q1, q2⟩ := q
      obtain ⟨p, rfl⟩ := asAsg_eq ht
      split at q2
      · rename_i vs hv
        obtain ⟨k0, p0, rfl⟩ := asTup_eq hv
        obtain ⟨h1, _⟩ := (snd c Z es).a o.x _ q2
        unfold parB at q1
        split at q1
        · rename_i x px y py kt pt a b k2 pt2 heq
          cases heq
          split at q1
          · simp only [Bool.and_eq_true, decide_eq_true_eq] at q1
            obtain ⟨⟨⟨⟨⟨⟨e1, e2⟩, e3⟩, e4⟩, e5⟩, e6⟩, e7⟩ := q1
            exact ev_par2 o.x.b.kd (cal o) o.x.b.nd e1 e2 e3 e4 e5 e6 e7 h1
          · cases q1
        · rename_i heq
          cases heq
          split at q1
          · simp only [Bool.and_eq_true, decide_eq_true_eq] at q1
            obtain ⟨⟨⟨⟨⟨⟨⟨⟨⟨⟨e1, e2⟩, e3⟩, e4⟩, e5⟩, e6⟩, e7⟩, e8⟩, e9⟩, e10⟩, e11⟩ := q1
            exact ev_par3 o.x.b.kd (cal o) o.x.b.nd e1 e2 e3 e4 e5 e6 e7 e8 e9 e10 e11 h1
          · cases q1
        · cases q1
      · cases q2
    · cases q
  | paro i j e l =>
    refine ⟨fun {n m W X} o a q => ?_, fun {n m W X} o a q => (by cases q)⟩
    simp only [ckS] at q
    split at q
    · rename_i t u ht
      rw [Bool.and_eq_true] at q
      obtain ⟨q1, q2⟩ := q
      obtain ⟨p, rfl⟩ := asAsg_eq ht
      split at q2
      · rename_i v w hv
        obtain ⟨k0, p0, rfl⟩ := asTup_eq hv
        simp only [Bool.and_eq_true, Bool.not_eq_true'] at q2
        obtain ⟨⟨⟨sa, sb⟩, h1⟩, h2⟩ := q2
        have h1 := (snd c Z e).e o.x _ h1
        have h2 := (snd c Z l).l o.x _ h2
        rw [Bool.or_eq_true] at q1
        rcases q1 with q1 | q1
        · unfold parB at q1
          split at q1
          · rename_i x px y py kt pt a b k2 pt2 heq
            cases heq
            simp only [Bool.and_eq_true, decide_eq_true_eq] at q1
            obtain ⟨⟨⟨⟨⟨⟨e1, e2⟩, e3⟩, e4⟩, e5⟩, e6⟩, e7⟩ := q1
            exact ev_par2o o.x.b.kd (cal o) o.x.b.nd e1 e2 e3 e4 e5 e6 e7 sa sb h1 h2
          · rename_i heq
            cases heq
          · cases q1
        · simp only [Bool.and_eq_true] at q1
          obtain ⟨⟨q0, q1⟩, q3⟩ := q1
          cases hts : asTup t with
          | none => rw [hts] at q0; cases q0
          | some ts =>
            obtain ⟨k4, p4, rfl⟩ := asTup_eq hts
            simp only [tgB, hts] at q1
            exact ev_tup2o o.x.b.K o.x.b.kd (cal o) o.x.b.nd (tgs_of (fun y _ => o.fn y) q1) q3 sa sb h1 h2
      · cases q2
    · cases q
  | ost o' b e =>
    refine ⟨fun {n m W X} o a q => ?_, fun {n m W X} o a q => (by cases q)⟩
    simp only [ckS] at q
    split at q
    · rename_i t u ht
      obtain ⟨p, rfl⟩ := asAsg_eq ht
      split at q
      · rename_i r s hs
        simp only [Bool.and_eq_true, Bool.not_eq_true'] at q
        obtain ⟨p2, rfl⟩ := asSub_eq hs
        exact ev_ost q.1.1.1 ((snd c Z e).e o.x u q.2) ((snd c Z o').e o.x r q.1.1.2) ((snd c Z b).e o.x s q.1.2)
      · cases q
    · cases q
  | osto i b e =>
    refine ⟨fun {n m W X} o a q => ?_, fun {n m W X} o a q => (by cases q)⟩
    simp only [ckS] at q
    split at q
    · rename_i t u ht
      obtain ⟨p, rfl⟩ := asAsg_eq ht
      split at q
      · rename_i r s hs
        obtain ⟨p2, rfl⟩ := asSub_eq hs
        split at q
        · rename_i y hy
          simp only [Bool.and_eq_true, Bool.not_eq_true'] at q
          obtain ⟨p3, rfl⟩ := asName_eq hy
          obtain ⟨h1, h2, h3⟩ := vr_of q.1.1.1
          exact ev_ostO h1 h2 h3 q.1.1.2 ((snd c Z e).e o.x u q.2) ((snd c Z b).e o.x s q.1.2)
        · cases q
      · cases q
    · cases q
  | app i e =>
    refine ⟨fun {n m W X} o a q => ?_, fun {n m W X} o a q => (by cases q)⟩
    simp only [ckS] at q
    split at q
    · rename_i y u r s hs
      simp only [Bool.and_eq_true, Bool.not_eq_true'] at q
      obtain ⟨p1, p2, rfl⟩ := asApp_eq hs
      obtain ⟨h1, h2, h3⟩ := vr_of q.1.1.1
      exact ev_app h1 h2 h3 q.1.1.2 q.1.2 ((snd c Z e).e o.x u q.2)
    · cases q
  | ret e =>
    refine ⟨fun {n m W X} o a q => ?_, fun {n m W X} o a q => (by cases q)⟩
    simp only [ckS] at q
    split at q
    · rename_i u hu
      obtain ⟨p1, rfl⟩ := asRet_eq hu
      exact ev_ret ((snd c Z e).e o.x u q)
    · cases q
  | retn =>
    refine ⟨fun {n m W X} o a q => ?_, fun {n m W X} o a q => (by cases q)⟩
    simp only [ckS] at q
    split at q
    · rename_i hu
      obtain ⟨p1, rfl⟩ := asRet_eq hu
      exact ev_retN
    · cases q
  | expr e =>
    refine ⟨fun {n m W X} o a q => ?_, fun {n m W X} o a q => (by cases q)⟩
    simp only [ckS] at q
    split at q
    · rename_i u hu
      simp only [Bool.and_eq_true, Bool.not_eq_true'] at q
      obtain ⟨p1, rfl⟩ := asExp_eq hu
      exact ev_expr q.1 ((snd c Z e).e o.x u q.2)
    · cases q
  | ife t a b h1 h2 =>
    refine ⟨fun {n m W X} o a q => ?_, fun {n m W X} o a q => (by cases q)⟩
    simp only [ckS] at q
    split at q
    · rename_i p u r hp
      simp only [Bool.and_eq_true] at q
      obtain ⟨p1, rfl⟩ := asIfS_eq hp
      exact ev_ifS ((snd c Z t).t o.x p q.1.1) (h1.b o u q.1.2) (h2.b o r q.2)
    · cases q
  | «for» tg it b h =>
    refine ⟨fun {n m W X} o a q => ?_, fun {n m W X} o a q => (by cases q)⟩
    simp only [ckS] at q
    split at q
    · rename_i g p u hp
      simp only [Bool.and_eq_true] at q
      obtain ⟨p1, rfl⟩ := asFor_eq hp
      obtain ⟨i1, i2⟩ := (snd c Z it).i o.x g p q.1.2
      exact ev_for o.own (cal o) i1 (tg_of (cl := fun _ => true) o.x.b.K (cal o) o.x.b.nd (fun y _ => o.fn y) q.1.1) (h.b o u q.2) i2
    · cases q
  | rai y =>
    refine ⟨fun {n m W X} o a q => ?_, fun {n m W X} o a q => (by cases q)⟩
    simp only [ckS] at q
    split at q
    · rename_i z e hz
      simp only [Bool.and_eq_true, decide_eq_true_eq] at q
      obtain ⟨⟨⟨rfl, q1⟩, q2⟩, q3⟩ := q
      obtain ⟨p1, p2, p3, rfl⟩ := asRai_eq hz
      obtain ⟨mm, j, p4, rfl⟩ := asStrK_eq q3
      obtain ⟨e1, e2⟩ := gln_of q1
      exact ev_raise (cal o) o.x.b.tk (o.rai _ (by simpa using q2) mm _ p1 p4 p2 e1 e2)
    · cases q
  | raif y e =>
    refine ⟨fun {n m W X} o a q => ?_, fun {n m W X} o a q => (by cases q)⟩
    simp only [ckS] at q
    split at q
    · rename_i z u hz
      simp only [Bool.and_eq_true, decide_eq_true_eq, Bool.not_eq_true'] at q
      obtain ⟨⟨⟨⟨rfl, q1⟩, q2⟩, q3⟩, q4⟩ := q
      obtain ⟨p1, p2, p3, rfl⟩ := asRai_eq hz
      obtain ⟨e1, e2⟩ := gln_of q1
      exact o.raif _ (by simpa using q2) u _ p1 p2 p3 e1 e2 q3 ((snd c Z e).e o.x u q4)
    · cases q
  | nev =>
    refine ⟨fun {n m W X} o a q => ?_, fun {n m W X} o a q => (by cases q)⟩
    refine impS ps_never fun Dn σ H h => ?_
    obtain ⟨g0, B, g, ρ, S, st, h⟩ := h
    exact h
  | pas =>
    refine ⟨fun {n m W X} o a q => ?_, fun {n m W X} o a q => (by cases q)⟩
    simp only [ckS] at q
    split at q
    · exact ev_skip ps_pass
    · cases q
end
end PV

set_option Elab.async false
set_option linter.all false
set_option maxRecDepth 100000
set_option maxHeartbeats 4000000
/-! PvL: a text's defs by levels; each keeps its promise. -/
namespace PV
open PySem PySem.Spec PyProof.Rows L2
structure FnD where
  nm : Str
  ps : List Str
  N : List Str
  tri : Bool
  body : Stm
def FnD.md (f : FnD) : Md := if f.tri = true then .top else .calm
theorem FnD.cool (f : FnD) : f.md.cool = true := by
  unfold FnD.md
  split <;> rfl
def startE (N : List Str) (ds : List D) : Ev := ds.map .val ++ List.replicate (N.length - ds.length) .un
def finS : Option (Out SO × Store) → Option (Out D × Store)
  | some (.ok (.nx _), S) => some (.ok .non, S)
  | some (.ok (.rt d), S) => some (.ok d, S)
  | some (.exc n fl, S) => some (.exc n fl, S)
  | _ => none
def Zm (G : Gm) (Φ : Nat → Nat → List D → Mm D) : Sm := ⟨G, Φ, "", 0⟩
def runF (G : Gm) (Φ : Nat → Nat → List D → Mm D) (n : Nat) (f : FnD) (ds : List D) : Mm D := fun S => if ds.length = f.ps.length then finS (runS (Zm G Φ) f.md n f.body (startE f.N ds) S) else none
def lev (G : Gm) (fns : List FnD) : Nat → Nat → Nat → List D → Mm D
  | 0 => fun _ _ _ => fail
  | n + 1 => fun j k ds => if j ≤ n then lev G fns n j k ds else match fns[k]? with
    | some f => runF G (lev G fns n) n f ds
    | none => fail
/-- the k-th def, with n further calls one within another -/
def Phi (G : Gm) (fns : List FnD) (n : Nat) : Nat → List D → Mm D := lev G fns n n
theorem lev_le {G : Gm} {fns : List FnD} : ∀ {n j : Nat}, j ≤ n → lev G fns n j = Phi G fns j
  | 0, j, h => by
    have : j = 0 := by omega
    subst this
    rfl
  | n + 1, j, h => by
    by_cases q : j ≤ n
    · rw [← lev_le q]
      funext k ds
      show (if j ≤ n then _ else _) = _
      rw [if_pos q]
    · have : j = n + 1 := by omega
      subst this
      rfl
theorem Phi_succ {G : Gm} {fns : List FnD} {n k : Nat} {f : FnD} {ds : List D} (h : fns[k]? = some f) : Phi G fns (n + 1) k ds = runF G (lev G fns n) n f ds := by
  show (if n + 1 ≤ n then _ else match fns[k]? with | some f => runF G (lev G fns n) n f ds | none => fail) = _
  rw [if_neg (by omega), h]
/-- the k-th def, as it stands -/
structure DefAt (c : Cf) (G : Gm) (P : Program) (w : World) (K : PySem.W.Frag) (mg : Str → Option Value) (base : Heap) (k : Nat) (f : FnD) (params : Arguments) (body : List Stmt) (scope : Scope) (dV kV doc pm : Value) (an : Option Addr) (cdv ct : Value) : Prop where
  lk : ∃ (oc : Value) (od : Option Addr) (osl : Array (Option Value)), K.lookup (c.fa k) = some ⟨oc, od, .func (PySem.W.fnOf f.nm f.nm params body scope dV kV doc pm an cdv ct), osl⟩
  cd : PySem.W.codeIn K cdv f.nm = true
  sc : FnScope f.N f.ps scope
  ck : (ckS G f.N scope f.body).b body = true
  tri : f.tri = true → ∀ (n : Nat) (Φ : Nat → Nat → List D → Mm D) (W : WX) (A : Around) (outer : List Env) (s : Shared) (H : Hp) (E : XK), Okc c (Zm G Φ) n .top W (cxOf (L2N.CX P w) P w K mg base f.N f.nm scope (c.fa k) cdv A outer s H E) →
    TriOk c (Zm G Φ) n W (cxOf (L2N.CX P w) P w K mg base f.N f.nm scope (c.fa k) cdv A outer s H E)
/-- what is known of the linked text -/
structure Lk (c : Cf) (G : Gm) (fns : List FnD) (P : Program) (w : World) (K : PySem.W.Frag) (mg : Str → Option Value) (base : Heap) : Prop where
  eK : K = c.K
  fre : ∀ x ∈ bltN, mg x = none
  nms : G.nms = fns.map (·.nm)
  gvs : ∀ (k : Nat) (x : Str) (d : D), G.gv[k]? = some (x, d) → ∃ v u, mg x = some u ∧ RelV v u ∧ ∀ g H, Rep c g H d v
  rai : ∀ X : Cx, X.K = K → X.mg = mg → ∀ y ∈ G.rs, ∀ (m : Str) (j : Nat) (p p2 pos : Pos), Gl X y → nmB y = true → L2N.PMk X (.Call (.Name y p) [.Constant (.str m) j p2] [] pos) (fun _ H Q => Q (.ref (c.xa y)) none H)
  raif : ∀ (X : Cx) (W : WX), X.prog = P → X.w = w → X.K = K → X.mg = mg → X.base = base → X.calm = true → L2N.Takes X W → X.A.units + 64 < cLine → ∀ y ∈ G.rf, ∀ (e : Expr) (f : Ev → Mm D) (p q pos : Pos), Gl X y → nmB y = true → isStar e = false → EvE c W X e f →
    EvS c W X (.Raise (some (.Call (.Name y p) [e] [] q)) none pos) (fun ρ => bnd (f ρ) fun d S => some (.exc y (some d), S))
  def_ : ∀ (k : Nat) (f : FnD), fns[k]? = some f → mg f.nm = some (.ref (c.fa k)) ∧ PySem.W.keepIn K (.ref (c.fa k)) = true ∧ ∃ (params : Arguments) (body : List Stmt) (scope : Scope) (dV kV doc pm : Value) (an : Option Addr) (cdv ct : Value),
    DefAt c G P w K mg base k f params body scope dV kV doc pm an cdv ct ∧ Binds K (PySem.W.fnOf f.nm f.nm params body scope dV kV doc pm an cdv ct) f.ps []
section
variable {c : Cf} {G : Gm} {fns : List FnD} {P : Program} {w : World} {K : PySem.W.Frag} {mg : Str → Option Value} {base : Heap} {g : Gh} {S : Store} {H : Hp}
theorem start_env {N : List Str} {ds : List D} {vs : List V} (B : Hp) (r : Reps c g H ds vs) : EnvRep c B g H (startE N ds) (L2.start N vs) := by
  have hl := r.len
  refine ⟨?_, fun i s e => ?_, fun i j xs ys p e1 _ _ _ => ?_⟩
  · unfold startE L2.start
    rw [List.length_append, List.length_append, List.length_map, List.length_map, List.length_replicate, List.length_replicate, hl]
  · unfold startE at e
    unfold L2.start
    by_cases hi : i < ds.length
    · rw [List.getElem?_append_left (by rw [List.length_map]; exact hi), List.getElem?_map] at e
      cases q : ds[i]? with
      | none => rw [q] at e; cases e
      | some d =>
        rw [q] at e
        cases e
        obtain ⟨v, hv, rv⟩ := r.get q
        exact ⟨some v, by rw [List.getElem?_append_left (by rw [List.length_map, ← hl]; exact hi), List.getElem?_map, hv]; rfl, v, rfl, rv⟩
    · rw [List.getElem?_append_right (by rw [List.length_map]; omega), List.getElem?_replicate] at e
      split at e
      · rename_i h2
        cases e
        rw [List.length_map] at h2
        exact ⟨none, by rw [List.getElem?_append_right (by rw [List.length_map, ← hl]; omega), List.getElem?_replicate, List.length_map, ← hl, if_pos h2], trivial⟩
      · cases e
  · unfold startE at e1
    by_cases hi : i < ds.length
    · rw [List.getElem?_append_left (by rw [List.length_map]; exact hi), List.getElem?_map] at e1
      cases q : ds[i]? with
      | none => rw [q] at e1; cases e1
      | some d => rw [q] at e1; cases e1
    · rw [List.getElem?_append_right (by rw [List.length_map]; omega), List.getElem?_replicate] at e1
      split at e1 <;> cases e1
theorem fin_con {Q : VK} {E : XK} {r : Option (Out SO × Store)} (h : Con c (fun cls dx _ H => E cls dx H) (relV c) g H [] Q (finS r)) : ConS c (fun cls dx _ H => E cls dx H) g H g H { nx := fun _ H' => Q .non H', rt := Q } r := by
  match r, h with
  | some (.ok (.nx ρ), S), h => exact fun g' H' σ' _ st => h g' H' .non st.ext st.good rfl
  | some (.ok (.rt d), S), h => exact fun g' H' v x G r => h g' H' v x G r
  | some (.exc n fl, S), h => exact fun g' H' σ' cls dx x G e => h g' H' cls dx x G e
  | some (.ok (.bk ρ), S), h => exact h.elim
  | some (.ok (.ct ρ), S), h => exact h.elim
  | none, h => exact h.elim
theorem lev_len {n j k : Nat} {f : FnD} (h : fns[k]? = some f) (hj : j ≤ n) {ds : List D} {S : Store} (q : lev G fns n j k ds S ≠ none) : ds.length = f.ps.length := by
  rw [lev_le hj] at q
  cases j with
  | zero => exact absurd rfl q
  | succ j =>
    rw [Phi_succ h] at q
    unfold runF at q
    by_cases z : ds.length = f.ps.length
    · exact z
    · rw [if_neg z] at q
      exact absurd rfl q
/-- EACH DEF KEEPS ITS PROMISE -/
theorem fn_all (L : Lk c G fns P w K mg base) : ∀ (n k : Nat) (f : FnD), fns[k]? = some f → ∀ (params : Arguments) (body : List Stmt) (scope : Scope) (dV kV doc pm : Value) (an : Option Addr) (cdv ct : Value), DefAt c G P w K mg base k f params body scope dV kV doc pm an cdv ct →
    FnOk P w K mg base (L2N.CX P w) n (c.fa k) (PySem.W.fnOf f.nm f.nm params body scope dV kV doc pm an cdv ct) f.ps (spOf c f.ps.length (Phi G fns n k)) := by
  intro n
  induction n using Nat.strongRecOn with
  | _ n ih =>
  intro k f hf params body scope dV kV doc pm an cdv ct Df
  cases n with
  | zero =>
    refine ⟨fun vs H Q E h => spOf_len h, fun A outer s H args us vs Q E _ _ _ _ h => ?_⟩
    obtain ⟨g, S, ds, _, _, _, h⟩ := h
    exact h.elim
  | succ n =>
    obtain ⟨oc, od, osl, lk⟩ := Df.lk
    refine fn_of lk Df.cd Df.sc (fun vs H Q E h => spOf_len h) fun A outer s H vs Q E hr h => ?_
    obtain ⟨g, S, ds, G', r, hl, h⟩ := h
    rw [Phi_succ hf] at h
    have h : Con c (fun cls dx _ H => E cls dx H) (relV c) g H [] Q (if ds.length = f.ps.length then finS (runS (Zm G (lev G fns n)) f.md n f.body (startE f.N ds) S) else none) := h
    rw [if_pos hl] at h
    refine ⟨tS c (fun cls dx _ H => E cls dx H) (runS (Zm G (lev G fns n)) f.md n f.body), ?_, g, H, g, startE f.N ds, S, ⟨G', start_env H r, .refl _ _⟩, fin_con h⟩
    have tk : L2N.Takes (cxOf (L2N.CX P w) P w K mg base f.N f.nm scope (c.fa k) cdv A outer s H E) (fun cls dx _ H => E cls dx H) := L2N.takes_of rfl rfl rfl rfl
    have okc : ∀ m : Md, Okc c (Zm G (lev G fns n)) n m (fun cls dx _ H => E cls dx H) (cxOf (L2N.CX P w) P w K mg base f.N f.nm scope (c.fa k) cdv A outer s H E) := fun m => by
      refine ⟨L.eK, Df.sc.kind, fun _ => rfl, fun _ => hr, hr.units, Df.sc.nd, tk, L.fre, fun j hj k' x hx => ?_, L.gvs⟩
      have hx : (fns.map (·.nm))[k']? = some x := by rw [← L.nms]; exact hx
      rw [List.getElem?_map] at hx
      cases q : fns[k']? with
      | none => rw [q] at hx; cases hx
      | some f' =>
        rw [q] at hx
        cases hx
        obtain ⟨m1, m2, params', body', scope', dV', kV', doc', pm', an', cdv', ct', Df', bs'⟩ := L.def_ k' f' q
        refine ⟨m1, m2, _, f'.ps, ?_, bs', fun ds S z => lev_len q hj z⟩
        have := ih j (Nat.lt_succ_of_le hj) k' f' q params' body' scope' dV' kV' doc' pm' an' cdv' ct' Df'
        rw [← lev_le hj] at this
        exact this
    refine (sndS c (Zm G (lev G fns n)) f.body).b (m := f.md) ⟨⟨okc f.md, fun z => ?_, fun z => ?_⟩, f.cool, fun _ => rfl, passes_of rfl, L.rai _ rfl rfl, fun y hy e fe p q pos h1 h2 h3 h4 => L.raif _ _ rfl rfl rfl rfl rfl rfl tk hr.units y hy e fe p q pos h1 h2 h3 h4⟩ body Df.ck
    · have z2 : f.tri = true := by
        unfold FnD.md at z
        split at z
        · assumption
        · cases z
      exact Df.tri z2 n _ _ A outer s H E (okc .top)
    · unfold FnD.md at z
      split at z <;> cases z
end
end PV

set_option Elab.async false
set_option linter.all false
set_option maxRecDepth 100000
set_option maxHeartbeats 4000000
/-! PvM: the meaning of statements by what comes behind them. -/
namespace PV
open PySem PySem.Spec PyProof.Rows L2
def forC (asg : D → Ev → Option Ev) (body : Ev → (Ev → Mm D) → Mm D) : List D → Ev → (Ev → Mm D) → Mm D
  | [], ρ, k => k ρ
  | x :: xs, ρ, k => bnd (opt (asg x ρ)) fun ρ1 => body ρ1 fun ρ2 => forC asg body xs ρ2 k
def raiM (x : Str) (fl : Option D) : Mm D := fun S => some (.exc x fl, S)
def runC (Z : Sm) (m : Md) (n : Nat) : Stm → Ev → (Ev → Mm D) → Mm D
  | .nil, ρ, k => k ρ
  | .cons s r, ρ, k => runC Z m n s ρ fun ρ' => runC Z m n r ρ' k
  | .frz i r, ρ, k => bnd (opt (ownV ρ i)) fun xs => runC Z m n r (ρ.set i (.val (.lst xs))) k
  | .set i e, ρ, k => bnd ((den Z e m n).e ρ) fun d => k (ρ.set i (.val d))
  | .seto i l, ρ, k => bnd ((den Z l m n).l ρ) fun xs => k (ρ.set i (.own xs))
  | .setc i elt tg cond it own, ρ, k => bnd ((den Z it m n).i ρ) fun items => bnd (mapO (turnM (asgn tg) (den Z cond m.inn n).ts (den Z elt m.inn n).e (wipeE ρ own)) items) fun xs => k (ρ.set i (.own xs))
  | .tup tg e, ρ, k => bnd ((den Z e m n).e ρ) fun d => bnd (opt (asgn tg d ρ)) k
  | .paro i j e l, ρ, k => bnd ((den Z e m n).e ρ) fun d => bnd ((den Z l m n).l ρ) fun xs => k ((ρ.set i (.val d)).set j (.own xs))
  | .par is es, ρ, k => bnd ((den Z es m n).a ρ) fun ds => bnd (opt (setMany ρ is ds)) k
  | .ost o b e, ρ, k => bnd ((den Z e m n).e ρ) fun d => bnd ((den Z o m n).e ρ) fun x => bnd ((den Z b m n).e ρ) fun y => bnd (wr (setD x y d)) fun _ => k ρ
  | .osto i b e, ρ, k => bnd ((den Z e m n).e ρ) fun d => bnd (opt (ownV ρ i)) fun xs => bnd ((den Z b m n).e ρ) fun y => bnd (opt (setO xs y d)) fun xs' => k (ρ.set i (.own xs'))
  | .app i e, ρ, k => bnd (opt (ownV ρ i)) fun xs => bnd ((den Z e m n).e ρ) fun d => bnd (opt (if xs.length < sizeLine then some (xs ++ [d]) else none)) fun xs' => k (ρ.set i (.own xs'))
  | .ret e, ρ, _ => (den Z e m n).e ρ
  | .retn, _, _ => ret .non
  | .expr e, ρ, k => bnd ((den Z e m n).e ρ) fun _ => k ρ
  | .ife t a b, ρ, k => bnd ((den Z t m n).t ρ) fun q => if q = true then runC Z m n a ρ k else runC Z m n b ρ k
  | .for tg it b, ρ, k => bnd ((den Z it m n).i ρ) fun items => forC (asgn tg) (fun ρ k => runC Z m n b ρ k) items ρ k
  | .rai x, _, _ => raiM x none
  | .raif x e, ρ, _ => bnd ((den Z e m n).e ρ) fun d => raiM x (some d)
  | .nev, _, _ => fail
  | .pas, ρ, k => k ρ
def thenC (k : Ev → Mm D) : SO → Mm D
  | .nx ρ => k ρ
  | .rt d => ret d
  | _ => fail
theorem bnd_ret' {α : Type} (x : Mm α) : bnd x ret = x := by
  funext S
  unfold bnd
  cases x S with
  | none => rfl
  | some p =>
    obtain ⟨o, S'⟩ := p
    cases o <;> rfl
theorem forC_eq {asg : D → Ev → Option Ev} {f : Ev → Mm SO} {body : Ev → (Ev → Mm D) → Mm D} (h : ∀ ρ k, body ρ k = bnd (f ρ) (thenC k)) (hb : ∀ ρ S S', (∀ ρ', f ρ S ≠ some (.ok (.bk ρ'), S')) ∧ ∀ ρ', f ρ S ≠ some (.ok (.ct ρ'), S')) : ∀ (xs : List D) (ρ : Ev) (k : Ev → Mm D), forC asg body xs ρ k = bnd (forM asg f xs ρ) (thenC k)
  | [], ρ, k => rfl
  | x :: xs, ρ, k => by
    unfold forC forM
    rw [bnd_bnd]
    congr 1
    funext ρ1
    rw [h, bnd_bnd]
    funext S
    unfold bnd
    cases q : f ρ1 S with
    | none => rfl
    | some p =>
      obtain ⟨o, S'⟩ := p
      cases o with
      | exc n fl => rfl
      | ok o =>
        cases o with
        | nx ρ2 =>
          show forC asg body xs ρ2 k S' = _
          rw [forC_eq h hb xs ρ2 k]
          rfl
        | rt d => rfl
        | bk ρ2 => exact absurd q ((hb ρ1 S S').1 ρ2)
        | ct ρ2 => exact absurd q ((hb ρ1 S S').2 ρ2)
/-- no statement here leaves a loop by break, continue -/
def Plain (f : Ev → Mm SO) : Prop := ∀ ρ S S', (∀ ρ', f ρ S ≠ some (.ok (.bk ρ'), S')) ∧ ∀ ρ', f ρ S ≠ some (.ok (.ct ρ'), S')
theorem plain_bnd {α : Type} {x : Ev → Mm α} {f : α → Ev → Mm SO} (h : ∀ a, Plain (f a)) : Plain fun ρ => bnd (x ρ) fun a => f a ρ := fun ρ S S' => by
  refine ⟨fun ρ' z => ?_, fun ρ' z => ?_⟩
  · rcases bnd_some z with ⟨a, S1, _, k⟩ | ⟨n, fl, _, e⟩
    · exact (h a ρ S1 S').1 ρ' k
    · cases e
  · rcases bnd_some z with ⟨a, S1, _, k⟩ | ⟨n, fl, _, e⟩
    · exact (h a ρ S1 S').2 ρ' k
    · cases e
theorem plain_nx {F : Ev → Ev} : Plain fun ρ => ret (.nx (F ρ)) := fun ρ S S' => ⟨fun _ z => (by cases z), fun _ z => (by cases z)⟩
theorem plain_rt {F : Ev → D} : Plain fun ρ => ret (.rt (F ρ)) := fun ρ S S' => ⟨fun _ z => (by cases z), fun _ z => (by cases z)⟩
theorem plain_exc {n : Str} {fl : Option D} : Plain fun ρ S => some (.exc n fl, S) := fun ρ S S' => ⟨fun _ z => (by cases z), fun _ z => (by cases z)⟩
theorem plain_fail : Plain fun ρ => fail := fun ρ S S' => ⟨fun _ z => (by cases z), fun _ z => (by cases z)⟩
theorem plain_seq {f g : Ev → Mm SO} (hf : Plain f) (hg : Plain g) : Plain (seqM f g) := fun ρ S S' => by
  refine ⟨fun ρ' z => ?_, fun ρ' z => ?_⟩
  · rcases bnd_some z with ⟨a, S1, k1, k⟩ | ⟨n, fl, _, e⟩
    · cases a with
      | nx ρ2 => exact (hg ρ2 S1 S').1 ρ' k
      | bk ρ2 => exact (hf ρ S S1).1 ρ2 k1
      | ct ρ2 => exact (hf ρ S S1).2 ρ2 k1
      | rt d => cases k
    · cases e
  · rcases bnd_some z with ⟨a, S1, k1, k⟩ | ⟨n, fl, _, e⟩
    · cases a with
      | nx ρ2 => exact (hg ρ2 S1 S').2 ρ' k
      | bk ρ2 => exact (hf ρ S S1).1 ρ2 k1
      | ct ρ2 => exact (hf ρ S S1).2 ρ2 k1
      | rt d => cases k
    · cases e
theorem plain_for {asg : D → Ev → Option Ev} {f : Ev → Mm SO} (hf : Plain f) : ∀ xs : List D, Plain (forM asg f xs)
  | [] => plain_nx (F := id)
  | x :: xs => fun ρ S S' => by
    have key : ∀ o, forM asg f (x :: xs) ρ S = some (.ok o, S') → (∀ ρ', o ≠ .bk ρ') ∧ ∀ ρ', o ≠ .ct ρ' := fun o z => by
      unfold forM at z
      rcases bnd_some z with ⟨ρ1, S1, k1, k⟩ | ⟨n, fl, _, e⟩
      · rcases bnd_some k with ⟨a, S2, k2, k3⟩ | ⟨n, fl, _, e⟩
        · cases a with
          | nx ρ2 => exact ⟨fun ρ' e => by rw [e] at k3; exact (plain_for hf xs ρ2 S2 S').1 ρ' k3, fun ρ' e => by rw [e] at k3; exact (plain_for hf xs ρ2 S2 S').2 ρ' k3⟩
          | ct ρ2 => exact absurd k2 ((hf ρ1 S1 S2).2 ρ2)
          | bk ρ2 => exact absurd k2 ((hf ρ1 S1 S2).1 ρ2)
          | rt d =>
            cases k3
            exact ⟨fun _ e => (by cases e), fun _ e => (by cases e)⟩
        · cases e
      · cases e
    exact ⟨fun ρ' z => (key _ z).1 ρ' rfl, fun ρ' z => (key _ z).2 ρ' rfl⟩
theorem runS_plain (Z : Sm) (m : Md) (n : Nat) : ∀ s : Stm, Plain (runS Z m n s) := fun s => by
  induction s with
  | nil => exact plain_nx (F := id)
  | cons s r h1 h2 => exact plain_seq h1 h2
  | frz i r h =>
    intro ρ S S'
    refine ⟨fun ρ' z => ?_, fun ρ' z => ?_⟩
    · rcases bnd_some z with ⟨a, S1, k1, k⟩ | ⟨n, fl, _, e⟩
      · exact (h _ S1 S').1 ρ' k
      · cases e
    · rcases bnd_some z with ⟨a, S1, k1, k⟩ | ⟨n, fl, _, e⟩
      · exact (h _ S1 S').2 ρ' k
      · cases e
  | set i e => exact plain_bnd fun d => plain_nx
  | seto i l => exact plain_bnd fun d => plain_nx
  | setc i elt tg cond it own => exact plain_bnd fun d => plain_nx
  | tup tg e => exact plain_bnd (f := fun d ρ => bnd (opt (asgn tg d ρ)) fun ρ' => ret (.nx ρ')) fun d => plain_bnd (f := fun ρ' ρ => ret (.nx ρ')) fun ρ' => plain_nx (F := fun _ => ρ')
  | par is es => exact plain_bnd (f := fun ds ρ => bnd (opt (setMany ρ is ds)) fun ρ' => ret (.nx ρ')) fun d => plain_bnd (f := fun ρ' ρ => ret (.nx ρ')) fun ρ' => plain_nx (F := fun _ => ρ')
  | paro i j e l => exact plain_bnd (f := fun d ρ => bnd ((den Z l m n).l ρ) fun xs => ret (.nx ((ρ.set i (.val d)).set j (.own xs)))) fun d => plain_bnd (f := fun xs ρ => ret (.nx ((ρ.set i (.val d)).set j (.own xs)))) fun xs => plain_nx (F := fun ρ => (ρ.set i (.val d)).set j (.own xs))
  | ost o b e => exact plain_bnd (f := fun d ρ => bnd ((den Z o m n).e ρ) fun x => bnd ((den Z b m n).e ρ) fun y => bnd (wr (setD x y d)) fun _ => ret (.nx ρ)) fun d => plain_bnd (f := fun x ρ => bnd ((den Z b m n).e ρ) fun y => bnd (wr (setD x y d)) fun _ => ret (.nx ρ)) fun x => plain_bnd (f := fun y ρ => bnd (wr (setD x y d)) fun _ => ret (.nx ρ)) fun y => plain_bnd (f := fun _ ρ => ret (.nx ρ)) fun _ => plain_nx (F := id)
  | osto i b e => exact plain_bnd (f := fun d ρ => bnd (opt (ownV ρ i)) fun xs => bnd ((den Z b m n).e ρ) fun y => bnd (opt (setO xs y d)) fun xs' => ret (.nx (ρ.set i (.own xs')))) fun d => plain_bnd (f := fun xs ρ => bnd ((den Z b m n).e ρ) fun y => bnd (opt (setO xs y d)) fun xs' => ret (.nx (ρ.set i (.own xs')))) fun x => plain_bnd (f := fun y ρ => bnd (opt (setO x y d)) fun xs' => ret (.nx (ρ.set i (.own xs')))) fun y => plain_bnd (f := fun xs' ρ => ret (.nx (ρ.set i (.own xs')))) fun xs' => plain_nx
  | app i e => exact plain_bnd (f := fun xs ρ => bnd ((den Z e m n).e ρ) fun d => bnd (opt (if xs.length < sizeLine then some (xs ++ [d]) else none)) fun xs' => ret (.nx (ρ.set i (.own xs')))) fun xs => plain_bnd (f := fun d ρ => bnd (opt (if xs.length < sizeLine then some (xs ++ [d]) else none)) fun xs' => ret (.nx (ρ.set i (.own xs')))) fun d => plain_bnd (f := fun xs' ρ => ret (.nx (ρ.set i (.own xs')))) fun xs' => plain_nx
  | ret e => exact plain_bnd (f := fun d ρ => PV.ret (.rt d)) fun d => plain_rt (F := fun _ => d)
  | retn => exact plain_rt (F := fun _ => .non)
  | expr e => exact plain_bnd (f := fun _ ρ => PV.ret (.nx ρ)) fun _ => plain_nx (F := id)
  | ife t a b h1 h2 =>
    refine plain_bnd (f := fun q ρ => if q = true then runS Z m n a ρ else runS Z m n b ρ) fun q => ?_
    cases q with
    | true => exact h1
    | false => exact h2
  | «for» tg it b h => exact plain_bnd (f := fun items ρ => forM (asgn tg) (runS Z m n b) items ρ) fun items => plain_for h items
  | rai x => exact plain_exc
  | raif x e => exact plain_bnd (f := fun d ρ S => some (.exc x (some d), S)) fun d => plain_exc
  | nev => exact plain_fail
  | pas => exact plain_nx (F := id)
theorem runC_eq (Z : Sm) (m : Md) (n : Nat) : ∀ (s : Stm) (ρ : Ev) (k : Ev → Mm D), runC Z m n s ρ k = bnd (runS Z m n s ρ) (thenC k) := fun s => by
  induction s with
  | nil => exact fun ρ k => rfl
  | cons s r h1 h2 =>
    intro ρ k
    show runC Z m n s ρ (fun ρ' => runC Z m n r ρ' k) = bnd (bnd (runS Z m n s ρ) _) _
    rw [h1, bnd_bnd]
    congr 1
    funext o
    cases o with
    | nx ρ' => exact h2 ρ' k
    | _ => rfl
  | frz i r h =>
    intro ρ k
    show bnd _ _ = bnd (bnd _ _) _
    rw [bnd_bnd]
    congr 1
    funext xs
    exact h _ k
  | set i e => intro ρ k; show bnd _ _ = bnd (bnd _ _) _; rw [bnd_bnd]; rfl
  | seto i l => intro ρ k; show bnd _ _ = bnd (bnd _ _) _; rw [bnd_bnd]; rfl
  | setc i elt tg cond it own => intro ρ k; show bnd _ _ = bnd (bnd (bnd _ _) _) _; rw [bnd_bnd, bnd_bnd]; congr 1
  | tup tg e => intro ρ k; show bnd _ _ = bnd (bnd _ _) _; rw [bnd_bnd]; congr 1; funext d; rw [bnd_bnd]; rfl
  | par is es => intro ρ k; show bnd _ _ = bnd (bnd _ _) _; rw [bnd_bnd]; congr 1; funext d; rw [bnd_bnd]; rfl
  | paro i j e l => intro ρ k; show bnd _ _ = bnd (bnd _ _) _; rw [bnd_bnd]; congr 1; funext d; rw [bnd_bnd]; rfl
  | ost o b e => intro ρ k; show bnd _ _ = bnd (bnd _ _) _; rw [bnd_bnd]; congr 1; funext d; rw [bnd_bnd]; congr 1; funext x; rw [bnd_bnd]; congr 1; funext y; rw [bnd_bnd]; rfl
  | osto i b e => intro ρ k; show bnd _ _ = bnd (bnd _ _) _; rw [bnd_bnd]; congr 1; funext d; rw [bnd_bnd]; congr 1; funext x; rw [bnd_bnd]; congr 1; funext y; rw [bnd_bnd]; rfl
  | app i e => intro ρ k; show bnd _ _ = bnd (bnd _ _) _; rw [bnd_bnd]; congr 1; funext d; rw [bnd_bnd]; congr 1; funext x; rw [bnd_bnd]; rfl
  | ret e =>
    intro ρ k
    show (den Z e m n).e ρ = bnd (bnd _ _) _
    rw [bnd_bnd]
    exact (bnd_ret' _).symm
  | retn => intro ρ k; rfl
  | expr e => intro ρ k; show bnd _ _ = bnd (bnd _ _) _; rw [bnd_bnd]; rfl
  | ife t a b h1 h2 =>
    intro ρ k
    show bnd _ _ = bnd (bnd _ _) _
    rw [bnd_bnd]
    congr 1
    funext q
    cases q with
    | true => exact h1 ρ k
    | false => exact h2 ρ k
  | «for» tg it b h =>
    intro ρ k
    show bnd _ _ = bnd (bnd _ _) _
    rw [bnd_bnd]
    congr 1
    funext items
    exact forC_eq h (runS_plain Z m n b) items ρ k
  | rai x => intro ρ k; rfl
  | raif x e => intro ρ k; show bnd _ _ = bnd (bnd _ _) _; rw [bnd_bnd]; rfl
  | nev => intro ρ k; rfl
  | pas => intro ρ k; rfl
theorem Phi_eq {G : Gm} {fns : List FnD} {n k : Nat} {f : FnD} {ds : List D} (h : fns[k]? = some f) (hl : ds.length = f.ps.length) : Phi G fns (n + 1) k ds = runC (Zm G (lev G fns n)) f.md n f.body (startE f.N ds) fun _ => ret .non := by
  rw [Phi_succ h, runC_eq]
  funext S
  unfold runF
  rw [if_pos hl]
  unfold bnd
  cases q : runS (Zm G (lev G fns n)) f.md n f.body (startE f.N ds) S with
  | none => rfl
  | some p =>
    obtain ⟨o, S'⟩ := p
    cases o with
    | exc n fl => rfl
    | ok o => cases o <;> rfl
end PV

set_option Elab.async false
set_option linter.all false
set_option maxRecDepth 100000
set_option maxHeartbeats 4000000
/-! PvW: what is wanted behind a function of data. -/
namespace PV
open PySem PySem.Spec PyProof.Rows L2

def wp {α : Type} (m : Mm α) (S : Store) (Q : α → Store → Prop) : Prop := match m S with
  | some (.ok a, S') => Q a S'
  | _ => False
theorem wp_ret {α : Type} {a : α} {S : Store} {Q : α → Store → Prop} : wp (ret a) S Q = Q a S := rfl
theorem wp_bnd {α β : Type} {x : Mm α} {f : α → Mm β} {S : Store} {Q : β → Store → Prop} : wp (bnd x f) S Q = wp x S fun a S' => wp (f a) S' Q := by
  unfold wp bnd
  cases x S with
  | none => rfl
  | some p =>
    obtain ⟨o, S'⟩ := p
    cases o <;> rfl
theorem wp_mono {α : Type} {m : Mm α} {S : Store} {Q Q' : α → Store → Prop} (h : wp m S Q) (i : ∀ a S', Q a S' → Q' a S') : wp m S Q' := by
  unfold wp at *
  cases q : m S with
  | none => rw [q] at h; exact h
  | some p =>
    obtain ⟨o, S'⟩ := p
    rw [q] at h
    cases o with
    | ok a => exact i a S' h
    | exc n fl => exact h
theorem wp_opt {α : Type} {o : Option α} {S : Store} {Q : α → Store → Prop} : wp (opt o) S Q = ∃ a, o = some a ∧ Q a S := by
  cases o with
  | none => exact propext ⟨fun h => h.elim, fun ⟨a, e, _⟩ => nomatch e⟩
  | some a => exact propext ⟨fun h => ⟨a, rfl, h⟩, fun ⟨b, e, h⟩ => by cases e; exact h⟩
theorem wp_opt' {α : Type} {o : Option α} {a : α} {S : Store} {Q : α → Store → Prop} (e : o = some a) (h : Q a S) : wp (opt o) S Q := by
  subst e
  exact h
theorem wp_ite {α : Type} {c : Prop} [Decidable c] {a b : Mm α} {S : Store} {Q : α → Store → Prop} (h1 : c → wp a S Q) (h2 : ¬ c → wp b S Q) : wp (if c then a else b) S Q := by
  by_cases h : c
  · rw [if_pos h]; exact h1 h
  · rw [if_neg h]; exact h2 h
theorem wp_run {α : Type} {m : Mm α} {S : Store} {Q : α → Store → Prop} (h : wp m S Q) : ∃ a S', m S = some (.ok a, S') ∧ Q a S' := by
  unfold wp at h
  split at h
  · exact ⟨_, _, by assumption, h⟩
  · exact h.elim
/-- a pure one -/
theorem ret_of {α : Type} {m : Mm α} {v : α} (h : ∀ S, wp m S fun a S' => a = v ∧ S' = S) : m = ret v := by
  funext S
  obtain ⟨a, S', e, rfl, rfl⟩ := wp_run (h S)
  exact e
theorem nox_wp {α : Type} {m : Mm α} {S : Store} {Q : α → Store → Prop} : wp (nox m) S Q = wp m S Q := by
  unfold wp nox
  cases m S with
  | none => rfl
  | some p =>
    obtain ⟨o, S'⟩ := p
    cases o <;> rfl
theorem rd_ret {α : Type} {k : Store → Option α} {a : α} (h : ∀ S, k S = some a) : rd k = ret a := by
  funext S
  unfold rd
  rw [h]
  rfl
theorem rd_opt {α : Type} {k : Store → Option α} {o : Option α} (h : ∀ S, k S = o) : rd k = opt o := by
  funext S
  unfold rd
  rw [h]
  cases o <;> rfl
theorem rd_tup (xs : List D) (i : Int) : (rd fun S => idxD S (.tup xs) (.int i)) = opt (atI xs i) := rd_opt fun _ => rfl
theorem rd_lst (xs : List D) (i : Int) : (rd fun S => idxD S (.lst xs) (.int i)) = opt (atI xs i) := rd_opt fun _ => rfl
theorem wp_rd {α : Type} {k : Store → Option α} {S : Store} {Q : α → Store → Prop} : wp (rd k) S Q = ∃ a, k S = some a ∧ Q a S := by
  unfold wp rd
  cases k S with
  | none => exact propext ⟨fun h => h.elim, fun ⟨a, e, _⟩ => nomatch e⟩
  | some a => exact propext ⟨fun h => ⟨a, rfl, h⟩, fun ⟨b, e, h⟩ => by cases e; exact h⟩
theorem wp_wr {k : Store → Option Store} {S : Store} {Q : Unit → Store → Prop} : wp (wr k) S Q = ∃ S', k S = some S' ∧ Q () S' := by
  unfold wp wr
  cases k S with
  | none => exact propext ⟨fun h => h.elim, fun ⟨a, e, _⟩ => nomatch e⟩
  | some a => exact propext ⟨fun h => ⟨a, rfl, h⟩, fun ⟨b, e, h⟩ => by cases e; exact h⟩
theorem bR {α β : Type} (a : α) (f : α → Mm β) : bnd (ret a) f = f a := Eq.trans rfl rfl
theorem bF {α β : Type} (f : α → Mm β) : bnd fail f = fail := Eq.trans rfl rfl
theorem oS {α : Type} (a : α) : opt (some a) = ret a := Eq.trans rfl rfl
theorem oN {α : Type} : opt (none : Option α) = fail := Eq.trans rfl rfl
theorem nR {α : Type} (a : α) : nox (ret a) = ret a := Eq.trans rfl rfl
theorem getV_zero (d : D) (l : Ev) : getV (.val d :: l) 0 = some d := Eq.trans rfl rfl
theorem getV_succ (s : Slot) (l : Ev) (i : Nat) : getV (s :: l) (i + 1) = getV l i := by
  unfold getV
  rw [List.getElem?_cons_succ]
theorem ownV_zero (d : List D) (l : Ev) : ownV (.own d :: l) 0 = some d := Eq.trans rfl rfl
theorem ownV_succ (s : Slot) (l : Ev) (i : Nat) : ownV (s :: l) (i + 1) = ownV l i := by
  unfold ownV
  rw [List.getElem?_cons_succ]
theorem setMany_nil (ρ : Ev) : setMany ρ [] [] = some ρ := Eq.trans rfl rfl
theorem setMany_cons (ρ : Ev) (i : Nat) (is : List Nat) (d : D) (ds : List D) : setMany ρ (i :: is) (d :: ds) = setMany (ρ.set i (.val d)) is ds := Eq.trans rfl rfl
theorem asgn_one (i : Nat) (d : D) (ρ : Ev) : asgn (.one i) d ρ = some (ρ.set i (.val d)) := Eq.trans rfl rfl
theorem asgn_many (is : List Nat) (ds : List D) (ρ : Ev) : asgn (.many is) (.tup ds) ρ = setMany ρ is ds := Eq.trans rfl rfl
theorem wipeE_nil (ρ : Ev) : wipeE ρ [] = ρ := Eq.trans rfl rfl
theorem wipeE_cons (ρ : Ev) (v : Nat) (vs : List Nat) : wipeE ρ (v :: vs) = (wipeE ρ vs).set v .un := Eq.trans rfl rfl
theorem addD_int (i j : Int) : addD (.int i) (.int j) = some (.int (i + j)) := Eq.trans rfl rfl
theorem subD_int (i j : Int) : subD (.int i) (.int j) = some (.int (i - j)) := Eq.trans rfl rfl
theorem lenD_tup (xs : List D) : lenD [.tup xs] = some (.int (xs.length : Nat)) := Eq.trans rfl rfl
theorem lenD_lst (xs : List D) : lenD [.lst xs] = some (.int (xs.length : Nat)) := Eq.trans rfl rfl
theorem items_lst (xs : List D) : itemsD (.lst xs) = some xs := Eq.trans rfl rfl
theorem items_tup (xs : List D) : itemsD (.tup xs) = some xs := Eq.trans rfl rfl
theorem tupD_lst (xs : List D) : tupD [.lst xs] = some (.tup xs) := Eq.trans rfl rfl
theorem ord_int (h : Int → Int → Bool) (i j : Int) : ordD h (.int i) (.int j) = some (.bl (h i j)) := Eq.trans rfl rfl
theorem eqD_int (i j : Int) : eqD false (.int i) (.int j) = some (.bl (decide (i = j))) := Eq.trans rfl rfl
theorem neD_int (i j : Int) : eqD true (.int i) (.int j) = some (.bl (!decide (i = j))) := Eq.trans rfl rfl
theorem isB_bl (b : Bool) : isB (.bl b) = some b := Eq.trans rfl rfl
theorem atI_ix {xs : List D} {i : Nat} {d : D} (h : xs[i]? = some d) : atI xs (i : Int) = some d := atI_nat h
/-! ### lists, turn by turn -/
theorem mapO_pure {f : D → Mm (Option D)} {g : D → D} : ∀ {xs : List D}, (∀ x ∈ xs, f x = ret (some (g x))) → mapO f xs = ret (xs.map g)
  | [], _ => rfl
  | x :: xs, h => by
    unfold mapO
    rw [h x List.mem_cons_self, bnd_ret, mapO_pure fun y hy => h y (List.mem_cons_of_mem _ hy)]
    rfl
theorem mapO_flt {f : D → Mm (Option D)} {g : D → Option D} : ∀ {xs : List D}, (∀ x ∈ xs, f x = ret (g x)) → mapO f xs = ret (xs.filterMap g)
  | [], _ => rfl
  | x :: xs, h => by
    unfold mapO
    rw [h x List.mem_cons_self, bnd_ret, mapO_flt fun y hy => h y (List.mem_cons_of_mem _ hy)]
    cases q : g x with
    | none => rw [List.filterMap_cons, q]
    | some d => rw [List.filterMap_cons, q]; rfl
/-- .. with a state: I by what is left and what came -/
theorem mapO_wp {f : D → Mm (Option D)} (I : List D → List D → Store → Prop) (hs : ∀ x xs acc S, I (x :: xs) acc S → wp (f x) S fun o S' => match o with | some d => I xs (acc ++ [d]) S' | none => I xs acc S') :
    ∀ (xs acc : List D) (S : Store) (Q : List D → Store → Prop), I xs acc S → (∀ ys S', I [] (acc ++ ys) S' → Q ys S') → wp (mapO f xs) S Q
  | [], acc, S, Q, h, k => k [] S (by rw [List.append_nil]; exact h)
  | x :: xs, acc, S, Q, h, k => by
    unfold mapO
    rw [wp_bnd]
    refine wp_mono (hs x xs acc S h) fun o S' h' => ?_
    cases o with
    | none => exact mapO_wp I hs xs acc S' Q h' k
    | some d =>
      show wp (bnd _ _) _ _
      rw [wp_bnd]
      exact mapO_wp I hs xs (acc ++ [d]) S' _ h' fun ys S'' h'' => k (d :: ys) S'' (by rw [List.append_assoc] at h''; exact h'')
/-- a loop -/
theorem forC_wp {asg : D → Ev → Option Ev} {body : Ev → (Ev → Mm D) → Mm D} (I : List D → Ev → Store → Prop) {k : Ev → Mm D} {Q : D → Store → Prop} (hk : ∀ ρ S, I [] ρ S → wp (k ρ) S Q)
    (hs : ∀ x xs ρ S (k : Ev → Mm D), I (x :: xs) ρ S → (∀ ρ' S', I xs ρ' S' → wp (k ρ') S' Q) → wp (bnd (opt (asg x ρ)) fun ρ1 => body ρ1 k) S Q) : ∀ (xs : List D) (ρ : Ev) (S : Store), I xs ρ S → wp (forC asg body xs ρ k) S Q
  | [], ρ, S, h => hk ρ S h
  | x :: xs, ρ, S, h => hs x xs ρ S _ h fun ρ' S' h' => forC_wp I hk hs xs ρ' S' h'
/-- .. that ends as data say -/
theorem forC_pure {asg : D → Ev → Option Ev} {body : Ev → (Ev → Mm D) → Mm D} {k : Ev → Mm D} {α : Type} (E : α → Ev) (f : α → D → α) (hs : ∀ x s (k : Ev → Mm D), (bnd (opt (asg x (E s))) fun ρ1 => body ρ1 k) = k (E (f s x))) :
    ∀ (xs : List D) (s : α), forC asg body xs (E s) k = k (E (xs.foldl f s))
  | [], s => rfl
  | x :: xs, s => by
    unfold forC
    rw [hs]
    exact forC_pure E f hs xs (f s x)
end PV

set_option Elab.async false
set_option linter.all false
set_option maxRecDepth 100000
set_option maxHeartbeats 4000000
/-! PvN: while an error is handled: the ends of walks. -/
namespace PV
open PySem PySem.Spec PyProof.Rows L2 HotX
section
variable {prog : Program} {w : World} {A : Around} {E : Value → Shared → Prop} {s : Shared}
/-- the error in hand is none of the things that are written -/
theorem hot_ne {x1 b : Addr} {h : Heap} {o : Obj} {vs : Array Value} (hot : HotAt A x1 h) (e : h.get? b = some o) (d : o.data = .fields vs) (z : vs.size ≤ 2) : x1 ≠ b := by
  rintro rfl
  obtain ⟨_, o1, us, e1, d1, c1⟩ := hot
  have q := Option.some.inj (e.symm.trans e1)
  subst q
  have q := Data.fields.inj (d.symm.trans d1)
  subst q
  have := (Array.getElem?_eq_some_iff.mp c1).1
  omega
theorem hot_up {x1 : Addr} {h h' : Heap} (hot : HotAt A x1 h) (k : ∀ o, h.get? x1 = some o → h'.get? x1 = some o) : HotAt A x1 h' := by
  obtain ⟨a, o1, us, e1, d1, c1⟩ := hot
  exact ⟨a, o1, us, k _ e1, d1, c1⟩
/-- the end of a walk is told while an error is handled -/
theorem stop_hot {α : Type} {x1 : Addr} {Q : α → Shared → Prop} (hot : HotAt A x1 s.heap)
    (hE : ∀ h' e, (∀ b o, s.heap.get? b = some o → h'.get? b = some o) → (∃ o, h'.get? e = some o ∧ o.cls = .type "StopIteration") → E (.ref e) { s with heap := h' }) :
    wpAny (model prog w) A (do let e ← newExc (.type "StopIteration") []; (raiseNew e : Sem α)) Q E s := by
  obtain ⟨hh, o1, us, e1, d1, c1⟩ := hot
  refine wpAny_bind ?_
  simp only [newExc, newTuple]
  refine wpAny_bind (wpAny_newObj_type ?_ (by size_fits))
  refine wpAny_bind (m := firstArgMember _ _) (wpAny_of_eq (a := Value.none) (by first | rfl | (simp only [firstArgMember]; rfl)) ?_)
  refine wpAny_newObj_type ?_ (by size_fits)
  refine raiseNew_hot ⟨hh, o1, us, Heap.get?_push_of_some _ (Heap.get?_push_of_some _ e1), d1, c1⟩ (Nat.ne_of_lt (Heap.lt_size (Heap.get?_push_of_some _ e1)))
    (Heap.get?_push_size _ rfl) rfl (by first | (simp; done) | (simp; omega) | (simp only [Array.size_append]; simp; omega)) ?_
  refine hE _ _ (fun b o e => ?_) ⟨_, Heap.get?_update_self _ (Heap.get?_push_size _ rfl) rfl, rfl⟩
  have lt := Heap.lt_size (Heap.get?_push_of_some { cls := .type "tuple", data := .seq ([] : List Value).toArray } e)
  rw [Heap.get?_update_other _ _ (Nat.ne_of_gt lt)]
  exact Heap.get?_push_of_some _ (Heap.get?_push_of_some _ e)
variable {x1 : Addr}
/-- a list's iterator at its end, by nextOf -/
theorem nextL_hot {it l : Addr} {i : Nat} {items : Array Value} {Q : Value → Shared → Prop} (hot : HotAt A x1 s.heap) (hi : s.heap.IsListIter it l i) (hl : s.heap.IsList l items) (hx : items[i]? = none)
    (hE : ∀ h' e, Heap.ExtBut it s.heap h' → (∃ o, h'.get? e = some o ∧ o.cls = .type "StopIteration") → E (.ref e) { s with heap := h' }) : wpAny (model prog w) A (Builtin.SmallTypes.nextOf (.ref it)) Q E s := by
  obtain ⟨oi, gi, _, di⟩ := id hi
  obtain ⟨ol, gl, _, nl, dl⟩ := hl
  have ne := hot_ne hot gi di (Nat.le_refl 2)
  unfold Builtin.SmallTypes.nextOf
  refine wpAny_bind (wpAny_callSpecial?_slot (name := Str.ofString "__next__") hi.typeIs slot_listiter_next (wpAny_call_entry slot_listiter_next hi.typeIs entry_listiter_next ?_ (args_listiter_next _)))
  refine wpAny_bind (m := field (.ref it) 0) (wpAny_field gi di (x := .ref l) rfl ?_)
  show wpAny _ _ (if (Value.ref l == Value.none) = true then _ else _) _ _ _
  rw [if_neg (by simp)]
  refine wpAny_bind (m := field (.ref it) 1) (wpAny_field gi di (x := .int i 0) rfl ?_)
  refine wpAny_bind (m := seqItems? (.ref l)) (wpAny_seqItems gl dl ?_)
  simp only [hx, Int.toNat_natCast]
  refine wpAny_bind (wpAny_rule (wpAny_bind (wpAny_setField gi di (by simp) ?_)))
  have sb : Heap.ExtBut it s.heap (s.heap.update it (Obj.mapFields (·.setIfInBounds 0 .none))) := (Heap.SameBut.update ..).extBut
  refine stop_hot (x1 := x1) (hot_up (A := A) hot fun o e => sb _ _ ne e) fun h' e k he => hE _ _ (fun b o hb q => k b o (sb b o hb q)) he
/-- a tuple's iterator at its end -/
theorem nextT_hot {it t : Addr} {i : Nat} {items : Array Value} {Q : Option Value → Shared → Prop} (hot : HotAt A x1 s.heap) (hi : IsTupIter s.heap it t i) (ht : IsTup s.heap t items) (hx : items[i]? = none)
    (hQ : ∀ h', Heap.ExtBut it s.heap h' → Q none { s with heap := h' }) : wpAny (model prog w) A (pyNext (.ref it)) Q E s := by
  obtain ⟨oi, gi, _, di⟩ := id hi
  obtain ⟨ol, gl, _, nl, dl⟩ := ht
  have ne := hot_ne hot gi di (Nat.le_refl 2)
  unfold pyNext
  refine wpAny_bind (wpAny_attempt (wpAny_callSpecial?_slot (name := Str.ofString "__next__") hi.typeIs slot_tupleiter_next (wpAny_call_entry slot_tupleiter_next hi.typeIs entry_tupleiter_next ?_ (args_tupleiter_next _))))
  refine wpAny_bind (m := field (.ref it) 0) (wpAny_field gi di (x := .ref t) rfl ?_)
  show wpAny _ _ (if (Value.ref t == Value.none) = true then _ else _) _ _ _
  rw [if_neg (by simp)]
  refine wpAny_bind (m := field (.ref it) 1) (wpAny_field gi di (x := .int i 0) rfl ?_)
  refine wpAny_bind (m := seqItems? (.ref t)) (wpAny_seqItems gl dl ?_)
  simp only [hx, Int.toNat_natCast]
  refine wpAny_bind (wpAny_rule (wpAny_bind (wpAny_setField gi di (by simp) ?_)))
  have sb : Heap.ExtBut it s.heap (s.heap.update it (Obj.mapFields (·.setIfInBounds 0 .none))) := (Heap.SameBut.update ..).extBut
  refine stop_hot (x1 := x1) (hot_up (A := A) hot fun o e => sb _ _ ne e) fun h' e k ⟨o, ho, hc⟩ => ?_
  refine wpAny_bind (wpAny_isInstance (T := "StopIteration") (b := true) ⟨o, ho, hc⟩ isSubtype_stop ?_)
  exact wpAny_pure (hQ _ fun b o hb q => k b o (sb b o hb q))
theorem items_hot {t : Addr} {items : Array Value} {Q : List Value → Shared → Prop} (hot : HotAt A x1 s.heap) (ht : IsTup s.heap t items) (hQ : ∀ h', Heap.ExtBut s.heap.objs.size s.heap h' → Q items.toList { s with heap := h' }) :
    wpAny (model prog w) A (unpackItems (.ref t) items.size none) Q E s := by
  obtain ⟨ot, gt, _⟩ := id ht
  have lt : t ≠ s.heap.objs.size := Nat.ne_of_lt (Heap.lt_size gt)
  have lx : x1 ≠ s.heap.objs.size := by
    obtain ⟨_, o1, _, e1, _⟩ := id hot
    exact Nat.ne_of_lt (Heap.lt_size e1)
  unfold unpackItems
  refine wpAny_bind ?_
  unfold notIterableAtAll
  refine wpAny_bind (wpAny_specialOf ht.typeIs slot_tuple_iter.lookup (wpAny_pure ?_))
  simp only [Bool.false_eq_true, if_false]
  refine wpAny_bind (wpAny_holding (iter_tuple ht (wpAny_bind (wpAny_holding (draw_tuple lt items.size 0 _ _ ⟨_, Heap.get?_push_size _ rfl, rfl, rfl⟩ (ht.push _) (by omega) fun h1 hit1 sb1 => ?_)))))
  have all : List.take items.size (List.drop 0 items.toList) = items.toList := by
    rw [List.drop_zero]
    exact List.take_of_length_le (by simp)
  rw [all, if_neg (by simp)]
  have hk : ∀ b o, b ≠ s.heap.objs.size → s.heap.get? b = some o → h1.get? b = some o := fun b o hb e => sb1.extBut b o hb (Heap.get?_push_of_some _ e)
  refine wpAny_bind (wpAny_holding (nextT_hot (x1 := x1) (hot_up hot fun o e => hk _ _ lx e) hit1 ((ht.push _).extBut sb1.extBut lt) (by simp) fun h2 sb2 => ?_))
  simp only [Option.isSome_none, Bool.false_eq_true, if_false]
  exact wpAny_pure (hQ h2 fun b o hb e => sb2 b o hb (hk b o hb e))
theorem asgTup_hot {env : Env} {elts : List Expr} {k : Nat} {pos : Pos} {t : Addr} {items : Array Value} {Q : Unit → Shared → Prop} (hot : HotAt A x1 s.heap) (ht : IsTup s.heap t items) (hn : (assignEach elts env).length = items.size) (hs : (assignEach elts env).findIdx? (·.1) = none)
    (h : ∀ h', Heap.ExtBut s.heap.objs.size s.heap h' → wpAny (model prog w) A (assignInOrder ((assignEach elts env).map (·.2)) items.toList) Q E { s with heap := h' }) : wpAny (model prog w) A (assign (.Tuple elts k pos) env (.ref t)) Q E s := by
  rw [assign_Tuple]
  refine wpAny_bind (wpAny_standAt ?_)
  unfold unpack
  rw [hn, hs]
  exact wpAny_bind (wpAny_holding (items_hot hot ht h))
/-- zip at the end of its first list -/
theorem zipEnd_hot {z TI TO i1 i2 l1 : Addr} {k1 : Nat} {xs : Array Value} {Q : Option Value → Shared → Prop} (hot : HotAt A x1 s.heap) (nz : x1 ≠ z) (zi : i1 ≠ z) (lz : l1 ≠ z) (hz : IsZip s.heap z TI TO .none) (hTI : IsPair s.heap TI (.ref i1) (.ref i2))
    (h1 : s.heap.IsListIter i1 l1 k1) (hl1 : s.heap.IsList l1 xs) (hx : xs[k1]? = none) (hQ : ∀ h', (∀ c o, c ≠ z → c ≠ i1 → s.heap.get? c = some o → h'.get? c = some o) → Q none { s with heap := h' }) : wpAny (model prog w) A (pyNext (.ref z)) Q E s := by
  have hT : s.TypeIs (.ref z) "zip" := ⟨_, hz, rfl⟩
  unfold pyNext
  refine wpAny_bind (wpAny_attempt (wpAny_callSpecial?_slot (name := Str.ofString "__next__") hT F.slot_zip_next (wpAny_call_entry F.slot_zip_next hT F.entry_zip_next ?_ (F.args_zip_next_1 _))))
  refine wpAny_bind (m := field (.ref z) 2) (wpAny_field hz rfl (x := .bool false) rfl ?_)
  refine wpAny_bind (m := field (.ref z) 3) (wpAny_field hz rfl (x := .ref TI) rfl ?_)
  refine wpAny_bind (wpAny_seqItems hTI rfl ?_)
  refine wpAny_bind (m := Builtin.SmallTypes.ownedTupleIsFree (.ref z)) ?_
  unfold Builtin.SmallTypes.ownedTupleIsFree
  refine wpAny_bind (wpAny_field hz rfl (x := .none) rfl (wpAny_pure ?_))
  simp only [if_true]
  refine wpAny_bind (wpAny_rule (wpAny_bind (wpAny_field hz rfl (x := .ref TO) rfl (wpAny_bind (wpAny_setField_rec hz (by simp) fun g1 gz1 sb1 => ?_)))))
  have gz1 : IsZip g1 z TI TO .ellipsis := gz1
  refine wpAny_bind ?_
  simp only [List.zipIdx_cons, List.zipIdx_nil, List.forIn_cons, List.forIn_nil]
  refine wpAny_bind (wpAny_bind (wpAny_onRaise ?_))
  refine wpAny_bind (m := Builtin.SmallTypes.nextOf (.ref i1)) (nextL_hot (x1 := x1) (hot_up (A := A) hot fun o e => sb1.extBut _ _ nz e) (h1.extBut sb1.extBut zi) (hl1.extBut sb1.extBut lz) hx fun g2 e sb2 he => ?_)
  obtain ⟨oe, ge, ce⟩ := he
  have gz2 : IsZip g2 z TI TO .ellipsis := sb2 _ _ zi.symm gz1
  have ez : e ≠ z := by
    rintro rfl
    rw [gz2] at ge
    cases ge
    simp at ce
  refine wpAny_setField_rec gz2 (by simp) fun g3 _ sb3 => ?_
  refine wpAny_bind (wpAny_isInstance (T := "StopIteration") (b := true) ⟨oe, sb3.extBut _ _ ez ge, ce⟩ isSubtype_stop ?_)
  exact wpAny_pure (hQ _ fun c o c1 c2 q => sb3.extBut _ _ c1 (sb2 _ _ c2 (sb1.extBut _ _ c1 q)))
end
end PV

set_option Elab.async false
set_option linter.all false
set_option maxRecDepth 100000
set_option maxHeartbeats 4000000
/-! PvO: while an error is handled: [a for a, b in zip(xs, bs) if b]. -/
namespace PV
open PySem PySem.Spec PyProof.Rows L2 L2H HotX
/-- those that are marked -/
def selV : List V → List Bool → List V
  | v :: vs, b :: bs => if b = true then v :: selV vs bs else selV vs bs
  | _, _ => []
theorem selV_take : ∀ {vs : List V} {bs : List Bool} {i : Nat} {v : V} {b : Bool}, vs[i]? = some v → bs[i]? = some b → selV (vs.take (i + 1)) (bs.take (i + 1)) = selV (vs.take i) (bs.take i) ++ (if b = true then [v] else [])
  | [], _, i, v, b, h, _ => by simp at h
  | _ :: _, [], i, v, b, _, h => by simp at h
  | u :: us, c :: cs, 0, v, b, h, k => by
    simp at h k
    subst h k
    simp only [List.take_succ_cons, List.take_zero, selV]
    split <;> rfl
  | u :: us, c :: cs, i + 1, v, b, h, k => by
    have ih := selV_take (vs := us) (bs := cs) (i := i) (v := v) (b := b) (by simpa using h) (by simpa using k)
    rw [List.take_succ_cons, List.take_succ_cons, selV, ih, List.take_succ_cons, List.take_succ_cons, selV]
    split <;> rfl
theorem selV_len : ∀ (vs : List V) (bs : List Bool), (selV vs bs).length ≤ vs.length
  | [], _ => by simp [selV]
  | _ :: _, [] => by simp [selV]
  | v :: vs, b :: bs => by
    have := selV_len vs bs
    unfold selV
    split <;> simp <;> omega
section
variable {X : Cx}
theorem lc_hot {e1 e2 : Expr} {ta : TA} {na nb : Str} {i j : Nat} {scope : Scope} {own : List (Str × Nat)} {p1 p2 p3 p4 p5 p6 p7 pos : Pos} {k : Nat} (hc : HotC X) (hN : X.N.Nodup) (hg : Gl X "zip") (hm : X.mg "zip" = none) (ha : PA X [e1, e2] ta)
    (hs : starEach [e1, e2] X.env = (false, eval e1 X.env) :: starEach [e2] X.env) (hpl : (backTo p4 (starEach [e2] X.env)).any (·.1) = false) (ok : BlkOk X.N X.env.scope scope own) (hi : X.N[i]? = some na) (hj : X.N[j]? = some nb) (hij : i ≠ j)
    (oi : i ∈ own.map (·.2)) (oj : j ∈ own.map (·.2)) (la : (relS scope X.env.scope).names.lookup na = some .local) (lb : (relS scope X.env.scope).names.lookup nb = some .local)
    (n1 : (na == ("__debug__" : Str)) = false ∧ (na == ("__classdict__" : Str)) = false) (n2 : (nb == ("__debug__" : Str)) = false ∧ (nb == ("__classdict__" : Str)) = false) :
    PE X (.ListComp (.Name na p1) [⟨.Tuple [.Name na p2, .Name nb p3] k p5, .Call (.Name "zip" p6) [e1, e2] [] p4, [.Name nb p7], 0⟩] scope pos)
      (fun σ H Q => ta σ H fun vs H1 => ∃ a b ws bs, vs = [.ref a, .ref b] ∧ SqL X.K H1 a ws ∧ SqL X.K H1 b (bs.map V.bl) ∧ ws.length = bs.length ∧ ws.length < sizeLine ∧ ∀ D, H1 D = none → Q (.ref D) (upd H1 D (.lst (selV ws bs)))) := by
  refine ⟨fun pins s σ H Q I h => ?_⟩
  have free : ∀ y ∈ scope.names, y.2 = .free → ∃ c, X.env.cells.lookup y.1 = some c := fun y hy e => (ok.free y hy e).elim (fun z => I.ok.has _ (.inl z)) (fun z => I.ok.has _ (.inr z))
  rw [eval_ListComp]
  refine wpAny_comprehension_free (use := none) rfl (fun _ => rfl) (closure_ok free) ok.kind (fun y hy e => by rw [ok.uniq y hy, e]) ?_
  refine Call_ (ld_blt I hg hm boot_zip (callWith_type1 (thn (ha.run p4 pins s σ H _ I h) fun us s1 ⟨vs, H1, I1, r1, q1⟩ => ?_) hs hpl))
  obtain ⟨a, b, ws, bs, rfl, sa, sb, hlen, hz, q⟩ := q1
  cases r1 with
  | cons r rr =>
  cases rr with
  | cons r' rr =>
  cases rr
  cases r
  cases r'
  obtain ⟨its, rv, t1, _⟩ := I1.list sa
  obtain ⟨its2, rv2, t2, _⟩ := I1.list sb
  have lta := t1.lt
  have ltb := t2.lt
  refine call_zip_2 t1.isList t2.isList fun g hzp hTI hTO h1 h2 hsz hk => wpAny_pyIter_zip hzp ?_
  have I2 : Inv X pins σ H1 { s1 with heap := g } := I1.kept (t' := s1.toks) hk
  have t1' := t1.isList
  have t2' := t2.isList
  have L1 : g.IsList a its.toArray := t1'.at fun o e => hk _ o e
  have L2' : g.IsList b its2.toArray := t2'.at fun o e => hk _ o e
  have AP := PySem.W.ktu_apart s1.heap.objs.size a b lta ltb
  generalize hfp : [s1.heap.objs.size + 4, s1.heap.objs.size + 2, s1.heap.objs.size + 3, s1.heap.objs.size, s1.heap.objs.size + 1] = fp
  have fpge : ∀ c ∈ fp, s1.heap.objs.size ≤ c ∧ c < g.objs.size := fun c hcm => by
    subst hfp
    simp only [List.mem_cons, List.not_mem_nil, or_false] at hcm
    rw [hsz]
    have dd : ∀ n m : Nat, (n : Addr) = m → n = m := fun _ _ e => e
    constructor
    · rcases hcm with z | z | z | z | z <;> rw [z] <;> first | exact Nat.le_refl _ | exact Nat.le_add_right _ _
    · rcases hcm with z | z | z | z | z <;> rw [z] <;> first | exact Nat.lt_add_of_pos_right (by decide) | exact Nat.add_lt_add_left (by decide) _
  have I3 : Inv X pins σ (upd H1 g.objs.size (.lst [])) { s1 with heap := g.push { cls := .type "list", data := .seq ([] : List Value).toArray } } :=
    I2.laid (t' := s1.toks) (fun b o e => Heap.get?_push_of_some _ e) (Nat.le_refl _) ⟨Nat.zero_le _, [], 0, .nil, Heap.get?_push_size _ rfl⟩
  have nD : H1 g.objs.size = none := I2.hok.fresh (Nat.le_refl _)
  have f3 : ∀ c ∈ fp, FpOk X pins (upd H1 g.objs.size (.lst [])) c ∧ c < (g.push { cls := .type "list", data := .seq ([] : List Value).toArray }).objs.size := fun c hcm => by
    obtain ⟨ge, lt⟩ := fpge c hcm
    have F := I1.fpOk ge (I1.hok.fresh ge)
    exact ⟨⟨by rw [upd_ne (Nat.ne_of_lt lt)]; exact F.1, F.2⟩, by rw [Heap.size_push]; exact Nat.lt_succ_of_lt lt⟩
  refine wpAny_newObj_type (newEnv_comp ?_) (show 0 ≤ sizeLine by decide)
  have I4 := block_start I3 ok hN f3
  have kp : ∀ b o, g.get? b = some o → (pushCells ((g.push { cls := .type "list", data := .seq ([] : List Value).toArray }).push { cls := .type "dict", data := .dict #[] }) scope.names).get? b = some o := fun b o e =>
    pushCells_keeps _ _ _ _ (Heap.get?_push_of_some _ (Heap.get?_push_of_some _ e))
  generalize hs3 : ({ s1 with heap := g.push { cls := .type "list", data := .seq ([] : List Value).toArray } } : Shared) = s3 at I3 I4
  have h3 : s3.heap = g.push { cls := .type "list", data := .seq ([] : List Value).toArray } := by rw [← hs3]
  have f3 : ∀ c ∈ fp, FpOk X pins (upd H1 g.objs.size (.lst [])) c ∧ c < s3.heap.objs.size := by rw [h3]; exact f3
  have kp : ∀ b o, g.get? b = some o → (pushCells (s3.heap.push { cls := .type "dict", data := .dict #[] }) scope.names).get? b = some o := by rw [h3]; exact kp
  show codeAny _ _ (.compStart _ 0 (.ref (s1.heap.objs.size + 4)) (.ref g.objs.size) (compEnvC scope (cellsFrom (s3.heap.objs.size + 1) scope.names (cloFrom X.env.cells scope.names [])) s3.heap.objs.size X.env)) (compPost (model X.prog X.w) X.A X.xe none _ (.ref g.objs.size) s3.heap.objs.size) { s3 with heap := pushCells (s3.heap.push { cls := .type "dict", data := .dict #[] }) scope.names }
  generalize hce : compEnvC scope (cellsFrom (s3.heap.objs.size + 1) scope.names (cloFrom X.env.cells scope.names [])) s3.heap.objs.size X.env = ce at I4 ⊢
  have cL : ce.locals = s3.heap.objs.size := by subst hce; rfl
  have cS : ce.scope = relS scope X.env.scope := by subst hce; rfl
  generalize hs4 : ({ s3 with heap := pushCells (s3.heap.push { cls := .type "dict", data := .dict #[] }) scope.names } : Shared) = s4 at I4 ⊢
  have kp : ∀ b o, g.get? b = some o → s4.heap.get? b = some o := by rw [← hs4]; exact kp
  generalize hH3 : upd H1 g.objs.size (.lst []) = H3 at I3 I4 f3
  have nfp : ∀ c ∈ fp, H3 c = none := fun c hcm => (f3 c hcm).1.1
  -- the walk's things at a turn
  let tn : Nat → Heap → Prop := fun n h => IsZip h (s1.heap.objs.size + 4) (s1.heap.objs.size + 2) (s1.heap.objs.size + 3) .none ∧ IsPair h (s1.heap.objs.size + 2) (.ref s1.heap.objs.size) (.ref (s1.heap.objs.size + 1)) ∧ (∃ x y, IsPair h (s1.heap.objs.size + 3) x y) ∧
    h.IsListIter s1.heap.objs.size a n ∧ h.IsListIter (s1.heap.objs.size + 1) b n
  have tkeep : ∀ n h h', tn n h → (∀ c ∈ fp, ∀ o, h.get? c = some o → h'.get? c = some o) → tn n h' := fun n h h' ⟨x1, x2, ⟨u, v, x3⟩, x4, x5⟩ kk => by
    subst hfp
    exact ⟨kk _ (by simp) _ x1, kk _ (by simp) _ x2, ⟨u, v, kk _ (by simp) _ x3⟩, x4.at fun o e => kk _ (by simp) o e, x5.at fun o e => kk _ (by simp) o e⟩
  have tobj : ∀ n h, tn n h → ∀ c ∈ fp, ∃ o, h.get? c = some o ∧ ∀ v, o.data ≠ .cell v := fun n h ⟨x1, x2, ⟨u, v, x3⟩, ⟨o4, x4, _, d4⟩, ⟨o5, x5, _, d5⟩⟩ c hcm => by
    subst hfp
    simp only [List.mem_cons, List.not_mem_nil, or_false] at hcm
    rcases hcm with z | z | z | z | z <;> subst z
    · exact ⟨_, x1, fun v q => nomatch q⟩
    · exact ⟨_, x2, fun v q => nomatch q⟩
    · exact ⟨_, x3, fun v q => nomatch q⟩
    · exact ⟨o4, x4, fun v q => by rw [d4] at q; cases q⟩
    · exact ⟨o5, x5, fun v q => by rw [d5] at q; cases q⟩
  have st4 : tn 0 s4.heap := tkeep 0 g _ ⟨hzp, hTI, ⟨_, _, hTO⟩, h1, h2⟩ fun c _ o e => kp c o e
  have back : ∀ {H' : Hp} {s' : Shared} {ps : List (Addr × Obj)}, Inv (X.blk s3 H3 scope ce fp) ps (wipe σ (own.map (·.2))) H' s' → Inv X pins σ H' s' := fun {H' s' ps} I' =>
    I3.call' (ch := fp) I'.os I'.base I'.hok I'.bare fun c hcm => by
      obtain ⟨z0, z1, z2, z3, z4, z5⟩ := (f3 c hcm).1
      exact ⟨z3, z1, z4, z5⟩
  have stat : ∀ {σ' : L2.St} {H' : Hp} {s' : Shared}, Inv (X.blk s3 H3 scope ce fp) [] σ' H' s' → (∀ c ∈ fp, H' c = none) → ∀ c ∈ fp, FpOk (X.blk s3 H3 scope ce fp) [] H' c := fun {σ' H' s'} I' hn c hcm =>
    ⟨hn c hcm, (I'.ok.exf c hcm).1, I'.ok.exfs c hcm, .inl hcm, fun x d e => (I'.ok.exf c hcm).2 x d e, fun p hp => absurd (show p ∈ ([] : List (Addr × Obj)) ++ [] from hp) (by simp)⟩
  obtain ⟨p, hot1, pm⟩ := hc
  have hotAt : ∀ {H' : Hp} {s' : Shared} {ps : List (Addr × Obj)} {σ' : L2.St}, Inv X ps σ' H' s' → HotAt X.A p.1 s'.heap := fun {H' s' ps σ'} I' => by
    obtain ⟨z1, us, z2, z3⟩ := hot1
    exact ⟨z1, p.2, us, (I'.pin p (List.mem_append_left _ pm)).1, z2, z3⟩
  have pne : ∀ c ∈ fp, p.1 ≠ c := fun c hcm => (f3 c hcm).1.2.2.2.2.2 p (List.mem_append_left _ pm)
  have nfpA : ∀ acc : List V, ∀ c ∈ fp, (upd H1 g.objs.size (.lst acc)) c = none := fun acc c hcm => by
    obtain ⟨ge, lt⟩ := fpge c hcm
    rw [upd_ne (Nat.ne_of_lt lt)]
    exact I1.hok.fresh ge
  have sq : ∀ {c : Addr} {xs : List V} (acc : List V), SqL X.K H1 c xs → SqL X.K (upd H1 g.objs.size (.lst acc)) c xs := fun {c xs} acc z => by
    rcases z with z | z
    · left
      rcases z with z | ⟨o, z⟩
      · exact .inl (by rw [upd_ne (ne_of_none z nD)]; exact z)
      · exact .inr ⟨o, by rw [upd_ne (ne_of_none z nD)]; exact z⟩
    · exact .inr z
  have loop : codeAny (model X.prog X.w) X.A (.compLoop (.ListComp (.Name na p1) [⟨.Tuple [.Name na p2, .Name nb p3] k p5, .Call (.Name "zip" p6) [e1, e2] [] p4, [.Name nb p7], 0⟩] scope pos) 0 (.ref (s1.heap.objs.size + 4)) (.ref g.objs.size) ce)
      (compPost (model X.prog X.w) X.A X.xe none (EP X pins σ Q) (.ref g.objs.size) s3.heap.objs.size) s4 := by
    refine compLoop_any (fun n s' => ∃ i, i + n = ws.length ∧ Inv (X.blk s3 H3 scope ce fp) [] (wipe σ (own.map (·.2))) (upd H1 g.objs.size (.lst (selV (ws.take i) (bs.take i)))) s' ∧ tn i s'.heap) ?_ ws.length ⟨0, Nat.zero_add _, by rw [List.take_zero, List.take_zero, show selV [] [] = [] from rfl, hH3]; exact I4, st4⟩
    rintro n s5 ⟨m, hmn, I5, st5⟩
    have hm : H3 = H3 := rfl
    obtain ⟨z1, z2, ⟨u0, v0, z3⟩, z4, z5⟩ := id st5
    obtain ⟨ia, ra, ta1, _⟩ := I5.list (sq _ sa)
    obtain ⟨ib, rb, tb1, _⟩ := I5.list (sq _ sb)
    have lla := ra.length
    have llb := rb.length
    rw [List.length_map] at llb
    have I5' := back I5
    have hot5 := hotAt I5'
    by_cases hn : n = 0
    · -- the end
      subst hn
      have hme : m = ws.length := by omega
      refine zipEnd_hot hot5 (pne _ (by subst hfp; simp)) AP.i1z AP.l1z z1 z2 z4 ta1.isList (by simp; omega) fun h6 k6 => ?_
      have I6 : Inv (X.blk s3 H3 scope ce fp) [] (wipe σ (own.map (·.2))) (upd H1 g.objs.size (.lst (selV (ws.take m) (bs.take m)))) { s5 with heap := h6 } :=
        I5.turnedL (t' := s5.toks) (ch := fp) (fun c o hb q => k6 c o (fun e => hb (by subst hfp; simp [e])) (fun e => hb (by subst hfp; simp [e])) q) (stat I5 (nfpA _))
      have I7 := back I6
      obtain ⟨mm, hns, _⟩ := I6.loc
      have hns : h6.Ns ce.locals mm := hns
      rw [cL] at hns
      have nC : (upd H1 g.objs.size (.lst (selV (ws.take m) (bs.take m)))) s3.heap.objs.size = none := by
        have z : (upd H1 g.objs.size (.lst (selV (ws.take m) (bs.take m)))) ce.locals = none := I6.free
        rwa [cL] at z
      obtain ⟨y0, y1, y2, y3, y4, y5⟩ := I3.fpOk (Nat.le_refl _) nC
      refine ⟨mm, hns, fun h7 sb => ⟨.ref g.objs.size, _, I7.turned (t' := s5.toks) (fun c o hb e => (sb.2 c hb).trans e) y0 y1 y3 y4 y5, rfl, ?_⟩⟩
      rw [hme, List.take_length, hlen, List.take_length]
      exact q _ nD
    · -- a turn
      obtain ⟨n, rfl⟩ : ∃ n', n = n' + 1 := ⟨n - 1, by omega⟩
      obtain ⟨v, hv⟩ : ∃ v, ws[m]? = some v := ⟨ws[m]'(by omega), List.getElem?_eq_getElem _⟩
      obtain ⟨bb, hb⟩ : ∃ v, bs[m]? = some v := ⟨bs[m]'(by omega), List.getElem?_eq_getElem _⟩
      obtain ⟨u, hu, ru⟩ := ra.get hv
      obtain ⟨u2, hu2, ru2⟩ := rb.get (show (bs.map V.bl)[m]? = some (V.bl bb) by rw [List.getElem?_map, hb]; rfl)
      refine wpAny_pyNext_zip_item AP z1 z2 z3 z4 z5 ta1.isList tb1.isList (x := u) (y := u2) (by simpa using hu) (by simpa using hu2) fun h6 a1 a2 a3 a4 a5 a6 a7 => ?_
      refine wpAny_letOwnedTupleGo_zip (s := { s5 with heap := h6 }) a1 fun h7 b1 sb7 => ?_
      have zlt : s1.heap.objs.size + 4 < s5.heap.objs.size := Heap.lt_size z1
      have k7 : ∀ c o, c ∉ fp → s5.heap.get? c = some o → h7.get? c = some o := fun c o hb e => by
        subst hfp
        simp only [List.mem_cons, List.not_mem_nil, or_false, not_or] at hb
        exact (sb7.2 c hb.1).trans (a7 c o hb.1 hb.2.2.1 hb.2.2.2.1 hb.2.2.2.2 e)
      have T7 : IsTup h7 s5.heap.objs.size #[u, u2] := ⟨_, (sb7.2 _ (Nat.ne_of_gt zlt)).trans a5, rfl, _, rfl⟩
      have tn7 : tn (m + 1) h7 := by
        refine ⟨b1, ?_, ⟨u, u2, ?_⟩, ?_, ?_⟩
        · exact (sb7.2 _ AP.TIz).trans (a7 _ _ AP.TIz AP.TITO AP.TIi1 AP.TIi2 z2)
        · exact (sb7.2 _ AP.TOz).trans a2
        · exact a3.at fun o q => (sb7.2 _ AP.i1z).trans q
        · exact a4.at fun o q => (sb7.2 _ AP.i2z).trans q
      have I7 : Inv (X.blk s3 H3 scope ce fp) [] (wipe σ (own.map (·.2))) (upd H1 g.objs.size (.lst (selV (ws.take m) (bs.take m)))) { s5 with heap := h7 } := I5.turnedL (t' := s5.toks) (ch := fp) k7 (stat I5 (nfpA _))
      have hot7 : HotAt X.A p.1 h7 := hotAt (back I7)
      refine asgTup_hot (s := { s5 with heap := h7 }) hot7 T7 rfl rfl fun h8 x8 => ?_
      have I8 : Inv (X.blk s3 H3 scope ce fp) [] (wipe σ (own.map (·.2))) (upd H1 g.objs.size (.lst (selV (ws.take m) (bs.take m)))) { s5 with heap := h8 } := I7.kept (t' := s5.toks) fun c o e => x8 c o (Nat.ne_of_lt (Heap.lt_size e)) e
      have tn8 : tn (m + 1) h8 := tkeep _ _ _ tn7 fun c hcm o e => x8 c o (Nat.ne_of_lt (Heap.lt_size e)) e
      have I8' := I8.pinned (stat I8 (nfpA _)) (tobj _ _ tn8)
      have lca : Loc ce.scope na := .inl (by rw [cS]; exact la)
      have lcb : Loc ce.scope nb := .inl (by rw [cS]; exact lb)
      have pg := pgs_cons (X := X.blk s3 H3 scope ce fp) (pg_name (pos := p2) hN hi lca (.inr (by rw [cS]; exact la))) (pgs_cons (pg_name (pos := p3) hN hj lcb (.inr (by rw [cS]; exact lb))) pgs_nil)
      refine thnF (pg.run _ { s5 with heap := h8 } _ _ [v, .bl bb] [u, u2] (fun σ' H' => σ' = ((wipe σ (own.map (·.2))).set i (some v)).set j (some (.bl bb)) ∧ H' = upd H1 g.objs.size (.lst (selV (ws.take m) (bs.take m)))) I8' (.cons ru (.cons ru2 .nil)) ⟨v, _, rfl, _, _, rfl, rfl, rfl, rfl⟩) fun _ s9 hh => ?_
      obtain ⟨σ9, H9, I9, e9, e9'⟩ := hh
      subst e9 e9'
      have vla : Vis ce.scope na := .inl (by rw [cS]; exact la)
      have vlb : Vis ce.scope nb := .inl (by rw [cS]; exact lb)
      have hL : (wipe σ (own.map (·.2))).length = X.N.length := I5.len
      have ilt : i < (wipe σ (own.map (·.2))).length := by rw [hL]; exact (List.getElem?_eq_some_iff.mp hi).1
      have jlt : j < (wipe σ (own.map (·.2))).length := by rw [hL]; exact (List.getElem?_eq_some_iff.mp hj).1
      have gj : (((wipe σ (own.map (·.2))).set i (some v)).set j (some (.bl bb)))[j]? = some (some (.bl bb)) := by
        rw [List.getElem?_set_self (by rw [List.length_set]; exact jlt)]
      have gi : (((wipe σ (own.map (·.2))).set i (some v)).set j (some (.bl bb)))[i]? = some (some v) := by
        rw [List.getElem?_set_ne (fun e => hij e.symm), List.getElem?_set_self ilt]
      have pt := pts_one (X := X.blk s3 H3 scope ce fp) (pt_val (pe_var (pos := p7) (i := j) hj vlb n2.1 n2.2) (plainT rfl))
      refine thnF (pt.run _ s9 _ _ (fun r H' => r = bb ∧ H' = upd H1 g.objs.size (.lst (selV (ws.take m) (bs.take m)))) I9 ⟨_, gj, bb, rfl, rfl, rfl⟩) fun r s10 hh => ?_
      obtain ⟨H10, I10, e10, e10'⟩ := hh
      subst e10 e10'
      have fin : ∀ {s' : Shared} {acc : List V}, Inv (X.blk s3 H3 scope ce fp) ([] ++ pinsAt fp h8) (((wipe σ (own.map (·.2))).set i (some v)).set j (some (.bl r))) (upd H1 g.objs.size (.lst acc)) s' → acc = selV (ws.take (m + 1)) (bs.take (m + 1)) →
          ∃ q, q < n + 1 ∧ ∃ i, i + q = ws.length ∧ Inv (X.blk s3 H3 scope ce fp) [] (wipe σ (own.map (·.2))) (upd H1 g.objs.size (.lst (selV (ws.take i) (bs.take i)))) s' ∧ tn i s'.heap := fun {s' acc} I' e => by
        subst e
        have pin' : ∀ c ∈ fp, ∀ o, h8.get? c = some o → s'.heap.get? c = some o := fun c hcm o e => (I'.pin (c, o) (List.mem_append_right _ (List.mem_append_right _ (mem_pinsAt hcm e)))).1
        have un := I'.unpinned (pins := [])
        refine ⟨n, Nat.lt_succ_self _, m + 1, by omega, un.weak (by rw [List.length_set, List.length_set]) (fun c x e => ?_), tkeep _ _ _ tn8 fun c hcm o e => pin' c hcm o e⟩
        obtain ⟨w1, w2⟩ := wipe_some e
        have ci : i ≠ c := fun z => w2 (z ▸ oi)
        have cj : j ≠ c := fun z => w2 (z ▸ oj)
        rw [List.getElem?_set_ne cj, List.getElem?_set_ne ci]
        exact e
      have st := selV_take hv hb
      cases r with
      | false =>
        simp only [Bool.false_eq_true, if_false] at st ⊢
        exact fin I10 (by rw [st, List.append_nil])
      | true =>
        simp only [if_true] at st ⊢
        have pe := pe_var (X := X.blk s3 H3 scope ce fp) (pos := p1) (i := i) hi vla n1.1 n1.2
        refine thnF (pe.run _ s10 _ _ (fun y H' => y = v ∧ H' = upd H1 g.objs.size (.lst (selV (ws.take m) (bs.take m)))) I10 ⟨_, gi, rfl, rfl⟩) fun y s11 hh => ?_
        obtain ⟨yv, H11, I11, r11, e11, e11'⟩ := hh
        subst e11 e11'
        have hle := selV_len (ws.take m) (bs.take m)
        have hle2 : (ws.take m).length ≤ ws.length := by rw [List.length_take]; exact Nat.min_le_right _ _
        refine app_ok (X := X.blk s3 H3 scope ce fp) I11 (upd_same ..) (by omega) r11 fun s12 I12 => ?_
        have eu : upd (upd H1 g.objs.size (.lst (selV (ws.take m) (bs.take m)))) g.objs.size (.lst (selV (ws.take m) (bs.take m) ++ [yv])) = upd H1 g.objs.size (.lst (selV (ws.take m) (bs.take m) ++ [yv])) := by
          funext c
          by_cases z : c = g.objs.size
          · rw [z, upd_same, upd_same]
          · rw [upd_ne z, upd_ne z, upd_ne z]
        rw [eu] at I12
        exact fin I12 st.symm
  exact codeAny_compStart_list loop (wpAny_pyIter_zip st4.1 loop)
end
end PV

set_option Elab.async false
set_option linter.all false
set_option maxRecDepth 100000
set_option maxHeartbeats 4000000
/-! PvTa: try, with several clauses that each give the error a name. -/
namespace PV
open PySem PySem.Spec PyProof.Rows L2 L2N
/-- what stands behind such a suite: the name goes -/
def endsG (i : Nat) (D : Ends) : Ends := { nx := fun σ H => D.nx (σ.set i none) H, rt := D.rt, bk := fun σ H => D.bk (σ.set i none) H, ct := fun σ H => D.ct (σ.set i none) H }
/-- what the clauses wish of an error, one after another -/
def wAll (K : PySem.W.Frag) (i : Nat) (Wout : WX) (D : Ends) : List (Value × (Addr → Value → Option Addr → TS)) → WX
  | [] => Wout
  | (c, ts) :: r => fun cls d σ H => ∃ b, PySem.W.exmOne K cls c = some b ∧ (b = true → ∀ a, H a = none → ts a cls d (endsG i D) (σ.set i (some (.ref a))) H) ∧ (b = false → wAll K i Wout D r cls d σ H)
inductive AllOk (X : Cx) (n : Str) : List ExceptHandler → List (Value × (Addr → Value → Option Addr → TS)) → Prop
  | nil : AllOk X n [] []
  | cons {x : Str} {c : Value} {ts : Addr → Value → Option Addr → TS} {b₀ : Stmt} {suite : List Stmt} {np hp : Pos} {hds : List ExceptHandler} {l : List (Value × (Addr → Value → Option Addr → TS))} (hc : Names X x c)
      (hsu : ∀ (a : Addr) (oe : Obj) (cls : Value) (d : Option Addr) (pn : List (Addr × Obj)), Zn cls d oe → (∃ vs, oe.data = .fields vs) → PSs (X.suite a ((a, oe) :: pn)) (b₀ :: suite) (ts a cls d)) (r : AllOk X n hds l) : AllOk X n (.ExceptHandler (some (.Name x np)) (some n) (b₀ :: suite) hp :: hds) ((c, ts) :: l)
section
variable {X : Cx} {n : Str} {i : Nat} {body : List Stmt} {h₀ : ExceptHandler} {hds : List ExceptHandler} {l : List (Value × (Addr → Value → Option Addr → TS))} {pos : Pos} {tb : WX → TS} {Wout : WX}
theorem try_all (hs : X.stack = X.env :: X.outer) (hf : X.env.frame = some X.env.locals) (hN : X.N.Nodup) (hi : X.N[i]? = some n) (hl : X.env.kindOf n = some .local) (tk : L2N.Takes X Wout)
    (hb : ∀ (W : WX) (pn : List (Addr × Obj)) (xe : Value → Shared → Prop), L2N.Takes (X.tr pn xe) W → PassesOwn (model X.prog X.w) X.A X.env xe → PSs (X.tr pn xe) body (tb W)) (hh : AllOk X n (h₀ :: hds) l) :
    PS X (.Try body (h₀ :: hds) [] [] pos) (fun D σ H => tb (wAll X.K i Wout D l) D σ H) := by
  constructor
  intro pins s σ H D I h
  have ok := I.ok
  have frames : X.A.frames = some (X.env :: X.outer) := by rw [ok.frames, hs]
  refine wpAny_Try_except (wpAny_mono ((hb (wAll X.K i Wout D l) (X.pn ++ pins) (fun e t1 => wpAny (model X.prog X.w) X.A (noteFrame e X.env) (fun _ t2 => wpAny (model X.prog X.w) X.A (setFlight e none) (fun _ t3 =>
    wpAny (model X.prog X.w) X.A (handleBy e X.env (h₀ :: hds)) (SP X pins D) X.xe t3) X.xe t2) X.xe t1) (fun u t xx => ?_) PassesOwn.looking).run [] s σ H D (I.toTry _) h) (fun f t hsp => ?_) fun e t he => he)
  · obtain ⟨a, B, sI, ps, τ, G, cls, d, rfl, J0, nb, up, sky, na, os, ag, w⟩ := xx
    have J : Inv X pins τ G sI := J0.ofTry ok
    rw [hs] at sky
    refine Sky.land (E₁ := X.xe) Zn.steady frames hf sky fun g fl upg => ?_
    have J1 : Inv X pins τ G { t with heap := g } := J.landed nb fl.1 (up.trans upg) os ag
    obtain ⟨oe, us, eo, zo, dO⟩ := fl.there
    have out : a ∉ frs (X.env :: X.outer) := fun hm => by
      obtain ⟨_, o', e', hnf⟩ := fl.2.2.1.mem hm
      cases eo.symm.trans e'
      exact hnf _ dO
    have nL : a ≠ X.env.locals := fun z => out (List.mem_filterMap.mpr ⟨_, List.mem_cons_self, hf.trans (congrArg some z.symm)⟩)
    have nF : a ∉ X.fs := fun hm => by
      obtain ⟨e, he, q⟩ := List.mem_filterMap.mp hm
      exact out (List.mem_filterMap.mpr ⟨e, List.mem_cons_of_mem _ he, q⟩)
    have S1 := J1.suite eo dO na nL nF
    suffices go : ∀ {ks : List ExceptHandler} {m : List (Value × (Addr → Value → Option Addr → TS))}, AllOk X n ks m → wAll X.K i Wout D m cls d τ G → wpAny (model X.prog X.w) X.A (handleBy (.ref a) X.env ks) (SP X pins D) X.xe { t with heap := g } from go hh w
    intro ks m hk
    induction hk with
    | nil =>
      intro w
      obtain ⟨_, _, _, o2, v2, T2, _, _, g2, _, d2, f2, _⟩ := id fl
      refine wpAny_handleBy_nil ?_
      unfold PySem.passOn
      refine wpAny_bind (wpAny_field g2 d2 f2 ?_)
      rw [if_neg (by simp)]
      have last : wpAny (model X.prog X.w) X.A (setFlight (.ref a) X.env.frame) (fun _ t4 => wpAny (model X.prog X.w) X.A (throw (.ref a) : Sem Flow) (SP X pins D) X.xe t4) X.xe { t with heap := g } := by
        rw [hf]
        exact HandSPX.setFlight_upZ fl fun h4 k4 up4 => wpAny_throw (tk _ _ ⟨a, B, sI, pins, τ, G, cls, d, rfl, J, nb, (up.trans upg).trans up4, .inr (.inr (hs ▸ k4)), na, os, ag, w⟩)
      first
        | exact wpAny_bind (wpAny_pure (wpAny_bind last))
        | exact wpAny_bind last
    | @cons x c ts b₀ suite np hp ks m hc hsu r ih =>
      rintro ⟨b, eb, yes, no⟩
      refine wpAny_handleBy_cons (codeAny_handlers_test ?_) (fun q => nomatch q)
      have look : PySem.W.Looks (model X.prog X.w) g (typeOf (.ref a)) cls := fun A Q E s k q => wpAny_typeOf_ref (k _ _ eo) (zo.1.symm ▸ q)
      have ans := PySem.W.exm_one (M := model X.prog X.w) J1.kIn look eb
      have test : ∀ {Q E : Value → Shared → Prop}, Q c { t with heap := g } → wpAny (model X.prog X.w) (X.A.mark (some (.ref a))) (eval (.Name x np) X.env) Q E { t with heap := g } := fun {Q E} q => by
        obtain ⟨g1, g2, g3 | ⟨g3, g4, g5⟩⟩ := hc
        · exact ld_glob (X := X.suite a ((a, oe) :: (X.pn ++ pins))) S1 g1 g3 q g2
        · exact ld_blt (X := X.suite a ((a, oe) :: (X.pn ++ pins))) S1 g1 g3 g4 q g5 g2
      refine test (ans.here ?_)
      cases b with
      | false => exact ih (no rfl)
      | true =>
        refine codeAny_handlers_suite_as (HandSPX.lands_againZ fl fun g4 fl4 up4 => ?_)
        have J4 : Inv X pins τ G { t with heap := g4 } := J.landed nb fl4.1 ((up.trans upg).trans up4) os ag
        obtain ⟨o4, u4, e4, z4, d4⟩ := fl4.there
        have S4 := J4.suite e4 d4 na nL nF
        refine store_ok (X := X.suite a ((a, o4) :: (X.pn ++ pins))) (v := .ref a) S4 hN hi (.inl hl) rfl (fun t5 S5 => ?_) (.inr hl)
        refine wpAny_mono ((hsu a o4 cls d (X.pn ++ pins) z4 ⟨_, d4⟩).run [] t5 _ G (endsG i D) S5 (yes rfl a na)) (fun f t6 hsp => ?_) fun _ _ z => z.elim
        have gone : ∀ {τ6 : L2.St} {G6 : Hp} {Q : Shared → Prop}, Inv (X.suite a ((a, o4) :: (X.pn ++ pins))) [] τ6 G6 t6 → (∀ t7, Inv X pins (τ6.set i none) G6 t7 → Q t7) → wpAny (model X.prog X.w) X.A (do bindName X.env n .none; unbindBehindTheSuite X.env n hp) (fun _ t7 => Q t7) X.xe t6 :=
          fun {τ6 G6 Q} S6 hq => gone_ok (S6.unsuite ok) hN hi hl hq
        cases f with
        | ret u =>
          obtain ⟨v6, τ6, G6, S6, r6, q6⟩ := hsp
          exact gone S6 fun t7 J7 => ⟨_, _, _, J7, r6, q6⟩
        | next =>
          obtain ⟨τ6, G6, S6, q6⟩ := hsp
          exact gone S6 fun t7 J7 => ⟨_, _, J7, q6⟩
        | brk =>
          obtain ⟨τ6, G6, S6, q6⟩ := hsp
          exact gone S6 fun t7 J7 => ⟨_, _, J7, q6⟩
        | cont =>
          obtain ⟨τ6, G6, S6, q6⟩ := hsp
          exact gone S6 fun t7 J7 => ⟨_, _, J7, q6⟩
  · cases f with
    | ret u =>
      obtain ⟨v, τ, G, J, r, q⟩ := hsp
      exact ⟨v, τ, G, J.ofTry ok, r, q⟩
    | next =>
      obtain ⟨τ, G, J, q⟩ := hsp
      exact wpAny_execs_nil ⟨τ, G, J.ofTry ok, q⟩
    | brk =>
      obtain ⟨τ, G, J, q⟩ := hsp
      exact ⟨τ, G, J.ofTry ok, q⟩
    | cont =>
      obtain ⟨τ, G, J, q⟩ := hsp
      exact ⟨τ, G, J.ofTry ok, q⟩
end
end PV

set_option Elab.async false
set_option linter.all false
set_option maxRecDepth 100000
set_option maxHeartbeats 4000000
/-! PvTb: while an error is handled: what it is; the def that tells its names. -/
namespace PV
open PySem PySem.Spec PyProof.Rows L2 L2H
def selL : List D → List Bool → List D
  | v :: vs, b :: bs => if b = true then v :: selL vs bs else selL vs bs
  | _, _ => []
theorem selL_len : ∀ (vs : List D) (bs : List Bool), (selL vs bs).length ≤ vs.length
  | [], _ => by simp [selL]
  | _ :: _, [] => by simp [selL]
  | v :: vs, b :: bs => by
    have := selL_len vs bs
    unfold selL
    split <;> simp <;> omega
def selD : List D → Option (List D)
  | [.lst xs, .lst ys] => match isBls ys with
    | some bs => if xs.length = bs.length ∧ xs.length < sizeLine then some (selL xs bs) else none
    | none => none
  | _ => none
section
variable {c : Cf} {W : WX} {X : Cx} {g : Gh} {S : Store} {H : Hp} {p : Addr × Obj}
theorem reps_sel : ∀ {xs : List D} {vs : List V} (bs : List Bool), Reps c g H xs vs → Reps c g H (selL xs bs) (selV vs bs)
  | [], vs, bs, h => by
    have e : vs = [] := h
    subst e
    cases bs <;> rfl
  | x :: xs, vs, [], h => by
    obtain ⟨v, ws, rfl, _, _⟩ := h
    rfl
  | x :: xs, vs, b :: bs, h => by
    obtain ⟨v, ws, rfl, h1, h2⟩ := h
    have ih := reps_sel bs h2
    unfold selL selV
    split
    · exact ⟨v, _, rfl, h1, ih⟩
    · exact ih
/-- what a comprehension's text is: [a for a, b in zip(x, y) if b] -/
theorem ev_compH {e1 e2 : Expr} {na nb : Str} {i j : Nat} {scope : Scope} {own : List (Str × Nat)} {p1 p2 p3 p4 p5 p6 p7 pos : Pos} {k : Nat} {fs : Ev → Mm (List D)} (hK : X.K = c.K) (hc : HotC X) (hN : X.N.Nodup) (hg : Gl X "zip") (hm : X.mg "zip" = none) (h : EvA c W X [e1, e2] fs)
    (hs : noStar [e1, e2] = true) (ok : BlkOk X.N X.env.scope scope own) (hi : X.N[i]? = some na) (hj : X.N[j]? = some nb) (hij : i ≠ j)
    (oi : i ∈ own.map (·.2)) (oj : j ∈ own.map (·.2)) (la : (relS scope X.env.scope).names.lookup na = some .local) (lb : (relS scope X.env.scope).names.lookup nb = some .local) (n1 : nmB na = true) (n2 : nmB nb = true) :
    EvL c W X (.ListComp (.Name na p1) [⟨.Tuple [.Name na p2, .Name nb p3] k p5, .Call (.Name "zip" p6) [e1, e2] [] p4, [.Name nb p7], 0⟩] scope pos) (fun ρ => bnd (fs ρ) fun ds => opt (selD ds)) := by
  obtain ⟨a1, a2, _⟩ := nm_of n1
  obtain ⟨b1, b2, _⟩ := nm_of n2
  refine imp (lc_hot hc hN hg hm h (star_cons (noStar_cons hs).1) (plain_any (noStar_cons hs).2) ok hi hj hij oi oj la lb ⟨a1, a2⟩ ⟨b1, b2⟩) fun σ H Q h => ?_
  obtain ⟨g, ρ, S, st, h⟩ := h
  refine step wL st h fun ds S1 g1 H1 vs st1 x1 r1 h => ?_
  obtain ⟨d, e, q⟩ := fin h
  clear h
  match ds, e with
  | [.lst xs, .lst ys], e =>
    obtain ⟨u, us, rfl, ⟨a, ws, rfl, ha, ra⟩, u2, us2, rfl, ⟨b, bs', rfl, hb, rb⟩, r3⟩ := r1
    cases r3
    have e : (match isBls ys with | some bs => if xs.length = bs.length ∧ xs.length < sizeLine then some (selL xs bs) else none | none => none) = some d := e
    cases hq : isBls ys with
    | none => rw [hq] at e; cases e
    | some bs =>
      rw [hq] at e
      have e : (if xs.length = bs.length ∧ xs.length < sizeLine then some (selL xs bs) else none) = some d := e
      split at e
      · rename_i hh
        cases e
        have eb := bls_reps hq rb
        subst eb
        have hl := ra.len
        refine ⟨a, b, ws, bs, rfl, hK ▸ ha.sq, hK ▸ hb.sq, by omega, by omega, fun D hD => ?_⟩
        obtain ⟨x, G, r⟩ := newL st1.good hD (reps_sel bs ra) (by have := selL_len xs bs; omega)
        exact q _ _ _ x G r
      · cases e
/-! ### what the error in hand is -/
/-- isinstance(e, C), e the error in hand, of the class at D -/
theorem call_isH {D : Addr} (hp : p ∈ X.pn) (C : ExcC X.K D) (hz : Zc (.ref D) none p.2) (hf : ∃ vs, p.2.data = .fields vs) : CallR X (.builtin "isinstance") (rIsE X.K D p.1) := by
  intro pins s σ H xs us Q I r h
  obtain ⟨k, kv, b, rfl, hk, e, q⟩ := h
  cases r with
  | cons r1 rr =>
  cases rr with
  | cons r2 rr =>
  cases rr
  cases r1
  have := hk _ r2
  subst this
  have at_ := (I.pin p (List.mem_append_left _ hp)).1
  obtain ⟨vs, hv⟩ := hf
  obtain ⟨pa, oc, od, oda, osl⟩ := p
  obtain ⟨z1, z2⟩ := hz
  dsimp only at z1 z2 hv at_ ⊢
  subst z1 z2 hv
  exact PySem.W.kia_one (PySem.W.handS_kitx_exc C.hg C.hk C.hs C.hd C.ha C.hn C.ht C.hm) I.kIn ⟨at_, rfl, rfl, trivial⟩ e (fun z => nomatch z) fun tk => ⟨.bl b, H, I.kept (t' := tk) fun _ _ z => z, rfl, q⟩
/-- how the classes stand: their values, what isinstance answers -/
structure IsF (c : Cf) (G : Gm) (X : Cx) (ec : Str) : Prop where
  exc : ExcC c.K (c.xa ec)
  cls : ∀ (T : Nat) (z : Str), G.ex[T]? = some z → nmB z = true → ∃ cv v, RelV v cv ∧ (∀ u, RelV v u → u = cv) ∧ (X.mg z = some cv ∨ (X.mg z = none ∧ bootBuiltins z = some cv ∧ z ≠ "__name__")) ∧ ∀ b, G.isE ec z = some b → PySem.W.kitOne c.K (.ref (c.xa ec)) cv = some b
theorem isV {v : V} {cv : Value} (r : RelV v cv) (hr : ∀ u, RelV v u → u = cv) {z : Str} {pos : Pos} (hg : Gl X z) (hn : nmB z = true) (h : X.mg z = some cv ∨ (X.mg z = none ∧ bootBuiltins z = some cv ∧ z ≠ "__name__")) : PE X (.Name z pos) (tC v) := by
  obtain ⟨n1, n2, n3⟩ := nm_of hn
  rcases h with h | ⟨h1, h2, h3⟩
  · exact pe_glob hg h r n1
  · exact pe_bltn hg h1 h2 r n3 n1
theorem ise_ok {Z : Sm} (hK : X.K = c.K) (hp : p ∈ X.pn) (F : IsF c Z.G X Z.ec) (ea : Z.ea = p.1) (hz : Zc (.ref (c.xa Z.ec)) none p.2) (hf : ∃ vs, p.2.data = .fields vs) (hm : X.mg "isinstance" = none) : IseOk c Z W X := by
  intro i T u z q1 q2 q3 q4 hu hv hnu hT hgz hgi
  obtain ⟨g1, g2⟩ := gln_of hgz
  obtain ⟨cv, v, rv, hr, hcls, hans⟩ := F.cls T z hT g2
  have C : ExcC X.K (c.xa Z.ec) := hK ▸ F.exc
  obtain ⟨n1, n2, _⟩ := nm_of hnu
  refine imp (pe_callB (call_isH hp C hz hf) hgi hm boot_isinstance (pa_cons (pe_var hu hv n1 n2) (pa_cons (isV rv hr g1 g2 hcls) pa_nil rfl) (star_cons rfl)) (by decide) (by decide) (star_cons rfl) rfl) fun σ H Q h => ?_
  obtain ⟨g, ρ, S, st, h⟩ := h
  obtain ⟨d, e, k⟩ := fin h
  unfold iseF at e
  split at e
  · rename_i a hget
    split at e
    · rename_i ha
      subst ha
      rw [hT, Option.bind_some] at e
      cases hE : Z.G.isE Z.ec z with
      | none => rw [hE] at e; cases e
      | some b =>
        rw [hE] at e
        cases e
        obtain ⟨B, er⟩ := st.env
        obtain ⟨o, e1, w, e2, r⟩ := er.at_ i _ (getV_eq hget)
        subst e2
        have r : w = V.ref Z.ea := r
        subst r
        exact ⟨_, e1, v, cv, b, by rw [ea], hr, hK ▸ hans b hE, k g H _ (.refl _ _) st.good rfl⟩
    · cases e
  · cases e
end
end PV

set_option Elab.async false
set_option linter.all false
set_option maxRecDepth 100000
set_option maxHeartbeats 4000000
/-! PvTc: a def that is handed a lambda and calls it; what leaves the lambda has no context. -/
namespace PV
open PySem PySem.Spec PyProof.Rows L2 LamX
/-- the lambda's body: what leaves it is an error without a context -/
abbrev lamN (X : Cx) (A : Around) (outer : List Env) (s : Shared) (H : Hp) (E : XK) (sc : Scope) (f k : Addr) : Cx := (lamCx X A outer s H E sc f k).wish fun e t => wpAny (model X.prog X.w) (A.deeper (lamEnv X sc s.heap.objs.size f k))
  (leaving (lamEnv X sc s.heap.objs.size f k) e) (fun _ r => L2N.CX X.prog X.w outer H s E e r) (fun e r => L2N.CX X.prog X.w outer H s E e r) t
abbrev zCx (X : Cx) (N : List Str) (q : Str) (sc : Scope) (f : Addr) (cd : Value) (s : Shared) (H : Hp) : Cx := cxOf C8.CX0 X.prog X.w X.K X.mg X.base N q sc f cd X.A X.stack s H C8.E0
section
variable {X : Cx} {pins : List (Addr × Obj)} {σ : L2.St} {H : Hp} {s : Shared}
/-- a() in the def that was handed the lambda -/
theorem actN {N : List Str} {q : Str} {sg : Scope} {z f k : Addr} {cd pm ct : Value} {ps : Arguments} {body : Expr} {sc : Scope} {n i : Nat} {a : Str} {pn : List (Addr × Obj)} {xe : Value → Shared → Prop} {W : WX} {tb : XK → TE} {p1 p2 : Pos}
    (I : Inv X pins σ H s) (L : LamS X.env.scope sc) (gf : s.heap.get? f = some (PySem.W.kla_obj "<lambda>" (X.env.qual ++ "<lambda>") ps body sc (cloFrom X.env.cells sc.names []) pm k ct)) (nf : H f = none) (rf : f ∉ frs X.stack)
    (hbind : bindArgs (PySem.W.kla_fn "<lambda>" (X.env.qual ++ "<lambda>") ps body sc (cloFrom X.env.cells sc.names []) pm (.ref k) ct) ⟨[], []⟩ = pure []) (tk : L2N.Takes ((zCx X N q sg z cd s H).tr pn xe) W)
    (hr : Room (n + 1) (X.A.deeper (envOfC q sg s.heap.objs.size z cd))) (hbody : ∀ (A : Around) (outer : List Env) (s : Shared) (H : Hp) (E : XK), Room n (A.deeper (lamEnv X sc s.heap.objs.size f k)) → PE (lamN X A outer s H E sc f k) body (tb E))
    (hN : N[i]? = some a) (hv : Vis sg a) (hn : nmB a = true) :
    PE ((zCx X N q sg z cd s H).tr pn xe) (.Call (.Name a p1) [] [] p2) (fun τ G Q => τ[i]? = some (some (.ref f)) ∧ G k = some (CodeO k (X.env.qual ++ "<lambda>")) ∧ ∃ E : XK, (∀ cls d G', E cls d G' → W cls d τ G') ∧ tb E σ G Q) := by
  obtain ⟨n1, n2, _⟩ := nm_of hn
  constructor
  rintro ps2 s2 τ G Q J ⟨h1, h2, E, hW, h3⟩
  refine wpAny_Call_Name_kw (thn ((pe_var (pos := p1) (i := i) hN hv n1 n2).run ps2 s2 τ G (fun v G1 => v = .ref f ∧ G1 = G) J ⟨.ref f, h1, rfl, rfl⟩) fun u s3 hh => ?_)
  obtain ⟨v, G1, J1, rv, ev, eG⟩ := hh
  subst ev eG
  cases rv
  have gf3 := J1.base.keep f _ gf nf rf (fun z => nomatch (show f ∈ ([] : List Addr) from z))
  refine PySem.W.callWith_F0 ⟨_, _, _, _, gf3⟩ ?_
  obtain ⟨⟨oc, us, t, o1, o2, o3⟩, _, _⟩ := J1.hok k _ h2
  have run : codeAny (model X.prog X.w) (X.A.deeper (envOfC q sg s.heap.objs.size z cd)) (.call (.ref f) ⟨[], []⟩) (CR (L2N.CX X.prog X.w) (envOfC q sg s.heap.objs.size z cd :: X.stack) X.prog X.w G1 s3 Q E) s3 := by
    refine PySem.W.kla_callFunE hr.depth gf3 rfl L.co L.gen rfl ⟨k, oc, us, t, rfl, o1, o2, o3⟩ (hbind ▸ wpAny_pure (wpAny_newFunctionEnv (fun y hy => (L.own y hy).2) (fun y hy => nomatch hy) (fun h' ns sb => ⟨J1.nolimit.fresh _ sb, ?_⟩) L.kind))
    have kp : ∀ b o, s3.heap.get? b = some o → h'.get? b = some o := fun b o e => sb.extBut b o (Nat.ne_of_lt (Heap.lt_size e)) (Heap.get?_push_of_some _ e)
    have J3 := (lam_start2 (E := E) (tk := s3.toks + ([] : List (Str × Value)).length) (f := f) (c' := k) I L J1.env0 hr.hd J1.base ns kp).wish (fun e t => wpAny (model X.prog X.w) ((X.A.deeper (envOfC q sg s.heap.objs.size z cd)).deeper (lamEnv X sc s3.heap.objs.size f k))
      (leaving (lamEnv X sc s3.heap.objs.size f k) e) (fun _ r => L2N.CX X.prog X.w (envOfC q sg s.heap.objs.size z cd :: X.stack) G1 s3 E e r) (fun e r => L2N.CX X.prog X.w (envOfC q sg s.heap.objs.size z cd :: X.stack) G1 s3 E e r) t)
    show codeAny _ _ (.expr body (lamEnv X sc s3.heap.objs.size f k)) _ _
    refine PySem.W.kla_codeExpr (wpAny_mono ((hbody _ _ s3 G1 E (hr.deeper _)).run [] _ _ G1 Q J3 h3) (fun v s4 hq => ?_) fun e s4 hq => hq)
    obtain ⟨w, G4, J4, r4, q4⟩ := hq
    exact ⟨w, G4, J4.os, J4.bare, J4.base, J4.hok, r4, q4⟩
  refine wpAny_call (codeAny_mono run fun r s4 hq => ?_)
  cases r with
  | error e => exact tk e s4 (L2N.XE.of_call J1 hW hq)
  | ok fl =>
    cases fl with
    | ret u => exact J1.after hq
    | next => exact hq.elim
    | brk => exact hq.elim
    | cont => exact hq.elim
/-- what such a def does with what it is handed: TT of the lambda's reading -/
def Hands (X : Cx) (N : List Str) (x : Str) (sg : Scope) (z : Addr) (cd : Value) (bg : List Stmt) (a : Str) (q : Str) (TT : (XK → Hp → VK → Prop) → Hp → VK → Prop) : Prop :=
  ∀ (f k : Addr) (s : Shared) (H : Hp) (Q : VK) (tl : XK → Hp → VK → Prop), Room 1 (X.A.deeper (envOfC x sg s.heap.objs.size z cd)) →
    (∀ (W : WX) (pn : List (Addr × Obj)) (xe : Value → Shared → Prop) (p1 p2 : Pos), L2N.Takes ((zCx X N x sg z cd s H).tr pn xe) W →
      PE ((zCx X N x sg z cd s H).tr pn xe) (.Call (.Name a p1) [] [] p2) (fun τ G Q => τ[0]? = some (some (.ref f)) ∧ G k = some (CodeO k q) ∧ ∃ E : XK, (∀ cls d G', E cls d G' → W cls d τ G') ∧ tl E G Q)) →
    H k = some (CodeO k q) → TT tl H Q → ∃ t, PSs (zCx X N x sg z cd s H).nox bg t ∧ t { nx := fun _ G => Q .non G, rt := Q } (L2.start N [.ref f]) H
/-- x(lambda: body) -/
theorem lamcallN {T : List (Addr × Str)} {TT : (XK → Hp → VK → Prop) → Hp → VK → Prop} {x a : Str} {z c P : Addr} {n : Nat} {pg : Arguments} {bg : List Stmt} {sg : Scope} {dV kV doc pm cd ct oc : Value} {an od : Option Addr} {osl : Array (Option Value)} {N : List Str}
    {ps : Arguments} {body : Expr} {sc : Scope} {t : XK → TE} {p lp pos : Pos} (hg : Gl X x) (hm : X.mg x = some (.ref z)) (hk : PySem.W.keepIn X.K (.ref z) = true)
    (lk : X.K.lookup z = some ⟨oc, od, .func (PySem.W.fnOf x x pg bg sg dV kV doc pm an cd ct), osl⟩) (hcd : PySem.W.codeIn X.K cd x = true) (hb : L2.Binds X.K (PySem.W.fnOf x x pg bg sg dV kV doc pm an cd ct) [a] []) (Sg : FnScope N [a] sg) (hN : N[0]? = some a) (hv : Vis sg a)
    (hG : Hands X N x sg z cd bg a (X.env.qual ++ "<lambda>") TT) (TB : TabB X.base X.mg c P) (hc : X.env.code = .ref c) (hT : (P, X.env.qual ++ "<lambda>") ∈ T) (hu : ∀ p ∈ T, p.1 = P → p.2 = X.env.qual ++ "<lambda>") (hr : Room (n + 2) X.A) (L : LamS X.env.scope sc)
    (hdef : defaultsOf ps X.env = ([], [])) (hbind : ∀ (q : Str) (cl : List (Str × Addr)) (pm cv ct : Value), bindArgs (PySem.W.kla_fn "<lambda>" q ps body sc cl pm cv ct) ⟨[], []⟩ = pure [])
    (hbody : ∀ (A : Around) (outer : List Env) (s : Shared) (H : Hp) (E : XK) (f k : Addr), Room n (A.deeper (lamEnv X sc s.heap.objs.size f k)) → PE (lamN X A outer s H E sc f k) body (t E)) (hx : nmB x = true) (ha : nmB a = true) :
    PE X (.Call (.Name x p) [.Lambda ps body sc lp] [] pos) (tLam T TT t) := by
  constructor
  rintro pins s σ H Q I ⟨h1, h2⟩
  refine wpAny_Call_Name_kw (ld_glob I hg hm (PySem.W.callWith_K (h₀ := X.base) I.ok.mod.kin hk ?_ (by rfl) (by rfl)) (nm_of hx).1)
  show wpAny _ _ (spliced ((false, eval (.Lambda ps body sc lp) X.env) :: backTo pos (starEach [] X.env))) _ _ s
  refine Calls.spliced_cons (lam_make2 I TB hc hT hu h1 hdef (L.has I.ok) fun f k pm' ctv H1 s1 I1 eN T1 gf nf rf hco => Calls.spliced_nil ⟨I1.kIn, ?_⟩)
  have run : codeAny (model X.prog X.w) X.A (.call (.ref z) ⟨[.ref f], []⟩) (CR C8.CX0 X.stack X.prog X.w H1 s1 Q C8.E0) s1 := by
    refine run_ofS (k := n + 1) (N := N) (ps := [a]) (us := [.ref f]) (vs := [.ref f]) lk hcd Sg hr I1.env0 (hb s1 [.ref f] I1.kIn rfl) (.cons rfl .nil) rfl fun hr' => ?_
    obtain ⟨u, hu', hq⟩ := hG f k s1 H1 Q (fun E G Q => t E σ G Q) (hr'.mono (by omega)) (fun W pn xe p1 p2 tk => actN (i := 0) (tb := t) I1 L gf nf rf (hbind _ _ _ _ _) tk hr' (fun A outer s H E hr2 => hbody A outer s H E f k hr2) hN hv ha) hco (h2 H1 eN T1)
    exact ⟨u, hu'.nox, hq⟩
  refine wpAny_call (codeAny_mono run fun r s2 hq => ?_)
  cases r with
  | error e => exact (show False from hq).elim
  | ok fl =>
    cases fl with
    | ret u => exact I1.after hq
    | next => exact hq.elim
    | brk => exact hq.elim
    | cont => exact hq.elim
end
end PV

set_option Elab.async false
set_option linter.all false
set_option maxRecDepth 100000
set_option maxHeartbeats 4000000
/-! PvTd: the def that tells the names of an error: its text, its meaning, its call while the error is handled. -/
namespace PV
open PySem PySem.Spec PyProof.Rows L2 L2H
def Gk (ex : List Str) (isE : Str → Str → Option Bool) : Gm := ⟨[], [], [], ex, [], [], isE⟩
def Zk (ex : List Str) (isE : Str → Str → Option Bool) (ec : Str) (ea : Addr) : Sm := ⟨Gk ex isE, fun _ _ _ => fail, ec, ea⟩
/-- names 3, 4: the comprehension's -/
def pickE (Γ : Gm) (N : List Str) (sc : Scope) (e : Expr) : Bool := match asComp e with
  | some (u, g, it, ifs, s) => (match asName u, asTup g, asCall it, ifs with
    | some na, some [t1, t2], some (z, [x1, x2]), [f] => (match asName t1, asName t2, asName f with
      | some n1, some n2, some n3 => decide (n1 = na) && decide (n3 = n2) && decide (z = "zip") && glB sc z && noStar [x1, x2] && blkC N sc s (ownOf N [3, 4]) && decide ((ownOf N [3, 4]).map (·.2) = [3, 4]) && decide (N[3]? = some na) && decide (N[4]? = some n2) &&
        decide ((relS s sc).names.lookup na = some .local) && decide ((relS s sc).names.lookup n2 = some .local) && nmB na && nmB n2 && (ck Γ N (.frz (.spl (.var 2) (.kon (.str " ")))) sc).e x1 && (ck Γ N (.var 1) sc).e x2
      | _, _, _ => false)
    | _, _, _, _ => false)
  | none => false
def lastB (Γ : Gm) (N : List Str) (sc : Scope) (s : Stmt) : Bool := match asRet s with
  | some (some u) => (match asMeth u with
    | some (o, m, [q], v, r) => decide (m = "join") && !isStar q && !isCall0 o && (v.endLine == r.line) && (ck Γ N (.kon (.str " ")) sc).e o && pickE Γ N sc q
    | _ => false)
  | _ => false
def ckK (Γ : Gm) (N : List Str) (sc : Scope) : List (Nat × Ex) → List Stmt → Bool
  | [], [s] => lastB Γ N sc s
  | (i, e) :: r, s :: ss => (match asAsg s with
    | some (t, u) => stB N sc i t && !isComp u && (ck Γ N e sc).e u
    | none => false) && ckK Γ N sc r ss
  | _, _ => false
def pickM (Z : Sm) (ρ : Ev) : Mm (List D) := bnd (bnd ((den Z (.frz (.spl (.var 2) (.kon (.str " ")))) .hot 0).e ρ) fun d => bnd (bnd ((den Z (.var 1) .hot 0).e ρ) fun d => bnd (ret []) fun ds => ret (d :: ds)) fun ds => ret (d :: ds)) fun ds => opt (selD ds)
def lastM (Z : Sm) (ρ : Ev) : Mm D := bnd ((den Z (.kon (.str " ")) .hot 0).e ρ) fun x => bnd (opt (isS x)) fun a => bnd (bnd (pickM Z ρ) fun ds => ret (.lst ds)) fun y => opt (joinD a y)
def runK (Z : Sm) : List (Nat × Ex) → Ev → Mm SO
  | [] => seqM (fun ρ => bnd (lastM Z ρ) fun d => ret (.rt d)) skipM
  | (i, e) :: r => seqM (fun ρ => bnd ((den Z e .hot 0).e ρ) fun d => ret (.nx (ρ.set i (.val d)))) (runK Z r)
section
variable {c : Cf} {W : WX} {X : Cx} {Z : Sm}
theorem pick_ok (o : Okx c Z 0 .hot W X) (hc : HotC X) {e : Expr} (h : pickE Z.G X.N X.env.scope e = true) : EvL c W X e (pickM Z) := by
  unfold pickE at h
  split at h
  case h_2 => cases h
  rename_i u g it ifs s hp
  obtain ⟨pos, rfl⟩ := asComp_eq hp
  split at h
  case h_2 => cases h
  rename_i na t1 t2 z x1 x2 f hu hg hit
  split at h
  case h_2 => cases h
  rename_i n1 n2 n3 h1 h2 h3
  simp only [Bool.and_eq_true, decide_eq_true_eq] at h
  obtain ⟨⟨⟨⟨⟨⟨⟨⟨⟨⟨⟨⟨⟨⟨rfl, rfl⟩, rfl⟩, a1⟩, a2⟩, a3⟩, a4⟩, a5⟩, a6⟩, a7⟩, a8⟩, a9⟩, a10⟩, a11⟩, a12⟩ := h
  obtain ⟨q1, rfl⟩ := asName_eq hu
  obtain ⟨kk, q2, rfl⟩ := asTup_eq hg
  obtain ⟨q3, q4, rfl⟩ := asCall_eq hit
  obtain ⟨q5, rfl⟩ := asName_eq h1
  obtain ⟨q6, rfl⟩ := asName_eq h2
  obtain ⟨q7, rfl⟩ := asName_eq h3
  have s1 := (snd c Z (.frz (.spl (.var 2) (.kon (.str " "))))).e o x1 a11
  have s2 := (snd c Z (.var 1)).e o x2 a12
  have st := noStar_cons a2
  have st2 := noStar_cons st.2
  exact ev_compH (own := ownOf X.N [3, 4]) (i := 3) (j := 4) o.b.K hc o.b.nd (gl_of a1) (o.b.fr (by decide +kernel)) (ev_cons s1 (ev_cons s2 ev_nil st2.1) st.1) a2 (blkOk_by a3) a5 a6 (by decide) (by rw [a4]; decide) (by rw [a4]; decide) a7 a8 a9 a10
theorem last_ok (o : Okx c Z 0 .hot W X) (hc : HotC X) {s : Stmt} (h : lastB Z.G X.N X.env.scope s = true) : EvS c W X s (fun ρ => bnd (lastM Z ρ) fun d => ret (.rt d)) := by
  unfold lastB at h
  split at h
  case h_2 => cases h
  rename_i u hu
  split at h
  case h_2 => cases h
  rename_i ob m q v r hm
  simp only [Bool.and_eq_true, decide_eq_true_eq, Bool.not_eq_true'] at h
  obtain ⟨⟨⟨⟨⟨rfl, a1⟩, a2⟩, a3⟩, a4⟩, a5⟩ := h
  obtain ⟨p1, rfl⟩ := asRet_eq hu
  cases asMeth_eq hm
  exact ev_ret (ev_join o.b.K a1 a2 a3 ((snd c Z (.kon (.str " "))).e o ob a4) (ev_frz (pick_ok o hc a5)))
theorem kin_ok (o : Okx c Z 0 .hot W X) (hc : HotC X) (hf : ∀ y, X.fn y = true) : ∀ (es : List (Nat × Ex)) (ss : List Stmt), ckK Z.G X.N X.env.scope es ss = true → EvB c W X ss (runK Z es)
  | [], [s], h => ev_consS (last_ok o hc h) ev_nilS
  | [], [], h => nomatch h
  | [], _ :: _ :: _, h => nomatch h
  | (i, e) :: r, [], h => nomatch h
  | (i, e) :: r, s :: ss, h => by
    have h : ((match asAsg s with | some (t, u) => stB X.N X.env.scope i t && !isComp u && (ck Z.G X.N e X.env.scope).e u | none => false) && ckK Z.G X.N X.env.scope r ss) = true := h
    rw [Bool.and_eq_true] at h
    obtain ⟨h1, h2⟩ := h
    split at h1
    case h_2 => cases h1
    rename_i t u ha
    simp only [Bool.and_eq_true, Bool.not_eq_true'] at h1
    obtain ⟨⟨b1, b2⟩, b3⟩ := h1
    obtain ⟨p, rfl⟩ := asAsg_eq ha
    obtain ⟨y, q, rfl, e1, e2⟩ := stB_eq b1
    exact ev_consS (ev_set o.b.nd e1 e2 (.inl (hf y)) b2 ((snd c Z e).e o u b3)) (kin_ok o hc hf r ss h2)
end
/-- the def, as it stands -/
structure KinAt (c : Cf) (K : PySem.W.Frag) (mg : Str → Option Value) (nm : Str) where
  f : Addr
  ps : Arguments
  body : List Stmt
  sc : Scope
  dV : Value
  kV : Value
  doc : Value
  pm : Value
  an : Option Addr
  cd : Value
  ct : Value
  N : List Str
  a : Str
  lk : ∃ (oc : Value) (od : Option Addr) (osl : Array (Option Value)), K.lookup f = some ⟨oc, od, .func (PySem.W.fnOf nm nm ps body sc dV kV doc pm an cd ct), osl⟩
  ci : PySem.W.codeIn K cd nm = true
  S : FnScope N [a] sc
  bs : Binds K (PySem.W.fnOf nm nm ps body sc dV kV doc pm an cd ct) [a] []
  m : mg nm = some (.ref f)
  kp : PySem.W.keepIn K (.ref f) = true
/-- what is asked of the classes, of the built-ins -/
structure KinW (c : Cf) (K : PySem.W.Frag) (mg : Str → Option Value) (ex : List Str) (isE : Str → Str → Option Bool) (ec : Str) : Prop where
  eK : K = c.K
  fre : ∀ x ∈ bltN, mg x = none
  exc : ExcC c.K (c.xa ec)
  cls : ∀ (T : Nat) (z : Str), ex[T]? = some z → nmB z = true → ∃ cv v, RelV v cv ∧ (∀ u, RelV v u → u = cv) ∧ (mg z = some cv ∨ (mg z = none ∧ bootBuiltins z = some cv ∧ z ≠ "__name__")) ∧ ∀ b, isE ec z = some b → PySem.W.kitOne c.K (.ref (c.xa ec)) cv = some b
section
variable {c : Cf} {X : Cx} {nm : Str} {ex : List Str} {isE : Str → Str → Option Bool} {ec : Str} {p : Addr × Obj} {es : List (Nat × Ex)} {s : Str}
theorem hot_cx {CX : CXT} {P : Program} {w : World} {K : PySem.W.Frag} {mg : Str → Option Value} {base : Heap} {N : List Str} {q : Str} {sc : Scope} {f : Addr} {cd : Value} {A : Around} {outer : List Env} {t : Shared} {H : Hp} {E : XK} (h : Hot1 A p) :
    HotC (cxH CX P w K mg base N q sc f cd A outer t H E p) := ⟨p, h, List.mem_singleton.mpr rfl⟩
/-- kin(e) while e is handled -/
theorem kin_call (T : KinAt c X.K X.mg nm) (F : KinW c X.K X.mg ex isE ec) (hck : ckK (Gk ex isE) T.N T.sc es T.body = true) (hrun : ∀ S : Store, runK (Zk ex isE ec p.1) es (startE T.N [.exn p.1]) S = some (.ok (.rt (.str s)), S)) (hot : Hot1 X.A p) (hp : p ∈ X.pn)
    (hz : Zc (.ref (c.xa ec)) none p.2) (hr : RoomH 1 X.A) {pins : List (Addr × Obj)} {σ : L2.St} {H : Hp} {t : Shared} {Q : VK} {g : Gh} {S : Store} (I : Inv X pins σ H t) (G : Good c g S H) (hQ : ∀ g' H', Ext g H g' H' → Good c g' S H' → Q (.str s) H') :
    wpAny (model X.prog X.w) X.A (call (.ref T.f) [.ref p.1]) (EP X pins σ Q) X.xe t := by
  have P1 := I.pin p (List.mem_append_left _ hp)
  have pk : PinOk X.stack H t p := ⟨P1.1, P1.2.1, fun hm => (List.mem_cons.mp (I.stkSub p.1 hm)).elim P1.2.2.1 P1.2.2.2.1, P1.2.2.2.2⟩
  have e0 := I.env0
  have b := T.bs t [.ref p.1] I.kIn rfl
  have fl : ∃ vs, p.2.data = .fields vs := by
    obtain ⟨_, vs, z, _⟩ := hot
    exact ⟨vs, z⟩
  obtain ⟨oc, od, osl, lk⟩ := T.lk
  have lim : t.heap.NoLimit := e0.mod.nolimit.keeps fun b o e => (e0.bs b o e).1
  have ar : T.sc.names.lookup T.a = some .local ∨ (T.sc.names.lookup T.a = some .cell ∧ ((cellsFrom (t.heap.objs.size + 1) T.sc.names []).lookup T.a).isSome = true) := by
    rcases T.S.par T.a (by simp) with z | z
    · exact .inl z
    · exact .inr ⟨z, PySem.W.cellsFrom_some _ _ _ (.inl z)⟩
  have run : codeAny (model X.prog X.w) X.A (.call (.ref T.f) ⟨[.ref p.1], []⟩) (CR C8.CX0 X.stack X.prog X.w H t Q C8.E0) t := by
    refine codeAny_call_function hr.depth (I.kIn _ _ lk) rfl T.S.co T.S.gen rfl (PySem.W.codeRec_of I.kIn T.ci) (b _ _ _ _ (wpAny_newFunctionEnv_cells T.S.kind (fun y hy => ?_) fun env he t1 x => ?_))
    · obtain ⟨n, v⟩ := y
      have e : n = T.a ∧ v = .ref p.1 := by simpa using hy
      rw [e.1]
      exact ar
    subst he
    refine ⟨lim.keeps x.toInCall.keep, codeAny_func ?_⟩
    have J : Inv (cxH C8.CX0 X.prog X.w X.K X.mg X.base T.N nm T.sc T.f T.cd X.A X.stack t H C8.E0 p) [] (L2.start T.N [V.ref p.1]) H t1 := inv_startH T.S pk e0 rfl (.cons rfl .nil) x
    have hc : HotC (cxH C8.CX0 X.prog X.w X.K X.mg X.base T.N nm T.sc T.f T.cd X.A X.stack t H C8.E0 p) := hot_cx hot
    have o : Okx c (Zk ex isE ec p.1) 0 .hot W0 (cxH C8.CX0 X.prog X.w X.K X.mg X.base T.N nm T.sc T.f T.cd X.A X.stack t H C8.E0 p) := by
      refine ⟨⟨F.eK, T.S.kind, fun z => (nomatch z), fun z => (nomatch z), ?_, T.S.nd, takesN0, F.fre, fun j _ k x hx => (nomatch hx), fun k x d hx => (nomatch hx)⟩, fun z => (nomatch z), fun _ => ?_⟩
      · have := hr.un
        show X.A.units + 3 + 64 < cLine
        omega
      · exact ise_ok F.eK (List.mem_singleton.mpr rfl) ⟨F.exc, F.cls⟩ rfl hz fl (F.fre _ (by decide +kernel))
    have B := kin_ok o hc (fun _ => rfl) es T.body hck
    refine wpAny_mono (B.run [] t1 _ H { nx := fun _ H' => Q .non H', rt := Q } J ⟨g, H, g, startE T.N [.exn p.1], S, ⟨G, start_env H (Reps.cons rfl rfl), .refl _ _⟩, ?_⟩) (fun fl t2 hs => ?_) fun e t2 hs => hs
    · rw [hrun S]
      intro g' H' v x G' r
      cases r
      exact hQ g' H' x G'
    · have fin : ∀ {τ : L2.St} {G' : Hp} {v : V} {u : Value}, Inv (cxH C8.CX0 X.prog X.w X.K X.mg X.base T.N nm T.sc T.f T.cd X.A X.stack t H C8.E0 p) [] τ G' t2 → RelV v u → Q v G' → CE X.stack X.prog X.w H t Q u t2 := fun {τ G' v u} J2 r2 q2 =>
        ⟨v, G', J2.os, J2.bare, J2.base, J2.hok, r2, q2⟩
      cases fl with
      | ret u =>
        obtain ⟨v, τ, G', J2, r2, q2⟩ := hs
        exact fin J2 r2 q2
      | next =>
        obtain ⟨τ, G', J2, q2⟩ := hs
        exact fin (v := V.non) (u := Value.none) J2 rfl q2
      | brk =>
        obtain ⟨_, _, _, q2⟩ := hs
        exact q2.elim
      | cont =>
        obtain ⟨_, _, _, q2⟩ := hs
        exact q2.elim
  refine wpAny_call (codeAny_mono run fun r t2 hq => ?_)
  cases r with
  | error e => exact (show False from hq).elim
  | ok fl =>
    cases fl with
    | ret u => exact I.after hq
    | next => exact hq.elim
    | brk => exact hq.elim
    | cont => exact hq.elim
end
end PV

set_option Elab.async false
set_option linter.all false
set_option maxRecDepth 100000
set_option maxHeartbeats 4000000
/-! PvTe: the def that tells what a call tells; it is handed a lambda. -/
namespace PV
open PySem PySem.Spec PyProof.Rows L2 L2H LamX
/-! ### tables that grow -/
section
variable {c : Cf} {g : Gh} {S : Store} {H H1 : Hp}
theorem fx_extN (G : Good c g S H) (e : ExtN H H1) : Ext g H g H1 := by
  have k : ∀ a o, H a = some o → (∀ ps, o ≠ .tbl ps) → H1 a = some o := e
  have nt : ∀ a, ¬ NK (H a) → ∃ o, H a = some o ∧ ∀ ps, o ≠ .tbl ps := fun a h => by
    cases q : H a with
    | none => rw [q] at h; exact (h trivial).elim
    | some o =>
      refine ⟨o, rfl, fun ps z => ?_⟩
      subst z
      rw [q] at h
      exact h trivial
  refine ⟨⟨fun a ha => ⟨ha, ?_⟩, List.prefix_refl _⟩, fun a o h _ t => k a o h t, fun a h => .inl h, fun a h => .inl h, fun a h => ?_⟩
  · obtain ⟨o, e1, e2⟩ := nt a (G.tr a ha)
    rw [e1, k a o e1 e2]
  · by_cases q : NK (H a)
    · exact q
    · obtain ⟨o, e1, e2⟩ := nt a q
      rw [k a o e1 e2] at h
      rwa [e1]
theorem good_extN (G : Good c g S H) (e : ExtN H H1) (T : Tabs c.T H1) : Good c g S H1 := by
  have x := fx_extN G e
  refine ⟨G.len, fun n a o h1 h2 => ?_, G.nF, G.nd, fun a ha z => G.tr a ha (x.tr a z), T⟩
  have ob := G.ob n a o h1 h2
  cases o with
  | lst xs =>
    obtain ⟨vs, e1, e2⟩ := ob
    exact ⟨vs, e a _ e1 (fun ps z => by cases z), Reps.ext x.fx xs vs e2⟩
end
/-! ### the def -/
section
variable {c : Cf} {X : Cx} {nm : Str} {ex : List Str} {isE : Str → Str → Option Bool} {es : List (Nat × Ex)}
/-- what must be known of an error's class -/
structure KinS (c : Cf) (K : PySem.W.Frag) (mg : Str → Option Value) (ex : List Str) (isE : Str → Str → Option Bool) (es : List (Nat × Ex)) (N : List Str) (C1 C2 C3 : Addr) (ec : Str) (s : Str) : Prop where
  w : KinW c K mg ex isE ec
  run : ∀ (a : Addr) (S : Store), runK (Zk ex isE ec a) es (startE N [.exn a]) S = some (.ok (.rt (.str s)), S)
  n1 : PySem.W.exmOne K (.ref (c.xa ec)) (.ref C1) = some false
  n2 : PySem.W.exmOne K (.ref (c.xa ec)) (.ref C2) = some false
  n3 : PySem.W.exmOne K (.ref (c.xa ec)) (.ref C3) = some true
def EhT (c : Cf) (K : PySem.W.Frag) (mg : Str → Option Value) (ex : List Str) (isE : Str → Str → Option Bool) (es : List (Nat × Ex)) (N : List Str) (C1 C2 C3 : Addr) (Q : VK) : XK := fun cls d G => ∃ g S ec s, cls = .ref (c.xa ec) ∧ d = none ∧ Good c g S G ∧ KinS c K mg ex isE es N C1 C2 C3 ec s ∧ ∀ g' G', Ext g G g' G' → Good c g' S G' → Q (.str s) G'
def TTry (c : Cf) (K : PySem.W.Frag) (mg : Str → Option Value) (ex : List Str) (isE : Str → Str → Option Bool) (es : List (Nat × Ex)) (N : List Str) (C1 C2 C3 : Addr) : (XK → Hp → VK → Prop) → Hp → VK → Prop := fun tl H Q =>
  tl (EhT c K mg ex isE es N C1 C2 C3 Q) H (fun v G => ∀ p, G p = none → Q (.ref p) (upd G p (.tup [.str "told", v])))
theorem never_pss {Y : Cx} {ss : List Stmt} : PSs Y ss (fun _ _ _ => False) := ⟨fun _ _ _ _ _ _ h => h.elim⟩
/-- kin(e), as an expression in the suite -/
theorem pe_kin {Y : Cx} {a : Addr} {oe : Obj} {cls : Value} {d : Option Addr} {pn : List (Addr × Obj)} {i : Nat} {en : Str} {p p2 pos : Pos} {C1 C2 C3 : Addr} (T : KinAt c Y.K Y.mg nm) (hck : ckK (Gk ex isE) T.N T.sc es T.body = true) (hz : L2N.Zn cls d oe) (hf : ∃ vs, oe.data = .fields vs)
    (hr : Room 1 Y.A) (hN : Y.N[i]? = some en) (hv : Vis Y.env.scope en) (hen : nmB en = true) (hg : Gl Y nm) (hnm : nmB nm = true) :
    PE (Y.suite a ((a, oe) :: pn)) (.Call (.Name nm p) [.Name en p2] [] pos) (fun σ H Q => σ[i]? = some (some (.ref a)) ∧ ∃ g S ec s, cls = .ref (c.xa ec) ∧ d = none ∧ Good c g S H ∧ KinS c Y.K Y.mg ex isE es T.N C1 C2 C3 ec s ∧ ∀ g' G', Ext g H g' G' → Good c g' S G' → Q (.str s) G') := by
  obtain ⟨n1, n2, _⟩ := nm_of hen
  constructor
  rintro pins t σ H Q I ⟨h1, g, S, ec, s, rfl, rfl, G, F, hQ⟩
  have ha : PA (Y.suite a ((a, oe) :: pn)) [.Name en p2] (tCons (tVar i) tNil) := pa_cons (pe_var hN hv n1 n2) pa_nil rfl
  refine wpAny_Call_Name_kw (ld_glob I hg T.m (PySem.W.callWith_K (h₀ := (Y.suite a ((a, oe) :: pn)).base) I.ok.mod.kin T.kp (thn (ha.run pos pins t σ H (fun vs H1 => vs = [V.ref a] ∧ H1 = H) I ⟨_, h1, rfl, rfl⟩) fun us t1 hh => ?_) rfl rfl) (nm_of hnm).1)
  obtain ⟨vs, H1, I1, r1, e1, e2⟩ := hh
  subst e1 e2
  cases r1 with
  | cons r rr =>
  cases rr
  cases r
  refine ⟨I1.kIn, ?_⟩
  obtain ⟨vs, hvs⟩ := hf
  exact kin_call (X := Y.suite a ((a, oe) :: pn)) (p := (a, oe)) T F.w hck (F.run a) ⟨rfl, vs, hvs, hz.2.2 vs hvs⟩ List.mem_cons_self ⟨hz.1, hz.2.1⟩ ⟨hr.dp, hr.un⟩ I1 G hQ
/-- the def's text -/
def tryT (fnd a en kin c1 c2 c3 : Str) (b1 b2 : List Stmt) (q : List Pos) (k : List Nat) : List Stmt :=
  let z := q.getD
  [.Assign [.Name fnd (q.getD 0 ⟨0, 0, 0, 0⟩)] (.Constant .none (k.getD 0 0) (q.getD 1 ⟨0, 0, 0, 0⟩)) (q.getD 2 ⟨0, 0, 0, 0⟩),
   .Try [.Assign [.Name fnd (q.getD 3 ⟨0, 0, 0, 0⟩)] (.Tuple [.Constant (.str "told") (k.getD 1 0) (q.getD 4 ⟨0, 0, 0, 0⟩), .Call (.Name a (q.getD 5 ⟨0, 0, 0, 0⟩)) [] [] (q.getD 6 ⟨0, 0, 0, 0⟩)] (k.getD 2 0) (q.getD 7 ⟨0, 0, 0, 0⟩)) (q.getD 8 ⟨0, 0, 0, 0⟩)]
    [.ExceptHandler (some (.Name c1 (q.getD 9 ⟨0, 0, 0, 0⟩))) (some en) b1 (q.getD 10 ⟨0, 0, 0, 0⟩), .ExceptHandler (some (.Name c2 (q.getD 11 ⟨0, 0, 0, 0⟩))) (some en) b2 (q.getD 12 ⟨0, 0, 0, 0⟩),
     .ExceptHandler (some (.Name c3 (q.getD 13 ⟨0, 0, 0, 0⟩))) (some en) [.Assign [.Name fnd (q.getD 14 ⟨0, 0, 0, 0⟩)] (.Call (.Name kin (q.getD 15 ⟨0, 0, 0, 0⟩)) [.Name en (q.getD 16 ⟨0, 0, 0, 0⟩)] [] (q.getD 17 ⟨0, 0, 0, 0⟩)) (q.getD 18 ⟨0, 0, 0, 0⟩)] (q.getD 19 ⟨0, 0, 0, 0⟩)] [] [] (q.getD 20 ⟨0, 0, 0, 0⟩),
   .Return (some (.Name fnd (q.getD 21 ⟨0, 0, 0, 0⟩))) (q.getD 22 ⟨0, 0, 0, 0⟩)]
theorem try_pss {Y : Cx} {fnd a en q c1 c2 c3 : Str} {b1 b2 : Stmt} {u1 u2 : List Stmt} {qs : List Pos} {ks : List Nat} {C1 C2 C3 : Addr} {f k : Addr} {H : Hp} {Q : VK} {tl : XK → Hp → VK → Prop} (T : KinAt c Y.K Y.mg nm) (hck : ckK (Gk ex isE) T.N T.sc es T.body = true) (nd : Y.N.Nodup)
    (N0 : Y.N[0]? = some a) (N1 : Y.N[1]? = some fnd) (N2 : Y.N[2]? = some en) (hs : Y.stack = Y.env :: Y.outer) (hf : Y.env.frame = some Y.env.locals) (yk : Y.env.kindOf en = some .local) (hl : ∀ y ∈ [a, fnd, en], Y.env.scope.names.lookup y = some .local) (hn : ∀ y ∈ [a, fnd, en, nm, c1, c2, c3], nmB y = true)
    (hg : ∀ y ∈ [nm, c1, c2, c3], Gl Y y) (m1 : Y.mg c1 = some (.ref C1)) (m2 : Y.mg c2 = some (.ref C2)) (m3 : Y.mg c3 = some (.ref C3)) (hr : Room 1 Y.A) (yf : ∀ y, Y.fn y = true) (yl : Y.N.length = 3)
    (act : ∀ (W : WX) (pn : List (Addr × Obj)) (xe : Value → Shared → Prop) (p1 p2 : Pos), L2N.Takes (Y.tr pn xe) W →
      PE (Y.tr pn xe) (.Call (.Name a p1) [] [] p2) (fun τ G Q => τ[0]? = some (some (.ref f)) ∧ G k = some (CodeO k q) ∧ ∃ E : XK, (∀ cls d G', E cls d G' → W cls d τ G') ∧ tl E G Q))
    (hk : H k = some (CodeO k q)) (h : TTry c Y.K Y.mg ex isE es T.N C1 C2 C3 tl H Q) :
    ∃ t, PSs Y.nox (tryT fnd a en nm c1 c2 c3 (b1 :: u1) (b2 :: u2) qs ks) t ∧ t { nx := fun _ G => Q .non G, rt := Q } (L2.start Y.N [.ref f]) H := by
  have lf : Loc Y.env.scope fnd := .inl (hl fnd (by simp))
  have vf : Vis Y.env.scope fnd := .inl (hl fnd (by simp))
  have ve : Vis Y.env.scope en := .inl (hl en (by simp))
  have nms : ∀ y C, y ∈ [nm, c1, c2, c3] → nmB y = true → Y.mg y = some (.ref C) → Names Y.nox y (.ref C) := fun y C hy hn hm => ⟨hg y hy, (nm_of hn).1, .inl hm⟩
  obtain ⟨nf1, nf2, _⟩ := nm_of (hn fnd (by simp))
  let ts3 : Addr → Value → Option Addr → TS := fun e cls d => tAsg (fun σ H Q => σ[2]? = some (some (.ref e)) ∧ ∃ g S ec s, cls = .ref (c.xa ec) ∧ d = none ∧ Good c g S H ∧ KinS c Y.K Y.mg ex isE es T.N C1 C2 C3 ec s ∧ ∀ g' G', Ext g H g' G' → Good c g' S G' → Q (.str s) G') (gName 1)
  let l : List (Value × (Addr → Value → Option Addr → TS)) := [(.ref C1, fun _ _ _ _ _ _ => False), (.ref C2, fun _ _ _ _ _ _ => False), (.ref C3, ts3)]
  have all : AllOk Y.nox en [.ExceptHandler (some (.Name c1 (qs.getD 9 ⟨0, 0, 0, 0⟩))) (some en) (b1 :: u1) (qs.getD 10 ⟨0, 0, 0, 0⟩), .ExceptHandler (some (.Name c2 (qs.getD 11 ⟨0, 0, 0, 0⟩))) (some en) (b2 :: u2) (qs.getD 12 ⟨0, 0, 0, 0⟩),
     .ExceptHandler (some (.Name c3 (qs.getD 13 ⟨0, 0, 0, 0⟩))) (some en) [.Assign [.Name fnd (qs.getD 14 ⟨0, 0, 0, 0⟩)] (.Call (.Name nm (qs.getD 15 ⟨0, 0, 0, 0⟩)) [.Name en (qs.getD 16 ⟨0, 0, 0, 0⟩)] [] (qs.getD 17 ⟨0, 0, 0, 0⟩)) (qs.getD 18 ⟨0, 0, 0, 0⟩)] (qs.getD 19 ⟨0, 0, 0, 0⟩)] l := by
    refine .cons (nms _ _ (by simp) (hn _ (by simp)) m1) (fun _ _ _ _ _ _ _ => never_pss) (.cons (nms _ _ (by simp) (hn _ (by simp)) m2) (fun _ _ _ _ _ _ _ => never_pss) (.cons (nms _ _ (by simp) (hn _ (by simp)) m3) (fun e oe cls d pn hz hf => ?_) .nil))
    exact pss_one (ps_set (i := 1) nd N1 lf (pe_kin (Y := Y.nox) (i := 2) T hck hz hf hr N2 ve (hn _ (by simp)) (hg _ (by simp)) (hn _ (by simp))) rfl (.inl (yf _)))
  have tr := try_all (X := Y.nox) (n := en) (i := 2) (pos := qs.getD 20 ⟨0, 0, 0, 0⟩) (l := l) (Wout := W0) (body := [.Assign [.Name fnd (qs.getD 3 ⟨0, 0, 0, 0⟩)] (.Tuple [.Constant (.str "told") (ks.getD 1 0) (qs.getD 4 ⟨0, 0, 0, 0⟩), .Call (.Name a (qs.getD 5 ⟨0, 0, 0, 0⟩)) [] [] (qs.getD 6 ⟨0, 0, 0, 0⟩)] (ks.getD 2 0) (qs.getD 7 ⟨0, 0, 0, 0⟩)) (qs.getD 8 ⟨0, 0, 0, 0⟩)])
    (tb := fun W D σ G => σ[0]? = some (some (.ref f)) ∧ G k = some (CodeO k q) ∧ ∃ (E : XK) (Qv : VK), (∀ cls d G', E cls d G' → W cls d σ G') ∧ (∀ v G', Qv v G' → ∀ p, G' p = none → D.nx (σ.set 1 (some (.ref p))) (upd G' p (.tup [.str "told", v]))) ∧ tl E G Qv)
    hs hf nd N2 yk takesN0 (fun W pn xe tk _ => ?_) all
  · refine ⟨_, pss_cons (ps_set (i := 1) nd N1 lf pe_non rfl (.inl (yf _))) (pss_cons tr (pss_one (ps_ret (pe_var (i := 1) N1 vf nf1 nf2)))), ?_⟩
    have hst : L2.start Y.N [V.ref f] = [some (V.ref f), none, none] := by
      unfold L2.start
      rw [yl]
      rfl
    rw [hst]
    refine ⟨rfl, hk, EhT c Y.K Y.mg ex isE es T.N C1 C2 C3 Q, (fun v G => ∀ p, G p = none → Q (.ref p) (upd G p (.tup [.str "told", v]))), fun cls d G hE => ?_, fun v G hv p hp => ⟨_, rfl, hv p hp⟩, h⟩
    obtain ⟨g, S, ec, s, rfl, rfl, GG, F, hQ⟩ := hE
    refine ⟨false, F.n1, fun z => (nomatch z), fun _ => ⟨false, F.n2, fun z => (nomatch z), fun _ => ⟨true, F.n3, fun _ e he => ?_, fun z => (nomatch z)⟩⟩⟩
    exact ⟨rfl, g, S, ec, s, rfl, rfl, GG, F, fun g' G' x GG' => ⟨_, rfl, hQ g' G' x GG'⟩⟩
  · refine ⟨fun pins t σ G D I h' => ?_⟩
    obtain ⟨h1, h2, E, Qv, hE, hv, htl⟩ := h'
    have a1 := act W pn xe (qs.getD 5 ⟨0, 0, 0, 0⟩) (qs.getD 6 ⟨0, 0, 0, 0⟩) tk
    have a2 : PE (Y.tr pn xe) (.Call (.Name a (qs.getD 5 ⟨0, 0, 0, 0⟩)) [] [] (qs.getD 6 ⟨0, 0, 0, 0⟩)) (fun τ G' Q' => τ = σ ∧ G' = G ∧ ∀ v G2, Qv v G2 → Q' v G2) := ⟨fun ps t' τ G' Q' I' ⟨e1, e2, hq⟩ => by
      subst e1 e2
      exact wpAny_mono (a1.run ps t' _ _ Qv I' ⟨h1, h2, E, hE, htl⟩) (fun u t2 ⟨v, G2, I2, r2, q2⟩ => ⟨v, G2, I2, r2, hq v G2 q2⟩) fun _ _ z => z⟩
    have a3 := pss_one (ps_set (X := Y.tr pn xe) (i := 1) (pos := qs.getD 8 ⟨0, 0, 0, 0⟩) (pos' := qs.getD 3 ⟨0, 0, 0, 0⟩) nd N1 lf (pe_tup (x1 := ks.getD 2 0) (pos := qs.getD 7 ⟨0, 0, 0, 0⟩) (pa_cons (show PE (Y.tr pn xe) (.Constant (.str "told") (ks.getD 1 0) (qs.getD 4 ⟨0, 0, 0, 0⟩)) (tC (.str "told")) from pe_str) (pa_cons a2 pa_nil rfl) rfl)) rfl (.inl (yf _)))
    refine a3.run pins t σ G D I ⟨rfl, rfl, fun v G2 q2 => ⟨by show 2 ≤ sizeLine; decide, fun p hp => hv v G2 q2 p hp⟩⟩
theorem try_hands {fnd a en x q c1 c2 c3 : Str} {sg : Scope} {z : Addr} {cd : Value} {b1 b2 : Stmt} {u1 u2 : List Stmt} {qs : List Pos} {ks : List Nat} {C1 C2 C3 : Addr} (T : KinAt c X.K X.mg nm) (hck : ckK (Gk ex isE) T.N T.sc es T.body = true) (Sg : FnScope [a, fnd, en] [a] sg)
    (hl : ∀ y ∈ [a, fnd, en], sg.names.lookup y = some .local) (hn : ∀ y ∈ [a, fnd, en, nm, c1, c2, c3], nmB y = true) (hg : ∀ y ∈ [nm, c1, c2, c3], sg.names.lookup y = some .globalImplicit) (m1 : X.mg c1 = some (.ref C1)) (m2 : X.mg c2 = some (.ref C2)) (m3 : X.mg c3 = some (.ref C3)) :
    Hands X [a, fnd, en] x sg z cd (tryT fnd a en nm c1 c2 c3 (b1 :: u1) (b2 :: u2) qs ks) a q (TTry c X.K X.mg ex isE es T.N C1 C2 C3) := by
  intro f k s H Q tl hr act hk h
  exact try_pss (Y := zCx X [a, fnd, en] x sg z cd s H) T hck Sg.nd rfl rfl rfl rfl rfl (hl en (by simp)) hl hn hg m1 m2 m3 hr (fun _ => rfl) rfl act hk h
end
end PV

set_option Elab.async false
set_option linter.all false
set_option maxRecDepth 100000
set_option maxHeartbeats 4000000
/-! PvTf: the law of try: x(lambda: e). -/
namespace PV
open PySem PySem.Spec PyProof.Rows L2 L2H LamX
theorem noPs_eq {a : Arguments} (h : noPs a = true) : a = ⟨[], [], none, [], [], none, []⟩ := by
  obtain ⟨p, a, v, k, kd, kw, d⟩ := a
  unfold noPs at h
  simp only [Bool.and_eq_true, List.isEmpty_iff, Option.isNone_iff_eq_none] at h
  obtain ⟨⟨⟨⟨⟨⟨rfl, rfl⟩, rfl⟩, rfl⟩, rfl⟩, rfl⟩, rfl⟩ := h
  rfl
theorem St1.of_ext {c : Cf} {g : Gh} {ρ : Ev} {S : Store} {σ : L2.St} {H H1 : Hp} (st : St1 c g ρ S σ H) (x : Ext g H g H1) (G : Good c g S H1) : St1 c g ρ S σ H1 := by
  obtain ⟨B, e⟩ := st.env
  exact ⟨G, B, e.ext x⟩
theorem tri_ok {c : Cf} {Z : Sm} {n : Nat} {W : WX} {X : Cx} {tn nm fnd en c1 c2 c3 : Str} {ex : List Str} {isE : Str → Str → Option Bool} {es : List (Nat × Ex)} {b1 b2 : Stmt} {u1 u2 : List Stmt} {qs : List Pos} {ks : List Nat} {C1 C2 C3 cc P : Addr}
    (o : Okc c Z n .top W X) (Tt : KinAt c X.K X.mg tn) (Tk : KinAt c X.K X.mg nm) (hck : ckK (Gk ex isE) Tk.N Tk.sc es Tk.body = true) (hN : Tt.N = [Tt.a, fnd, en]) (hB : Tt.body = tryT fnd Tt.a en nm c1 c2 c3 (b1 :: u1) (b2 :: u2) qs ks)
    (hl : ∀ y ∈ [Tt.a, fnd, en], Tt.sc.names.lookup y = some .local) (hn : ∀ y ∈ [Tt.a, fnd, en, nm, c1, c2, c3, tn], nmB y = true) (hg : ∀ y ∈ [nm, c1, c2, c3], Tt.sc.names.lookup y = some .globalImplicit) (m1 : X.mg c1 = some (.ref C1)) (m2 : X.mg c2 = some (.ref C2)) (m3 : X.mg c3 = some (.ref C3))
    (ht : ∀ (k : Nat) (x : Str) (told : D → D) (kin : Str → Option D → Option D), Z.G.trs[k]? = some (x, told, kin) → x = tn ∧ (∀ d, told d = .tup [.str "told", d]) ∧ ∀ x fl d, kin x fl = some d → fl = none ∧ ∃ s, d = .str s ∧ KinS c X.K X.mg ex isE es Tk.N C1 C2 C3 x s)
    (TB : TabB X.base X.mg cc P) (hc : X.env.code = .ref cc) (hT : (P, X.env.qual ++ "<lambda>") ∈ c.T) (hu : ∀ p ∈ c.T, p.1 = P → p.2 = X.env.qual ++ "<lambda>") : TriOk c Z n W X := by
  intro k x told kin hk ps b s lp p pos f hps hls hgx h2 hf
  obtain ⟨rfl, htold, hkin⟩ := ht k x told kin hk
  obtain ⟨g1, g2⟩ := gln_of hgx
  have L := lamS_by hls
  have hpe := noPs_eq hps
  subst hpe
  obtain ⟨oc, od, osl, lk⟩ := Tt.lk
  have hr := o.room rfl
  obtain ⟨k2, rfl⟩ : ∃ k2, n = k2 + 2 := ⟨n - 2, by omega⟩
  have hands := try_hands (x := x) (q := X.env.qual ++ "<lambda>") (z := Tt.f) (cd := Tt.cd) (b1 := b1) (b2 := b2) (u1 := u1) (u2 := u2) (qs := qs) (ks := ks) (fnd := fnd) (a := Tt.a) (en := en) Tk hck (hN ▸ Tt.S) hl (fun y hy => hn y (by simp at hy ⊢; rcases hy with h | h | h | h | h | h | h <;> simp [h])) hg m1 m2 m3
  rw [← hB, ← hN] at hands
  have key := lamcallN (X := X) (T := c.T) (body := b) (sc := s) (lp := lp) (p := p) (pos := pos) (ps := ⟨[], [], none, [], [], none, []⟩) (n := k2) (t := fun E => tX c (fun cls d _ H => E cls d H) (relV c) f) g1 Tt.m Tt.kp lk Tt.ci Tt.bs Tt.S (by rw [hN]; rfl) (.inl (hl _ (by simp))) hands TB hc hT hu hr L rfl (fun _ _ _ _ _ => rfl)
    (fun A outer t H E fa ka hr2 => by
      have hx : L2N.Takes (lamN X A outer t H E s fa ka) (fun cls d _ H => E cls d H) := L2N.takes_of rfl rfl rfl rfl
      refine hf _ (lamN X A outer t H E s fa ka) ⟨o.K, L.kind, fun _ => rfl, fun _ => hr2, ?_, o.nd, hx, o.fre, fun j hj k x hx => ?_, o.gvs⟩ rfl rfl
      · have := hr2.un
        show (A.deeper (lamEnv X s t.heap.objs.size fa ka)).units + 64 < cLine
        omega
      · obtain ⟨e1, e2⟩ := o.fns j (by omega) k x hx
        exact ⟨e1, ⟨e2.kp, e2.fn⟩⟩) (hn _ (by simp)) (hn _ (by simp))
  refine imp key fun σ H Q h => ?_
  obtain ⟨g, ρ, S, st, h⟩ := h
  refine ⟨st.good.tab, fun H1 eN T1 => ?_⟩
  have x1 := fx_extN st.good eN
  have G1 := good_extN st.good eN T1
  refine ⟨g, ρ, S, st.of_ext x1 G1, ?_⟩
  have h : Con c W (relV c) g H σ Q (match f ρ S with | none => none | some (.ok d, S') => some (.ok (told d), S') | some (.exc n fl, S') => match kin n fl with | some d => some (.ok d, S') | none => none) := h
  cases hq : f ρ S with
  | none => rw [hq] at h; exact h.elim
  | some r =>
    obtain ⟨r, S'⟩ := r
    rw [hq] at h
    cases r with
    | ok d =>
      have h : ∀ g' H' b, Ext g H g' H' → Good c g' S' H' → Rep c g' H' (told d) b → Q b H' := h
      rw [htold d] at h
      intro g' H' v x2 G2 r2
      exact newT G2 (ds := [.str "told", d]) (Reps.cons rfl (Reps.cons r2 rfl)) (by show 2 ≤ sizeLine; decide) fun g3 H3 w x3 G3 r3 => h g3 H3 w ((x1.trans x2).trans x3) G3 r3
    | exc en fl =>
      have h : Con c W (relV c) g H σ Q (match kin en fl with | some d => some (.ok d, S') | none => none) := h
      cases hkk : kin en fl with
      | none => rw [hkk] at h; exact h.elim
      | some d =>
        rw [hkk] at h
        obtain ⟨rfl, str, rfl, F⟩ := hkin en fl d hkk
        have h : ∀ g' H' b, Ext g H g' H' → Good c g' S' H' → Rep c g' H' (.str str) b → Q b H' := h
        intro g' H' cls dx x2 G2 e2
        obtain ⟨rfl, e3⟩ := e2
        have e3 : dx = none := e3
        subst e3
        exact ⟨g', S', en, str, rfl, rfl, G2, F, fun g3 H3 x3 G3 => h g3 H3 _ ((x1.trans x2).trans x3) G3 rfl⟩
end PV

set_option Elab.async false
set_option linter.all false
set_option maxRecDepth 100000
set_option maxHeartbeats 400000
/-! PvLa: what the head tells, as the layer asks it. -/
namespace PV
open PySem PySem.Spec PyProof.Rows L2 L2H LamX
/-! ### written values -/
mutual
def repB (K : PySem.W.Frag) : D → Value → Bool
  | .non, .none => true
  | .bl a, .bool b => a == b
  | .int i, .int j _ => decide (i = j)
  | .str s, .str t _ => decide (s = t)
  | .tup ds, .ref a => (match K.lookup a with
    | some ⟨.type n, _, .seq its _, _⟩ => decide (n = "tuple") && decide (its.size ≤ sizeLine) && repsB K ds its.toList
    | _ => false)
  | _, _ => false
def repsB (K : PySem.W.Frag) : List D → List Value → Bool
  | [], [] => true
  | d :: ds, u :: us => repB K d u && repsB K ds us
  | _, _ => false
end
section
variable {c : Cf}
mutual
theorem repB_ok : ∀ (d : D) (u : Value), repB c.K d u = true → ∃ v, RelV v u ∧ ∀ g H, Rep c g H d v
  | .non, .none, _ => ⟨.non, rfl, fun _ _ => rfl⟩
  | .bl a, .bool b, h => by
    have h : (a == b) = true := h
    rw [beq_iff_eq] at h
    subst h
    exact ⟨.bl a, rfl, fun _ _ => rfl⟩
  | .int i, .int j t, h => by
    have h : i = j := of_decide_eq_true h
    subst h
    exact ⟨.int i, ⟨t, rfl⟩, fun _ _ => rfl⟩
  | .str s, .str z t, h => by
    have h : s = z := of_decide_eq_true h
    subst h
    exact ⟨.str s, ⟨t, rfl⟩, fun _ _ => rfl⟩
  | .tup ds, .ref a, h => by
    unfold repB at h
    split at h
    · rename_i n od its k sl hk
      simp only [Bool.and_eq_true, decide_eq_true_eq] at h
      obtain ⟨⟨rfl, h2⟩, h3⟩ := h
      obtain ⟨vs, hv, hr⟩ := repsB_ok ds its.toList h3
      exact ⟨.ref a, rfl, fun g H => ⟨a, vs, rfl, .inr (.inr ⟨_, its, k, hk, rfl, rfl, h2, hv⟩), hr g H⟩⟩
    · cases h
theorem repsB_ok : ∀ (ds : List D) (us : List Value), repsB c.K ds us = true → ∃ vs, Vals vs us ∧ ∀ g H, Reps c g H ds vs
  | [], [], _ => ⟨[], .nil, fun _ _ => rfl⟩
  | d :: ds, u :: us, h => by
    have h : (repB c.K d u && repsB c.K ds us) = true := h
    rw [Bool.and_eq_true] at h
    obtain ⟨v, hv, hr⟩ := repB_ok d u h.1
    obtain ⟨vs, hvs, hrs⟩ := repsB_ok ds us h.2
    exact ⟨v :: vs, .cons hv hvs, fun g H => ⟨v, vs, rfl, hr g H, hrs g H⟩⟩
end
end
def gvB (K : PySem.W.Frag) (x : Str) (d : D) : Bool := match PySem.W.nsIn K mainGlobals x with
  | some (some u) => repB K d u
  | _ => false
theorem gvB_ok {c : Cf} {h : Heap} {mg : Str → Option Value} (X : c.K.In h) (G : h.Ns mainGlobals mg) {x : Str} {d : D} (e : gvB c.K x d = true) : ∃ v u, mg x = some u ∧ RelV v u ∧ ∀ g H, Rep c g H d v := by
  unfold gvB at e
  split at e
  · rename_i u hu
    obtain ⟨v, h1, h2⟩ := repB_ok d u e
    exact ⟨v, u, PySem.W.mg_of X G hu, h1, h2⟩
  · cases e
/-! ### classes of errors -/
def excB (K : PySem.W.Frag) (D : Addr) : Bool := decide (PySem.W.findIn K (.ref D) "__getattribute__" = some (some (.builtin "BaseException.__getattribute__"))) && decide (PySem.W.findIn K (.ref D) "__getattr__" = some none) && decide (PySem.W.subIn K (.ref D) (.type "BaseException") = some true) && PySem.W.hasDictIn K D &&
  decide (PySem.W.findIn K (.ref D) "__class__" = some (some (.builtin "object.__class__"))) && decide (PySem.W.specialIn K (.builtin "object.__class__") "__get__" = some (some (.builtin "getset_descriptor.__get__"))) && decide (PySem.W.takesIn K (.builtin "object.__class__") = some true) && decide (PySem.W.mroIn K D (.type "object") = some true)
theorem excB_ok {K : PySem.W.Frag} {D : Addr} (h : excB K D = true) : ExcC K D := by
  unfold excB at h
  simp only [Bool.and_eq_true, decide_eq_true_eq] at h
  obtain ⟨⟨⟨⟨⟨⟨⟨a1, a2⟩, a3⟩, a4⟩, a5⟩, a6⟩, a7⟩, a8⟩ := h
  exact ⟨a1, a2, a3, a4, a5, a6, a7, a8⟩
def kitsB (K : PySem.W.Frag) (isE : Str → Str → Option Bool) (x : Str) (ys : List Str) : Bool := ys.all fun y => if y = "ValueError" then (match isE x y with | some b => decide (PySem.W.kitOne K (.ref (He.ga K x)) (.type "ValueError") = some b) | none => true) else
  (match isE x y with | some b => decide (PySem.W.kitOne K (.ref (He.ga K x)) (.ref (He.ga K y)) = some b) | none => true)
def clsB (K : PySem.W.Frag) (isE : Str → Str → Option Bool) (ex : List Str) (c1 c2 c3 : Str) (x : Str) : Bool := excB K (He.ga K x) && kitsB K isE x ex && decide (PySem.W.exmOne K (.ref (He.ga K x)) (.ref (He.ga K c1)) = some false) &&
  decide (PySem.W.exmOne K (.ref (He.ga K x)) (.ref (He.ga K c2)) = some false) && decide (PySem.W.exmOne K (.ref (He.ga K x)) (.ref (He.ga K c3)) = some true)
section
variable {c : Cf} {h : Heap} {mg : Str → Option Value} {fa : List He.Fa} {fn : List He.DefD}
theorem kinS_of {isE : Str → Str → Option Bool} {ex : List Str} {es : List (Nat × Ex)} {N : List Str} {c1 c2 c3 x s : Str} (X : c.K.In h) (G : h.Ns mainGlobals mg) (S : He.SaysD fa fn c.K) (hxa : ∀ x, c.xa x = He.ga c.K x) (fre : ∀ x ∈ bltN, mg x = none) (hve : mg "ValueError" = none)
    (hex : ∀ y ∈ ex, y = "ValueError" ∨ He.Fa.glo y ∈ fa) (e : clsB c.K isE ex c1 c2 c3 x = true) (hrun : ∀ (a : Addr) (S : Store), runK (Zk ex isE x a) es (startE N [.exn a]) S = some (.ok (.rt (.str s)), S)) : KinS c c.K mg ex isE es N (He.ga c.K c1) (He.ga c.K c2) (He.ga c.K c3) x s := by
  unfold clsB at e
  simp only [Bool.and_eq_true, decide_eq_true_eq] at e
  obtain ⟨⟨⟨⟨a1, a2⟩, a3⟩, a4⟩, a5⟩ := e
  refine ⟨⟨rfl, fre, by rw [hxa]; exact excB_ok a1, fun T z hz hn => ?_⟩, hrun, by rw [hxa]; exact a3, by rw [hxa]; exact a4, by rw [hxa]; exact a5⟩
  have hm := List.mem_of_getElem? hz
  have a := List.all_eq_true.mp a2 z hm
  by_cases q : z = "ValueError"
  · subst q
    rw [if_pos rfl] at a
    refine ⟨.type "ValueError", .ty "ValueError", rfl, fun u r => r, .inr ⟨hve, by rfl, by decide +kernel⟩, fun b hb => ?_⟩
    rw [hb] at a
    rw [hxa]
    exact of_decide_eq_true a
  · rw [if_neg q] at a
    have g := He.glo_ok X G (S.facts ((hex z hm).resolve_left q))
    refine ⟨.ref (He.ga c.K z), .ref (He.ga c.K z), rfl, fun u r => r, .inl g, fun b hb => ?_⟩
    rw [hb] at a
    rw [hxa]
    exact of_decide_eq_true a
/-! ### defs -/
theorem def_at {d : He.DefD} {nm : Str} {ps : List Str} (X : c.K.In h) (G : h.Ns mainGlobals mg) (S : He.SaysD fa fn c.K) (hd : d ∈ fn) (hg : He.Fa.glo nm ∈ fa) (e1 : d.at_ = (nm, none)) (e2 : d.name = nm) (e3 : d.qual = nm) (e4 : d.dfl = []) (e5 : d.kwd = [])
    (hb : ∀ (kV doc pm : Value) (an : Option Addr) (cdv ct : Value) (us : List Value), us.length = ps.length → bindArgs (PySem.W.fnOf nm nm d.params d.body d.scope .none kV doc pm an cdv ct) ⟨us, []⟩ = pure (ps.zip us)) :
    mg nm = some (.ref (He.ga c.K nm)) ∧ PySem.W.keepIn c.K (.ref (He.ga c.K nm)) = true ∧ ∃ (dV kV doc pm : Value) (an : Option Addr) (cdv ct : Value), (∃ (oc : Value) (od : Option Addr) (osl : Array (Option Value)), c.K.lookup (He.ga c.K nm) = some ⟨oc, od, .func (PySem.W.fnOf nm nm d.params d.body d.scope dV kV doc pm an cdv ct), osl⟩) ∧
      PySem.W.codeIn c.K cdv nm = true ∧ cdv = .ref (He.codeOf c.K (nm, none)) ∧ Binds c.K (PySem.W.fnOf nm nm d.params d.body d.scope dV kV doc pm an cdv ct) ps [] ∧ ∀ (s : Shared) (us : List Value), us.length = ps.length → BindsTo s (PySem.W.fnOf nm nm d.params d.body d.scope dV kV doc pm an cdv ct) ⟨us, []⟩ (ps.zip us) := by
  obtain ⟨fd, F⟩ := S.defs hd
  obtain ⟨at_, name, qual, params, body, scope, dfl, kwd⟩ := d
  dsimp only at e1 e2 e3 e4 e5 hb ⊢
  subst e1 e4 e5
  obtain rfl : qual = name := e3.trans e2.symm
  subst e2
  have F : FunD c.K qual qual params body scope [] [] (He.ga c.K qual) fd := F
  have B := FunD.bindsN (ps := ps) F hb
  have BA := FunD.bindsA (ps := ps) F hb
  obtain ⟨oc, od, dV, kV, doc, pm, an, cdv, ct, osl, rfl, lk, ci, hD, hK⟩ := F.ex
  obtain ⟨k, rfl⟩ := He.codeIn_ref ci
  have ek := He.codeOf_eq (p := (qual, none)) lk rfl
  exact ⟨He.glo_ok X G (S.facts hg), F.kp, dV, kV, doc, pm, an, .ref k, ct, ⟨oc, od, osl, lk⟩, ci, by rw [ek], B, fun s us hl => BA s us hl⟩
theorem rai_of {P : Program} {x : Str} {X' : Cx} {m : Str} {j : Nat} {p p2 pos : Pos} (X : c.K.In h) (G : h.Ns mainGlobals mg) (S : He.SaysD fa fn c.K) (eK : X'.K = c.K) (eM : X'.mg = mg) (hx : c.xa x = He.ga c.K x) (hg : He.Fa.glo x ∈ fa) (he : He.Fa.exc x ∈ fa) (hgl : Gl X' x) (hn : nmB x = true) :
    L2N.PMk X' (.Call (.Name x p) [.Constant (.str m) j p2] [] pos) (fun _ H Q => Q (.ref (c.xa x)) none H) := by
  obtain ⟨q1, q2, q3, q4⟩ := He.exc_ok (S.facts he)
  rw [← eK] at q1 q2 q3 q4
  rw [hx, ← eK]
  exact L2N.pmk_own PySem.F.excBase_ValueError q1 (by rw [eM, eK]; exact He.glo_ok X G (S.facts hg)) q2 (raises_own q3 q4) hgl (nm_of hn).1
end
end PV
namespace PV
open PySem PySem.Spec PyProof.Rows L2 L2H LamX
/-! ### the text of try -/
def tryOk (fnd a en kin c1 c2 c3 : Str) : List Stmt → Bool
  | [.Assign [.Name n0 _] (.Constant .none _ _) _, .Try [.Assign [.Name n1 _] (.Tuple [.Constant (.str t) _ _, .Call (.Name n2 _) [] [] _] _ _) _] [.ExceptHandler (some (.Name d1 _)) (some e1) (_ :: _) _, .ExceptHandler (some (.Name d2 _)) (some e2) (_ :: _) _, .ExceptHandler (some (.Name d3 _)) (some e3) [.Assign [.Name n4 _] (.Call (.Name n5 _) [.Name n6 _] [] _) _] _] [] [] _, .Return (some (.Name n3 _)) _] =>
    decide (n0 = fnd) && decide (n1 = fnd) && decide (t = "told") && decide (n2 = a) && decide (d1 = c1) && decide (e1 = en) && decide (d2 = c2) && decide (e2 = en) && decide (d3 = c3) && decide (e3 = en) && decide (n4 = fnd) && decide (n5 = kin) && decide (n6 = en) && decide (n3 = fnd)
  | _ => false
theorem tryOk_eq {fnd a en kin c1 c2 c3 : Str} {ss : List Stmt} (h : tryOk fnd a en kin c1 c2 c3 ss = true) : ∃ b1 u1 b2 u2 qs ks, ss = tryT fnd a en kin c1 c2 c3 (b1 :: u1) (b2 :: u2) qs ks := by
  unfold tryOk at h
  split at h
  · rename_i n0 q0 k0 q1 q2 n1 q3 t k1 q4 n2 q5 q6 k2 q7 q8 d1 q9 e1 b1 u1 q10 d2 q11 e2 b2 u2 q12 d3 q13 e3 n4 q14 n5 q15 n6 q16 q17 q18 q19 q20 n3 q21 q22
    simp only [Bool.and_eq_true, decide_eq_true_eq] at h
    obtain ⟨⟨⟨⟨⟨⟨⟨⟨⟨⟨⟨⟨⟨rfl, rfl⟩, rfl⟩, rfl⟩, rfl⟩, rfl⟩, rfl⟩, h1⟩, rfl⟩, h2⟩, h3⟩, rfl⟩, h4⟩, h5⟩ := h
    subst h1 h2 h3 h4 h5
    exact ⟨b1, u1, b2, u2, [q0, q1, q2, q3, q4, q5, q6, q7, q8, q9, q10, q11, q12, q13, q14, q15, q16, q17, q18, q19, q20, q21, q22], [k0, k1, k2], rfl⟩
  · cases h
/-! ### names -/
def lamQ (nm : Str) : Str := (envOfC nm default 0 0 .none).qual ++ "<lambda>"
theorem iseF_a {ex : List Str} {isE : Str → Str → Option Bool} {ec : Str} {a : Addr} {T : Nat} {l : Ev} : iseF (Zk ex isE ec a) 0 T (.val (.exn a) :: l) = (ex[T]?).bind fun x => (isE ec x).map .bl := by
  unfold iseF
  rw [getV_zero]
  show (if a = a then _ else _) = _
  rw [if_pos rfl]
  rfl
theorem ints_rep {c : Cf} {g : Gh} {H : Hp} : ∀ ns : List Int, Reps c g H (ns.map D.int) (ns.map V.int)
  | [] => rfl
  | i :: is => ⟨_, _, rfl, rfl, ints_rep is⟩
/-- the start of the law -/
theorem law_start {c : Cf} {f : List D → Mm D} {H : Hp} {a : Addr} {ns : List Int} (hl : ns.length ≤ sizeLine) (hT : Tabs c.T H) (hS : SqL c.K H a (ns.map V.int)) (h : wp (f [.lst (ns.map .int)]) [] fun d _ => d = .bl true) : spOf c 1 f [.ref a] H (fun v _ => v = .bl true) fun _ _ _ => False := by
  obtain ⟨d, S', e, rfl⟩ := wp_run h
  have fin : ∀ g, Con c (fun _ _ _ _ => False) (relV c) g H [] (fun v _ => v = V.bl true) (f [.lst (ns.map .int)] []) := fun g => by
    rw [e]
    intro g' H' b _ _ r
    exact r
  rcases hS with hS | hS
  · have nk : ¬ NK (H a) := by
      rcases hS with hS | ⟨o, hS⟩ <;> rw [hS] <;> exact fun z => z
    refine ⟨⟨fun b => b = a, []⟩, [], [.lst (ns.map .int)], ⟨rfl, fun n b o h1 => ?_, fun b hb => ?_, List.nodup_nil, fun b hb => ?_, hT⟩, ⟨_, _, rfl, ⟨a, _, rfl, .inl ⟨rfl, hS, by rw [List.length_map]; exact hl⟩, ints_rep ns⟩, rfl⟩, rfl, fin _⟩
    · simp at h1
    · cases hb
    · have hb : b = a := hb
      rw [hb]
      exact nk
  · refine ⟨⟨fun b => False, []⟩, [], [.lst (ns.map .int)], ⟨rfl, fun n b o h1 => ?_, fun b hb => ?_, List.nodup_nil, fun b hb => hb.elim, hT⟩, ⟨_, _, rfl, ⟨a, _, rfl, .inr (.inr hS), ints_rep ns⟩, rfl⟩, rfl, fin _⟩
    · simp at h1
    · cases hb
theorem noCX {P : Program} {w : World} {H : Hp} {s : Shared} {e : Value} {s' : Shared} (h : L2N.CX P w [] H s (fun _ _ _ => False) e s') : False := by
  obtain ⟨_, _, _, _, _, _, _, _, _, _, _, _, z⟩ := h
  exact z
end PV

set_option Elab.async false
set_option linter.all false
set_option maxRecDepth 100000
set_option maxHeartbeats 4000000

namespace PV
open PySem PySem.Spec PyProof.Rows L2
def top (i : Nat) : Stmt := PySem.Challenge.pw_keptplaces_k01_queues_recognized.main.body.getD i (.Pass ⟨0, 0, 0, 0⟩)
abbrev K_bounds_of : Nat := 0
abbrev K_least_of : Nat := 1
abbrev K_summed : Nat := 2
abbrev K_with_bound : Nat := 3
abbrev K_closer : Nat := 4
abbrev K_is_within : Nat := 5
abbrev K_has_items : Nat := 6
abbrev K_is_row : Nat := 7
abbrev K_is_fact : Nat := 8
abbrev K_is_queue_value : Nat := 9
abbrev K_begin_of : Nat := 10
abbrev K_sums_of : Nat := 11
abbrev K_are_gaps : Nat := 12
abbrev K_is_deed : Nat := 13
abbrev K_is_script_value : Nat := 14
abbrev K_need_queue : Nat := 15
abbrev K_is_queue : Nat := 16
abbrev K_is_script : Nat := 17
abbrev K_is_gaps : Nat := 18
abbrev K__law_deck : Nat := 19
abbrev K__law_pick : Nat := 20
abbrev K__law_whole : Nat := 21
abbrev K__law_one : Nat := 22
abbrev K__law_sort : Nat := 23
abbrev K__law_same : Nat := 24
abbrev K__law_two : Nat := 25
abbrev K__law_deed : Nat := 26
abbrev K__law_script : Nat := 27
abbrev K__law_row : Nat := 28
abbrev K__law_fact : Nat := 29
abbrev K__law_queue : Nat := 30
abbrev K__law_keeps : Nat := 31
abbrev K__law_boxes : Nat := 32
abbrev K__law_number : Nat := 33
abbrev K__law_is_fact : Nat := 34
abbrev K__law_is_queue : Nat := 35
abbrev K__law_can_be : Nat := 36
abbrev K__law_is_deed : Nat := 37
abbrev K__law_spoilt : Nat := 38
abbrev K__law_all_right : Nat := 39
abbrev K_law : Nat := 40
abbrev V_SIDES : Nat := 0
abbrev V_MOST : Nat := 1
abbrev V_MOST_DEEDS : Nat := 2
def b_bounds_of : Stm := .cons (.ret (.bi 7 (.cons (.frz (.comp (.bi 7 (.cons (.frz (.comp (.ifx (.cmp 0 (.var 1) (.var 2)) (.kon (.int 0)) (.kon (.non))) (.one 2) .tru (.irng (.var 0)) [2])) .nil)) (.one 1) .tru (.irng (.var 0)) [1])) .nil))) .nil
def f_bounds_of : FnD := ⟨"bounds_of", ["size"], ["size", "one", "other"], false, b_bounds_of⟩
def b_least_of : Stm := .cons (.ife (.or (.cmp 8 (.var 0) (.kon (.non))) (.one (.cmp 8 (.var 1) (.kon (.non))))) (.cons (.ret (.ifx (.cmp 8 (.var 1) (.kon (.non))) (.var 0) (.var 1))) .nil) .nil) (.cons (.ret (.bi 2 (.cons (.var 0) (.cons (.var 1) .nil)))) .nil)
def f_least_of : FnD := ⟨"least_of", ["one", "other"], ["one", "other"], false, b_least_of⟩
def b_summed : Stm := .cons (.ret (.ifx (.or (.cmp 8 (.var 0) (.kon (.non))) (.one (.cmp 8 (.var 1) (.kon (.non))))) (.kon (.non)) (.bin 0 (.var 0) (.var 1)))) .nil
def f_summed : FnD := ⟨"summed", ["one", "other"], ["one", "other"], false, b_summed⟩
def b_with_bound : Stm := .cons (.set 4 (.idx (.idx (.var 0) (.var 2)) (.var 1))) (.cons (.ife (.and (.cmp 9 (.var 4) (.kon (.non))) (.one (.cmp 2 (.bin 0 (.var 4) (.var 3)) (.kon (.int 0))))) (.cons (.ret (.kon (.non))) .nil) .nil) (.cons (.ife (.and (.cmp 9 (.idx (.idx (.var 0) (.var 1)) (.var 2)) (.kon (.non))) (.one (.cmp 3 (.idx (.idx (.var 0) (.var 1)) (.var 2)) (.var 3)))) (.cons (.ret (.var 0)) .nil) .nil) (.cons (.set 5 (.frz (.lrng (.bi 0 (.cons (.var 0) .nil))))) (.cons (.ret (.bi 7 (.cons (.frz (.comp (.bi 7 (.cons (.frz (.comp (.call K_closer (.cons (.var 0) (.cons (.var 6) (.cons (.var 7) (.cons (.var 1) (.cons (.var 2) (.cons (.var 3) .nil))))))) (.one 7) .tru (.iseq (.var 5)) [7])) .nil)) (.one 6) .tru (.iseq (.var 5)) [6])) .nil))) .nil))))
def f_with_bound : FnD := ⟨"with_bound", ["bounds", "one", "other", "most"], ["bounds", "one", "other", "most", "back", "size", "first", "second"], false, b_with_bound⟩
def b_closer : Stm := .cons (.ret (.call K_least_of (.cons (.idx (.idx (.var 0) (.var 1)) (.var 2)) (.cons (.call K_summed (.cons (.call K_summed (.cons (.idx (.idx (.var 0) (.var 1)) (.var 3)) (.cons (.var 5) .nil))) (.cons (.idx (.idx (.var 0) (.var 4)) (.var 2)) .nil))) .nil)))) .nil
def f_closer : FnD := ⟨"closer", ["bounds", "first", "second", "one", "other", "most"], ["bounds", "first", "second", "one", "other", "most"], false, b_closer⟩
def b_is_within : Stm := .cons (.ret (.and (.isi (.var 0) 0) (.and (.not (.isi (.var 0) 1)) (.one (.chn 3 3 (.var 1) (.var 0) (.var 2)))))) .nil
def f_is_within : FnD := ⟨"is_within", ["value", "low", "high"], ["value", "low", "high"], false, b_is_within⟩
def b_has_items : Stm := .cons (.ret (.and (.isi (.var 0) 4) (.one (.chn 3 3 (.var 1) (.bi 0 (.cons (.var 0) .nil)) (.var 2))))) .nil
def f_has_items : FnD := ⟨"has_items", ["value", "low", "high"], ["value", "low", "high"], false, b_has_items⟩
def b_is_row : Stm := .cons (.ife (.or (.not (.call K_has_items (.cons (.var 1) (.cons (.kon (.int 1)) (.cons (.var 0) .nil))))) (.one (.not (.bi 6 (.cons (.frz (.comp (.call K_is_within (.cons (.var 2) (.cons (.kon (.int 0)) (.cons (.bin 1 (.var 0) (.kon (.int 1))) .nil)))) (.one 2) .tru (.iseq (.var 1)) [2])) .nil))))) (.cons (.ret (.kon (.bl false))) .nil) .nil) (.cons (.ret (.cmp 0 (.lset (.var 1)) (.bi 0 (.cons (.var 1) .nil)))) .nil)
def f_is_row : FnD := ⟨"is_row", ["many", "value"], ["many", "value", "one"], false, b_is_row⟩
def b_is_fact : Stm := .cons (.ife (.or (.not (.call K_has_items (.cons (.var 1) (.cons (.kon (.int 4)) (.cons (.kon (.int 4)) .nil))))) (.or (.not (.call K_is_within (.cons (.idx (.var 1) (.kon (.int 0))) (.cons (.kon (.int 0)) (.cons (.var 0) .nil))))) (.one (.not (.call K_is_within (.cons (.idx (.var 1) (.kon (.int 1))) (.cons (.kon (.int 0)) (.cons (.bin 0 (.var 0) (.kon (.int 1))) .nil)))))))) (.cons (.ret (.kon (.bl false))) .nil) .nil) (.cons (.ife (.or (.cmp 5 (.idx (.var 1) (.kon (.int 0))) (.idx (.var 1) (.kon (.int 1)))) (.one (.not (.call K_is_within (.cons (.idx (.var 1) (.kon (.int 2))) (.cons (.kon (.int 0)) (.cons (.kon (.int 60)) .nil))))))) (.cons (.ret (.kon (.bl false))) .nil) .nil) (.cons (.ret (.or (.cmp 8 (.idx (.var 1) (.kon (.int 3))) (.kon (.non))) (.one (.call K_is_within (.cons (.idx (.var 1) (.kon (.int 3))) (.cons (.idx (.var 1) (.kon (.int 2))) (.cons (.kon (.int 60)) .nil))))))) .nil))
def f_is_fact : FnD := ⟨"is_fact", ["marks", "value"], ["marks", "value"], false, b_is_fact⟩
def b_is_queue_value : Stm := .cons (.ife (.or (.not (.call K_has_items (.cons (.var 0) (.cons (.kon (.int 3)) (.cons (.kon (.int 3)) .nil))))) (.or (.not (.call K_is_within (.cons (.idx (.var 0) (.kon (.int 0))) (.cons (.kon (.int 2)) (.cons (.kon (.int 4)) .nil))))) (.one (.not (.call K_is_row (.cons (.idx (.var 0) (.kon (.int 0))) (.cons (.idx (.var 0) (.kon (.int 1))) .nil))))))) (.cons (.ret (.kon (.bl false))) .nil) .nil) (.cons (.ife (.or (.not (.call K_has_items (.cons (.idx (.var 0) (.kon (.int 2))) (.cons (.kon (.int 0)) (.cons (.kon (.int 4)) .nil))))) (.one (.not (.bi 6 (.cons (.frz (.comp (.call K_is_fact (.cons (.bi 0 (.cons (.idx (.var 0) (.kon (.int 1))) .nil)) (.cons (.var 1) .nil))) (.one 1) .tru (.iseq (.idx (.var 0) (.kon (.int 2)))) [1])) .nil))))) (.cons (.ret (.kon (.bl false))) .nil) .nil) (.cons (.ret (.cmp 9 (.call K_begin_of (.cons (.var 0) .nil)) (.kon (.non)))) .nil))
def f_is_queue_value : FnD := ⟨"is_queue_value", ["value"], ["value", "one"], false, b_is_queue_value⟩
def b_begin_of : Stm := .cons (.set 1 (.bin 0 (.bi 0 (.cons (.idx (.var 0) (.kon (.int 1))) .nil)) (.kon (.int 1)))) (.cons (.set 2 (.call K_bounds_of (.cons (.bin 0 (.var 1) (.kon (.int 1))) .nil))) (.cons (.for (.one 3) (.irng (.var 1)) (.cons (.set 2 (.call K_with_bound (.cons (.var 2) (.cons (.var 3) (.cons (.bin 0 (.var 3) (.kon (.int 1))) (.cons (.kon (.int 0)) .nil)))))) .nil)) (.cons (.for (.many [4, 5, 6, 7]) (.iseq (.idx (.var 0) (.kon (.int 2)))) (.cons (.ife (.cmp 9 (.var 2) (.kon (.non))) (.cons (.set 2 (.call K_with_bound (.cons (.var 2) (.cons (.var 4) (.cons (.var 5) (.cons (.neg (.var 6)) .nil)))))) .nil) .nil) (.cons (.ife (.and (.cmp 9 (.var 2) (.kon (.non))) (.one (.cmp 9 (.var 7) (.kon (.non))))) (.cons (.set 2 (.call K_with_bound (.cons (.var 2) (.cons (.var 5) (.cons (.var 4) (.cons (.var 7) .nil)))))) .nil) .nil) .nil))) (.cons (.ret (.var 2)) .nil))))
def f_begin_of : FnD := ⟨"begin_of", ["queue"], ["queue", "marks", "bounds", "at", "one", "other", "low", "high"], false, b_begin_of⟩
def b_sums_of : Stm := .cons (.ret (.frz (.comp (.bi 5 (.cons (.slc (.var 0) .nop (.sop (.var 1))) .nil)) (.one 1) .tru (.irng (.bin 0 (.bi 0 (.cons (.var 0) .nil)) (.kon (.int 1)))) [1]))) .nil
def f_sums_of : FnD := ⟨"sums_of", ["gaps"], ["gaps", "at"], false, b_sums_of⟩
def b_are_gaps : Stm := .cons (.set 2 (.bin 0 (.bi 0 (.cons (.idx (.var 0) (.kon (.int 1))) .nil)) (.kon (.int 1)))) (.cons (.ife (.or (.not (.call K_has_items (.cons (.var 1) (.cons (.var 2) (.cons (.var 2) .nil))))) (.one (.not (.bi 6 (.cons (.frz (.comp (.call K_is_within (.cons (.var 4) (.cons (.kon (.int 0)) (.cons (.gco V_MOST) .nil)))) (.one 4) .tru (.iseq (.var 1)) [4])) .nil))))) (.cons (.ret (.kon (.bl false))) .nil) .nil) (.cons (.set 3 (.call K_sums_of (.cons (.var 1) .nil))) (.cons (.for (.many [4, 5, 6, 7]) (.iseq (.idx (.var 0) (.kon (.int 2)))) (.cons (.set 8 (.bin 1 (.idx (.var 3) (.var 5)) (.idx (.var 3) (.var 4)))) (.cons (.ife (.or (.cmp 2 (.var 8) (.var 6)) (.one (.and (.cmp 9 (.var 7) (.kon (.non))) (.one (.cmp 4 (.var 8) (.var 7)))))) (.cons (.ret (.kon (.bl false))) .nil) .nil) .nil))) (.cons (.ret (.kon (.bl true))) .nil))))
def f_are_gaps : FnD := ⟨"are_gaps", ["queue", "value"], ["queue", "value", "size", "sums", "one", "other", "low", "high", "between"], false, b_are_gaps⟩
def b_is_deed : Stm := .cons (.ife (.or (.not (.call K_has_items (.cons (.var 1) (.cons (.kon (.int 2)) (.cons (.kon (.int 3)) .nil))))) (.one (.not (.isi (.idx (.var 1) (.kon (.int 0))) 2)))) (.cons (.ret (.kon (.bl false))) .nil) .nil) (.cons (.par [2, 3] (.cons (.idx (.var 1) (.kon (.int 0))) (.cons (.slc (.var 1) (.sop (.kon (.int 1))) .nop) .nil))) (.cons (.ife (.cmp 6 (.var 2) (.tup (.cons (.kon (.str "serve")) (.cons (.kon (.str "come")) .nil)))) (.cons (.ret (.and (.cmp 0 (.bi 0 (.cons (.var 3) .nil)) (.kon (.int 1))) (.one (.call K_is_within (.cons (.idx (.var 3) (.kon (.int 0))) (.cons (.kon (.int 1)) (.cons (.kon (.int 9)) .nil))))))) .nil) .nil) (.cons (.ife (.not (.call K_is_within (.cons (.idx (.var 3) (.kon (.int 0))) (.cons (.kon (.int 0)) (.cons (.bin 1 (.var 0) (.kon (.int 1))) .nil))))) (.cons (.ret (.kon (.bl false))) .nil) .nil) (.cons (.ife (.cmp 6 (.var 2) (.tup (.cons (.kon (.str "back")) (.cons (.kon (.str "off")) .nil)))) (.cons (.ret (.cmp 0 (.bi 0 (.cons (.var 3) .nil)) (.kon (.int 1)))) .nil) .nil) (.cons (.ife (.cmp 0 (.var 2) (.kon (.str "keep"))) (.cons (.ret (.and (.cmp 0 (.bi 0 (.cons (.var 3) .nil)) (.kon (.int 2))) (.and (.isi (.idx (.var 3) (.kon (.int 1))) 2) (.one (.cmp 6 (.idx (.var 3) (.kon (.int 1))) (.gco V_SIDES)))))) .nil) .nil) (.cons (.ife (.cmp 0 (.var 2) (.kon (.str "pass"))) (.cons (.ret (.and (.cmp 0 (.bi 0 (.cons (.var 3) .nil)) (.kon (.int 2))) (.one (.call K_is_within (.cons (.idx (.var 3) (.kon (.int 1))) (.cons (.kon (.int 1)) (.cons (.kon (.int 3)) .nil))))))) .nil) .nil) (.cons (.ret (.and (.cmp 6 (.var 2) (.tup (.cons (.kon (.str "bring")) (.cons (.kon (.str "swap")) .nil)))) (.and (.cmp 0 (.bi 0 (.cons (.var 3) .nil)) (.kon (.int 2))) (.and (.call K_is_within (.cons (.idx (.var 3) (.kon (.int 1))) (.cons (.kon (.int 0)) (.cons (.bin 1 (.var 0) (.kon (.int 1))) .nil)))) (.one (.cmp 1 (.idx (.var 3) (.kon (.int 0))) (.idx (.var 3) (.kon (.int 1))))))))) .nil)))))))
def f_is_deed : FnD := ⟨"is_deed", ["many", "value"], ["many", "value", "word", "rest"], false, b_is_deed⟩
def b_is_script_value : Stm := .cons (.ret (.and (.call K_has_items (.cons (.var 1) (.cons (.kon (.int 0)) (.cons (.gco V_MOST_DEEDS) .nil)))) (.one (.bi 6 (.cons (.frz (.comp (.call K_is_deed (.cons (.idx (.var 0) (.kon (.int 0))) (.cons (.var 2) .nil))) (.one 2) .tru (.iseq (.var 1)) [2])) .nil))))) .nil
def f_is_script_value : FnD := ⟨"is_script_value", ["queue", "value"], ["queue", "value", "one"], false, b_is_script_value⟩
def b_need_queue : Stm := .cons (.ife (.not (.call K_is_queue_value (.cons (.var 0) .nil))) (.cons (.rai "InvalidQueue") .nil) .nil) .nil
def f_need_queue : FnD := ⟨"need_queue", ["value"], ["value"], false, b_need_queue⟩
def b_is_queue : Stm := .cons (.ret (.call K_is_queue_value (.cons (.var 0) .nil))) .nil
def f_is_queue : FnD := ⟨"is_queue", ["value"], ["value"], false, b_is_queue⟩
def b_is_script : Stm := .cons (.expr (.call K_need_queue (.cons (.var 0) .nil))) (.cons (.ret (.call K_is_script_value (.cons (.var 0) (.cons (.var 1) .nil)))) .nil)
def f_is_script : FnD := ⟨"is_script", ["queue", "value"], ["queue", "value"], false, b_is_script⟩
def b_is_gaps : Stm := .cons (.expr (.call K_need_queue (.cons (.var 0) .nil))) (.cons (.ret (.call K_are_gaps (.cons (.var 0) (.cons (.var 1) .nil)))) .nil)
def f_is_gaps : FnD := ⟨"is_gaps", ["queue", "value"], ["queue", "value"], false, b_is_gaps⟩
def b__law_deck : Stm := .cons (.ife (.cmp 5 (.var 0) (.bin 5 (.kon (.int 10)) (.kon (.int 18)))) (.cons (.ret (.obj (.dsp (.cons (.bin 1 (.var 0) (.bin 5 (.kon (.int 10)) (.kon (.int 18)))) (.cons (.bin 4 (.var 0) (.kon (.int 2147483579))) (.cons (.var 1) .nil)))))) .nil) .nil) (.cons (.ret (.obj (.dsp (.cons (.kon (.int 0)) (.cons (.bin 4 (.var 0) (.kon (.int 2147483579))) (.cons (.var 1) .nil)))))) .nil)
def f__law_deck : FnD := ⟨"_law_deck", ["_law_cell", "_law_turn"], ["_law_cell", "_law_turn"], false, b__law_deck⟩
def b__law_pick : Stm := .cons (.ife (.cmp 4 (.idx (.var 0) (.kon (.int 0))) (.kon (.int 1))) (.cons (.set 3 (.bin 4 (.bi 3 (.cons (.idx (.var 0) (.kon (.int 0))) .nil)) (.var 1))) (.cons (.ost (.var 0) (.kon (.int 0)) (.bin 3 (.idx (.var 0) (.kon (.int 0))) (.var 1))) (.cons (.ret (.var 3)) .nil))) .nil) (.cons (.ost (.var 0) (.kon (.int 2)) (.bin 0 (.idx (.var 0) (.kon (.int 2))) (.kon (.int 1)))) (.cons (.set 2 (.bin 4 (.bin 5 (.bin 0 (.idx (.var 0) (.kon (.int 1))) (.bin 2 (.kon (.int 15485867)) (.idx (.var 0) (.kon (.int 2))))) (.kon (.int 5))) (.kon (.int 2147483647)))) (.cons (.set 3 (.bin 3 (.bin 4 (.bin 5 (.bin 0 (.var 2) (.bin 2 (.kon (.int 7919)) (.idx (.var 0) (.kon (.int 2))))) (.kon (.int 3))) (.kon (.int 2147483629))) (.kon (.int 32)))) (.cons (.ret (.bin 4 (.bi 3 (.cons (.var 3) .nil)) (.var 1))) .nil))))
def f__law_pick : FnD := ⟨"_law_pick", ["_law_deck_here", "_law_size"], ["_law_deck_here", "_law_size", "_law_number_here", "_law_found"], false, b__law_pick⟩
def b__law_whole : Stm := .cons (.ret (.and (.isi (.var 0) 0) (.one (.not (.isi (.var 0) 1))))) .nil
def f__law_whole : FnD := ⟨"_law_whole", ["_law_thing"], ["_law_thing"], false, b__law_whole⟩
def b__law_one : Stm := .cons (.ret (.idx (.var 1) (.call K__law_pick (.cons (.var 0) (.cons (.bi 0 (.cons (.var 1) .nil)) .nil))))) .nil
def f__law_one : FnD := ⟨"_law_one", ["_law_deck_here", "_law_some"], ["_law_deck_here", "_law_some"], false, b__law_one⟩
def b__law_sort : Stm := .cons (.ife (.isi (.var 0) 1) (.cons (.ret (.kon (.int 1))) .nil) .nil) (.cons (.ife (.isi (.var 0) 0) (.cons (.ret (.kon (.int 2))) .nil) .nil) (.cons (.ife (.isi (.var 0) 2) (.cons (.ret (.kon (.int 3))) .nil) .nil) (.cons (.ife (.isi (.var 0) 3) (.cons (.ret (.kon (.int 4))) .nil) .nil) (.cons (.ret (.ifx (.isi (.var 0) 4) (.kon (.int 5)) (.kon (.int 6)))) .nil))))
def f__law_sort : FnD := ⟨"_law_sort", ["_law_thing"], ["_law_thing"], false, b__law_sort⟩
def b__law_same : Stm := .cons (.ife (.cmp 1 (.call K__law_sort (.cons (.var 0) .nil)) (.call K__law_sort (.cons (.var 1) .nil))) (.cons (.ret (.kon (.bl false))) .nil) .nil) (.cons (.ife (.and (.cmp 4 (.call K__law_sort (.cons (.var 0) .nil)) (.kon (.int 3))) (.one (.cmp 2 (.call K__law_sort (.cons (.var 0) .nil)) (.kon (.int 6))))) (.cons (.ife (.cmp 1 (.bi 0 (.cons (.var 0) .nil)) (.bi 0 (.cons (.var 1) .nil))) (.cons (.ret (.kon (.bl false))) .nil) .nil) (.cons (.ret (.cmp 0 (.frz (.comp (.var 2) (.many [2, 3]) (.cnd (.not (.call K__law_same (.cons (.var 3) (.cons (.idx (.var 1) (.var 2)) .nil))))) (.ienum (.var 0)) [2, 3])) (.frz (.dsp .nil)))) .nil)) .nil) (.cons (.ret (.cmp 0 (.var 0) (.var 1))) .nil))
def f__law_same : FnD := ⟨"_law_same", ["_law_told", "_law_due"], ["_law_told", "_law_due", "_law_k", "_law_part"], false, b__law_same⟩
def b__law_two : Stm := .cons (.set 2 (.call K__law_pick (.cons (.var 0) (.cons (.var 1) .nil)))) (.cons (.ret (.tup (.cons (.var 2) (.cons (.bin 4 (.bin 0 (.bin 0 (.var 2) (.kon (.int 1))) (.call K__law_pick (.cons (.var 0) (.cons (.bin 1 (.var 1) (.kon (.int 1))) .nil)))) (.var 1)) .nil)))) .nil)
def f__law_two : FnD := ⟨"_law_two", ["_law_deck_here", "_law_many"], ["_law_deck_here", "_law_many", "_law_one_here"], false, b__law_two⟩
def b__law_deed : Stm := .cons (.tup (.many [5, 6]) (.call K__law_two (.cons (.var 0) (.cons (.var 1) .nil)))) (.cons (.set 3 (.frz (.dsp (.cons (.kon (.str "serve")) (.cons (.kon (.str "serve")) (.cons (.kon (.str "come")) (.cons (.kon (.str "keep")) (.cons (.kon (.str "keep")) (.cons (.kon (.str "back")) (.cons (.kon (.str "back")) (.cons (.kon (.str "pass")) (.cons (.kon (.str "pass")) (.cons (.kon (.str "swap")) (.cons (.kon (.str "bring")) (.cons (.kon (.str "off")) .nil))))))))))))))) (.cons (.set 4 (.call K__law_one (.cons (.var 0) (.cons (.var 3) .nil)))) (.cons (.ife (.cmp 6 (.var 4) (.frz (.dsp (.cons (.kon (.str "serve")) (.cons (.kon (.str "come")) .nil))))) (.cons (.ret (.tup (.cons (.var 4) (.cons (.bin 0 (.kon (.int 1)) (.call K__law_pick (.cons (.var 0) (.cons (.var 2) .nil)))) .nil)))) .nil) .nil) (.cons (.ife (.cmp 0 (.var 4) (.kon (.str "keep"))) (.cons (.ret (.tup (.cons (.var 4) (.cons (.var 5) (.cons (.call K__law_one (.cons (.var 0) (.cons (.frz (.dsp (.cons (.kon (.str "ahead")) (.cons (.kon (.str "behind")) .nil)))) .nil))) .nil))))) .nil) .nil) (.cons (.ife (.cmp 0 (.var 4) (.kon (.str "pass"))) (.cons (.ret (.tup (.cons (.var 4) (.cons (.var 5) (.cons (.bin 0 (.kon (.int 1)) (.call K__law_pick (.cons (.var 0) (.cons (.bi 2 (.cons (.var 2) (.cons (.kon (.int 3)) .nil))) .nil)))) .nil))))) .nil) .nil) (.cons (.ret (.ifx (.cmp 6 (.var 4) (.frz (.dsp (.cons (.kon (.str "back")) (.cons (.kon (.str "off")) .nil))))) (.tup (.cons (.var 4) (.cons (.var 5) .nil))) (.tup (.cons (.var 4) (.cons (.var 5) (.cons (.var 6) .nil)))))) .nil))))))
def f__law_deed : FnD := ⟨"_law_deed", ["_law_deck_here", "_law_many", "_law_most"], ["_law_deck_here", "_law_many", "_law_most", "_law_words_so", "_law_saying", "_law_one_here", "_law_other"], false, b__law_deed⟩
def b__law_script : Stm := .cons (.set 4 (.bi 7 (.cons (.frz (.comp (.call K__law_deed (.cons (.var 0) (.cons (.var 1) (.cons (.var 3) .nil)))) (.one 7) .tru (.irng (.call K__law_pick (.cons (.var 0) (.cons (.bin 0 (.var 2) (.kon (.int 1))) .nil)))) [7])) .nil))) (.cons (.ife (.and (.cmp 4 (.var 2) (.kon (.int 2))) (.one (.cmp 4 (.call K__law_pick (.cons (.var 0) (.cons (.kon (.int 3)) .nil))) (.kon (.int 0))))) (.cons (.set 5 (.call K__law_pick (.cons (.var 0) (.cons (.var 1) .nil)))) (.cons (.set 6 (.tup (.cons (.tup (.cons (.kon (.str "keep")) (.cons (.var 5) (.cons (.call K__law_one (.cons (.var 0) (.cons (.frz (.dsp (.cons (.kon (.str "ahead")) (.cons (.kon (.str "behind")) .nil)))) .nil))) .nil)))) (.cons (.call K__law_deed (.cons (.var 0) (.cons (.var 1) (.cons (.var 3) .nil)))) (.cons (.tup (.cons (.kon (.str "back")) (.cons (.var 5) .nil))) .nil))))) (.cons (.set 4 (.bin 0 (.var 6) (.slc (.var 4) .nop (.sop (.bin 1 (.var 2) (.kon (.int 3))))))) .nil))) .nil) (.cons (.ret (.var 4)) .nil))
def f__law_script : FnD := ⟨"_law_script", ["_law_deck_here", "_law_many", "_law_size", "_law_most"], ["_law_deck_here", "_law_many", "_law_size", "_law_most", "_law_found", "_law_one_here", "_law_row_here", "_law_turn"], false, b__law_script⟩
def b__law_row : Stm := .cons (.par [4, 5] (.cons (.frz (.lrng (.var 1))) (.cons (.tup .nil) .nil))) (.cons (.for (.one 3) (.irng (.bin 0 (.kon (.int 1)) (.call K__law_pick (.cons (.var 0) (.cons (.bi 2 (.cons (.var 1) (.cons (.var 2) .nil))) .nil))))) (.cons (.set 6 (.call K__law_one (.cons (.var 0) (.cons (.var 4) .nil)))) (.cons (.set 5 (.bin 0 (.var 5) (.tup (.cons (.var 6) .nil)))) (.cons (.setc 4 (.var 7) (.one 7) (.cnd (.cmp 1 (.var 7) (.var 6))) (.iseq (.var 4)) [7]) (.frz 4 .nil))))) (.cons (.ret (.var 5)) .nil))
def f__law_row : FnD := ⟨"_law_row", ["_law_deck_here", "_law_many", "_law_most"], ["_law_deck_here", "_law_many", "_law_most", "_law_turn", "_law_rest", "_law_found", "_law_one_here", "_law_other"], false, b__law_row⟩
def b__law_fact : Stm := .cons (.set 2 (.call K__law_pick (.cons (.var 0) (.cons (.bin 0 (.var 1) (.kon (.int 1))) .nil)))) (.cons (.set 3 (.bin 0 (.bin 0 (.var 2) (.kon (.int 1))) (.call K__law_pick (.cons (.var 0) (.cons (.bin 1 (.bin 0 (.var 1) (.kon (.int 1))) (.var 2)) .nil))))) (.cons (.set 4 (.call K__law_pick (.cons (.var 0) (.cons (.kon (.int 4)) .nil)))) (.cons (.ret (.tup (.cons (.var 2) (.cons (.var 3) (.cons (.var 4) (.cons (.call K__law_one (.cons (.var 0) (.cons (.frz (.dsp (.cons (.kon (.non)) (.cons (.kon (.non)) (.cons (.bin 0 (.var 4) (.call K__law_pick (.cons (.var 0) (.cons (.kon (.int 4)) .nil)))) .nil))))) .nil))) .nil)))))) .nil)))
def f__law_fact : FnD := ⟨"_law_fact", ["_law_deck_here", "_law_marks"], ["_law_deck_here", "_law_marks", "_law_one_here", "_law_other", "_law_low"], false, b__law_fact⟩
def b__law_queue : Stm := .cons (.set 2 (.bin 0 (.kon (.int 2)) (.call K__law_pick (.cons (.var 0) (.cons (.kon (.int 3)) .nil))))) (.cons (.par [4, 5] (.cons (.call K__law_row (.cons (.var 0) (.cons (.var 2) (.cons (.var 1) .nil)))) (.cons (.tup .nil) .nil))) (.cons (.for (.one 3) (.irng (.call K__law_one (.cons (.var 0) (.cons (.frz (.dsp (.cons (.kon (.int 0)) (.cons (.kon (.int 0)) (.cons (.kon (.int 1)) (.cons (.kon (.int 2)) .nil)))))) .nil)))) (.cons (.set 6 (.bin 0 (.var 5) (.tup (.cons (.call K__law_fact (.cons (.var 0) (.cons (.bi 0 (.cons (.var 4) .nil)) .nil))) .nil)))) (.cons (.ife (.cmp 1 (.call K__law_boxes (.cons (.tup (.cons (.var 2) (.cons (.var 4) (.cons (.var 6) .nil)))) (.cons (.kon (.int 4)) .nil))) (.frz (.dsp .nil))) (.cons (.set 5 (.var 6)) .nil) .nil) .nil))) (.cons (.ret (.tup (.cons (.var 2) (.cons (.var 4) (.cons (.var 5) .nil))))) .nil)))
def f__law_queue : FnD := ⟨"_law_queue", ["_law_deck_here", "_law_most"], ["_law_deck_here", "_law_most", "_law_many", "_law_turn", "_law_row_here", "_law_facts", "_law_more"], false, b__law_queue⟩
def b__law_keeps : Stm := .cons (.for (.many [2, 3, 4, 5]) (.iseq (.idx (.var 0) (.kon (.int 2)))) (.cons (.set 6 (.bi 5 (.cons (.slc (.var 1) (.sop (.var 2)) (.sop (.var 3))) .nil))) (.cons (.ife (.or (.cmp 2 (.var 6) (.var 4)) (.one (.and (.cmp 9 (.var 5) (.kon (.non))) (.one (.cmp 4 (.var 6) (.var 5)))))) (.cons (.ret (.kon (.bl false))) .nil) .nil) .nil))) (.cons (.ret (.kon (.bl true))) .nil)
def f__law_keeps : FnD := ⟨"_law_keeps", ["_law_queue_here", "_law_gaps"], ["_law_queue_here", "_law_gaps", "_law_one_here", "_law_other", "_law_low", "_law_high", "_law_between_so"], false, b__law_keeps⟩
def b__law_boxes : Stm := .cons (.set 2 (.frz (.dsp (.cons (.tup .nil) .nil)))) (.cons (.for (.one 3) (.irng (.bin 0 (.bi 0 (.cons (.idx (.var 0) (.kon (.int 1))) .nil)) (.kon (.int 1)))) (.cons (.set 4 (.frz (.dsp .nil))) (.cons (.for (.one 5) (.iseq (.var 2)) (.cons (.set 4 (.frz (.lcat (.var 4) (.frz (.comp (.bin 0 (.var 5) (.tup (.cons (.var 7) .nil))) (.one 7) .tru (.irng (.bin 0 (.var 1) (.kon (.int 1)))) [7]))))) .nil)) (.cons (.set 2 (.var 4)) .nil)))) (.cons (.ret (.frz (.comp (.var 6) (.one 6) (.cnd (.call K__law_keeps (.cons (.var 0) (.cons (.var 6) .nil)))) (.iseq (.var 2)) [6]))) .nil))
def f__law_boxes : FnD := ⟨"_law_boxes", ["_law_queue_here", "_law_top"], ["_law_queue_here", "_law_top", "_law_found", "_law_turn", "_law_longer", "_law_row_here", "_law_gaps", "_law_one_here"], false, b__law_boxes⟩
def b__law_number : Stm := .cons (.ret (.and (.call K__law_whole (.cons (.var 0) .nil)) (.one (.chn 3 3 (.var 1) (.var 0) (.var 2))))) .nil
def f__law_number : FnD := ⟨"_law_number", ["_law_thing", "_law_low", "_law_high"], ["_law_thing", "_law_low", "_law_high"], false, b__law_number⟩
def b__law_is_fact : Stm := .cons (.ife (.or (.not (.isi (.var 1) 4)) (.one (.cmp 1 (.bi 0 (.cons (.var 1) .nil)) (.kon (.int 4))))) (.cons (.ret (.kon (.bl false))) .nil) .nil) (.cons (.ife (.or (.not (.call K__law_number (.cons (.idx (.var 1) (.kon (.int 0))) (.cons (.kon (.int 0)) (.cons (.var 0) .nil))))) (.or (.not (.call K__law_number (.cons (.idx (.var 1) (.kon (.int 1))) (.cons (.kon (.int 0)) (.cons (.bin 0 (.var 0) (.kon (.int 1))) .nil))))) (.one (.cmp 5 (.idx (.var 1) (.kon (.int 0))) (.idx (.var 1) (.kon (.int 1))))))) (.cons (.ret (.kon (.bl false))) .nil) .nil) (.cons (.ife (.not (.call K__law_number (.cons (.idx (.var 1) (.kon (.int 2))) (.cons (.kon (.int 0)) (.cons (.kon (.int 60)) .nil))))) (.cons (.ret (.kon (.bl false))) .nil) .nil) (.cons (.ret (.or (.cmp 8 (.idx (.var 1) (.kon (.int 3))) (.kon (.non))) (.one (.call K__law_number (.cons (.idx (.var 1) (.kon (.int 3))) (.cons (.idx (.var 1) (.kon (.int 2))) (.cons (.kon (.int 60)) .nil))))))) .nil)))
def f__law_is_fact : FnD := ⟨"_law_is_fact", ["_law_marks", "_law_thing"], ["_law_marks", "_law_thing"], false, b__law_is_fact⟩
def b__law_is_queue : Stm := .cons (.ife (.or (.not (.isi (.var 0) 4)) (.or (.cmp 1 (.bi 0 (.cons (.var 0) .nil)) (.kon (.int 3))) (.one (.not (.call K__law_number (.cons (.idx (.var 0) (.kon (.int 0))) (.cons (.kon (.int 2)) (.cons (.kon (.int 4)) .nil)))))))) (.cons (.ret (.kon (.bl false))) .nil) .nil) (.cons (.tup (.many [1, 2, 3]) (.var 0)) (.cons (.ife (.or (.not (.isi (.var 2) 4)) (.one (.not (.chn 3 3 (.kon (.int 1)) (.bi 0 (.cons (.var 2) .nil)) (.var 1))))) (.cons (.ret (.kon (.bl false))) .nil) .nil) (.cons (.ife (.or (.cmp 1 (.frz (.comp (.kon (.int 1)) (.one 4) (.cnd (.not (.call K__law_number (.cons (.var 4) (.cons (.kon (.int 0)) (.cons (.bin 1 (.var 1) (.kon (.int 1))) .nil)))))) (.iseq (.var 2)) [4])) (.frz (.dsp .nil))) (.one (.cmp 1 (.lset (.var 2)) (.bi 0 (.cons (.var 2) .nil))))) (.cons (.ret (.kon (.bl false))) .nil) .nil) (.cons (.ife (.or (.not (.isi (.var 3) 4)) (.one (.cmp 4 (.bi 0 (.cons (.var 3) .nil)) (.kon (.int 4))))) (.cons (.ret (.kon (.bl false))) .nil) .nil) (.cons (.ret (.cmp 0 (.frz (.comp (.kon (.int 1)) (.one 4) (.cnd (.not (.call K__law_is_fact (.cons (.bi 0 (.cons (.var 2) .nil)) (.cons (.var 4) .nil))))) (.iseq (.var 3)) [4])) (.frz (.dsp .nil)))) .nil)))))
def f__law_is_queue : FnD := ⟨"_law_is_queue", ["_law_thing"], ["_law_thing", "_law_many", "_law_row_here", "_law_facts", "_law_one_here"], false, b__law_is_queue⟩
def b__law_can_be : Stm := .cons (.paro 2 3 (.bin 0 (.bi 0 (.cons (.idx (.var 0) (.kon (.int 1))) .nil)) (.kon (.int 1))) (.lrep (.dsp (.cons (.kon (.int 0)) .nil)) (.bin 0 (.bi 0 (.cons (.idx (.var 0) (.kon (.int 1))) .nil)) (.kon (.int 2))))) (.cons (.for (.one 1) (.irng (.kon (.int 400))) (.cons (.for (.many [5, 6, 7, 8]) (.iseq (.idx (.var 0) (.kon (.int 2)))) (.cons (.osto 3 (.var 6) (.bi 1 (.cons (.oix 3 (.var 6)) (.cons (.bin 0 (.oix 3 (.var 5)) (.var 7)) .nil)))) (.cons (.ife (.cmp 9 (.var 8) (.kon (.non))) (.cons (.osto 3 (.var 5) (.bi 1 (.cons (.oix 3 (.var 5)) (.cons (.bin 1 (.oix 3 (.var 6)) (.var 8)) .nil)))) .nil) .nil) .nil))) (.cons (.for (.one 4) (.irng (.var 2)) (.cons (.osto 3 (.bin 0 (.var 4) (.kon (.int 1))) (.bi 1 (.cons (.oix 3 (.bin 0 (.var 4) (.kon (.int 1)))) (.cons (.oix 3 (.var 4)) .nil)))) .nil)) .nil))) (.cons (.ret (.and (.cmp 0 (.oix 3 (.kon (.int 0))) (.kon (.int 0))) (.one (.call K__law_keeps (.cons (.var 0) (.cons (.bi 7 (.cons (.frz (.comp (.bin 1 (.oix 3 (.bin 0 (.var 4) (.kon (.int 1)))) (.oix 3 (.var 4))) (.one 4) .tru (.irng (.var 2)) [4])) .nil)) .nil)))))) .nil))
def f__law_can_be : FnD := ⟨"_law_can_be", ["_law_queue_here"], ["_law_queue_here", "_law_turn", "_law_marks", "_law_least", "_law_at", "_law_one_here", "_law_other", "_law_low", "_law_high"], false, b__law_can_be⟩
def b__law_is_deed : Stm := .cons (.ife (.or (.not (.isi (.var 1) 4)) (.or (.cmp 2 (.bi 0 (.cons (.var 1) .nil)) (.kon (.int 2))) (.one (.not (.isi (.idx (.var 1) (.kon (.int 0))) 2))))) (.cons (.ret (.kon (.bl false))) .nil) .nil) (.cons (.ife (.cmp 6 (.idx (.var 1) (.kon (.int 0))) (.frz (.dsp (.cons (.kon (.str "serve")) (.cons (.kon (.str "come")) .nil))))) (.cons (.ret (.and (.cmp 0 (.bi 0 (.cons (.var 1) .nil)) (.kon (.int 2))) (.one (.call K__law_number (.cons (.idx (.var 1) (.kon (.int 1))) (.cons (.kon (.int 1)) (.cons (.kon (.int 9)) .nil))))))) .nil) .nil) (.cons (.ife (.or (.cmp 7 (.idx (.var 1) (.kon (.int 0))) (.frz (.dsp (.cons (.kon (.str "keep")) (.cons (.kon (.str "back")) (.cons (.kon (.str "pass")) (.cons (.kon (.str "swap")) (.cons (.kon (.str "bring")) (.cons (.kon (.str "off")) .nil))))))))) (.one (.not (.call K__law_number (.cons (.idx (.var 1) (.kon (.int 1))) (.cons (.kon (.int 0)) (.cons (.bin 1 (.var 0) (.kon (.int 1))) .nil))))))) (.cons (.ret (.kon (.bl false))) .nil) .nil) (.cons (.ife (.or (.cmp 6 (.idx (.var 1) (.kon (.int 0))) (.frz (.dsp (.cons (.kon (.str "back")) (.cons (.kon (.str "off")) .nil))))) (.one (.cmp 1 (.bi 0 (.cons (.var 1) .nil)) (.kon (.int 3))))) (.cons (.ret (.and (.cmp 0 (.bi 0 (.cons (.var 1) .nil)) (.kon (.int 2))) (.one (.cmp 6 (.idx (.var 1) (.kon (.int 0))) (.frz (.dsp (.cons (.kon (.str "back")) (.cons (.kon (.str "off")) .nil)))))))) .nil) .nil) (.cons (.ife (.cmp 0 (.idx (.var 1) (.kon (.int 0))) (.kon (.str "keep"))) (.cons (.ret (.and (.isi (.idx (.var 1) (.kon (.int 2))) 2) (.one (.cmp 6 (.idx (.var 1) (.kon (.int 2))) (.frz (.dsp (.cons (.kon (.str "ahead")) (.cons (.kon (.str "behind")) .nil)))))))) .nil) .nil) (.cons (.ife (.cmp 0 (.idx (.var 1) (.kon (.int 0))) (.kon (.str "pass"))) (.cons (.ret (.call K__law_number (.cons (.idx (.var 1) (.kon (.int 2))) (.cons (.kon (.int 1)) (.cons (.kon (.int 3)) .nil))))) .nil) .nil) (.cons (.ret (.and (.call K__law_number (.cons (.idx (.var 1) (.kon (.int 2))) (.cons (.kon (.int 0)) (.cons (.bin 1 (.var 0) (.kon (.int 1))) .nil)))) (.one (.cmp 1 (.idx (.var 1) (.kon (.int 2))) (.idx (.var 1) (.kon (.int 1))))))) .nil))))))
def f__law_is_deed : FnD := ⟨"_law_is_deed", ["_law_many", "_law_thing"], ["_law_many", "_law_thing"], false, b__law_is_deed⟩
def b__law_spoilt : Stm := .cons (.ife (.and (.isw (.var 1)) (.and (.cmp 4 (.bi 0 (.cons (.var 1) .nil)) (.kon (.int 0))) (.one (.cmp 4 (.call K__law_pick (.cons (.var 0) (.cons (.kon (.int 7)) .nil))) (.kon (.int 0)))))) (.cons (.seto 2 (.lof (.var 1))) (.cons (.set 3 (.call K__law_pick (.cons (.var 0) (.cons (.olen 2) .nil)))) (.cons (.osto 2 (.var 3) (.call K__law_spoilt (.cons (.var 0) (.cons (.oix 2 (.var 3)) .nil)))) (.frz 2 (.cons (.ret (.ifx (.isi (.var 1) 4) (.bi 7 (.cons (.var 2) .nil)) (.var 2))) .nil))))) .nil) (.cons (.ife (.isw (.var 1)) (.cons (.set 4 (.ifx (.isi (.var 1) 4) (.frz (.lof (.var 1))) (.bi 7 (.cons (.var 1) .nil)))) (.cons (.ret (.idx (.frz (.dsp (.cons (.var 4) (.cons (.alt 1 (.bin 0 (.var 1) (.slc (.var 1) .nop (.sop (.kon (.int 1))))) (.frz (.lcat (.var 1) (.frz (.lslc (.var 1) .nop (.sop (.kon (.int 1)))))))) (.cons (.alt 1 (.slc (.var 1) (.sop (.kon (.int 1))) .nop) (.frz (.lslc (.var 1) (.sop (.kon (.int 1))) .nop))) (.cons (.alt 1 (.trev (.var 1)) (.frz (.lrev (.var 1)))) (.cons (.tup (.cons (.kon (.int 0)) (.cons (.kon (.int 1)) .nil))) (.cons (.kon (.non)) .nil)))))))) (.call K__law_pick (.cons (.var 0) (.cons (.kon (.int 6)) .nil))))) .nil)) .nil) (.cons (.ife (.isi (.var 1) 2) (.cons (.ret (.call K__law_one (.cons (.var 0) (.cons (.frz (.dsp (.cons (.kon (.str "serve")) (.cons (.kon (.str "keep")) (.cons (.kon (.str "back")) (.cons (.kon (.str "ahead")) (.cons (.kon (.str "")) (.cons (.kon (.non)) (.cons (.kon (.int 0)) (.cons (.kon (.str "Pass")) .nil)))))))))) .nil)))) .nil) .nil) (.cons (.ife (.call K__law_whole (.cons (.var 1) .nil)) (.cons (.ret (.idx (.frz (.dsp (.cons (.bin 1 (.kon (.int 1)) (.var 1)) (.cons (.bin 0 (.var 1) (.kon (.int 1))) (.cons (.kon (.int 60)) (.cons (.kon (.bl true)) (.cons (.kon (.bl false)) (.cons (.kon (.non)) (.cons (.kon (.str "1")) (.cons (.kon (.int 0)) (.cons (.kon (.int 3)) (.cons (.kon (.int 61)) .nil)))))))))))) (.call K__law_pick (.cons (.var 0) (.cons (.kon (.int 10)) .nil))))) .nil) .nil) (.cons (.ret (.idx (.frz (.dsp (.cons (.kon (.non)) (.cons (.kon (.int 0)) (.cons (.kon (.str "x")) (.cons (.tup .nil) (.cons (.frz (.dsp .nil)) (.cons (.kon (.bl true)) (.cons (.kon (.int 5)) .nil))))))))) (.call K__law_pick (.cons (.var 0) (.cons (.kon (.int 7)) .nil))))) .nil))))
def f__law_spoilt : FnD := ⟨"_law_spoilt", ["_law_deck_here", "_law_thing"], ["_law_deck_here", "_law_thing", "_law_rows", "_law_at", "_law_other"], false, b__law_spoilt⟩
def b__law_all_right : Stm := .cons (.set 4 (.bin 0 (.bi 0 (.cons (.idx (.var 1) (.kon (.int 1))) .nil)) (.kon (.int 1)))) (.cons (.for (.one 5) (.iseq (.frz (.lcat (.frz (.dsp (.cons (.var 2) (.cons (.var 3) .nil)))) (.frz (.comp (.call K__law_spoilt (.cons (.var 0) (.cons (.call K__law_one (.cons (.var 0) (.cons (.frz (.dsp (.cons (.var 2) (.cons (.var 3) .nil)))) .nil))) .nil))) (.one 7) .tru (.irng (.kon (.int 16))) [7]))))) (.cons (.set 6 (.and (.isi (.var 5) 4) (.and (.cmp 3 (.bi 0 (.cons (.var 5) .nil)) (.kon (.int 6))) (.one (.cmp 0 (.frz (.comp (.kon (.int 1)) (.one 8) (.cnd (.not (.call K__law_is_deed (.cons (.idx (.var 1) (.kon (.int 0))) (.cons (.var 8) .nil))))) (.iseq (.var 5)) [8])) (.frz (.dsp .nil))))))) (.cons (.ife (.not (.call K__law_same (.cons (.call K_is_script (.cons (.var 1) (.cons (.var 5) .nil))) (.cons (.var 6) .nil)))) (.cons (.ret (.kon (.bl false))) .nil) .nil) (.cons (.set 6 (.and (.isi (.var 5) 4) (.one (.cmp 0 (.bi 0 (.cons (.var 5) .nil)) (.var 4))))) (.cons (.set 6 (.and (.var 6) (.and (.cmp 0 (.frz (.comp (.kon (.int 1)) (.one 8) (.cnd (.not (.call K__law_number (.cons (.var 8) (.cons (.kon (.int 0)) (.cons (.bin 5 (.kon (.int 10)) (.kon (.int 30))) .nil)))))) (.iseq (.var 5)) [8])) (.frz (.dsp .nil))) (.one (.call K__law_keeps (.cons (.var 1) (.cons (.var 5) .nil))))))) (.cons (.ife (.not (.call K__law_same (.cons (.call K_is_gaps (.cons (.var 1) (.cons (.var 5) .nil))) (.cons (.var 6) .nil)))) (.cons (.ret (.kon (.bl false))) .nil) .nil) .nil)))))) (.cons (.ret (.kon (.bl true))) .nil))
def f__law_all_right : FnD := ⟨"_law_all_right", ["_law_deck_here", "_law_queue_here", "_law_script_so", "_law_gaps"], ["_law_deck_here", "_law_queue_here", "_law_script_so", "_law_gaps", "_law_size", "_law_thing", "_law_good", "_law_k", "_law_one_here"], false, b__law_all_right⟩
def b_law : Stm := .cons (.for (.one 1) (.iseq (.frz (.lslc (.frz (.lcat (.frz (.dsp (.cons (.kon (.int 0)) .nil))) (.var 0))) .nop (.sop (.kon (.int 10)))))) (.cons (.set 4 (.call K__law_deck (.cons (.var 1) (.cons (.kon (.int 1)) .nil)))) (.cons (.set 5 (.call K__law_queue (.cons (.var 4) (.cons (.kon (.int 4)) .nil)))) (.cons (.set 6 (.call K__law_spoilt (.cons (.var 4) (.cons (.var 5) .nil)))) (.cons (.set 7 (.frz (.dsp (.cons (.var 5) (.cons (.var 6) (.cons (.call K__law_spoilt (.cons (.var 4) (.cons (.var 6) .nil))) (.cons (.idx (.var 5) (.kon (.int 1))) (.cons (.frz (.lof (.var 5))) (.cons (.kon (.non)) (.cons (.tup .nil) (.cons (.slc (.var 5) .nop (.sop (.kon (.int 2)))) (.cons (.tup (.cons (.kon (.int 5)) (.cons (.tup (.cons (.kon (.int 0)) .nil)) (.cons (.tup .nil) .nil)))) .nil)))))))))))) (.cons (.for (.one 8) (.iseq (.frz (.lcat (.var 7) (.frz (.comp (.call K__law_spoilt (.cons (.var 4) (.cons (.var 5) .nil))) (.one 11) .tru (.irng (.kon (.int 40))) [11]))))) (.cons (.set 10 (.and (.call K__law_is_queue (.cons (.var 8) .nil)) (.one (.call K__law_can_be (.cons (.var 8) .nil))))) (.cons (.ife (.not (.call K__law_same (.cons (.call K_is_queue (.cons (.var 8) .nil)) (.cons (.var 10) .nil)))) (.cons (.ret (.kon (.bl false))) .nil) .nil) (.cons (.ife (.and (.not (.var 10)) (.one (.cmp 1 (.tri 0 (.call K_is_gaps (.cons (.var 8) (.cons (.kon (.non)) .nil)))) (.kon (.str "queue +"))))) (.cons (.ret (.kon (.bl false))) .nil) .nil) .nil)))) (.cons (.set 9 (.call K__law_script (.cons (.var 4) (.cons (.idx (.var 5) (.kon (.int 0))) (.cons (.kon (.int 6)) (.cons (.kon (.int 9)) .nil)))))) (.cons (.ife (.not (.call K__law_all_right (.cons (.var 4) (.cons (.var 5) (.cons (.var 9) (.cons (.idx (.call K__law_boxes (.cons (.var 5) (.cons (.kon (.int 4)) .nil))) (.kon (.int 0))) .nil)))))) (.cons (.ret (.kon (.bl false))) .nil) .nil) .nil)))))))) (.cons (.ife (.cmp 9 (.call K_is_gaps (.cons (.tup (.cons (.kon (.int 3)) (.cons (.tup (.cons (.kon (.int 0)) (.cons (.kon (.int 1)) .nil))) (.cons (.tup (.cons (.tup (.cons (.kon (.int 0)) (.cons (.kon (.int 1)) (.cons (.kon (.int 0)) (.cons (.kon (.int 2)) .nil))))) .nil)) .nil)))) (.cons (.tup (.cons (.kon (.int 3)) (.cons (.kon (.int 0)) (.cons (.kon (.int 0)) .nil)))) .nil))) (.kon (.bl false))) (.cons (.ret (.kon (.bl false))) .nil) .nil) (.cons (.set 2 (.tup (.cons (.tup (.cons (.kon (.int 0)) (.cons (.kon (.int 1)) (.cons (.kon (.int 5)) (.cons (.kon (.int 9)) .nil))))) (.cons (.tup (.cons (.kon (.int 1)) (.cons (.kon (.int 2)) (.cons (.kon (.int 5)) (.cons (.kon (.non)) .nil))))) (.cons (.tup (.cons (.kon (.int 0)) (.cons (.kon (.int 2)) (.cons (.kon (.int 0)) (.cons (.kon (.int 10)) .nil))))) .nil))))) (.cons (.set 3 (.frz (.dsp (.cons (.tup (.cons (.kon (.int 2)) (.cons (.tup (.cons (.kon (.int 1)) .nil)) (.cons (.var 2) .nil)))) (.cons (.tup (.cons (.kon (.int 2)) (.cons (.tup (.cons (.kon (.int 1)) .nil)) (.cons (.bin 0 (.slc (.var 2) .nop (.sop (.kon (.int 2)))) (.tup (.cons (.tup (.cons (.kon (.int 0)) (.cons (.kon (.int 2)) (.cons (.kon (.int 0)) (.cons (.kon (.int 9)) .nil))))) .nil))) .nil)))) (.cons (.tup (.cons (.kon (.int 2)) (.cons (.tup (.cons (.kon (.int 1)) .nil)) (.cons (.bin 0 (.var 2) (.slc (.var 2) .nop (.sop (.kon (.int 2))))) .nil)))) (.cons (.tup (.cons (.kon (.int 2)) (.cons (.tup .nil) (.cons (.tup .nil) .nil)))) .nil))))))) (.cons (.set 3 (.frz (.lcat (.var 3) (.frz (.dsp (.cons (.tup (.cons (.kon (.int 4)) (.cons (.tup (.cons (.kon (.int 3)) (.cons (.kon (.int 0)) (.cons (.kon (.int 1)) (.cons (.kon (.int 2)) .nil))))) (.cons (.tup .nil) .nil)))) (.cons (.tup (.cons (.kon (.int 2)) (.cons (.tup (.cons (.kon (.int 0)) (.cons (.kon (.int 1)) .nil))) (.cons (.tup (.cons (.tup (.cons (.kon (.int 0)) (.cons (.kon (.int 3)) (.cons (.kon (.int 61)) (.cons (.kon (.non)) .nil))))) .nil)) .nil)))) (.cons (.tup (.cons (.kon (.int 2)) (.cons (.tup (.cons (.kon (.int 0)) (.cons (.kon (.int 0)) .nil))) (.cons (.tup .nil) .nil)))) (.cons (.tup (.cons (.kon (.int 3)) (.cons (.tup (.cons (.kon (.int 0)) .nil)) (.cons (.tup (.cons (.tup (.cons (.kon (.int 1)) (.cons (.kon (.int 2)) (.cons (.kon (.int 3)) (.cons (.kon (.int 2)) .nil))))) .nil)) .nil)))) .nil))))))))) (.cons (.ret (.cmp 0 (.frz (.comp (.call K_is_queue (.cons (.var 8) .nil)) (.one 8) .tru (.iseq (.var 3)) [8])) (.frz (.dsp (.cons (.kon (.bl true)) (.cons (.kon (.bl false)) (.cons (.kon (.bl false)) (.cons (.kon (.bl false)) (.cons (.kon (.bl true)) (.cons (.kon (.bl false)) (.cons (.kon (.bl false)) (.cons (.kon (.bl false)) .nil)))))))))))) .nil)))))
def f_law : FnD := ⟨"law", ["_law_script_here"], ["_law_script_here", "_law_cell", "_law_facts", "_law_rows", "_law_deck_here", "_law_queue_here", "_law_bent", "_law_some", "_law_thing", "_law_script_so", "_law_good", "_law_k"], true, b_law⟩
def fns : List FnD := [f_bounds_of, f_least_of, f_summed, f_with_bound, f_closer, f_is_within, f_has_items, f_is_row, f_is_fact, f_is_queue_value, f_begin_of, f_sums_of, f_are_gaps, f_is_deed, f_is_script_value, f_need_queue, f_is_queue, f_is_script, f_is_gaps, f__law_deck, f__law_pick, f__law_whole, f__law_one, f__law_sort, f__law_same, f__law_two, f__law_deed, f__law_script, f__law_row, f__law_fact, f__law_queue, f__law_keeps, f__law_boxes, f__law_number, f__law_is_fact, f__law_is_queue, f__law_can_be, f__law_is_deed, f__law_spoilt, f__law_all_right, f_law]
def toldD (d : D) : D := .tup [.str "told", d]
def kinT : List (Str × Str) := [("InvalidQueue", "queue +"), ("InvalidGaps", "gaps +"), ("InvalidScript", "script +"), ("InvalidPerson", "person +"), ("InvalidNumber", "number +"), ("InvalidSeen", "seen +"), ("InvalidDeeds", "deeds +"), ("InvalidPlan", "plan +"), ("InvalidIndex", "index +"), ("Unlike", "unlike +"), ("NothingToUndo", "undo +")]
def kinD (n : Str) (fl : Option D) : Option D := match kinT.lookup n, fl with
  | some s, none => some (.str s)
  | _, _ => none
def exN : List Str := ["QueueError", "InvalidQueue", "InvalidGaps", "InvalidScript", "InvalidPerson", "InvalidNumber", "InvalidSeen", "InvalidDeeds", "InvalidPlan", "InvalidIndex", "Unlike", "NothingToUndo", "TooMany", "InvalidText", "ValueError"]
def isE (a b : Str) : Option Bool := some (decide (a = b) || decide (b = "ValueError") || decide (b = "QueueError"))
def gvL : List (Str × D) := [("SIDES", .tup [.str "ahead", .str "behind"]), ("MOST", .int 1000000000000000000000000000000), ("MOST_DEEDS", .int 6)]
def GG : Gm := ⟨fns.map (·.nm), gvL, [("_law_try", toldD, kinD)], exN, ["InvalidQueue", "InvalidGaps", "InvalidScript", "InvalidPerson", "InvalidNumber", "InvalidSeen", "InvalidDeeds", "InvalidPlan", "InvalidIndex", "Unlike", "NothingToUndo"], [], isE⟩
theorem c_bounds_of : (ckS GG f_bounds_of.N (defScope (top 1)) b_bounds_of).b (defBody (top 1)) = true := by decide +kernel
theorem s_bounds_of : FnScope f_bounds_of.N f_bounds_of.ps (defScope (top 1)) := ⟨rfl, rfl, rfl, by decide +kernel, rfl, by decide +kernel, by decide +kernel⟩
theorem c_least_of : (ckS GG f_least_of.N (defScope (top 2)) b_least_of).b (defBody (top 2)) = true := by decide +kernel
theorem s_least_of : FnScope f_least_of.N f_least_of.ps (defScope (top 2)) := ⟨rfl, rfl, rfl, by decide +kernel, rfl, by decide +kernel, by decide +kernel⟩
theorem c_summed : (ckS GG f_summed.N (defScope (top 3)) b_summed).b (defBody (top 3)) = true := by decide +kernel
theorem s_summed : FnScope f_summed.N f_summed.ps (defScope (top 3)) := ⟨rfl, rfl, rfl, by decide +kernel, rfl, by decide +kernel, by decide +kernel⟩
theorem c_with_bound : (ckS GG f_with_bound.N (defScope (top 4)) b_with_bound).b (defBody (top 4)) = true := by decide +kernel
theorem s_with_bound : FnScope f_with_bound.N f_with_bound.ps (defScope (top 4)) := ⟨rfl, rfl, rfl, by decide +kernel, rfl, by decide +kernel, by decide +kernel⟩
theorem c_closer : (ckS GG f_closer.N (defScope (top 5)) b_closer).b (defBody (top 5)) = true := by decide +kernel
theorem s_closer : FnScope f_closer.N f_closer.ps (defScope (top 5)) := ⟨rfl, rfl, rfl, by decide +kernel, rfl, by decide +kernel, by decide +kernel⟩
theorem c_is_within : (ckS GG f_is_within.N (defScope (top 25)) b_is_within).b (defBody (top 25)) = true := by decide +kernel
theorem s_is_within : FnScope f_is_within.N f_is_within.ps (defScope (top 25)) := ⟨rfl, rfl, rfl, by decide +kernel, rfl, by decide +kernel, by decide +kernel⟩
theorem c_has_items : (ckS GG f_has_items.N (defScope (top 26)) b_has_items).b (defBody (top 26)) = true := by decide +kernel
theorem s_has_items : FnScope f_has_items.N f_has_items.ps (defScope (top 26)) := ⟨rfl, rfl, rfl, by decide +kernel, rfl, by decide +kernel, by decide +kernel⟩
theorem c_is_row : (ckS GG f_is_row.N (defScope (top 27)) b_is_row).b (defBody (top 27)) = true := by decide +kernel
theorem s_is_row : FnScope f_is_row.N f_is_row.ps (defScope (top 27)) := ⟨rfl, rfl, rfl, by decide +kernel, rfl, by decide +kernel, by decide +kernel⟩
theorem c_is_fact : (ckS GG f_is_fact.N (defScope (top 28)) b_is_fact).b (defBody (top 28)) = true := by decide +kernel
theorem s_is_fact : FnScope f_is_fact.N f_is_fact.ps (defScope (top 28)) := ⟨rfl, rfl, rfl, by decide +kernel, rfl, by decide +kernel, by decide +kernel⟩
theorem c_is_queue_value : (ckS GG f_is_queue_value.N (defScope (top 29)) b_is_queue_value).b (defBody (top 29)) = true := by decide +kernel
theorem s_is_queue_value : FnScope f_is_queue_value.N f_is_queue_value.ps (defScope (top 29)) := ⟨rfl, rfl, rfl, by decide +kernel, rfl, by decide +kernel, by decide +kernel⟩
theorem c_begin_of : (ckS GG f_begin_of.N (defScope (top 30)) b_begin_of).b (defBody (top 30)) = true := by decide +kernel
theorem s_begin_of : FnScope f_begin_of.N f_begin_of.ps (defScope (top 30)) := ⟨rfl, rfl, rfl, by decide +kernel, rfl, by decide +kernel, by decide +kernel⟩
theorem c_sums_of : (ckS GG f_sums_of.N (defScope (top 31)) b_sums_of).b (defBody (top 31)) = true := by decide +kernel
theorem s_sums_of : FnScope f_sums_of.N f_sums_of.ps (defScope (top 31)) := ⟨rfl, rfl, rfl, by decide +kernel, rfl, by decide +kernel, by decide +kernel⟩
theorem c_are_gaps : (ckS GG f_are_gaps.N (defScope (top 32)) b_are_gaps).b (defBody (top 32)) = true := by decide +kernel
theorem s_are_gaps : FnScope f_are_gaps.N f_are_gaps.ps (defScope (top 32)) := ⟨rfl, rfl, rfl, by decide +kernel, rfl, by decide +kernel, by decide +kernel⟩
theorem c_is_deed : (ckS GG f_is_deed.N (defScope (top 33)) b_is_deed).b (defBody (top 33)) = true := by decide +kernel
theorem s_is_deed : FnScope f_is_deed.N f_is_deed.ps (defScope (top 33)) := ⟨rfl, rfl, rfl, by decide +kernel, rfl, by decide +kernel, by decide +kernel⟩
theorem c_is_script_value : (ckS GG f_is_script_value.N (defScope (top 34)) b_is_script_value).b (defBody (top 34)) = true := by decide +kernel
theorem s_is_script_value : FnScope f_is_script_value.N f_is_script_value.ps (defScope (top 34)) := ⟨rfl, rfl, rfl, by decide +kernel, rfl, by decide +kernel, by decide +kernel⟩
theorem c_need_queue : (ckS GG f_need_queue.N (defScope (top 35)) b_need_queue).b (defBody (top 35)) = true := by decide +kernel
theorem s_need_queue : FnScope f_need_queue.N f_need_queue.ps (defScope (top 35)) := ⟨rfl, rfl, rfl, by decide +kernel, rfl, by decide +kernel, by decide +kernel⟩
theorem c_is_queue : (ckS GG f_is_queue.N (defScope (top 36)) b_is_queue).b (defBody (top 36)) = true := by decide +kernel
theorem s_is_queue : FnScope f_is_queue.N f_is_queue.ps (defScope (top 36)) := ⟨rfl, rfl, rfl, by decide +kernel, rfl, by decide +kernel, by decide +kernel⟩
theorem c_is_script : (ckS GG f_is_script.N (defScope (top 37)) b_is_script).b (defBody (top 37)) = true := by decide +kernel
theorem s_is_script : FnScope f_is_script.N f_is_script.ps (defScope (top 37)) := ⟨rfl, rfl, rfl, by decide +kernel, rfl, by decide +kernel, by decide +kernel⟩
theorem c_is_gaps : (ckS GG f_is_gaps.N (defScope (top 38)) b_is_gaps).b (defBody (top 38)) = true := by decide +kernel
theorem s_is_gaps : FnScope f_is_gaps.N f_is_gaps.ps (defScope (top 38)) := ⟨rfl, rfl, rfl, by decide +kernel, rfl, by decide +kernel, by decide +kernel⟩
theorem c__law_deck : (ckS GG f__law_deck.N (defScope (top 40)) b__law_deck).b (defBody (top 40)) = true := by decide +kernel
theorem s__law_deck : FnScope f__law_deck.N f__law_deck.ps (defScope (top 40)) := ⟨rfl, rfl, rfl, by decide +kernel, rfl, by decide +kernel, by decide +kernel⟩
theorem c__law_pick : (ckS GG f__law_pick.N (defScope (top 41)) b__law_pick).b (defBody (top 41)) = true := by decide +kernel
theorem s__law_pick : FnScope f__law_pick.N f__law_pick.ps (defScope (top 41)) := ⟨rfl, rfl, rfl, by decide +kernel, rfl, by decide +kernel, by decide +kernel⟩
theorem c__law_whole : (ckS GG f__law_whole.N (defScope (top 42)) b__law_whole).b (defBody (top 42)) = true := by decide +kernel
theorem s__law_whole : FnScope f__law_whole.N f__law_whole.ps (defScope (top 42)) := ⟨rfl, rfl, rfl, by decide +kernel, rfl, by decide +kernel, by decide +kernel⟩
theorem c__law_one : (ckS GG f__law_one.N (defScope (top 43)) b__law_one).b (defBody (top 43)) = true := by decide +kernel
theorem s__law_one : FnScope f__law_one.N f__law_one.ps (defScope (top 43)) := ⟨rfl, rfl, rfl, by decide +kernel, rfl, by decide +kernel, by decide +kernel⟩
theorem c__law_sort : (ckS GG f__law_sort.N (defScope (top 44)) b__law_sort).b (defBody (top 44)) = true := by decide +kernel
theorem s__law_sort : FnScope f__law_sort.N f__law_sort.ps (defScope (top 44)) := ⟨rfl, rfl, rfl, by decide +kernel, rfl, by decide +kernel, by decide +kernel⟩
theorem c__law_same : (ckS GG f__law_same.N (defScope (top 45)) b__law_same).b (defBody (top 45)) = true := by decide +kernel
theorem s__law_same : FnScope f__law_same.N f__law_same.ps (defScope (top 45)) := ⟨rfl, rfl, rfl, by decide +kernel, rfl, by decide +kernel, by decide +kernel⟩
theorem c__law_two : (ckS GG f__law_two.N (defScope (top 48)) b__law_two).b (defBody (top 48)) = true := by decide +kernel
theorem s__law_two : FnScope f__law_two.N f__law_two.ps (defScope (top 48)) := ⟨rfl, rfl, rfl, by decide +kernel, rfl, by decide +kernel, by decide +kernel⟩
theorem c__law_deed : (ckS GG f__law_deed.N (defScope (top 49)) b__law_deed).b (defBody (top 49)) = true := by decide +kernel
theorem s__law_deed : FnScope f__law_deed.N f__law_deed.ps (defScope (top 49)) := ⟨rfl, rfl, rfl, by decide +kernel, rfl, by decide +kernel, by decide +kernel⟩
theorem c__law_script : (ckS GG f__law_script.N (defScope (top 50)) b__law_script).b (defBody (top 50)) = true := by decide +kernel
theorem s__law_script : FnScope f__law_script.N f__law_script.ps (defScope (top 50)) := ⟨rfl, rfl, rfl, by decide +kernel, rfl, by decide +kernel, by decide +kernel⟩
theorem c__law_row : (ckS GG f__law_row.N (defScope (top 51)) b__law_row).b (defBody (top 51)) = true := by decide +kernel
theorem s__law_row : FnScope f__law_row.N f__law_row.ps (defScope (top 51)) := ⟨rfl, rfl, rfl, by decide +kernel, rfl, by decide +kernel, by decide +kernel⟩
theorem c__law_fact : (ckS GG f__law_fact.N (defScope (top 52)) b__law_fact).b (defBody (top 52)) = true := by decide +kernel
theorem s__law_fact : FnScope f__law_fact.N f__law_fact.ps (defScope (top 52)) := ⟨rfl, rfl, rfl, by decide +kernel, rfl, by decide +kernel, by decide +kernel⟩
theorem c__law_queue : (ckS GG f__law_queue.N (defScope (top 53)) b__law_queue).b (defBody (top 53)) = true := by decide +kernel
theorem s__law_queue : FnScope f__law_queue.N f__law_queue.ps (defScope (top 53)) := ⟨rfl, rfl, rfl, by decide +kernel, rfl, by decide +kernel, by decide +kernel⟩
theorem c__law_keeps : (ckS GG f__law_keeps.N (defScope (top 54)) b__law_keeps).b (defBody (top 54)) = true := by decide +kernel
theorem s__law_keeps : FnScope f__law_keeps.N f__law_keeps.ps (defScope (top 54)) := ⟨rfl, rfl, rfl, by decide +kernel, rfl, by decide +kernel, by decide +kernel⟩
theorem c__law_boxes : (ckS GG f__law_boxes.N (defScope (top 55)) b__law_boxes).b (defBody (top 55)) = true := by decide +kernel
theorem s__law_boxes : FnScope f__law_boxes.N f__law_boxes.ps (defScope (top 55)) := ⟨rfl, rfl, rfl, by decide +kernel, rfl, by decide +kernel, by decide +kernel⟩
theorem c__law_number : (ckS GG f__law_number.N (defScope (top 56)) b__law_number).b (defBody (top 56)) = true := by decide +kernel
theorem s__law_number : FnScope f__law_number.N f__law_number.ps (defScope (top 56)) := ⟨rfl, rfl, rfl, by decide +kernel, rfl, by decide +kernel, by decide +kernel⟩
theorem c__law_is_fact : (ckS GG f__law_is_fact.N (defScope (top 57)) b__law_is_fact).b (defBody (top 57)) = true := by decide +kernel
theorem s__law_is_fact : FnScope f__law_is_fact.N f__law_is_fact.ps (defScope (top 57)) := ⟨rfl, rfl, rfl, by decide +kernel, rfl, by decide +kernel, by decide +kernel⟩
theorem c__law_is_queue : (ckS GG f__law_is_queue.N (defScope (top 58)) b__law_is_queue).b (defBody (top 58)) = true := by decide +kernel
theorem s__law_is_queue : FnScope f__law_is_queue.N f__law_is_queue.ps (defScope (top 58)) := ⟨rfl, rfl, rfl, by decide +kernel, rfl, by decide +kernel, by decide +kernel⟩
theorem c__law_can_be : (ckS GG f__law_can_be.N (defScope (top 59)) b__law_can_be).b (defBody (top 59)) = true := by decide +kernel
theorem s__law_can_be : FnScope f__law_can_be.N f__law_can_be.ps (defScope (top 59)) := ⟨rfl, rfl, rfl, by decide +kernel, rfl, by decide +kernel, by decide +kernel⟩
theorem c__law_is_deed : (ckS GG f__law_is_deed.N (defScope (top 60)) b__law_is_deed).b (defBody (top 60)) = true := by decide +kernel
theorem s__law_is_deed : FnScope f__law_is_deed.N f__law_is_deed.ps (defScope (top 60)) := ⟨rfl, rfl, rfl, by decide +kernel, rfl, by decide +kernel, by decide +kernel⟩
theorem c__law_spoilt : (ckS GG f__law_spoilt.N (defScope (top 61)) b__law_spoilt).b (defBody (top 61)) = true := by decide +kernel
theorem s__law_spoilt : FnScope f__law_spoilt.N f__law_spoilt.ps (defScope (top 61)) := ⟨rfl, rfl, rfl, by decide +kernel, rfl, by decide +kernel, by decide +kernel⟩
theorem c__law_all_right : (ckS GG f__law_all_right.N (defScope (top 62)) b__law_all_right).b (defBody (top 62)) = true := by decide +kernel
theorem s__law_all_right : FnScope f__law_all_right.N f__law_all_right.ps (defScope (top 62)) := ⟨rfl, rfl, rfl, by decide +kernel, rfl, by decide +kernel, by decide +kernel⟩
theorem c_law : (ckS GG f_law.N (defScope (top 63)) b_law).b (defBody (top 63)) = true := by decide +kernel
theorem s_law : FnScope f_law.N f_law.ps (defScope (top 63)) := ⟨rfl, rfl, rfl, by decide +kernel, rfl, by decide +kernel, by decide +kernel⟩
theorem g_bounds_of : fns[K_bounds_of]? = some f_bounds_of := rfl
theorem g_least_of : fns[K_least_of]? = some f_least_of := rfl
theorem g_summed : fns[K_summed]? = some f_summed := rfl
theorem g_with_bound : fns[K_with_bound]? = some f_with_bound := rfl
theorem g_closer : fns[K_closer]? = some f_closer := rfl
theorem g_is_within : fns[K_is_within]? = some f_is_within := rfl
theorem g_has_items : fns[K_has_items]? = some f_has_items := rfl
theorem g_is_row : fns[K_is_row]? = some f_is_row := rfl
theorem g_is_fact : fns[K_is_fact]? = some f_is_fact := rfl
theorem g_is_queue_value : fns[K_is_queue_value]? = some f_is_queue_value := rfl
theorem g_begin_of : fns[K_begin_of]? = some f_begin_of := rfl
theorem g_sums_of : fns[K_sums_of]? = some f_sums_of := rfl
theorem g_are_gaps : fns[K_are_gaps]? = some f_are_gaps := rfl
theorem g_is_deed : fns[K_is_deed]? = some f_is_deed := rfl
theorem g_is_script_value : fns[K_is_script_value]? = some f_is_script_value := rfl
theorem g_need_queue : fns[K_need_queue]? = some f_need_queue := rfl
theorem g_is_queue : fns[K_is_queue]? = some f_is_queue := rfl
theorem g_is_script : fns[K_is_script]? = some f_is_script := rfl
theorem g_is_gaps : fns[K_is_gaps]? = some f_is_gaps := rfl
theorem g__law_deck : fns[K__law_deck]? = some f__law_deck := rfl
theorem g__law_pick : fns[K__law_pick]? = some f__law_pick := rfl
theorem g__law_whole : fns[K__law_whole]? = some f__law_whole := rfl
theorem g__law_one : fns[K__law_one]? = some f__law_one := rfl
theorem g__law_sort : fns[K__law_sort]? = some f__law_sort := rfl
theorem g__law_same : fns[K__law_same]? = some f__law_same := rfl
theorem g__law_two : fns[K__law_two]? = some f__law_two := rfl
theorem g__law_deed : fns[K__law_deed]? = some f__law_deed := rfl
theorem g__law_script : fns[K__law_script]? = some f__law_script := rfl
theorem g__law_row : fns[K__law_row]? = some f__law_row := rfl
theorem g__law_fact : fns[K__law_fact]? = some f__law_fact := rfl
theorem g__law_queue : fns[K__law_queue]? = some f__law_queue := rfl
theorem g__law_keeps : fns[K__law_keeps]? = some f__law_keeps := rfl
theorem g__law_boxes : fns[K__law_boxes]? = some f__law_boxes := rfl
theorem g__law_number : fns[K__law_number]? = some f__law_number := rfl
theorem g__law_is_fact : fns[K__law_is_fact]? = some f__law_is_fact := rfl
theorem g__law_is_queue : fns[K__law_is_queue]? = some f__law_is_queue := rfl
theorem g__law_can_be : fns[K__law_can_be]? = some f__law_can_be := rfl
theorem g__law_is_deed : fns[K__law_is_deed]? = some f__law_is_deed := rfl
theorem g__law_spoilt : fns[K__law_spoilt]? = some f__law_spoilt := rfl
theorem g__law_all_right : fns[K__law_all_right]? = some f__law_all_right := rfl
theorem g_law : fns[K_law]? = some f_law := rfl
end PV

set_option Elab.async false
set_option linter.all false
set_option maxRecDepth 100000
set_option maxHeartbeats 4000000
namespace PV
open PySem PySem.Spec PyProof.Rows L2
def m_bounds_of (Φ : Nat → List D → Mm D) (a0 : D) : Mm D := bnd (bnd (bnd (bnd (opt (irngD a0)) fun t1 => mapO (fun x2 => bnd (nox (ret true)) fun b12 => if b12 = true then bnd (nox (bnd (bnd (bnd (bnd (opt (irngD a0)) fun t3 => mapO (fun x4 => bnd (nox (ret true)) fun b7 => if b7 = true then bnd (nox (bnd (bnd (opt (eqD false x2 x4)) fun t5 => opt (isB t5)) fun q6 => if q6 = true then ret ((.int 0 : D)) else ret ((.non : D)))) fun d8 => ret (some d8) else ret none) t3) fun t9 => ret ((.lst t9))) fun t10 => ret ([t10])) fun t11 => opt (tupD t11))) fun d13 => ret (some d13) else ret none) t1) fun t14 => ret ((.lst t14))) fun t15 => ret ([t15])) fun t16 => opt (tupD t16)
theorem e_bounds_of (n : Nat) (a0 : D) : Phi GG fns (n + 1) K_bounds_of [a0] = m_bounds_of (Phi GG fns n) a0 := by
  rw [Phi_eq g_bounds_of rfl]
  rfl
def m_least_of (Φ : Nat → List D → Mm D) (a0 : D) (a1 : D) : Mm D := bnd (bnd (bnd (opt (isND false a0 (.non : D))) fun t1 => opt (isB t1)) fun q2 => if q2 = true then ret (true) else bnd (opt (isND false a1 (.non : D))) fun t3 => opt (isB t3)) fun q4 => if q4 = true then bnd (bnd (opt (isND false a1 (.non : D))) fun t5 => opt (isB t5)) fun q6 => if q6 = true then ret (a0) else ret (a1) else opt (min2D [a0, a1])
theorem e_least_of (n : Nat) (a0 : D) (a1 : D) : Phi GG fns (n + 1) K_least_of [a0, a1] = m_least_of (Phi GG fns n) a0 a1 := by
  rw [Phi_eq g_least_of rfl]
  rfl
def m_summed (Φ : Nat → List D → Mm D) (a0 : D) (a1 : D) : Mm D := bnd (bnd (bnd (opt (isND false a0 (.non : D))) fun t1 => opt (isB t1)) fun q2 => if q2 = true then ret (true) else bnd (opt (isND false a1 (.non : D))) fun t3 => opt (isB t3)) fun q4 => if q4 = true then ret ((.non : D)) else opt (addD a0 a1)
theorem e_summed (n : Nat) (a0 : D) (a1 : D) : Phi GG fns (n + 1) K_summed [a0, a1] = m_summed (Phi GG fns n) a0 a1 := by
  rw [Phi_eq g_summed rfl]
  rfl
def m_with_bound (Φ : Nat → List D → Mm D) (a0 : D) (a1 : D) (a2 : D) (a3 : D) : Mm D := bnd (bnd (rd fun S => idxD S a0 a2) fun t1 => rd fun S => idxD S t1 a1) fun t2 => bnd (bnd (bnd (opt (isND true t2 (.non : D))) fun t3 => opt (isB t3)) fun q4 => if q4 = true then bnd (bnd (opt (addD t2 a3)) fun t5 => opt (ordD (fun i j => decide (i < j)) t5 (.int 0 : D))) fun t6 => opt (isB t6) else ret (false)) fun q7 => if q7 = true then ret ((.non : D)) else bnd (bnd (bnd (bnd (bnd (rd fun S => idxD S a0 a1) fun t8 => rd fun S => idxD S t8 a2) fun t9 => opt (isND true t9 (.non : D))) fun t10 => opt (isB t10)) fun q11 => if q11 = true then bnd (bnd (bnd (rd fun S => idxD S a0 a1) fun t12 => rd fun S => idxD S t12 a2) fun t13 => opt (ordD (fun i j => decide (i ≤ j)) t13 a3)) fun t14 => opt (isB t14) else ret (false)) fun q15 => if q15 = true then ret (a0) else bnd (bnd (bnd (opt (lenD [a0])) fun t16 => opt (rngD t16)) fun t17 => ret ((.lst t17))) fun t18 => bnd (bnd (bnd (bnd (opt (itemsD t18)) fun t19 => mapO (fun x20 => bnd (nox (ret true)) fun b28 => if b28 = true then bnd (nox (bnd (bnd (bnd (bnd (opt (itemsD t18)) fun t21 => mapO (fun x22 => bnd (nox (ret true)) fun b23 => if b23 = true then bnd (nox (Φ K_closer [a0, x20, x22, a1, a2, a3])) fun d24 => ret (some d24) else ret none) t21) fun t25 => ret ((.lst t25))) fun t26 => ret ([t26])) fun t27 => opt (tupD t27))) fun d29 => ret (some d29) else ret none) t19) fun t30 => ret ((.lst t30))) fun t31 => ret ([t31])) fun t32 => opt (tupD t32)
theorem e_with_bound (n : Nat) (a0 : D) (a1 : D) (a2 : D) (a3 : D) : Phi GG fns (n + 1) K_with_bound [a0, a1, a2, a3] = m_with_bound (Phi GG fns n) a0 a1 a2 a3 := by
  rw [Phi_eq g_with_bound rfl]
  rfl
def m_closer (Φ : Nat → List D → Mm D) (a0 : D) (a1 : D) (a2 : D) (a3 : D) (a4 : D) (a5 : D) : Mm D := bnd (bnd (bnd (rd fun S => idxD S a0 a1) fun t1 => rd fun S => idxD S t1 a2) fun t2 => bnd (bnd (bnd (bnd (bnd (bnd (bnd (rd fun S => idxD S a0 a1) fun t3 => rd fun S => idxD S t3 a3) fun t4 => ret ([t4, a5])) fun t5 => Φ K_summed t5) fun t6 => bnd (bnd (bnd (rd fun S => idxD S a0 a4) fun t7 => rd fun S => idxD S t7 a2) fun t8 => ret ([t8])) fun t9 => ret ((t6 :: t9))) fun t10 => Φ K_summed t10) fun t11 => ret ([t11])) fun t12 => ret ((t2 :: t12))) fun t13 => Φ K_least_of t13
theorem e_closer (n : Nat) (a0 : D) (a1 : D) (a2 : D) (a3 : D) (a4 : D) (a5 : D) : Phi GG fns (n + 1) K_closer [a0, a1, a2, a3, a4, a5] = m_closer (Phi GG fns n) a0 a1 a2 a3 a4 a5 := by
  rw [Phi_eq g_closer rfl]
  rfl
def m_is_within (Φ : Nat → List D → Mm D) (a0 : D) (a1 : D) (a2 : D) : Mm D := bnd (opt (isiD "int" a0)) fun t1 => bnd (opt (isB t1)) fun q2 => if q2 = true then bnd (bnd (opt (isiD "bool" a0)) fun t3 => opt ((isB t3).map fun b => .bl (!b))) fun t4 => bnd (opt (isB t4)) fun q5 => if q5 = true then bnd (opt (ordD (fun i j => decide (i ≤ j)) a1 a0)) fun t6 => bnd (opt (isB t6)) fun q7 => if q7 = true then opt (ordD (fun i j => decide (i ≤ j)) a0 a2) else ret (.bl false) else ret (.bl false) else ret (.bl false)
theorem e_is_within (n : Nat) (a0 : D) (a1 : D) (a2 : D) : Phi GG fns (n + 1) K_is_within [a0, a1, a2] = m_is_within (Phi GG fns n) a0 a1 a2 := by
  rw [Phi_eq g_is_within rfl]
  rfl
def m_has_items (Φ : Nat → List D → Mm D) (a0 : D) (a1 : D) (a2 : D) : Mm D := bnd (opt (isiD "tuple" a0)) fun t1 => bnd (opt (isB t1)) fun q2 => if q2 = true then bnd (opt (lenD [a0])) fun t3 => bnd (opt (ordD (fun i j => decide (i ≤ j)) a1 t3)) fun t4 => bnd (opt (isB t4)) fun q5 => if q5 = true then opt (ordD (fun i j => decide (i ≤ j)) t3 a2) else ret (.bl false) else ret (.bl false)
theorem e_has_items (n : Nat) (a0 : D) (a1 : D) (a2 : D) : Phi GG fns (n + 1) K_has_items [a0, a1, a2] = m_has_items (Phi GG fns n) a0 a1 a2 := by
  rw [Phi_eq g_has_items rfl]
  rfl
def m_is_row (Φ : Nat → List D → Mm D) (a0 : D) (a1 : D) : Mm D := bnd (bnd (bnd (bnd (Φ K_has_items [a1, (.int 1 : D), a0]) fun t1 => opt (isB t1)) fun q2 => ret ((!q2))) fun q3 => if q3 = true then ret (true) else bnd (bnd (bnd (bnd (bnd (bnd (opt (itemsD a1)) fun t4 => mapO (fun x5 => bnd (nox (ret true)) fun b10 => if b10 = true then bnd (nox (bnd (bnd (bnd (bnd (opt (subD a0 (.int 1 : D))) fun t6 => ret ([t6])) fun t7 => ret (((.int 0 : D) :: t7))) fun t8 => ret ((x5 :: t8))) fun t9 => Φ K_is_within t9)) fun d11 => ret (some d11) else ret none) t4) fun t12 => ret ((.lst t12))) fun t13 => ret ([t13])) fun t14 => opt (allD t14)) fun t15 => opt (isB t15)) fun q16 => ret ((!q16))) fun q17 => if q17 = true then ret ((.bl false : D)) else bnd (opt (lenSetD a1)) fun t18 => bnd (opt (lenD [a1])) fun t19 => opt (eqD false t18 t19)
theorem e_is_row (n : Nat) (a0 : D) (a1 : D) : Phi GG fns (n + 1) K_is_row [a0, a1] = m_is_row (Phi GG fns n) a0 a1 := by
  rw [Phi_eq g_is_row rfl]
  rfl
def m_is_fact (Φ : Nat → List D → Mm D) (a0 : D) (a1 : D) : Mm D := bnd (bnd (bnd (bnd (Φ K_has_items [a1, (.int 4 : D), (.int 4 : D)]) fun t1 => opt (isB t1)) fun q2 => ret ((!q2))) fun q3 => if q3 = true then ret (true) else bnd (bnd (bnd (bnd (bnd (rd fun S => idxD S a1 (.int 0 : D)) fun t4 => ret ([t4, (.int 0 : D), a0])) fun t5 => Φ K_is_within t5) fun t6 => opt (isB t6)) fun q7 => ret ((!q7))) fun q8 => if q8 = true then ret (true) else bnd (bnd (bnd (bnd (rd fun S => idxD S a1 (.int 1 : D)) fun t9 => bnd (bnd (bnd (opt (addD a0 (.int 1 : D))) fun t10 => ret ([t10])) fun t11 => ret (((.int 0 : D) :: t11))) fun t12 => ret ((t9 :: t12))) fun t13 => Φ K_is_within t13) fun t14 => opt (isB t14)) fun q15 => ret ((!q15))) fun q16 => if q16 = true then ret ((.bl false : D)) else bnd (bnd (bnd (bnd (rd fun S => idxD S a1 (.int 0 : D)) fun t17 => bnd (rd fun S => idxD S a1 (.int 1 : D)) fun t18 => opt (ordD (fun i j => decide (j ≤ i)) t17 t18)) fun t19 => opt (isB t19)) fun q20 => if q20 = true then ret (true) else bnd (bnd (bnd (bnd (rd fun S => idxD S a1 (.int 2 : D)) fun t21 => ret ([t21, (.int 0 : D), (.int 60 : D)])) fun t22 => Φ K_is_within t22) fun t23 => opt (isB t23)) fun q24 => ret ((!q24))) fun q25 => if q25 = true then ret ((.bl false : D)) else bnd (bnd (rd fun S => idxD S a1 (.int 3 : D)) fun t26 => opt (isND false t26 (.non : D))) fun t27 => bnd (opt (isB t27)) fun q28 => if q28 = true then ret (.bl true) else bnd (bnd (rd fun S => idxD S a1 (.int 3 : D)) fun t29 => bnd (bnd (rd fun S => idxD S a1 (.int 2 : D)) fun t30 => ret ([t30, (.int 60 : D)])) fun t31 => ret ((t29 :: t31))) fun t32 => Φ K_is_within t32
theorem e_is_fact (n : Nat) (a0 : D) (a1 : D) : Phi GG fns (n + 1) K_is_fact [a0, a1] = m_is_fact (Phi GG fns n) a0 a1 := by
  rw [Phi_eq g_is_fact rfl]
  rfl
def m_is_queue_value (Φ : Nat → List D → Mm D) (a0 : D) : Mm D := bnd (bnd (bnd (bnd (Φ K_has_items [a0, (.int 3 : D), (.int 3 : D)]) fun t1 => opt (isB t1)) fun q2 => ret ((!q2))) fun q3 => if q3 = true then ret (true) else bnd (bnd (bnd (bnd (bnd (rd fun S => idxD S a0 (.int 0 : D)) fun t4 => ret ([t4, (.int 2 : D), (.int 4 : D)])) fun t5 => Φ K_is_within t5) fun t6 => opt (isB t6)) fun q7 => ret ((!q7))) fun q8 => if q8 = true then ret (true) else bnd (bnd (bnd (bnd (rd fun S => idxD S a0 (.int 0 : D)) fun t9 => bnd (bnd (rd fun S => idxD S a0 (.int 1 : D)) fun t10 => ret ([t10])) fun t11 => ret ((t9 :: t11))) fun t12 => Φ K_is_row t12) fun t13 => opt (isB t13)) fun q14 => ret ((!q14))) fun q15 => if q15 = true then ret ((.bl false : D)) else bnd (bnd (bnd (bnd (bnd (bnd (rd fun S => idxD S a0 (.int 2 : D)) fun t16 => ret ([t16, (.int 0 : D), (.int 4 : D)])) fun t17 => Φ K_has_items t17) fun t18 => opt (isB t18)) fun q19 => ret ((!q19))) fun q20 => if q20 = true then ret (true) else bnd (bnd (bnd (bnd (bnd (bnd (bnd (rd fun S => idxD S a0 (.int 2 : D)) fun t21 => opt (itemsD t21)) fun t22 => mapO (fun x23 => bnd (nox (ret true)) fun b28 => if b28 = true then bnd (nox (bnd (bnd (bnd (bnd (rd fun S => idxD S a0 (.int 1 : D)) fun t24 => ret ([t24])) fun t25 => opt (lenD t25)) fun t26 => ret ([t26, x23])) fun t27 => Φ K_is_fact t27)) fun d29 => ret (some d29) else ret none) t22) fun t30 => ret ((.lst t30))) fun t31 => ret ([t31])) fun t32 => opt (allD t32)) fun t33 => opt (isB t33)) fun q34 => ret ((!q34))) fun q35 => if q35 = true then ret ((.bl false : D)) else bnd (Φ K_begin_of [a0]) fun t36 => opt (isND true t36 (.non : D))
theorem e_is_queue_value (n : Nat) (a0 : D) : Phi GG fns (n + 1) K_is_queue_value [a0] = m_is_queue_value (Phi GG fns n) a0 := by
  rw [Phi_eq g_is_queue_value rfl]
  rfl
def m_begin_of (Φ : Nat → List D → Mm D) (a0 : D) : Mm D := bnd (bnd (bnd (bnd (rd fun S => idxD S a0 (.int 1 : D)) fun t1 => ret ([t1])) fun t2 => opt (lenD t2)) fun t3 => opt (addD t3 (.int 1 : D))) fun t4 => bnd (bnd (bnd (opt (addD t4 (.int 1 : D))) fun t5 => ret ([t5])) fun t6 => Φ K_bounds_of t6) fun t7 => bnd (opt (irngD t4)) fun t8 => forC (asgn (.one 3)) (fun ρ9 k10 => bnd (bnd (bnd (opt (getV ρ9 2)) fun t11 => bnd (bnd (opt (getV ρ9 3)) fun t12 => bnd (bnd (bnd (opt (getV ρ9 3)) fun t13 => opt (addD t13 (.int 1 : D))) fun t14 => ret ([t14, (.int 0 : D)])) fun t15 => ret ((t12 :: t15))) fun t16 => ret ((t11 :: t16))) fun t17 => Φ K_with_bound t17) fun t18 => k10 (ρ9.set 2 (.val t18))) t8 [.val a0, .val t4, .val t7, .un, .un, .un, .un, .un] fun ρ19 => bnd (bnd (bnd (opt (getV ρ19 0)) fun t20 => rd fun S => idxD S t20 (.int 2 : D)) fun t21 => opt (itemsD t21)) fun t22 => forC (asgn (.many [4, 5, 6, 7])) (fun ρ23 k24 => bnd (bnd (bnd (opt (getV ρ23 2)) fun t25 => opt (isND true t25 (.non : D))) fun t26 => opt (isB t26)) fun q27 => if q27 = true then bnd (bnd (bnd (opt (getV ρ23 2)) fun t28 => bnd (bnd (opt (getV ρ23 4)) fun t29 => bnd (bnd (opt (getV ρ23 5)) fun t30 => bnd (bnd (bnd (opt (getV ρ23 6)) fun t31 => opt (negD t31)) fun t32 => ret ([t32])) fun t33 => ret ((t30 :: t33))) fun t34 => ret ((t29 :: t34))) fun t35 => ret ((t28 :: t35))) fun t36 => Φ K_with_bound t36) fun t37 => bnd (bnd (bnd (bnd (opt (getV (ρ23.set 2 (.val t37)) 2)) fun t38 => opt (isND true t38 (.non : D))) fun t39 => opt (isB t39)) fun q40 => if q40 = true then bnd (bnd (opt (getV (ρ23.set 2 (.val t37)) 7)) fun t41 => opt (isND true t41 (.non : D))) fun t42 => opt (isB t42) else ret (false)) fun q43 => if q43 = true then bnd (bnd (bnd (opt (getV (ρ23.set 2 (.val t37)) 2)) fun t44 => bnd (bnd (opt (getV (ρ23.set 2 (.val t37)) 5)) fun t45 => bnd (bnd (opt (getV (ρ23.set 2 (.val t37)) 4)) fun t46 => bnd (bnd (opt (getV (ρ23.set 2 (.val t37)) 7)) fun t47 => ret ([t47])) fun t48 => ret ((t46 :: t48))) fun t49 => ret ((t45 :: t49))) fun t50 => ret ((t44 :: t50))) fun t51 => Φ K_with_bound t51) fun t52 => k24 ((ρ23.set 2 (.val t37)).set 2 (.val t52)) else k24 (ρ23.set 2 (.val t37)) else bnd (bnd (bnd (bnd (opt (getV ρ23 2)) fun t53 => opt (isND true t53 (.non : D))) fun t54 => opt (isB t54)) fun q55 => if q55 = true then bnd (bnd (opt (getV ρ23 7)) fun t56 => opt (isND true t56 (.non : D))) fun t57 => opt (isB t57) else ret (false)) fun q58 => if q58 = true then bnd (bnd (bnd (opt (getV ρ23 2)) fun t59 => bnd (bnd (opt (getV ρ23 5)) fun t60 => bnd (bnd (opt (getV ρ23 4)) fun t61 => bnd (bnd (opt (getV ρ23 7)) fun t62 => ret ([t62])) fun t63 => ret ((t61 :: t63))) fun t64 => ret ((t60 :: t64))) fun t65 => ret ((t59 :: t65))) fun t66 => Φ K_with_bound t66) fun t67 => k24 (ρ23.set 2 (.val t67)) else k24 ρ23) t22 ρ19 fun ρ68 => opt (getV ρ68 2)
theorem e_begin_of (n : Nat) (a0 : D) : Phi GG fns (n + 1) K_begin_of [a0] = m_begin_of (Phi GG fns n) a0 := by
  rw [Phi_eq g_begin_of rfl]
  rfl
def m_sums_of (Φ : Nat → List D → Mm D) (a0 : D) : Mm D := bnd (bnd (bnd (bnd (opt (lenD [a0])) fun t1 => opt (addD t1 (.int 1 : D))) fun t2 => opt (irngD t2)) fun t3 => mapO (fun x4 => bnd (nox (ret true)) fun b8 => if b8 = true then bnd (nox (bnd (bnd (bnd (opt ((isI x4).map some)) fun t5 => opt (slcD a0 none t5)) fun t6 => ret ([t6])) fun t7 => opt (sumD t7))) fun d9 => ret (some d9) else ret none) t3) fun t10 => ret ((.lst t10))
theorem e_sums_of (n : Nat) (a0 : D) : Phi GG fns (n + 1) K_sums_of [a0] = m_sums_of (Phi GG fns n) a0 := by
  rw [Phi_eq g_sums_of rfl]
  rfl
def m_are_gaps (Φ : Nat → List D → Mm D) (a0 : D) (a1 : D) : Mm D := bnd (bnd (bnd (bnd (rd fun S => idxD S a0 (.int 1 : D)) fun t1 => ret ([t1])) fun t2 => opt (lenD t2)) fun t3 => opt (addD t3 (.int 1 : D))) fun t4 => bnd (bnd (bnd (bnd (Φ K_has_items [a1, t4, t4]) fun t5 => opt (isB t5)) fun q6 => ret ((!q6))) fun q7 => if q7 = true then ret (true) else bnd (bnd (bnd (bnd (bnd (bnd (opt (itemsD a1)) fun t8 => mapO (fun x9 => bnd (nox (ret true)) fun b10 => if b10 = true then bnd (nox (Φ K_is_within [x9, (.int 0 : D), (.int 1000000000000000000000000000000 : D)])) fun d11 => ret (some d11) else ret none) t8) fun t12 => ret ((.lst t12))) fun t13 => ret ([t13])) fun t14 => opt (allD t14)) fun t15 => opt (isB t15)) fun q16 => ret ((!q16))) fun q17 => if q17 = true then ret ((.bl false : D)) else bnd (Φ K_sums_of [a1]) fun t18 => bnd (bnd (rd fun S => idxD S a0 (.int 2 : D)) fun t19 => opt (itemsD t19)) fun t20 => forC (asgn (.many [4, 5, 6, 7])) (fun ρ21 k22 => bnd (bnd (bnd (opt (getV ρ21 3)) fun t23 => bnd (opt (getV ρ21 5)) fun t24 => rd fun S => idxD S t23 t24) fun t25 => bnd (bnd (opt (getV ρ21 3)) fun t26 => bnd (opt (getV ρ21 4)) fun t27 => rd fun S => idxD S t26 t27) fun t28 => opt (subD t25 t28)) fun t29 => bnd (bnd (bnd (bnd (opt (getV (ρ21.set 8 (.val t29)) 8)) fun t30 => bnd (opt (getV (ρ21.set 8 (.val t29)) 6)) fun t31 => opt (ordD (fun i j => decide (i < j)) t30 t31)) fun t32 => opt (isB t32)) fun q33 => if q33 = true then ret (true) else bnd (bnd (bnd (opt (getV (ρ21.set 8 (.val t29)) 7)) fun t34 => opt (isND true t34 (.non : D))) fun t35 => opt (isB t35)) fun q36 => if q36 = true then bnd (bnd (opt (getV (ρ21.set 8 (.val t29)) 8)) fun t37 => bnd (opt (getV (ρ21.set 8 (.val t29)) 7)) fun t38 => opt (ordD (fun i j => decide (j < i)) t37 t38)) fun t39 => opt (isB t39) else ret (false)) fun q40 => if q40 = true then ret ((.bl false : D)) else k22 (ρ21.set 8 (.val t29))) t20 [.val a0, .val a1, .val t4, .val t18, .un, .un, .un, .un, .un] fun ρ41 => ret ((.bl true : D))
theorem e_are_gaps (n : Nat) (a0 : D) (a1 : D) : Phi GG fns (n + 1) K_are_gaps [a0, a1] = m_are_gaps (Phi GG fns n) a0 a1 := by
  rw [Phi_eq g_are_gaps rfl]
  rfl
def m_is_deed (Φ : Nat → List D → Mm D) (a0 : D) (a1 : D) : Mm D := bnd (bnd (bnd (bnd (Φ K_has_items [a1, (.int 2 : D), (.int 3 : D)]) fun t1 => opt (isB t1)) fun q2 => ret ((!q2))) fun q3 => if q3 = true then ret (true) else bnd (bnd (bnd (rd fun S => idxD S a1 (.int 0 : D)) fun t4 => opt (isiD "str" t4)) fun t5 => opt (isB t5)) fun q6 => ret ((!q6))) fun q7 => if q7 = true then ret ((.bl false : D)) else bnd (bnd (rd fun S => idxD S a1 (.int 0 : D)) fun t8 => bnd (bnd (bnd (opt ((isI (.int 1 : D)).map some)) fun t9 => opt (slcD a1 t9 none)) fun t10 => ret ([t10])) fun t11 => ret ((t8 :: t11))) fun t12 => bnd (opt (setMany [.val a0, .val a1, .un, .un] [2, 3] t12)) fun ρ13 => bnd (bnd (bnd (opt (getV ρ13 2)) fun t14 => bnd (opt (tupO [(.str "serve" : D), (.str "come" : D)])) fun t15 => opt (inD false t14 t15)) fun t16 => opt (isB t16)) fun q17 => if q17 = true then bnd (bnd (bnd (bnd (opt (getV ρ13 3)) fun t18 => ret ([t18])) fun t19 => opt (lenD t19)) fun t20 => opt (eqD false t20 (.int 1 : D))) fun t21 => bnd (opt (isB t21)) fun q22 => if q22 = true then bnd (bnd (bnd (opt (getV ρ13 3)) fun t23 => rd fun S => idxD S t23 (.int 0 : D)) fun t24 => ret ([t24, (.int 1 : D), (.int 9 : D)])) fun t25 => Φ K_is_within t25 else ret (.bl false) else bnd (bnd (bnd (bnd (bnd (bnd (opt (getV ρ13 3)) fun t26 => rd fun S => idxD S t26 (.int 0 : D)) fun t27 => bnd (bnd (bnd (bnd (opt (getV ρ13 0)) fun t28 => opt (subD t28 (.int 1 : D))) fun t29 => ret ([t29])) fun t30 => ret (((.int 0 : D) :: t30))) fun t31 => ret ((t27 :: t31))) fun t32 => Φ K_is_within t32) fun t33 => opt (isB t33)) fun q34 => ret ((!q34))) fun q35 => if q35 = true then ret ((.bl false : D)) else bnd (bnd (bnd (opt (getV ρ13 2)) fun t36 => bnd (opt (tupO [(.str "back" : D), (.str "off" : D)])) fun t37 => opt (inD false t36 t37)) fun t38 => opt (isB t38)) fun q39 => if q39 = true then bnd (bnd (bnd (opt (getV ρ13 3)) fun t40 => ret ([t40])) fun t41 => opt (lenD t41)) fun t42 => opt (eqD false t42 (.int 1 : D)) else bnd (bnd (bnd (opt (getV ρ13 2)) fun t43 => opt (eqD false t43 (.str "keep" : D))) fun t44 => opt (isB t44)) fun q45 => if q45 = true then bnd (bnd (bnd (bnd (opt (getV ρ13 3)) fun t46 => ret ([t46])) fun t47 => opt (lenD t47)) fun t48 => opt (eqD false t48 (.int 2 : D))) fun t49 => bnd (opt (isB t49)) fun q50 => if q50 = true then bnd (bnd (bnd (opt (getV ρ13 3)) fun t51 => rd fun S => idxD S t51 (.int 1 : D)) fun t52 => opt (isiD "str" t52)) fun t53 => bnd (opt (isB t53)) fun q54 => if q54 = true then bnd (bnd (opt (getV ρ13 3)) fun t55 => rd fun S => idxD S t55 (.int 1 : D)) fun t56 => opt (inD false t56 (.tup [.str "ahead", .str "behind"] : D)) else ret (.bl false) else ret (.bl false) else bnd (bnd (bnd (opt (getV ρ13 2)) fun t57 => opt (eqD false t57 (.str "pass" : D))) fun t58 => opt (isB t58)) fun q59 => if q59 = true then bnd (bnd (bnd (bnd (opt (getV ρ13 3)) fun t60 => ret ([t60])) fun t61 => opt (lenD t61)) fun t62 => opt (eqD false t62 (.int 2 : D))) fun t63 => bnd (opt (isB t63)) fun q64 => if q64 = true then bnd (bnd (bnd (opt (getV ρ13 3)) fun t65 => rd fun S => idxD S t65 (.int 1 : D)) fun t66 => ret ([t66, (.int 1 : D), (.int 3 : D)])) fun t67 => Φ K_is_within t67 else ret (.bl false) else bnd (bnd (opt (getV ρ13 2)) fun t68 => bnd (opt (tupO [(.str "bring" : D), (.str "swap" : D)])) fun t69 => opt (inD false t68 t69)) fun t70 => bnd (opt (isB t70)) fun q71 => if q71 = true then bnd (bnd (bnd (bnd (opt (getV ρ13 3)) fun t72 => ret ([t72])) fun t73 => opt (lenD t73)) fun t74 => opt (eqD false t74 (.int 2 : D))) fun t75 => bnd (opt (isB t75)) fun q76 => if q76 = true then bnd (bnd (bnd (bnd (opt (getV ρ13 3)) fun t77 => rd fun S => idxD S t77 (.int 1 : D)) fun t78 => bnd (bnd (bnd (bnd (opt (getV ρ13 0)) fun t79 => opt (subD t79 (.int 1 : D))) fun t80 => ret ([t80])) fun t81 => ret (((.int 0 : D) :: t81))) fun t82 => ret ((t78 :: t82))) fun t83 => Φ K_is_within t83) fun t84 => bnd (opt (isB t84)) fun q85 => if q85 = true then bnd (bnd (opt (getV ρ13 3)) fun t86 => rd fun S => idxD S t86 (.int 0 : D)) fun t87 => bnd (bnd (opt (getV ρ13 3)) fun t88 => rd fun S => idxD S t88 (.int 1 : D)) fun t89 => opt (eqD true t87 t89) else ret (.bl false) else ret (.bl false) else ret (.bl false)
theorem e_is_deed (n : Nat) (a0 : D) (a1 : D) : Phi GG fns (n + 1) K_is_deed [a0, a1] = m_is_deed (Phi GG fns n) a0 a1 := by
  rw [Phi_eq g_is_deed rfl]
  rfl
def m_is_script_value (Φ : Nat → List D → Mm D) (a0 : D) (a1 : D) : Mm D := bnd (Φ K_has_items [a1, (.int 0 : D), (.int 6 : D)]) fun t1 => bnd (opt (isB t1)) fun q2 => if q2 = true then bnd (bnd (bnd (bnd (opt (itemsD a1)) fun t3 => mapO (fun x4 => bnd (nox (ret true)) fun b7 => if b7 = true then bnd (nox (bnd (bnd (rd fun S => idxD S a0 (.int 0 : D)) fun t5 => ret ([t5, x4])) fun t6 => Φ K_is_deed t6)) fun d8 => ret (some d8) else ret none) t3) fun t9 => ret ((.lst t9))) fun t10 => ret ([t10])) fun t11 => opt (allD t11) else ret (.bl false)
theorem e_is_script_value (n : Nat) (a0 : D) (a1 : D) : Phi GG fns (n + 1) K_is_script_value [a0, a1] = m_is_script_value (Phi GG fns n) a0 a1 := by
  rw [Phi_eq g_is_script_value rfl]
  rfl
def m_need_queue (Φ : Nat → List D → Mm D) (a0 : D) : Mm D := bnd (bnd (bnd (Φ K_is_queue_value [a0]) fun t1 => opt (isB t1)) fun q2 => ret ((!q2))) fun q3 => if q3 = true then raiM "InvalidQueue" none else ret .non
theorem e_need_queue (n : Nat) (a0 : D) : Phi GG fns (n + 1) K_need_queue [a0] = m_need_queue (Phi GG fns n) a0 := by
  rw [Phi_eq g_need_queue rfl]
  rfl
def m_is_queue (Φ : Nat → List D → Mm D) (a0 : D) : Mm D := Φ K_is_queue_value [a0]
theorem e_is_queue (n : Nat) (a0 : D) : Phi GG fns (n + 1) K_is_queue [a0] = m_is_queue (Phi GG fns n) a0 := by
  rw [Phi_eq g_is_queue rfl]
  rfl
def m_is_script (Φ : Nat → List D → Mm D) (a0 : D) (a1 : D) : Mm D := bnd (Φ K_need_queue [a0]) fun t1 => Φ K_is_script_value [a0, a1]
theorem e_is_script (n : Nat) (a0 : D) (a1 : D) : Phi GG fns (n + 1) K_is_script [a0, a1] = m_is_script (Phi GG fns n) a0 a1 := by
  rw [Phi_eq g_is_script rfl]
  rfl
def m_is_gaps (Φ : Nat → List D → Mm D) (a0 : D) (a1 : D) : Mm D := bnd (Φ K_need_queue [a0]) fun t1 => Φ K_are_gaps [a0, a1]
theorem e_is_gaps (n : Nat) (a0 : D) (a1 : D) : Phi GG fns (n + 1) K_is_gaps [a0, a1] = m_is_gaps (Phi GG fns n) a0 a1 := by
  rw [Phi_eq g_is_gaps rfl]
  rfl
def m__law_deck (Φ : Nat → List D → Mm D) (a0 : D) (a1 : D) : Mm D := bnd (bnd (bnd (opt (powD (.int 10 : D) (.int 18 : D))) fun t1 => opt (ordD (fun i j => decide (j ≤ i)) a0 t1)) fun t2 => opt (isB t2)) fun q3 => if q3 = true then bnd (bnd (bnd (bnd (opt (powD (.int 10 : D) (.int 18 : D))) fun t4 => opt (subD a0 t4)) fun t5 => bnd (bnd (opt (modD a0 (.int 2147483579 : D))) fun t6 => ret ([t6, a1])) fun t7 => ret ((t5 :: t7))) fun t8 => opt (lstO t8)) fun t9 => newM (.lst t9) else bnd (bnd (bnd (bnd (opt (modD a0 (.int 2147483579 : D))) fun t10 => ret ([t10, a1])) fun t11 => ret (((.int 0 : D) :: t11))) fun t12 => opt (lstO t12)) fun t13 => newM (.lst t13)
theorem e__law_deck (n : Nat) (a0 : D) (a1 : D) : Phi GG fns (n + 1) K__law_deck [a0, a1] = m__law_deck (Phi GG fns n) a0 a1 := by
  rw [Phi_eq g__law_deck rfl]
  rfl
def m__law_pick (Φ : Nat → List D → Mm D) (a0 : D) (a1 : D) : Mm D := bnd (bnd (bnd (rd fun S => idxD S a0 (.int 0 : D)) fun t1 => opt (ordD (fun i j => decide (j < i)) t1 (.int 1 : D))) fun t2 => opt (isB t2)) fun q3 => if q3 = true then bnd (bnd (bnd (bnd (rd fun S => idxD S a0 (.int 0 : D)) fun t4 => ret ([t4])) fun t5 => opt (intD t5)) fun t6 => opt (modD t6 a1)) fun t7 => bnd (bnd (rd fun S => idxD S a0 (.int 0 : D)) fun t8 => opt (fdivD t8 a1)) fun t9 => bnd (wr (setD a0 (.int 0 : D) t9)) fun _ => ret (t7) else bnd (bnd (rd fun S => idxD S a0 (.int 2 : D)) fun t10 => opt (addD t10 (.int 1 : D))) fun t11 => bnd (wr (setD a0 (.int 2 : D) t11)) fun _ => bnd (bnd (bnd (bnd (rd fun S => idxD S a0 (.int 1 : D)) fun t12 => bnd (bnd (rd fun S => idxD S a0 (.int 2 : D)) fun t13 => opt (mulD (.int 15485867 : D) t13)) fun t14 => opt (addD t12 t14)) fun t15 => opt (powD t15 (.int 5 : D))) fun t16 => opt (modD t16 (.int 2147483647 : D))) fun t17 => bnd (bnd (bnd (bnd (bnd (bnd (rd fun S => idxD S a0 (.int 2 : D)) fun t18 => opt (mulD (.int 7919 : D) t18)) fun t19 => opt (addD t17 t19)) fun t20 => opt (powD t20 (.int 3 : D))) fun t21 => opt (modD t21 (.int 2147483629 : D))) fun t22 => opt (fdivD t22 (.int 32 : D))) fun t23 => bnd (opt (intD [t23])) fun t24 => opt (modD t24 a1)
theorem e__law_pick (n : Nat) (a0 : D) (a1 : D) : Phi GG fns (n + 1) K__law_pick [a0, a1] = m__law_pick (Phi GG fns n) a0 a1 := by
  rw [Phi_eq g__law_pick rfl]
  rfl
def m__law_whole (Φ : Nat → List D → Mm D) (a0 : D) : Mm D := bnd (opt (isiD "int" a0)) fun t1 => bnd (opt (isB t1)) fun q2 => if q2 = true then bnd (opt (isiD "bool" a0)) fun t3 => opt ((isB t3).map fun b => .bl (!b)) else ret (.bl false)
theorem e__law_whole (n : Nat) (a0 : D) : Phi GG fns (n + 1) K__law_whole [a0] = m__law_whole (Phi GG fns n) a0 := by
  rw [Phi_eq g__law_whole rfl]
  rfl
def m__law_one (Φ : Nat → List D → Mm D) (a0 : D) (a1 : D) : Mm D := bnd (bnd (bnd (bnd (opt (lenD [a1])) fun t1 => ret ([t1])) fun t2 => ret ((a0 :: t2))) fun t3 => Φ K__law_pick t3) fun t4 => rd fun S => idxD S a1 t4
theorem e__law_one (n : Nat) (a0 : D) (a1 : D) : Phi GG fns (n + 1) K__law_one [a0, a1] = m__law_one (Phi GG fns n) a0 a1 := by
  rw [Phi_eq g__law_one rfl]
  rfl
def m__law_sort (Φ : Nat → List D → Mm D) (a0 : D) : Mm D := bnd (bnd (opt (isiD "bool" a0)) fun t1 => opt (isB t1)) fun q2 => if q2 = true then ret ((.int 1 : D)) else bnd (bnd (opt (isiD "int" a0)) fun t3 => opt (isB t3)) fun q4 => if q4 = true then ret ((.int 2 : D)) else bnd (bnd (opt (isiD "str" a0)) fun t5 => opt (isB t5)) fun q6 => if q6 = true then ret ((.int 3 : D)) else bnd (bnd (opt (isiD "list" a0)) fun t7 => opt (isB t7)) fun q8 => if q8 = true then ret ((.int 4 : D)) else bnd (bnd (opt (isiD "tuple" a0)) fun t9 => opt (isB t9)) fun q10 => if q10 = true then ret ((.int 5 : D)) else ret ((.int 6 : D))
theorem e__law_sort (n : Nat) (a0 : D) : Phi GG fns (n + 1) K__law_sort [a0] = m__law_sort (Phi GG fns n) a0 := by
  rw [Phi_eq g__law_sort rfl]
  rfl
def m__law_same (Φ : Nat → List D → Mm D) (a0 : D) (a1 : D) : Mm D := bnd (bnd (bnd (Φ K__law_sort [a0]) fun t1 => bnd (Φ K__law_sort [a1]) fun t2 => opt (eqD true t1 t2)) fun t3 => opt (isB t3)) fun q4 => if q4 = true then ret ((.bl false : D)) else bnd (bnd (bnd (bnd (Φ K__law_sort [a0]) fun t5 => opt (ordD (fun i j => decide (j < i)) t5 (.int 3 : D))) fun t6 => opt (isB t6)) fun q7 => if q7 = true then bnd (bnd (Φ K__law_sort [a0]) fun t8 => opt (ordD (fun i j => decide (i < j)) t8 (.int 6 : D))) fun t9 => opt (isB t9) else ret (false)) fun q10 => if q10 = true then bnd (bnd (bnd (opt (lenD [a0])) fun t11 => bnd (opt (lenD [a1])) fun t12 => opt (eqD true t11 t12)) fun t13 => opt (isB t13)) fun q14 => if q14 = true then ret ((.bl false : D)) else bnd (bnd (bnd (opt (ienumD a0)) fun t15 => mapO (fun x16 => bnd (opt (asgn (.many [2, 3]) x16 [.val a0, .val a1, .un, .un])) fun ρ17 => bnd (nox (bnd (bnd (bnd (bnd (opt (getV ρ17 3)) fun t18 => bnd (bnd (bnd (opt (getV ρ17 1)) fun t19 => bnd (opt (getV ρ17 2)) fun t20 => rd fun S => idxD S t19 t20) fun t21 => ret ([t21])) fun t22 => ret ((t18 :: t22))) fun t23 => Φ K__law_same t23) fun t24 => opt (isB t24)) fun q25 => ret ((!q25)))) fun b26 => if b26 = true then bnd (nox (opt (getV ρ17 2))) fun d27 => ret (some d27) else ret none) t15) fun t28 => ret ((.lst t28))) fun t29 => bnd (bnd (opt (lstO [])) fun t30 => ret ((.lst t30))) fun t31 => opt (eqD false t29 t31) else opt (eqD false a0 a1)
theorem e__law_same (n : Nat) (a0 : D) (a1 : D) : Phi GG fns (n + 1) K__law_same [a0, a1] = m__law_same (Phi GG fns n) a0 a1 := by
  rw [Phi_eq g__law_same rfl]
  rfl
def m__law_two (Φ : Nat → List D → Mm D) (a0 : D) (a1 : D) : Mm D := bnd (Φ K__law_pick [a0, a1]) fun t1 => bnd (bnd (bnd (bnd (bnd (opt (addD t1 (.int 1 : D))) fun t2 => bnd (bnd (bnd (bnd (opt (subD a1 (.int 1 : D))) fun t3 => ret ([t3])) fun t4 => ret ((a0 :: t4))) fun t5 => Φ K__law_pick t5) fun t6 => opt (addD t2 t6)) fun t7 => opt (modD t7 a1)) fun t8 => ret ([t8])) fun t9 => ret ((t1 :: t9))) fun t10 => opt (tupO t10)
theorem e__law_two (n : Nat) (a0 : D) (a1 : D) : Phi GG fns (n + 1) K__law_two [a0, a1] = m__law_two (Phi GG fns n) a0 a1 := by
  rw [Phi_eq g__law_two rfl]
  rfl
def m__law_deed (Φ : Nat → List D → Mm D) (a0 : D) (a1 : D) (a2 : D) : Mm D := bnd (Φ K__law_two [a0, a1]) fun t1 => bnd (opt (asgn (.many [5, 6]) t1 [.val a0, .val a1, .val a2, .un, .un, .un, .un])) fun ρ2 => bnd (bnd (opt (lstO [(.str "serve" : D), (.str "serve" : D), (.str "come" : D), (.str "keep" : D), (.str "keep" : D), (.str "back" : D), (.str "back" : D), (.str "pass" : D), (.str "pass" : D), (.str "swap" : D), (.str "bring" : D), (.str "off" : D)])) fun t3 => ret ((.lst t3))) fun t4 => bnd (bnd (bnd (opt (getV (ρ2.set 3 (.val t4)) 0)) fun t5 => bnd (bnd (opt (getV (ρ2.set 3 (.val t4)) 3)) fun t6 => ret ([t6])) fun t7 => ret ((t5 :: t7))) fun t8 => Φ K__law_one t8) fun t9 => bnd (bnd (bnd (opt (getV ((ρ2.set 3 (.val t4)).set 4 (.val t9)) 4)) fun t10 => bnd (bnd (opt (lstO [(.str "serve" : D), (.str "come" : D)])) fun t11 => ret ((.lst t11))) fun t12 => opt (inD false t10 t12)) fun t13 => opt (isB t13)) fun q14 => if q14 = true then bnd (bnd (opt (getV ((ρ2.set 3 (.val t4)).set 4 (.val t9)) 4)) fun t15 => bnd (bnd (bnd (bnd (bnd (opt (getV ((ρ2.set 3 (.val t4)).set 4 (.val t9)) 0)) fun t16 => bnd (bnd (opt (getV ((ρ2.set 3 (.val t4)).set 4 (.val t9)) 2)) fun t17 => ret ([t17])) fun t18 => ret ((t16 :: t18))) fun t19 => Φ K__law_pick t19) fun t20 => opt (addD (.int 1 : D) t20)) fun t21 => ret ([t21])) fun t22 => ret ((t15 :: t22))) fun t23 => opt (tupO t23) else bnd (bnd (bnd (opt (getV ((ρ2.set 3 (.val t4)).set 4 (.val t9)) 4)) fun t24 => opt (eqD false t24 (.str "keep" : D))) fun t25 => opt (isB t25)) fun q26 => if q26 = true then bnd (bnd (opt (getV ((ρ2.set 3 (.val t4)).set 4 (.val t9)) 4)) fun t27 => bnd (bnd (opt (getV ((ρ2.set 3 (.val t4)).set 4 (.val t9)) 5)) fun t28 => bnd (bnd (bnd (bnd (opt (getV ((ρ2.set 3 (.val t4)).set 4 (.val t9)) 0)) fun t29 => bnd (bnd (bnd (opt (lstO [(.str "ahead" : D), (.str "behind" : D)])) fun t30 => ret ((.lst t30))) fun t31 => ret ([t31])) fun t32 => ret ((t29 :: t32))) fun t33 => Φ K__law_one t33) fun t34 => ret ([t34])) fun t35 => ret ((t28 :: t35))) fun t36 => ret ((t27 :: t36))) fun t37 => opt (tupO t37) else bnd (bnd (bnd (opt (getV ((ρ2.set 3 (.val t4)).set 4 (.val t9)) 4)) fun t38 => opt (eqD false t38 (.str "pass" : D))) fun t39 => opt (isB t39)) fun q40 => if q40 = true then bnd (bnd (opt (getV ((ρ2.set 3 (.val t4)).set 4 (.val t9)) 4)) fun t41 => bnd (bnd (opt (getV ((ρ2.set 3 (.val t4)).set 4 (.val t9)) 5)) fun t42 => bnd (bnd (bnd (bnd (bnd (opt (getV ((ρ2.set 3 (.val t4)).set 4 (.val t9)) 0)) fun t43 => bnd (bnd (bnd (bnd (opt (getV ((ρ2.set 3 (.val t4)).set 4 (.val t9)) 2)) fun t44 => ret ([t44, (.int 3 : D)])) fun t45 => opt (min2D t45)) fun t46 => ret ([t46])) fun t47 => ret ((t43 :: t47))) fun t48 => Φ K__law_pick t48) fun t49 => opt (addD (.int 1 : D) t49)) fun t50 => ret ([t50])) fun t51 => ret ((t42 :: t51))) fun t52 => ret ((t41 :: t52))) fun t53 => opt (tupO t53) else bnd (bnd (bnd (opt (getV ((ρ2.set 3 (.val t4)).set 4 (.val t9)) 4)) fun t54 => bnd (bnd (opt (lstO [(.str "back" : D), (.str "off" : D)])) fun t55 => ret ((.lst t55))) fun t56 => opt (inD false t54 t56)) fun t57 => opt (isB t57)) fun q58 => if q58 = true then bnd (bnd (opt (getV ((ρ2.set 3 (.val t4)).set 4 (.val t9)) 4)) fun t59 => bnd (bnd (opt (getV ((ρ2.set 3 (.val t4)).set 4 (.val t9)) 5)) fun t60 => ret ([t60])) fun t61 => ret ((t59 :: t61))) fun t62 => opt (tupO t62) else bnd (bnd (opt (getV ((ρ2.set 3 (.val t4)).set 4 (.val t9)) 4)) fun t63 => bnd (bnd (opt (getV ((ρ2.set 3 (.val t4)).set 4 (.val t9)) 5)) fun t64 => bnd (bnd (opt (getV ((ρ2.set 3 (.val t4)).set 4 (.val t9)) 6)) fun t65 => ret ([t65])) fun t66 => ret ((t64 :: t66))) fun t67 => ret ((t63 :: t67))) fun t68 => opt (tupO t68)
theorem e__law_deed (n : Nat) (a0 : D) (a1 : D) (a2 : D) : Phi GG fns (n + 1) K__law_deed [a0, a1, a2] = m__law_deed (Phi GG fns n) a0 a1 a2 := by
  rw [Phi_eq g__law_deed rfl]
  rfl
def m__law_script (Φ : Nat → List D → Mm D) (a0 : D) (a1 : D) (a2 : D) (a3 : D) : Mm D := bnd (bnd (bnd (bnd (bnd (bnd (bnd (bnd (bnd (opt (addD a2 (.int 1 : D))) fun t1 => ret ([t1])) fun t2 => ret ((a0 :: t2))) fun t3 => Φ K__law_pick t3) fun t4 => opt (irngD t4)) fun t5 => mapO (fun x6 => bnd (nox (ret true)) fun b7 => if b7 = true then bnd (nox (Φ K__law_deed [a0, a1, a3])) fun d8 => ret (some d8) else ret none) t5) fun t9 => ret ((.lst t9))) fun t10 => ret ([t10])) fun t11 => opt (tupD t11)) fun t12 => bnd (bnd (bnd (opt (ordD (fun i j => decide (j < i)) a2 (.int 2 : D))) fun t13 => opt (isB t13)) fun q14 => if q14 = true then bnd (bnd (Φ K__law_pick [a0, (.int 3 : D)]) fun t15 => opt (ordD (fun i j => decide (j < i)) t15 (.int 0 : D))) fun t16 => opt (isB t16) else ret (false)) fun q17 => if q17 = true then bnd (Φ K__law_pick [a0, a1]) fun t18 => bnd (bnd (bnd (bnd (bnd (bnd (bnd (bnd (bnd (bnd (bnd (opt (lstO [(.str "ahead" : D), (.str "behind" : D)])) fun t19 => ret ((.lst t19))) fun t20 => ret ([t20])) fun t21 => ret ((a0 :: t21))) fun t22 => Φ K__law_one t22) fun t23 => ret ([t23])) fun t24 => ret ((t18 :: t24))) fun t25 => ret (((.str "keep" : D) :: t25))) fun t26 => opt (tupO t26)) fun t27 => bnd (bnd (Φ K__law_deed [a0, a1, a3]) fun t28 => bnd (bnd (opt (tupO [(.str "back" : D), t18])) fun t29 => ret ([t29])) fun t30 => ret ((t28 :: t30))) fun t31 => ret ((t27 :: t31))) fun t32 => opt (tupO t32)) fun t33 => bnd (bnd (bnd (bnd (opt (subD a2 (.int 3 : D))) fun t34 => opt ((isI t34).map some)) fun t35 => opt (slcD t12 none t35)) fun t36 => opt (addD t33 t36)) fun t37 => ret (t37) else ret (t12)
theorem e__law_script (n : Nat) (a0 : D) (a1 : D) (a2 : D) (a3 : D) : Phi GG fns (n + 1) K__law_script [a0, a1, a2, a3] = m__law_script (Phi GG fns n) a0 a1 a2 a3 := by
  rw [Phi_eq g__law_script rfl]
  rfl
def m__law_row (Φ : Nat → List D → Mm D) (a0 : D) (a1 : D) (a2 : D) : Mm D := bnd (bnd (bnd (opt (rngD a1)) fun t1 => ret ((.lst t1))) fun t2 => bnd (bnd (opt (tupO [])) fun t3 => ret ([t3])) fun t4 => ret ((t2 :: t4))) fun t5 => bnd (opt (setMany [.val a0, .val a1, .val a2, .un, .un, .un, .un, .un] [4, 5] t5)) fun ρ6 => bnd (bnd (bnd (bnd (bnd (opt (getV ρ6 0)) fun t7 => bnd (bnd (bnd (bnd (opt (getV ρ6 1)) fun t8 => bnd (bnd (opt (getV ρ6 2)) fun t9 => ret ([t9])) fun t10 => ret ((t8 :: t10))) fun t11 => opt (min2D t11)) fun t12 => ret ([t12])) fun t13 => ret ((t7 :: t13))) fun t14 => Φ K__law_pick t14) fun t15 => opt (addD (.int 1 : D) t15)) fun t16 => opt (irngD t16)) fun t17 => forC (asgn (.one 3)) (fun ρ18 k19 => bnd (bnd (bnd (opt (getV ρ18 0)) fun t20 => bnd (bnd (opt (getV ρ18 4)) fun t21 => ret ([t21])) fun t22 => ret ((t20 :: t22))) fun t23 => Φ K__law_one t23) fun t24 => bnd (bnd (opt (getV (ρ18.set 6 (.val t24)) 5)) fun t25 => bnd (bnd (bnd (opt (getV (ρ18.set 6 (.val t24)) 6)) fun t26 => ret ([t26])) fun t27 => opt (tupO t27)) fun t28 => opt (addD t25 t28)) fun t29 => bnd (bnd (opt (getV ((ρ18.set 6 (.val t24)).set 5 (.val t29)) 4)) fun t30 => opt (itemsD t30)) fun t31 => bnd (mapO (fun x32 => bnd (opt (asgn (.one 7) x32 (wipeE ((ρ18.set 6 (.val t24)).set 5 (.val t29)) [7]))) fun ρ33 => bnd (nox (bnd (bnd (opt (getV ρ33 7)) fun t34 => bnd (opt (getV ρ33 6)) fun t35 => opt (eqD true t34 t35)) fun t36 => opt (isB t36))) fun b37 => if b37 = true then bnd (nox (opt (getV ρ33 7))) fun d38 => ret (some d38) else ret none) t31) fun t39 => bnd (opt (ownV (((ρ18.set 6 (.val t24)).set 5 (.val t29)).set 4 (.own t39)) 4)) fun xs40 => k19 ((((ρ18.set 6 (.val t24)).set 5 (.val t29)).set 4 (.own t39)).set 4 (.val (.lst xs40)))) t17 ρ6 fun ρ41 => opt (getV ρ41 5)
theorem e__law_row (n : Nat) (a0 : D) (a1 : D) (a2 : D) : Phi GG fns (n + 1) K__law_row [a0, a1, a2] = m__law_row (Phi GG fns n) a0 a1 a2 := by
  rw [Phi_eq g__law_row rfl]
  rfl
def m__law_fact (Φ : Nat → List D → Mm D) (a0 : D) (a1 : D) : Mm D := bnd (bnd (bnd (bnd (opt (addD a1 (.int 1 : D))) fun t1 => ret ([t1])) fun t2 => ret ((a0 :: t2))) fun t3 => Φ K__law_pick t3) fun t4 => bnd (bnd (opt (addD t4 (.int 1 : D))) fun t5 => bnd (bnd (bnd (bnd (bnd (opt (addD a1 (.int 1 : D))) fun t6 => opt (subD t6 t4)) fun t7 => ret ([t7])) fun t8 => ret ((a0 :: t8))) fun t9 => Φ K__law_pick t9) fun t10 => opt (addD t5 t10)) fun t11 => bnd (Φ K__law_pick [a0, (.int 4 : D)]) fun t12 => bnd (bnd (bnd (bnd (bnd (bnd (bnd (bnd (bnd (bnd (bnd (bnd (bnd (bnd (Φ K__law_pick [a0, (.int 4 : D)]) fun t13 => opt (addD t12 t13)) fun t14 => ret ([t14])) fun t15 => ret (((.non : D) :: t15))) fun t16 => ret (((.non : D) :: t16))) fun t17 => opt (lstO t17)) fun t18 => ret ((.lst t18))) fun t19 => ret ([t19])) fun t20 => ret ((a0 :: t20))) fun t21 => Φ K__law_one t21) fun t22 => ret ([t22])) fun t23 => ret ((t12 :: t23))) fun t24 => ret ((t11 :: t24))) fun t25 => ret ((t4 :: t25))) fun t26 => opt (tupO t26)
theorem e__law_fact (n : Nat) (a0 : D) (a1 : D) : Phi GG fns (n + 1) K__law_fact [a0, a1] = m__law_fact (Phi GG fns n) a0 a1 := by
  rw [Phi_eq g__law_fact rfl]
  rfl
def m__law_queue (Φ : Nat → List D → Mm D) (a0 : D) (a1 : D) : Mm D := bnd (bnd (Φ K__law_pick [a0, (.int 3 : D)]) fun t1 => opt (addD (.int 2 : D) t1)) fun t2 => bnd (bnd (Φ K__law_row [a0, t2, a1]) fun t3 => bnd (bnd (opt (tupO [])) fun t4 => ret ([t4])) fun t5 => ret ((t3 :: t5))) fun t6 => bnd (opt (setMany [.val a0, .val a1, .val t2, .un, .un, .un, .un] [4, 5] t6)) fun ρ7 => bnd (bnd (bnd (bnd (opt (getV ρ7 0)) fun t8 => bnd (bnd (bnd (opt (lstO [(.int 0 : D), (.int 0 : D), (.int 1 : D), (.int 2 : D)])) fun t9 => ret ((.lst t9))) fun t10 => ret ([t10])) fun t11 => ret ((t8 :: t11))) fun t12 => Φ K__law_one t12) fun t13 => opt (irngD t13)) fun t14 => forC (asgn (.one 3)) (fun ρ15 k16 => bnd (bnd (opt (getV ρ15 5)) fun t17 => bnd (bnd (bnd (bnd (bnd (opt (getV ρ15 0)) fun t18 => bnd (bnd (bnd (bnd (opt (getV ρ15 4)) fun t19 => ret ([t19])) fun t20 => opt (lenD t20)) fun t21 => ret ([t21])) fun t22 => ret ((t18 :: t22))) fun t23 => Φ K__law_fact t23) fun t24 => ret ([t24])) fun t25 => opt (tupO t25)) fun t26 => opt (addD t17 t26)) fun t27 => bnd (bnd (bnd (bnd (bnd (bnd (bnd (opt (getV (ρ15.set 6 (.val t27)) 2)) fun t28 => bnd (bnd (opt (getV (ρ15.set 6 (.val t27)) 4)) fun t29 => bnd (bnd (opt (getV (ρ15.set 6 (.val t27)) 6)) fun t30 => ret ([t30])) fun t31 => ret ((t29 :: t31))) fun t32 => ret ((t28 :: t32))) fun t33 => opt (tupO t33)) fun t34 => ret ([t34, (.int 4 : D)])) fun t35 => Φ K__law_boxes t35) fun t36 => bnd (bnd (opt (lstO [])) fun t37 => ret ((.lst t37))) fun t38 => opt (eqD true t36 t38)) fun t39 => opt (isB t39)) fun q40 => if q40 = true then bnd (opt (getV (ρ15.set 6 (.val t27)) 6)) fun t41 => k16 ((ρ15.set 6 (.val t27)).set 5 (.val t41)) else k16 (ρ15.set 6 (.val t27))) t14 ρ7 fun ρ42 => bnd (bnd (opt (getV ρ42 2)) fun t43 => bnd (bnd (opt (getV ρ42 4)) fun t44 => bnd (bnd (opt (getV ρ42 5)) fun t45 => ret ([t45])) fun t46 => ret ((t44 :: t46))) fun t47 => ret ((t43 :: t47))) fun t48 => opt (tupO t48)
theorem e__law_queue (n : Nat) (a0 : D) (a1 : D) : Phi GG fns (n + 1) K__law_queue [a0, a1] = m__law_queue (Phi GG fns n) a0 a1 := by
  rw [Phi_eq g__law_queue rfl]
  rfl
def m__law_keeps (Φ : Nat → List D → Mm D) (a0 : D) (a1 : D) : Mm D := bnd (bnd (rd fun S => idxD S a0 (.int 2 : D)) fun t1 => opt (itemsD t1)) fun t2 => forC (asgn (.many [2, 3, 4, 5])) (fun ρ3 k4 => bnd (bnd (bnd (bnd (opt (getV ρ3 1)) fun t5 => bnd (bnd (opt (getV ρ3 2)) fun t6 => opt ((isI t6).map some)) fun t7 => bnd (bnd (opt (getV ρ3 3)) fun t8 => opt ((isI t8).map some)) fun t9 => opt (slcD t5 t7 t9)) fun t10 => ret ([t10])) fun t11 => opt (sumD t11)) fun t12 => bnd (bnd (bnd (bnd (opt (getV (ρ3.set 6 (.val t12)) 6)) fun t13 => bnd (opt (getV (ρ3.set 6 (.val t12)) 4)) fun t14 => opt (ordD (fun i j => decide (i < j)) t13 t14)) fun t15 => opt (isB t15)) fun q16 => if q16 = true then ret (true) else bnd (bnd (bnd (opt (getV (ρ3.set 6 (.val t12)) 5)) fun t17 => opt (isND true t17 (.non : D))) fun t18 => opt (isB t18)) fun q19 => if q19 = true then bnd (bnd (opt (getV (ρ3.set 6 (.val t12)) 6)) fun t20 => bnd (opt (getV (ρ3.set 6 (.val t12)) 5)) fun t21 => opt (ordD (fun i j => decide (j < i)) t20 t21)) fun t22 => opt (isB t22) else ret (false)) fun q23 => if q23 = true then ret ((.bl false : D)) else k4 (ρ3.set 6 (.val t12))) t2 [.val a0, .val a1, .un, .un, .un, .un, .un] fun ρ24 => ret ((.bl true : D))
theorem e__law_keeps (n : Nat) (a0 : D) (a1 : D) : Phi GG fns (n + 1) K__law_keeps [a0, a1] = m__law_keeps (Phi GG fns n) a0 a1 := by
  rw [Phi_eq g__law_keeps rfl]
  rfl
def m__law_boxes (Φ : Nat → List D → Mm D) (a0 : D) (a1 : D) : Mm D := bnd (bnd (bnd (bnd (opt (tupO [])) fun t1 => ret ([t1])) fun t2 => opt (lstO t2)) fun t3 => ret ((.lst t3))) fun t4 => bnd (bnd (bnd (bnd (bnd (rd fun S => idxD S a0 (.int 1 : D)) fun t5 => ret ([t5])) fun t6 => opt (lenD t6)) fun t7 => opt (addD t7 (.int 1 : D))) fun t8 => opt (irngD t8)) fun t9 => forC (asgn (.one 3)) (fun ρ10 k11 => bnd (bnd (opt (lstO [])) fun t12 => ret ((.lst t12))) fun t13 => bnd (bnd (opt (getV (ρ10.set 4 (.val t13)) 2)) fun t14 => opt (itemsD t14)) fun t15 => forC (asgn (.one 5)) (fun ρ16 k17 => bnd (bnd (bnd (opt (getV ρ16 4)) fun t18 => bnd (bnd (bnd (bnd (bnd (opt (getV ρ16 1)) fun t19 => opt (addD t19 (.int 1 : D))) fun t20 => opt (irngD t20)) fun t21 => mapO (fun x22 => bnd (opt (asgn (.one 7) x22 (wipeE ρ16 [7]))) fun ρ23 => bnd (nox (ret true)) fun b28 => if b28 = true then bnd (nox (bnd (opt (getV ρ23 5)) fun t24 => bnd (bnd (bnd (opt (getV ρ23 7)) fun t25 => ret ([t25])) fun t26 => opt (tupO t26)) fun t27 => opt (addD t24 t27))) fun d29 => ret (some d29) else ret none) t21) fun t30 => ret ((.lst t30))) fun t31 => opt (catD t18 t31)) fun t32 => ret ((.lst t32))) fun t33 => k17 (ρ16.set 4 (.val t33))) t15 (ρ10.set 4 (.val t13)) fun ρ34 => bnd (opt (getV ρ34 4)) fun t35 => k11 (ρ34.set 2 (.val t35))) t9 [.val a0, .val a1, .val t4, .un, .un, .un, .un, .un] fun ρ36 => bnd (bnd (bnd (opt (getV ρ36 2)) fun t37 => opt (itemsD t37)) fun t38 => mapO (fun x39 => bnd (opt (asgn (.one 6) x39 (wipeE ρ36 [6]))) fun ρ40 => bnd (nox (bnd (bnd (bnd (opt (getV ρ40 0)) fun t41 => bnd (bnd (opt (getV ρ40 6)) fun t42 => ret ([t42])) fun t43 => ret ((t41 :: t43))) fun t44 => Φ K__law_keeps t44) fun t45 => opt (isB t45))) fun b46 => if b46 = true then bnd (nox (opt (getV ρ40 6))) fun d47 => ret (some d47) else ret none) t38) fun t48 => ret ((.lst t48))
theorem e__law_boxes (n : Nat) (a0 : D) (a1 : D) : Phi GG fns (n + 1) K__law_boxes [a0, a1] = m__law_boxes (Phi GG fns n) a0 a1 := by
  rw [Phi_eq g__law_boxes rfl]
  rfl
def m__law_number (Φ : Nat → List D → Mm D) (a0 : D) (a1 : D) (a2 : D) : Mm D := bnd (Φ K__law_whole [a0]) fun t1 => bnd (opt (isB t1)) fun q2 => if q2 = true then bnd (opt (ordD (fun i j => decide (i ≤ j)) a1 a0)) fun t3 => bnd (opt (isB t3)) fun q4 => if q4 = true then opt (ordD (fun i j => decide (i ≤ j)) a0 a2) else ret (.bl false) else ret (.bl false)
theorem e__law_number (n : Nat) (a0 : D) (a1 : D) (a2 : D) : Phi GG fns (n + 1) K__law_number [a0, a1, a2] = m__law_number (Phi GG fns n) a0 a1 a2 := by
  rw [Phi_eq g__law_number rfl]
  rfl
def m__law_is_fact (Φ : Nat → List D → Mm D) (a0 : D) (a1 : D) : Mm D := bnd (bnd (bnd (bnd (opt (isiD "tuple" a1)) fun t1 => opt (isB t1)) fun q2 => ret ((!q2))) fun q3 => if q3 = true then ret (true) else bnd (bnd (opt (lenD [a1])) fun t4 => opt (eqD true t4 (.int 4 : D))) fun t5 => opt (isB t5)) fun q6 => if q6 = true then ret ((.bl false : D)) else bnd (bnd (bnd (bnd (bnd (bnd (rd fun S => idxD S a1 (.int 0 : D)) fun t7 => ret ([t7, (.int 0 : D), a0])) fun t8 => Φ K__law_number t8) fun t9 => opt (isB t9)) fun q10 => ret ((!q10))) fun q11 => if q11 = true then ret (true) else bnd (bnd (bnd (bnd (bnd (rd fun S => idxD S a1 (.int 1 : D)) fun t12 => bnd (bnd (bnd (opt (addD a0 (.int 1 : D))) fun t13 => ret ([t13])) fun t14 => ret (((.int 0 : D) :: t14))) fun t15 => ret ((t12 :: t15))) fun t16 => Φ K__law_number t16) fun t17 => opt (isB t17)) fun q18 => ret ((!q18))) fun q19 => if q19 = true then ret (true) else bnd (bnd (rd fun S => idxD S a1 (.int 0 : D)) fun t20 => bnd (rd fun S => idxD S a1 (.int 1 : D)) fun t21 => opt (ordD (fun i j => decide (j ≤ i)) t20 t21)) fun t22 => opt (isB t22)) fun q23 => if q23 = true then ret ((.bl false : D)) else bnd (bnd (bnd (bnd (bnd (rd fun S => idxD S a1 (.int 2 : D)) fun t24 => ret ([t24, (.int 0 : D), (.int 60 : D)])) fun t25 => Φ K__law_number t25) fun t26 => opt (isB t26)) fun q27 => ret ((!q27))) fun q28 => if q28 = true then ret ((.bl false : D)) else bnd (bnd (rd fun S => idxD S a1 (.int 3 : D)) fun t29 => opt (isND false t29 (.non : D))) fun t30 => bnd (opt (isB t30)) fun q31 => if q31 = true then ret (.bl true) else bnd (bnd (rd fun S => idxD S a1 (.int 3 : D)) fun t32 => bnd (bnd (rd fun S => idxD S a1 (.int 2 : D)) fun t33 => ret ([t33, (.int 60 : D)])) fun t34 => ret ((t32 :: t34))) fun t35 => Φ K__law_number t35
theorem e__law_is_fact (n : Nat) (a0 : D) (a1 : D) : Phi GG fns (n + 1) K__law_is_fact [a0, a1] = m__law_is_fact (Phi GG fns n) a0 a1 := by
  rw [Phi_eq g__law_is_fact rfl]
  rfl
def m__law_is_queue (Φ : Nat → List D → Mm D) (a0 : D) : Mm D := bnd (bnd (bnd (bnd (opt (isiD "tuple" a0)) fun t1 => opt (isB t1)) fun q2 => ret ((!q2))) fun q3 => if q3 = true then ret (true) else bnd (bnd (bnd (opt (lenD [a0])) fun t4 => opt (eqD true t4 (.int 3 : D))) fun t5 => opt (isB t5)) fun q6 => if q6 = true then ret (true) else bnd (bnd (bnd (bnd (rd fun S => idxD S a0 (.int 0 : D)) fun t7 => ret ([t7, (.int 2 : D), (.int 4 : D)])) fun t8 => Φ K__law_number t8) fun t9 => opt (isB t9)) fun q10 => ret ((!q10))) fun q11 => if q11 = true then ret ((.bl false : D)) else bnd (opt (asgn (.many [1, 2, 3]) a0 [.val a0, .un, .un, .un, .un])) fun ρ12 => bnd (bnd (bnd (bnd (bnd (opt (getV ρ12 2)) fun t13 => opt (isiD "tuple" t13)) fun t14 => opt (isB t14)) fun q15 => ret ((!q15))) fun q16 => if q16 = true then ret (true) else bnd (bnd (bnd (bnd (bnd (opt (getV ρ12 2)) fun t17 => ret ([t17])) fun t18 => opt (lenD t18)) fun t19 => bnd (opt (ordD (fun i j => decide (i ≤ j)) (.int 1 : D) t19)) fun t20 => bnd (opt (isB t20)) fun q21 => if q21 = true then bnd (opt (getV ρ12 1)) fun t22 => opt (ordD (fun i j => decide (i ≤ j)) t19 t22) else ret (.bl false)) fun t23 => opt (isB t23)) fun q24 => ret ((!q24))) fun q25 => if q25 = true then ret ((.bl false : D)) else bnd (bnd (bnd (bnd (bnd (bnd (bnd (opt (getV ρ12 2)) fun t26 => opt (itemsD t26)) fun t27 => mapO (fun x28 => bnd (opt (asgn (.one 4) x28 (wipeE ρ12 [4]))) fun ρ29 => bnd (nox (bnd (bnd (bnd (bnd (opt (getV ρ29 4)) fun t30 => bnd (bnd (bnd (bnd (opt (getV ρ29 1)) fun t31 => opt (subD t31 (.int 1 : D))) fun t32 => ret ([t32])) fun t33 => ret (((.int 0 : D) :: t33))) fun t34 => ret ((t30 :: t34))) fun t35 => Φ K__law_number t35) fun t36 => opt (isB t36)) fun q37 => ret ((!q37)))) fun b38 => if b38 = true then bnd (nox (ret ((.int 1 : D)))) fun d39 => ret (some d39) else ret none) t27) fun t40 => ret ((.lst t40))) fun t41 => bnd (bnd (opt (lstO [])) fun t42 => ret ((.lst t42))) fun t43 => opt (eqD true t41 t43)) fun t44 => opt (isB t44)) fun q45 => if q45 = true then ret (true) else bnd (bnd (bnd (opt (getV ρ12 2)) fun t46 => opt (lenSetD t46)) fun t47 => bnd (bnd (bnd (opt (getV ρ12 2)) fun t48 => ret ([t48])) fun t49 => opt (lenD t49)) fun t50 => opt (eqD true t47 t50)) fun t51 => opt (isB t51)) fun q52 => if q52 = true then ret ((.bl false : D)) else bnd (bnd (bnd (bnd (bnd (opt (getV ρ12 3)) fun t53 => opt (isiD "tuple" t53)) fun t54 => opt (isB t54)) fun q55 => ret ((!q55))) fun q56 => if q56 = true then ret (true) else bnd (bnd (bnd (bnd (opt (getV ρ12 3)) fun t57 => ret ([t57])) fun t58 => opt (lenD t58)) fun t59 => opt (ordD (fun i j => decide (j < i)) t59 (.int 4 : D))) fun t60 => opt (isB t60)) fun q61 => if q61 = true then ret ((.bl false : D)) else bnd (bnd (bnd (bnd (opt (getV ρ12 3)) fun t62 => opt (itemsD t62)) fun t63 => mapO (fun x64 => bnd (opt (asgn (.one 4) x64 (wipeE ρ12 [4]))) fun ρ65 => bnd (nox (bnd (bnd (bnd (bnd (bnd (bnd (opt (getV ρ65 2)) fun t66 => ret ([t66])) fun t67 => opt (lenD t67)) fun t68 => bnd (bnd (opt (getV ρ65 4)) fun t69 => ret ([t69])) fun t70 => ret ((t68 :: t70))) fun t71 => Φ K__law_is_fact t71) fun t72 => opt (isB t72)) fun q73 => ret ((!q73)))) fun b74 => if b74 = true then bnd (nox (ret ((.int 1 : D)))) fun d75 => ret (some d75) else ret none) t63) fun t76 => ret ((.lst t76))) fun t77 => bnd (bnd (opt (lstO [])) fun t78 => ret ((.lst t78))) fun t79 => opt (eqD false t77 t79)
theorem e__law_is_queue (n : Nat) (a0 : D) : Phi GG fns (n + 1) K__law_is_queue [a0] = m__law_is_queue (Phi GG fns n) a0 := by
  rw [Phi_eq g__law_is_queue rfl]
  rfl
def m__law_can_be (Φ : Nat → List D → Mm D) (a0 : D) : Mm D := bnd (bnd (bnd (bnd (rd fun S => idxD S a0 (.int 1 : D)) fun t1 => ret ([t1])) fun t2 => opt (lenD t2)) fun t3 => opt (addD t3 (.int 1 : D))) fun t4 => bnd (bnd (opt (lstO [(.int 0 : D)])) fun t5 => bnd (bnd (bnd (bnd (rd fun S => idxD S a0 (.int 1 : D)) fun t6 => ret ([t6])) fun t7 => opt (lenD t7)) fun t8 => opt (addD t8 (.int 2 : D))) fun t9 => opt (repD t5 t9)) fun t10 => bnd (opt (irngD (.int 400 : D))) fun t11 => forC (asgn (.one 1)) (fun ρ12 k13 => bnd (bnd (bnd (opt (getV ρ12 0)) fun t14 => rd fun S => idxD S t14 (.int 2 : D)) fun t15 => opt (itemsD t15)) fun t16 => forC (asgn (.many [5, 6, 7, 8])) (fun ρ17 k18 => bnd (bnd (bnd (bnd (opt (ownV ρ17 3)) fun t19 => bnd (opt (getV ρ17 6)) fun t20 => opt (atD t19 t20)) fun t21 => bnd (bnd (bnd (bnd (opt (ownV ρ17 3)) fun t22 => bnd (opt (getV ρ17 5)) fun t23 => opt (atD t22 t23)) fun t24 => bnd (opt (getV ρ17 7)) fun t25 => opt (addD t24 t25)) fun t26 => ret ([t26])) fun t27 => ret ((t21 :: t27))) fun t28 => opt (max2D t28)) fun t29 => bnd (opt (ownV ρ17 3)) fun t30 => bnd (opt (getV ρ17 6)) fun t31 => bnd (opt (setO t30 t31 t29)) fun t32 => bnd (bnd (bnd (opt (getV (ρ17.set 3 (.own t32)) 8)) fun t33 => opt (isND true t33 (.non : D))) fun t34 => opt (isB t34)) fun q35 => if q35 = true then bnd (bnd (bnd (bnd (opt (ownV (ρ17.set 3 (.own t32)) 3)) fun t36 => bnd (opt (getV (ρ17.set 3 (.own t32)) 5)) fun t37 => opt (atD t36 t37)) fun t38 => bnd (bnd (bnd (bnd (opt (ownV (ρ17.set 3 (.own t32)) 3)) fun t39 => bnd (opt (getV (ρ17.set 3 (.own t32)) 6)) fun t40 => opt (atD t39 t40)) fun t41 => bnd (opt (getV (ρ17.set 3 (.own t32)) 8)) fun t42 => opt (subD t41 t42)) fun t43 => ret ([t43])) fun t44 => ret ((t38 :: t44))) fun t45 => opt (max2D t45)) fun t46 => bnd (opt (ownV (ρ17.set 3 (.own t32)) 3)) fun t47 => bnd (opt (getV (ρ17.set 3 (.own t32)) 5)) fun t48 => bnd (opt (setO t47 t48 t46)) fun t49 => k18 ((ρ17.set 3 (.own t32)).set 3 (.own t49)) else k18 (ρ17.set 3 (.own t32))) t16 ρ12 fun ρ50 => bnd (bnd (opt (getV ρ50 2)) fun t51 => opt (irngD t51)) fun t52 => forC (asgn (.one 4)) (fun ρ53 k54 => bnd (bnd (bnd (bnd (opt (ownV ρ53 3)) fun t55 => bnd (bnd (opt (getV ρ53 4)) fun t56 => opt (addD t56 (.int 1 : D))) fun t57 => opt (atD t55 t57)) fun t58 => bnd (bnd (bnd (opt (ownV ρ53 3)) fun t59 => bnd (opt (getV ρ53 4)) fun t60 => opt (atD t59 t60)) fun t61 => ret ([t61])) fun t62 => ret ((t58 :: t62))) fun t63 => opt (max2D t63)) fun t64 => bnd (opt (ownV ρ53 3)) fun t65 => bnd (bnd (opt (getV ρ53 4)) fun t66 => opt (addD t66 (.int 1 : D))) fun t67 => bnd (opt (setO t65 t67 t64)) fun t68 => k54 (ρ53.set 3 (.own t68))) t52 ρ50 fun ρ69 => k13 ρ69) t11 [.val a0, .un, .val t4, .own t10, .un, .un, .un, .un, .un] fun ρ70 => bnd (bnd (bnd (opt (ownV ρ70 3)) fun t71 => opt (atD t71 (.int 0 : D))) fun t72 => opt (eqD false t72 (.int 0 : D))) fun t73 => bnd (opt (isB t73)) fun q74 => if q74 = true then bnd (bnd (opt (getV ρ70 0)) fun t75 => bnd (bnd (bnd (bnd (bnd (bnd (bnd (opt (getV ρ70 2)) fun t76 => opt (irngD t76)) fun t77 => mapO (fun x78 => bnd (opt (asgn (.one 4) x78 (wipeE ρ70 [4]))) fun ρ79 => bnd (nox (ret true)) fun b87 => if b87 = true then bnd (nox (bnd (bnd (opt (ownV ρ79 3)) fun t80 => bnd (bnd (opt (getV ρ79 4)) fun t81 => opt (addD t81 (.int 1 : D))) fun t82 => opt (atD t80 t82)) fun t83 => bnd (bnd (opt (ownV ρ79 3)) fun t84 => bnd (opt (getV ρ79 4)) fun t85 => opt (atD t84 t85)) fun t86 => opt (subD t83 t86))) fun d88 => ret (some d88) else ret none) t77) fun t89 => ret ((.lst t89))) fun t90 => ret ([t90])) fun t91 => opt (tupD t91)) fun t92 => ret ([t92])) fun t93 => ret ((t75 :: t93))) fun t94 => Φ K__law_keeps t94 else ret (.bl false)
theorem e__law_can_be (n : Nat) (a0 : D) : Phi GG fns (n + 1) K__law_can_be [a0] = m__law_can_be (Phi GG fns n) a0 := by
  rw [Phi_eq g__law_can_be rfl]
  rfl
def m__law_is_deed (Φ : Nat → List D → Mm D) (a0 : D) (a1 : D) : Mm D := bnd (bnd (bnd (bnd (opt (isiD "tuple" a1)) fun t1 => opt (isB t1)) fun q2 => ret ((!q2))) fun q3 => if q3 = true then ret (true) else bnd (bnd (bnd (opt (lenD [a1])) fun t4 => opt (ordD (fun i j => decide (i < j)) t4 (.int 2 : D))) fun t5 => opt (isB t5)) fun q6 => if q6 = true then ret (true) else bnd (bnd (bnd (rd fun S => idxD S a1 (.int 0 : D)) fun t7 => opt (isiD "str" t7)) fun t8 => opt (isB t8)) fun q9 => ret ((!q9))) fun q10 => if q10 = true then ret ((.bl false : D)) else bnd (bnd (bnd (rd fun S => idxD S a1 (.int 0 : D)) fun t11 => bnd (bnd (opt (lstO [(.str "serve" : D), (.str "come" : D)])) fun t12 => ret ((.lst t12))) fun t13 => opt (inD false t11 t13)) fun t14 => opt (isB t14)) fun q15 => if q15 = true then bnd (bnd (opt (lenD [a1])) fun t16 => opt (eqD false t16 (.int 2 : D))) fun t17 => bnd (opt (isB t17)) fun q18 => if q18 = true then bnd (bnd (rd fun S => idxD S a1 (.int 1 : D)) fun t19 => ret ([t19, (.int 1 : D), (.int 9 : D)])) fun t20 => Φ K__law_number t20 else ret (.bl false) else bnd (bnd (bnd (bnd (rd fun S => idxD S a1 (.int 0 : D)) fun t21 => bnd (bnd (opt (lstO [(.str "keep" : D), (.str "back" : D), (.str "pass" : D), (.str "swap" : D), (.str "bring" : D), (.str "off" : D)])) fun t22 => ret ((.lst t22))) fun t23 => opt (inD true t21 t23)) fun t24 => opt (isB t24)) fun q25 => if q25 = true then ret (true) else bnd (bnd (bnd (bnd (rd fun S => idxD S a1 (.int 1 : D)) fun t26 => bnd (bnd (bnd (opt (subD a0 (.int 1 : D))) fun t27 => ret ([t27])) fun t28 => ret (((.int 0 : D) :: t28))) fun t29 => ret ((t26 :: t29))) fun t30 => Φ K__law_number t30) fun t31 => opt (isB t31)) fun q32 => ret ((!q32))) fun q33 => if q33 = true then ret ((.bl false : D)) else bnd (bnd (bnd (bnd (rd fun S => idxD S a1 (.int 0 : D)) fun t34 => bnd (bnd (opt (lstO [(.str "back" : D), (.str "off" : D)])) fun t35 => ret ((.lst t35))) fun t36 => opt (inD false t34 t36)) fun t37 => opt (isB t37)) fun q38 => if q38 = true then ret (true) else bnd (bnd (opt (lenD [a1])) fun t39 => opt (eqD true t39 (.int 3 : D))) fun t40 => opt (isB t40)) fun q41 => if q41 = true then bnd (bnd (opt (lenD [a1])) fun t42 => opt (eqD false t42 (.int 2 : D))) fun t43 => bnd (opt (isB t43)) fun q44 => if q44 = true then bnd (rd fun S => idxD S a1 (.int 0 : D)) fun t45 => bnd (bnd (opt (lstO [(.str "back" : D), (.str "off" : D)])) fun t46 => ret ((.lst t46))) fun t47 => opt (inD false t45 t47) else ret (.bl false) else bnd (bnd (bnd (rd fun S => idxD S a1 (.int 0 : D)) fun t48 => opt (eqD false t48 (.str "keep" : D))) fun t49 => opt (isB t49)) fun q50 => if q50 = true then bnd (bnd (rd fun S => idxD S a1 (.int 2 : D)) fun t51 => opt (isiD "str" t51)) fun t52 => bnd (opt (isB t52)) fun q53 => if q53 = true then bnd (rd fun S => idxD S a1 (.int 2 : D)) fun t54 => bnd (bnd (opt (lstO [(.str "ahead" : D), (.str "behind" : D)])) fun t55 => ret ((.lst t55))) fun t56 => opt (inD false t54 t56) else ret (.bl false) else bnd (bnd (bnd (rd fun S => idxD S a1 (.int 0 : D)) fun t57 => opt (eqD false t57 (.str "pass" : D))) fun t58 => opt (isB t58)) fun q59 => if q59 = true then bnd (bnd (rd fun S => idxD S a1 (.int 2 : D)) fun t60 => ret ([t60, (.int 1 : D), (.int 3 : D)])) fun t61 => Φ K__law_number t61 else bnd (bnd (bnd (rd fun S => idxD S a1 (.int 2 : D)) fun t62 => bnd (bnd (bnd (opt (subD a0 (.int 1 : D))) fun t63 => ret ([t63])) fun t64 => ret (((.int 0 : D) :: t64))) fun t65 => ret ((t62 :: t65))) fun t66 => Φ K__law_number t66) fun t67 => bnd (opt (isB t67)) fun q68 => if q68 = true then bnd (rd fun S => idxD S a1 (.int 2 : D)) fun t69 => bnd (rd fun S => idxD S a1 (.int 1 : D)) fun t70 => opt (eqD true t69 t70) else ret (.bl false)
theorem e__law_is_deed (n : Nat) (a0 : D) (a1 : D) : Phi GG fns (n + 1) K__law_is_deed [a0, a1] = m__law_is_deed (Phi GG fns n) a0 a1 := by
  rw [Phi_eq g__law_is_deed rfl]
  rfl
def m__law_spoilt (Φ : Nat → List D → Mm D) (a0 : D) (a1 : D) : Mm D := bnd (bnd (bnd (opt (isi2D "tuple" "list" a1)) fun t1 => opt (isB t1)) fun q2 => if q2 = true then bnd (bnd (bnd (opt (lenD [a1])) fun t3 => opt (ordD (fun i j => decide (j < i)) t3 (.int 0 : D))) fun t4 => opt (isB t4)) fun q5 => if q5 = true then bnd (bnd (Φ K__law_pick [a0, (.int 7 : D)]) fun t6 => opt (ordD (fun i j => decide (j < i)) t6 (.int 0 : D))) fun t7 => opt (isB t7) else ret (false) else ret (false)) fun q8 => if q8 = true then bnd (opt (lofD a1)) fun t9 => bnd (Φ K__law_pick [a0, (.int (List.length t9))]) fun t10 => bnd (bnd (bnd (bnd (opt (atD t9 t10)) fun t11 => ret ([t11])) fun t12 => ret ((a0 :: t12))) fun t13 => Φ K__law_spoilt t13) fun t14 => bnd (opt (setO t9 t10 t14)) fun t15 => bnd (bnd (opt (isiD "tuple" a1)) fun t16 => opt (isB t16)) fun q17 => if q17 = true then opt (tupD [(.lst t15)]) else ret ((.lst t15)) else bnd (bnd (opt (isi2D "tuple" "list" a1)) fun t18 => opt (isB t18)) fun q19 => if q19 = true then bnd (bnd (bnd (opt (isiD "tuple" a1)) fun t20 => opt (isB t20)) fun q21 => if q21 = true then bnd (opt (lofD a1)) fun t22 => ret ((.lst t22)) else opt (tupD [a1])) fun t23 => bnd (bnd (bnd (bnd (bnd (if tupB a1 = true then bnd (bnd (opt ((isI (.int 1 : D)).map some)) fun t24 => opt (slcD a1 none t24)) fun t25 => opt (addD a1 t25) else bnd (bnd (bnd (bnd (opt ((isI (.int 1 : D)).map some)) fun t26 => opt (lslD a1 none t26)) fun t27 => ret ((.lst t27))) fun t28 => opt (catD a1 t28)) fun t29 => ret ((.lst t29))) fun t30 => bnd (bnd (if tupB a1 = true then bnd (opt ((isI (.int 1 : D)).map some)) fun t31 => opt (slcD a1 t31 none) else bnd (bnd (opt ((isI (.int 1 : D)).map some)) fun t32 => opt (lslD a1 t32 none)) fun t33 => ret ((.lst t33))) fun t34 => bnd (bnd (if tupB a1 = true then opt (trevD a1) else bnd (opt (revD a1)) fun t35 => ret ((.lst t35))) fun t36 => bnd (bnd (opt (tupO [(.int 0 : D), (.int 1 : D)])) fun t37 => ret ([t37, (.non : D)])) fun t38 => ret ((t36 :: t38))) fun t39 => ret ((t34 :: t39))) fun t40 => ret ((t30 :: t40))) fun t41 => ret ((t23 :: t41))) fun t42 => opt (lstO t42)) fun t43 => ret ((.lst t43))) fun t44 => bnd (Φ K__law_pick [a0, (.int 6 : D)]) fun t45 => rd fun S => idxD S t44 t45 else bnd (bnd (opt (isiD "str" a1)) fun t46 => opt (isB t46)) fun q47 => if q47 = true then bnd (bnd (bnd (bnd (opt (lstO [(.str "serve" : D), (.str "keep" : D), (.str "back" : D), (.str "ahead" : D), (.str "" : D), (.non : D), (.int 0 : D), (.str "Pass" : D)])) fun t48 => ret ((.lst t48))) fun t49 => ret ([t49])) fun t50 => ret ((a0 :: t50))) fun t51 => Φ K__law_one t51 else bnd (bnd (Φ K__law_whole [a1]) fun t52 => opt (isB t52)) fun q53 => if q53 = true then bnd (bnd (bnd (bnd (opt (subD (.int 1 : D) a1)) fun t54 => bnd (bnd (opt (addD a1 (.int 1 : D))) fun t55 => ret ([t55, (.int 60 : D), (.bl true : D), (.bl false : D), (.non : D), (.str "1" : D), (.int 0 : D), (.int 3 : D), (.int 61 : D)])) fun t56 => ret ((t54 :: t56))) fun t57 => opt (lstO t57)) fun t58 => ret ((.lst t58))) fun t59 => bnd (Φ K__law_pick [a0, (.int 10 : D)]) fun t60 => rd fun S => idxD S t59 t60 else bnd (bnd (bnd (bnd (bnd (bnd (bnd (opt (tupO [])) fun t61 => bnd (bnd (bnd (opt (lstO [])) fun t62 => ret ((.lst t62))) fun t63 => ret ([t63, (.bl true : D), (.int 5 : D)])) fun t64 => ret ((t61 :: t64))) fun t65 => ret (((.str "x" : D) :: t65))) fun t66 => ret (((.int 0 : D) :: t66))) fun t67 => ret (((.non : D) :: t67))) fun t68 => opt (lstO t68)) fun t69 => ret ((.lst t69))) fun t70 => bnd (Φ K__law_pick [a0, (.int 7 : D)]) fun t71 => rd fun S => idxD S t70 t71
theorem e__law_spoilt (n : Nat) (a0 : D) (a1 : D) : Phi GG fns (n + 1) K__law_spoilt [a0, a1] = m__law_spoilt (Phi GG fns n) a0 a1 := by
  rw [Phi_eq g__law_spoilt rfl]
  rfl
def m__law_all_right (Φ : Nat → List D → Mm D) (a0 : D) (a1 : D) (a2 : D) (a3 : D) : Mm D := bnd (bnd (bnd (bnd (rd fun S => idxD S a1 (.int 1 : D)) fun t1 => ret ([t1])) fun t2 => opt (lenD t2)) fun t3 => opt (addD t3 (.int 1 : D))) fun t4 => bnd (bnd (bnd (bnd (bnd (opt (lstO [a2, a3])) fun t5 => ret ((.lst t5))) fun t6 => bnd (bnd (bnd (opt (irngD (.int 16 : D))) fun t7 => mapO (fun x8 => bnd (nox (ret true)) fun b16 => if b16 = true then bnd (nox (bnd (bnd (bnd (bnd (bnd (bnd (bnd (opt (lstO [a2, a3])) fun t9 => ret ((.lst t9))) fun t10 => ret ([t10])) fun t11 => ret ((a0 :: t11))) fun t12 => Φ K__law_one t12) fun t13 => ret ([t13])) fun t14 => ret ((a0 :: t14))) fun t15 => Φ K__law_spoilt t15)) fun d17 => ret (some d17) else ret none) t7) fun t18 => ret ((.lst t18))) fun t19 => opt (catD t6 t19)) fun t20 => ret ((.lst t20))) fun t21 => opt (itemsD t21)) fun t22 => forC (asgn (.one 5)) (fun ρ23 k24 => bnd (bnd (bnd (opt (getV ρ23 5)) fun t25 => opt (isiD "tuple" t25)) fun t26 => bnd (opt (isB t26)) fun q27 => if q27 = true then bnd (bnd (bnd (bnd (opt (getV ρ23 5)) fun t28 => ret ([t28])) fun t29 => opt (lenD t29)) fun t30 => opt (ordD (fun i j => decide (i ≤ j)) t30 (.int 6 : D))) fun t31 => bnd (opt (isB t31)) fun q32 => if q32 = true then bnd (bnd (bnd (bnd (opt (getV ρ23 5)) fun t33 => opt (itemsD t33)) fun t34 => mapO (fun x35 => bnd (opt (asgn (.one 8) x35 (wipeE ρ23 [8]))) fun ρ36 => bnd (nox (bnd (bnd (bnd (bnd (bnd (opt (getV ρ36 1)) fun t37 => rd fun S => idxD S t37 (.int 0 : D)) fun t38 => bnd (bnd (opt (getV ρ36 8)) fun t39 => ret ([t39])) fun t40 => ret ((t38 :: t40))) fun t41 => Φ K__law_is_deed t41) fun t42 => opt (isB t42)) fun q43 => ret ((!q43)))) fun b44 => if b44 = true then bnd (nox (ret ((.int 1 : D)))) fun d45 => ret (some d45) else ret none) t34) fun t46 => ret ((.lst t46))) fun t47 => bnd (bnd (opt (lstO [])) fun t48 => ret ((.lst t48))) fun t49 => opt (eqD false t47 t49) else ret (.bl false) else ret (.bl false)) fun t50 => bnd (bnd (bnd (bnd (bnd (bnd (bnd (opt (getV (ρ23.set 6 (.val t50)) 1)) fun t51 => bnd (bnd (opt (getV (ρ23.set 6 (.val t50)) 5)) fun t52 => ret ([t52])) fun t53 => ret ((t51 :: t53))) fun t54 => Φ K_is_script t54) fun t55 => bnd (bnd (opt (getV (ρ23.set 6 (.val t50)) 6)) fun t56 => ret ([t56])) fun t57 => ret ((t55 :: t57))) fun t58 => Φ K__law_same t58) fun t59 => opt (isB t59)) fun q60 => ret ((!q60))) fun q61 => if q61 = true then ret ((.bl false : D)) else bnd (bnd (bnd (opt (getV (ρ23.set 6 (.val t50)) 5)) fun t62 => opt (isiD "tuple" t62)) fun t63 => bnd (opt (isB t63)) fun q64 => if q64 = true then bnd (bnd (bnd (opt (getV (ρ23.set 6 (.val t50)) 5)) fun t65 => ret ([t65])) fun t66 => opt (lenD t66)) fun t67 => bnd (opt (getV (ρ23.set 6 (.val t50)) 4)) fun t68 => opt (eqD false t67 t68) else ret (.bl false)) fun t69 => bnd (bnd (opt (getV ((ρ23.set 6 (.val t50)).set 6 (.val t69)) 6)) fun t70 => bnd (opt (isB t70)) fun q71 => if q71 = true then bnd (bnd (bnd (bnd (bnd (opt (getV ((ρ23.set 6 (.val t50)).set 6 (.val t69)) 5)) fun t72 => opt (itemsD t72)) fun t73 => mapO (fun x74 => bnd (opt (asgn (.one 8) x74 (wipeE ((ρ23.set 6 (.val t50)).set 6 (.val t69)) [8]))) fun ρ75 => bnd (nox (bnd (bnd (bnd (bnd (opt (getV ρ75 8)) fun t76 => bnd (bnd (bnd (opt (powD (.int 10 : D) (.int 30 : D))) fun t77 => ret ([t77])) fun t78 => ret (((.int 0 : D) :: t78))) fun t79 => ret ((t76 :: t79))) fun t80 => Φ K__law_number t80) fun t81 => opt (isB t81)) fun q82 => ret ((!q82)))) fun b83 => if b83 = true then bnd (nox (ret ((.int 1 : D)))) fun d84 => ret (some d84) else ret none) t73) fun t85 => ret ((.lst t85))) fun t86 => bnd (bnd (opt (lstO [])) fun t87 => ret ((.lst t87))) fun t88 => opt (eqD false t86 t88)) fun t89 => bnd (opt (isB t89)) fun q90 => if q90 = true then bnd (bnd (opt (getV ((ρ23.set 6 (.val t50)).set 6 (.val t69)) 1)) fun t91 => bnd (bnd (opt (getV ((ρ23.set 6 (.val t50)).set 6 (.val t69)) 5)) fun t92 => ret ([t92])) fun t93 => ret ((t91 :: t93))) fun t94 => Φ K__law_keeps t94 else ret (.bl false) else ret (.bl false)) fun t95 => bnd (bnd (bnd (bnd (bnd (bnd (bnd (opt (getV (((ρ23.set 6 (.val t50)).set 6 (.val t69)).set 6 (.val t95)) 1)) fun t96 => bnd (bnd (opt (getV (((ρ23.set 6 (.val t50)).set 6 (.val t69)).set 6 (.val t95)) 5)) fun t97 => ret ([t97])) fun t98 => ret ((t96 :: t98))) fun t99 => Φ K_is_gaps t99) fun t100 => bnd (bnd (opt (getV (((ρ23.set 6 (.val t50)).set 6 (.val t69)).set 6 (.val t95)) 6)) fun t101 => ret ([t101])) fun t102 => ret ((t100 :: t102))) fun t103 => Φ K__law_same t103) fun t104 => opt (isB t104)) fun q105 => ret ((!q105))) fun q106 => if q106 = true then ret ((.bl false : D)) else k24 (((ρ23.set 6 (.val t50)).set 6 (.val t69)).set 6 (.val t95))) t22 [.val a0, .val a1, .val a2, .val a3, .val t4, .un, .un, .un, .un] fun ρ107 => ret ((.bl true : D))
theorem e__law_all_right (n : Nat) (a0 : D) (a1 : D) (a2 : D) (a3 : D) : Phi GG fns (n + 1) K__law_all_right [a0, a1, a2, a3] = m__law_all_right (Phi GG fns n) a0 a1 a2 a3 := by
  rw [Phi_eq g__law_all_right rfl]
  rfl
def m_law (Φ : Nat → List D → Mm D) (Φ2 : Nat → List D → Mm D) (a0 : D) : Mm D := bnd (bnd (bnd (bnd (bnd (bnd (bnd (opt (lstO [(.int 0 : D)])) fun t1 => ret ((.lst t1))) fun t2 => opt (catD t2 a0)) fun t3 => ret ((.lst t3))) fun t4 => bnd (opt ((isI (.int 10 : D)).map some)) fun t5 => opt (lslD t4 none t5)) fun t6 => ret ((.lst t6))) fun t7 => opt (itemsD t7)) fun t8 => forC (asgn (.one 1)) (fun ρ9 k10 => bnd (bnd (bnd (opt (getV ρ9 1)) fun t11 => ret ([t11, (.int 1 : D)])) fun t12 => Φ K__law_deck t12) fun t13 => bnd (bnd (bnd (opt (getV (ρ9.set 4 (.val t13)) 4)) fun t14 => ret ([t14, (.int 4 : D)])) fun t15 => Φ K__law_queue t15) fun t16 => bnd (bnd (bnd (opt (getV ((ρ9.set 4 (.val t13)).set 5 (.val t16)) 4)) fun t17 => bnd (bnd (opt (getV ((ρ9.set 4 (.val t13)).set 5 (.val t16)) 5)) fun t18 => ret ([t18])) fun t19 => ret ((t17 :: t19))) fun t20 => Φ K__law_spoilt t20) fun t21 => bnd (bnd (bnd (bnd (opt (getV (((ρ9.set 4 (.val t13)).set 5 (.val t16)).set 6 (.val t21)) 5)) fun t22 => bnd (bnd (opt (getV (((ρ9.set 4 (.val t13)).set 5 (.val t16)).set 6 (.val t21)) 6)) fun t23 => bnd (bnd (bnd (bnd (opt (getV (((ρ9.set 4 (.val t13)).set 5 (.val t16)).set 6 (.val t21)) 4)) fun t24 => bnd (bnd (opt (getV (((ρ9.set 4 (.val t13)).set 5 (.val t16)).set 6 (.val t21)) 6)) fun t25 => ret ([t25])) fun t26 => ret ((t24 :: t26))) fun t27 => Φ K__law_spoilt t27) fun t28 => bnd (bnd (bnd (opt (getV (((ρ9.set 4 (.val t13)).set 5 (.val t16)).set 6 (.val t21)) 5)) fun t29 => rd fun S => idxD S t29 (.int 1 : D)) fun t30 => bnd (bnd (bnd (bnd (opt (getV (((ρ9.set 4 (.val t13)).set 5 (.val t16)).set 6 (.val t21)) 5)) fun t31 => opt (lofD t31)) fun t32 => ret ((.lst t32))) fun t33 => bnd (bnd (bnd (opt (tupO [])) fun t34 => bnd (bnd (bnd (opt (getV (((ρ9.set 4 (.val t13)).set 5 (.val t16)).set 6 (.val t21)) 5)) fun t35 => bnd (opt ((isI (.int 2 : D)).map some)) fun t36 => opt (slcD t35 none t36)) fun t37 => bnd (bnd (bnd (bnd (bnd (opt (tupO [(.int 0 : D)])) fun t38 => bnd (bnd (opt (tupO [])) fun t39 => ret ([t39])) fun t40 => ret ((t38 :: t40))) fun t41 => ret (((.int 5 : D) :: t41))) fun t42 => opt (tupO t42)) fun t43 => ret ([t43])) fun t44 => ret ((t37 :: t44))) fun t45 => ret ((t34 :: t45))) fun t46 => ret (((.non : D) :: t46))) fun t47 => ret ((t33 :: t47))) fun t48 => ret ((t30 :: t48))) fun t49 => ret ((t28 :: t49))) fun t50 => ret ((t23 :: t50))) fun t51 => ret ((t22 :: t51))) fun t52 => opt (lstO t52)) fun t53 => ret ((.lst t53))) fun t54 => bnd (bnd (bnd (bnd (opt (getV ((((ρ9.set 4 (.val t13)).set 5 (.val t16)).set 6 (.val t21)).set 7 (.val t54)) 7)) fun t55 => bnd (bnd (bnd (opt (irngD (.int 40 : D))) fun t56 => mapO (fun x57 => bnd (opt (asgn (.one 11) x57 (wipeE ((((ρ9.set 4 (.val t13)).set 5 (.val t16)).set 6 (.val t21)).set 7 (.val t54)) [11]))) fun ρ58 => bnd (nox (ret true)) fun b63 => if b63 = true then bnd (nox (bnd (bnd (opt (getV ρ58 4)) fun t59 => bnd (bnd (opt (getV ρ58 5)) fun t60 => ret ([t60])) fun t61 => ret ((t59 :: t61))) fun t62 => Φ K__law_spoilt t62)) fun d64 => ret (some d64) else ret none) t56) fun t65 => ret ((.lst t65))) fun t66 => opt (catD t55 t66)) fun t67 => ret ((.lst t67))) fun t68 => opt (itemsD t68)) fun t69 => forC (asgn (.one 8)) (fun ρ70 k71 => bnd (bnd (bnd (bnd (opt (getV ρ70 8)) fun t72 => ret ([t72])) fun t73 => Φ K__law_is_queue t73) fun t74 => bnd (opt (isB t74)) fun q75 => if q75 = true then bnd (bnd (opt (getV ρ70 8)) fun t76 => ret ([t76])) fun t77 => Φ K__law_can_be t77 else ret (.bl false)) fun t78 => bnd (bnd (bnd (bnd (bnd (bnd (bnd (opt (getV (ρ70.set 10 (.val t78)) 8)) fun t79 => ret ([t79])) fun t80 => Φ K_is_queue t80) fun t81 => bnd (bnd (opt (getV (ρ70.set 10 (.val t78)) 10)) fun t82 => ret ([t82])) fun t83 => ret ((t81 :: t83))) fun t84 => Φ K__law_same t84) fun t85 => opt (isB t85)) fun q86 => ret ((!q86))) fun q87 => if q87 = true then ret ((.bl false : D)) else bnd (bnd (bnd (bnd (opt (getV (ρ70.set 10 (.val t78)) 10)) fun t88 => opt (isB t88)) fun q89 => ret ((!q89))) fun q90 => if q90 = true then bnd (bnd (triM toldD kinD (bnd (bnd (opt (getV (ρ70.set 10 (.val t78)) 8)) fun t91 => ret ([t91, (.non : D)])) fun t92 => Φ2 K_is_gaps t92)) fun t93 => opt (eqD true t93 (.str "queue +" : D))) fun t94 => opt (isB t94) else ret (false)) fun q95 => if q95 = true then ret ((.bl false : D)) else k71 (ρ70.set 10 (.val t78))) t69 ((((ρ9.set 4 (.val t13)).set 5 (.val t16)).set 6 (.val t21)).set 7 (.val t54)) fun ρ96 => bnd (bnd (bnd (opt (getV ρ96 4)) fun t97 => bnd (bnd (bnd (opt (getV ρ96 5)) fun t98 => rd fun S => idxD S t98 (.int 0 : D)) fun t99 => ret ([t99, (.int 6 : D), (.int 9 : D)])) fun t100 => ret ((t97 :: t100))) fun t101 => Φ K__law_script t101) fun t102 => bnd (bnd (bnd (bnd (bnd (opt (getV (ρ96.set 9 (.val t102)) 4)) fun t103 => bnd (bnd (opt (getV (ρ96.set 9 (.val t102)) 5)) fun t104 => bnd (bnd (opt (getV (ρ96.set 9 (.val t102)) 9)) fun t105 => bnd (bnd (bnd (bnd (bnd (opt (getV (ρ96.set 9 (.val t102)) 5)) fun t106 => ret ([t106, (.int 4 : D)])) fun t107 => Φ K__law_boxes t107) fun t108 => rd fun S => idxD S t108 (.int 0 : D)) fun t109 => ret ([t109])) fun t110 => ret ((t105 :: t110))) fun t111 => ret ((t104 :: t111))) fun t112 => ret ((t103 :: t112))) fun t113 => Φ K__law_all_right t113) fun t114 => opt (isB t114)) fun q115 => ret ((!q115))) fun q116 => if q116 = true then ret ((.bl false : D)) else k10 (ρ96.set 9 (.val t102))) t8 [.val a0, .un, .un, .un, .un, .un, .un, .un, .un, .un, .un, .un] fun ρ117 => bnd (bnd (bnd (bnd (bnd (bnd (bnd (bnd (opt (tupO [(.int 0 : D), (.int 1 : D)])) fun t118 => bnd (bnd (bnd (bnd (opt (tupO [(.int 0 : D), (.int 1 : D), (.int 0 : D), (.int 2 : D)])) fun t119 => ret ([t119])) fun t120 => opt (tupO t120)) fun t121 => ret ([t121])) fun t122 => ret ((t118 :: t122))) fun t123 => ret (((.int 3 : D) :: t123))) fun t124 => opt (tupO t124)) fun t125 => bnd (bnd (opt (tupO [(.int 3 : D), (.int 0 : D), (.int 0 : D)])) fun t126 => ret ([t126])) fun t127 => ret ((t125 :: t127))) fun t128 => Φ K_is_gaps t128) fun t129 => opt (isND true t129 (.bl false : D))) fun t130 => opt (isB t130)) fun q131 => if q131 = true then ret ((.bl false : D)) else bnd (bnd (bnd (opt (tupO [(.int 0 : D), (.int 1 : D), (.int 5 : D), (.int 9 : D)])) fun t132 => bnd (bnd (opt (tupO [(.int 1 : D), (.int 2 : D), (.int 5 : D), (.non : D)])) fun t133 => bnd (bnd (opt (tupO [(.int 0 : D), (.int 2 : D), (.int 0 : D), (.int 10 : D)])) fun t134 => ret ([t134])) fun t135 => ret ((t133 :: t135))) fun t136 => ret ((t132 :: t136))) fun t137 => opt (tupO t137)) fun t138 => bnd (bnd (bnd (bnd (bnd (bnd (bnd (opt (tupO [(.int 1 : D)])) fun t139 => bnd (bnd (opt (getV (ρ117.set 2 (.val t138)) 2)) fun t140 => ret ([t140])) fun t141 => ret ((t139 :: t141))) fun t142 => ret (((.int 2 : D) :: t142))) fun t143 => opt (tupO t143)) fun t144 => bnd (bnd (bnd (bnd (bnd (opt (tupO [(.int 1 : D)])) fun t145 => bnd (bnd (bnd (bnd (opt (getV (ρ117.set 2 (.val t138)) 2)) fun t146 => bnd (opt ((isI (.int 2 : D)).map some)) fun t147 => opt (slcD t146 none t147)) fun t148 => bnd (bnd (bnd (opt (tupO [(.int 0 : D), (.int 2 : D), (.int 0 : D), (.int 9 : D)])) fun t149 => ret ([t149])) fun t150 => opt (tupO t150)) fun t151 => opt (addD t148 t151)) fun t152 => ret ([t152])) fun t153 => ret ((t145 :: t153))) fun t154 => ret (((.int 2 : D) :: t154))) fun t155 => opt (tupO t155)) fun t156 => bnd (bnd (bnd (bnd (bnd (opt (tupO [(.int 1 : D)])) fun t157 => bnd (bnd (bnd (opt (getV (ρ117.set 2 (.val t138)) 2)) fun t158 => bnd (bnd (opt (getV (ρ117.set 2 (.val t138)) 2)) fun t159 => bnd (opt ((isI (.int 2 : D)).map some)) fun t160 => opt (slcD t159 none t160)) fun t161 => opt (addD t158 t161)) fun t162 => ret ([t162])) fun t163 => ret ((t157 :: t163))) fun t164 => ret (((.int 2 : D) :: t164))) fun t165 => opt (tupO t165)) fun t166 => bnd (bnd (bnd (bnd (bnd (opt (tupO [])) fun t167 => bnd (bnd (opt (tupO [])) fun t168 => ret ([t168])) fun t169 => ret ((t167 :: t169))) fun t170 => ret (((.int 2 : D) :: t170))) fun t171 => opt (tupO t171)) fun t172 => ret ([t172])) fun t173 => ret ((t166 :: t173))) fun t174 => ret ((t156 :: t174))) fun t175 => ret ((t144 :: t175))) fun t176 => opt (lstO t176)) fun t177 => ret ((.lst t177))) fun t178 => bnd (bnd (bnd (opt (getV ((ρ117.set 2 (.val t138)).set 3 (.val t178)) 3)) fun t179 => bnd (bnd (bnd (bnd (bnd (bnd (bnd (opt (tupO [(.int 3 : D), (.int 0 : D), (.int 1 : D), (.int 2 : D)])) fun t180 => bnd (bnd (opt (tupO [])) fun t181 => ret ([t181])) fun t182 => ret ((t180 :: t182))) fun t183 => ret (((.int 4 : D) :: t183))) fun t184 => opt (tupO t184)) fun t185 => bnd (bnd (bnd (bnd (bnd (opt (tupO [(.int 0 : D), (.int 1 : D)])) fun t186 => bnd (bnd (bnd (bnd (opt (tupO [(.int 0 : D), (.int 3 : D), (.int 61 : D), (.non : D)])) fun t187 => ret ([t187])) fun t188 => opt (tupO t188)) fun t189 => ret ([t189])) fun t190 => ret ((t186 :: t190))) fun t191 => ret (((.int 2 : D) :: t191))) fun t192 => opt (tupO t192)) fun t193 => bnd (bnd (bnd (bnd (bnd (opt (tupO [(.int 0 : D), (.int 0 : D)])) fun t194 => bnd (bnd (opt (tupO [])) fun t195 => ret ([t195])) fun t196 => ret ((t194 :: t196))) fun t197 => ret (((.int 2 : D) :: t197))) fun t198 => opt (tupO t198)) fun t199 => bnd (bnd (bnd (bnd (bnd (opt (tupO [(.int 0 : D)])) fun t200 => bnd (bnd (bnd (bnd (opt (tupO [(.int 1 : D), (.int 2 : D), (.int 3 : D), (.int 2 : D)])) fun t201 => ret ([t201])) fun t202 => opt (tupO t202)) fun t203 => ret ([t203])) fun t204 => ret ((t200 :: t204))) fun t205 => ret (((.int 3 : D) :: t205))) fun t206 => opt (tupO t206)) fun t207 => ret ([t207])) fun t208 => ret ((t199 :: t208))) fun t209 => ret ((t193 :: t209))) fun t210 => ret ((t185 :: t210))) fun t211 => opt (lstO t211)) fun t212 => ret ((.lst t212))) fun t213 => opt (catD t179 t213)) fun t214 => ret ((.lst t214))) fun t215 => bnd (bnd (bnd (bnd (opt (getV (((ρ117.set 2 (.val t138)).set 3 (.val t178)).set 3 (.val t215)) 3)) fun t216 => opt (itemsD t216)) fun t217 => mapO (fun x218 => bnd (opt (asgn (.one 8) x218 (wipeE (((ρ117.set 2 (.val t138)).set 3 (.val t178)).set 3 (.val t215)) [8]))) fun ρ219 => bnd (nox (ret true)) fun b222 => if b222 = true then bnd (nox (bnd (bnd (opt (getV ρ219 8)) fun t220 => ret ([t220])) fun t221 => Φ K_is_queue t221)) fun d223 => ret (some d223) else ret none) t217) fun t224 => ret ((.lst t224))) fun t225 => bnd (bnd (opt (lstO [(.bl true : D), (.bl false : D), (.bl false : D), (.bl false : D), (.bl true : D), (.bl false : D), (.bl false : D), (.bl false : D)])) fun t226 => ret ((.lst t226))) fun t227 => opt (eqD false t225 t227)
theorem e_law (n : Nat) (a0 : D) : Phi GG fns (n + 3) K_law [a0] = m_law (Phi GG fns (n + 2)) (lev GG fns (n + 2) n) a0 := by
  rw [Phi_eq g_law rfl]
  rfl
end PV

set_option Elab.async false
set_option linter.all false
set_option maxRecDepth 100000
set_option maxHeartbeats 4000000
/-! PvPb: bounds. -/
namespace PV
open PySem PySem.Spec PyProof.Rows L2
def oD : Option Int → D
  | none => .non
  | some i => .int i
abbrev Mx := List (List (Option Int))
def rwD (r : List (Option Int)) : D := .tup (r.map oD)
def bD (B : Mx) : D := .tup (B.map rwD)
def sq (N : Nat) (B : Mx) : Prop := B.length = N ∧ ∀ r ∈ B, r.length = N
def ent (B : Mx) (i j : Nat) : Option Int := ((B[i]?).getD [])[j]?.getD none
def B0 (N : Nat) : Mx := (List.range N).map fun i => (List.range N).map fun j => if i = j then some 0 else none
def mkM (N : Nat) (f : Nat → Nat → Option Int) : Mx := (List.range N).map fun i => (List.range N).map fun j => f i j
theorem sq_mkM (N : Nat) (f : Nat → Nat → Option Int) : sq N (mkM N f) := by
  refine ⟨by simp [mkM], fun r hr => ?_⟩
  simp only [mkM, List.mem_map] at hr
  obtain ⟨i, _, rfl⟩ := hr
  simp
theorem ent_mkM {N : Nat} {f : Nat → Nat → Option Int} {i j : Nat} (hi : i < N) (hj : j < N) : ent (mkM N f) i j = f i j := by
  simp [ent, mkM, hi, hj]
theorem atD_row {B : Mx} {N i : Nat} (h : sq N B) (hi : i < N) : atI (B.map rwD) (i : Int) = some (rwD ((B[i]?).getD [])) := by
  refine atI_nat ?_
  have : i < B.length := by rw [h.1]; exact hi
  simp [this]
theorem atD_ent {B : Mx} {N i j : Nat} (h : sq N B) (hi : i < N) (hj : j < N) : atI (((B[i]?).getD []).map oD) (j : Int) = some (oD (ent B i j)) := by
  refine atI_nat ?_
  have h1 : i < B.length := by rw [h.1]; exact hi
  have h2 : (B[i]?).getD [] = B[i] := by simp [h1]
  have h3 : B[i].length = N := h.2 _ (List.getElem_mem h1)
  unfold ent
  rw [h2]
  have : j < B[i].length := by rw [h3]; exact hj
  simp [this]
/-- bounds[i][j] -/
theorem rd_ent {B : Mx} {N i j : Nat} (h : sq N B) (hi : i < N) (hj : j < N) : (bnd (rd fun S => idxD S (bD B) (.int (i : Nat))) fun t => rd fun S => idxD S t (.int (j : Nat))) = ret (oD (ent B i j)) := by
  unfold bD
  rw [rd_tup, atD_row h hi]
  show (rd fun S => idxD S (rwD _) (.int (j : Nat))) = _
  unfold rwD
  rw [rd_tup, atD_ent h hi hj]
  rfl
def leastO : Option Int → Option Int → Option Int
  | none, b => b
  | a, none => a
  | some a, some b => some (if b < a then b else a)
def sumO : Option Int → Option Int → Option Int
  | some a, some b => some (a + b)
  | _, _ => none
theorem r_least_of (n : Nat) (a b : Option Int) : Phi GG fns (n + 1) K_least_of [oD a, oD b] = ret (oD (leastO a b)) := by
  rw [e_least_of]
  cases a <;> cases b <;> rfl
theorem r_summed (n : Nat) (a b : Option Int) : Phi GG fns (n + 1) K_summed [oD a, oD b] = ret (oD (sumO a b)) := by
  rw [e_summed]
  cases a <;> cases b <;> rfl
def cloM (B : Mx) (o t : Nat) (m : Int) (f s : Nat) : Option Int := leastO (ent B f s) (sumO (sumO (ent B f o) (some m)) (ent B t s))
theorem r_closer (n : Nat) {B : Mx} {N f s o t : Nat} {m : Int} (h : sq N B) (hf : f < N) (hs : s < N) (ho : o < N) (ht : t < N) :
    Phi GG fns (n + 2) K_closer [bD B, .int (f : Nat), .int (s : Nat), .int (o : Nat), .int (t : Nat), .int m] = ret (oD (cloM B o t m f s)) := by
  rw [e_closer]
  unfold m_closer
  have e : D.int m = oD (some m) := rfl
  simp only [rd_ent h hf hs, rd_ent h hf ho, rd_ent h ht hs, bR]
  rw [e]
  simp only [r_summed, r_least_of, bR]
  rfl
/-- all x below n -/
theorem irng_nat {N : Nat} (h : N ≤ 16777216) : irngD (.int (N : Int)) = some ((List.range N).map fun i => .int (i : Nat)) := by
  show (if -(2 ^ 62) ≤ (N : Int) ∧ (N : Int) ≤ 16777216 then some (upto N) else none) = _
  rw [if_pos (by omega)]
  rfl
theorem r_bounds_of (n : Nat) {N : Nat} (h : N ≤ 100) : Phi GG fns (n + 1) K_bounds_of [.int (N : Int)] = ret (bD (B0 N)) := by
  have hz : ((List.range N).map fun i => D.int (i : Nat)).length ≤ sizeLine := by rw [List.length_map, List.length_range, sizeLine_eq]; omega
  rw [e_bounds_of]
  unfold m_bounds_of
  rw [irng_nat (by omega)]
  simp only [oS, bR, nR, if_true]
  rw [mapO_pure (g := fun x => .tup (((List.range N).map fun i => D.int (i : Nat)).map fun y => match x, y with | .int i, .int j => if i = j then .int 0 else .non | _, _ => .non))]
  · simp only [bR, tupD_lst, oS, bD, rwD, B0, List.map_map]
    congr 3
    funext i
    simp only [Function.comp]
    congr 1
    rw [List.map_map]
    refine List.map_congr_left fun j _ => ?_
    simp only [Function.comp]
    by_cases e : i = j
    · subst e
      simp [oD]
    · rw [if_neg e, if_neg (by omega)]
      rfl
  · intro x hx
    obtain ⟨i, _, rfl⟩ := List.mem_map.mp hx
    rw [mapO_pure (g := fun y => match D.int (i : Nat), y with | .int i, .int j => if i = j then .int 0 else .non | _, _ => .non)]
    · rfl
    · intro y hy
      obtain ⟨j, _, rfl⟩ := List.mem_map.mp hy
      rw [eqD_int]
      by_cases e : (i : Int) = (j : Int)
      · simp [e, oS, bR, isB, nR]
      · simp [e, oS, bR, isB, nR]
def lt0 : Option Int → Int → Bool
  | some k, m => decide (k + m < 0)
  | none, _ => false
def le0 : Option Int → Int → Bool
  | some k, m => decide (k ≤ m)
  | none, _ => false
/-- with one more bound -/
def wbM (N : Nat) (B : Mx) (o t : Nat) (m : Int) : Option Mx :=
  if lt0 (ent B t o) m = true then none else if le0 (ent B o t) m = true then some B else some (mkM N (cloM B o t m))
def obD : Option Mx → D
  | none => .non
  | some B => bD B
theorem sq_wbM {N : Nat} {B B' : Mx} {o t : Nat} {m : Int} (h : sq N B) (e : wbM N B o t m = some B') : sq N B' := by
  unfold wbM at e
  split at e
  · cases e
  · split at e
    · cases e; exact h
    · cases e; exact sq_mkM _ _
theorem isN_o (b : Option Int) : isND true (oD b) .non = some (.bl b.isSome) := by cases b <;> rfl
theorem isN_o' (b : Option Int) : isND false (oD b) .non = some (.bl (!b.isSome)) := by cases b <;> rfl
theorem r_with_bound (n : Nat) {B : Mx} {N o t : Nat} {m : Int} (h : sq N B) (hN : N ≤ 100) (ho : o < N) (ht : t < N) :
    Phi GG fns (n + 3) K_with_bound [bD B, .int (o : Nat), .int (t : Nat), .int m] = ret (obD (wbM N B o t m)) := by
  rw [e_with_bound]
  unfold m_with_bound
  simp only [rd_ent h ht ho, rd_ent h ho ht, bR, isN_o, oS, isB_bl]
  have e1 : (if (ent B t o).isSome = true then bnd (bnd (opt (addD (oD (ent B t o)) (.int m))) fun t5 => opt (ordD (fun i j => decide (i < j)) t5 (.int 0 : D))) fun t6 => opt (isB t6) else ret false) = ret (lt0 (ent B t o) m) := by
    cases ent B t o <;> rfl
  have e2 : (if (ent B o t).isSome = true then bnd (opt (ordD (fun i j => decide (i ≤ j)) (oD (ent B o t)) (.int m))) fun t14 => opt (isB t14) else ret false) = ret (le0 (ent B o t) m) := by
    cases ent B o t <;> rfl
  have e3 : lenD [bD B] = some (.int (N : Nat)) := by
    show some (D.int ((B.map rwD).length : Nat)) = _
    rw [List.length_map, h.1]
  have e4 : rngD (.int (N : Nat)) = some ((List.range N).map fun i => .int (i : Nat)) := irng_nat (by omega)
  rw [e1, e2]
  simp only [bR, e3, e4, oS, items_tup, items_lst, nR, if_true]
  unfold wbM
  split
  · rfl
  · split
    · rfl
    · rw [mapO_pure (g := fun x => match x with | .int i => .tup ((List.range N).map fun (j : Nat) => oD (cloM B o t m i.toNat j)) | _ => .non)]
      · simp only [bR, tupD_lst, oS, obD, bD, mkM, List.map_map]
        congr 2
        refine List.map_congr_left fun i _ => ?_
        simp [Function.comp, rwD, List.map_map]
      · intro x hx
        obtain ⟨i, hi, rfl⟩ := List.mem_map.mp hx
        have hi := List.mem_range.mp hi
        rw [mapO_pure (g := fun y => match y with | .int j => oD (cloM B o t m i j.toNat) | _ => .non)]
        · simp only [bR, tupD_lst, oS, nR, List.map_map]
          rfl
        · intro y hy
          obtain ⟨j, hj, rfl⟩ := List.mem_map.mp hy
          rw [r_closer n h hi (List.mem_range.mp hj) ho ht]
          rfl
/-! ### numbers that are within bounds -/
def Sat (x : Nat → Int) (N : Nat) (B : Mx) : Prop := ∀ i j k, i < N → j < N → ent B i j = some k → x i - x j ≤ k
theorem sat_B0 (x : Nat → Int) (N : Nat) : Sat x N (B0 N) := fun i j k hi hj e => by
  have : B0 N = mkM N fun i j => if i = j then some 0 else none := rfl
  rw [this, ent_mkM hi hj] at e
  split at e
  · rename_i h
    cases e
    subst h
    omega
  · cases e
theorem sat_wb {x : Nat → Int} {N : Nat} {B : Mx} {o t : Nat} {m : Int} (h : Sat x N B) (ho : o < N) (ht : t < N) (hm : x o - x t ≤ m) : ∃ B', wbM N B o t m = some B' ∧ Sat x N B' := by
  unfold wbM
  have h1 : ¬ lt0 (ent B t o) m = true := fun z => by
    cases q : ent B t o with
    | none => rw [q] at z; cases z
    | some k =>
      rw [q] at z
      have z : k + m < 0 := of_decide_eq_true z
      have := h t o k ht ho q
      omega
  rw [if_neg h1]
  split
  · exact ⟨B, rfl, h⟩
  · refine ⟨_, rfl, fun i j k hi hj e => ?_⟩
    rw [ent_mkM hi hj] at e
    unfold cloM at e
    have h2 : ∀ b, sumO (sumO (ent B i o) (some m)) (ent B t j) = some b → x i - x j ≤ b := fun b z => by
      cases q1 : ent B i o with
      | none => rw [q1] at z; cases z
      | some k1 =>
        cases q2 : ent B t j with
        | none => rw [q1, q2] at z; cases z
        | some k2 =>
          rw [q1, q2] at z
          have z : k1 + m + k2 = b := Option.some.inj z
          have a1 := h i o k1 hi ho q1
          have a2 := h t j k2 ht hj q2
          omega
    cases q1 : ent B i j with
    | none =>
      rw [q1] at e
      exact h2 k e
    | some k1 =>
      have a1 := h i j k1 hi hj q1
      rw [q1] at e
      cases q2 : sumO (sumO (ent B i o) (some m)) (ent B t j) with
      | none => rw [q2] at e; cases e; exact a1
      | some k2 =>
        have a2 := h2 k2 q2
        rw [q2] at e
        have e : (if k2 < k1 then k2 else k1) = k := Option.some.inj e
        split at e <;> omega
end PV

set_option Elab.async false
set_option linter.all false
set_option maxRecDepth 100000
set_option maxHeartbeats 4000000
/-! PvPq: queues. -/
namespace PV
open PySem PySem.Spec PyProof.Rows L2
mutual
/-- no changing object, no def within -/
def okD : D → Bool
  | .obj _ => false
  | .fn _ => false
  | .exn _ => false
  | .tup xs => okDs xs
  | .lst xs => okDs xs
  | .str z => PyData.strOk z
  | _ => true
def okDs : List D → Bool
  | [] => true
  | x :: xs => okD x && okDs xs
end
theorem okDs_mem : ∀ {xs : List D} {x : D}, okDs xs = true → x ∈ xs → okD x = true
  | [], _, _, h => by cases h
  | y :: ys, x, h, hx => by
    unfold okDs at h
    rw [Bool.and_eq_true] at h
    rcases List.mem_cons.mp hx with e | e
    · subst e
      exact h.1
    · exact okDs_mem h.2 e
theorem okDs_of : ∀ {xs : List D}, (∀ x ∈ xs, okD x = true) → okDs xs = true
  | [], _ => rfl
  | y :: ys, h => by
    unfold okDs
    rw [h y List.mem_cons_self, okDs_of fun x hx => h x (List.mem_cons_of_mem _ hx)]
    rfl
def isWithin (d : D) (lo hi : Int) : Bool := match d with
  | .int i => decide (lo ≤ i) && decide (i ≤ hi)
  | _ => false
def hasItems (d : D) (lo hi : Int) : Bool := match d with
  | .tup xs => decide (lo ≤ (xs.length : Int)) && decide ((xs.length : Int) ≤ hi)
  | _ => false
theorem r_is_within (n : Nat) {d : D} {lo hi : Int} (h : okD d = true) : Phi GG fns (n + 1) K_is_within [d, .int lo, .int hi] = ret (.bl (isWithin d lo hi)) := by
  rw [e_is_within]
  cases d with
  | int i =>
    show (if decide (lo ≤ i) = true then ret (D.bl (decide (i ≤ hi))) else ret (D.bl false)) = ret (D.bl (decide (lo ≤ i) && decide (i ≤ hi)))
    cases decide (lo ≤ i) <;> rfl
  | obj _ => cases h
  | fn _ => cases h
  | exn _ => cases h
  | _ => rfl
theorem r_has_items (n : Nat) {d : D} {lo hi : Int} (h : okD d = true) : Phi GG fns (n + 1) K_has_items [d, .int lo, .int hi] = ret (.bl (hasItems d lo hi)) := by
  rw [e_has_items]
  cases d with
  | tup xs =>
    show (if decide (lo ≤ (xs.length : Int)) = true then ret (D.bl (decide ((xs.length : Int) ≤ hi))) else ret (D.bl false)) = ret (D.bl (decide (lo ≤ (xs.length : Int)) && decide ((xs.length : Int) ≤ hi)))
    cases decide (lo ≤ (xs.length : Int)) <;> rfl
  | obj _ => cases h
  | fn _ => cases h
  | exn _ => cases h
  | _ => rfl
theorem isBls_map (p : D → Bool) : ∀ xs : List D, isBls (xs.map fun x => .bl (p x)) = some (xs.map p)
  | [] => rfl
  | x :: xs => by
    show (isBls (xs.map fun x => .bl (p x))).map (p x :: ·) = _
    rw [isBls_map p xs]
    rfl
theorem allD_map (p : D → Bool) (xs : List D) : allD [.lst (xs.map fun x => .bl (p x))] = some (.bl (xs.all p)) := by
  unfold allD
  simp only [isBls_map, Option.map_some, List.all_map]
  congr 3
/-- ints, where all are -/
def intsOf : List D → List Int
  | .int i :: xs => i :: intsOf xs
  | _ => []
theorem isInts_of {lo hi : Int} : ∀ {xs : List D}, xs.all (fun x => isWithin x lo hi) = true → isInts xs = some (intsOf xs) ∧ (intsOf xs).length = xs.length ∧ xs = (intsOf xs).map .int ∧ ∀ i ∈ intsOf xs, lo ≤ i ∧ i ≤ hi
  | [], _ => ⟨rfl, rfl, rfl, fun i hi => by cases hi⟩
  | x :: xs, h => by
    rw [List.all_cons, Bool.and_eq_true] at h
    obtain ⟨h1, h2⟩ := h
    obtain ⟨a1, a2, a3, a4⟩ := isInts_of h2
    cases x with
    | int i =>
      have h1 : (decide (lo ≤ i) && decide (i ≤ hi)) = true := h1
      rw [Bool.and_eq_true, decide_eq_true_eq, decide_eq_true_eq] at h1
      refine ⟨?_, ?_, ?_, fun j hj => ?_⟩
      · show (isInts xs).map (i :: ·) = _
        rw [a1]
        rfl
      · show (intsOf xs).length + 1 = _
        rw [a2]
        rfl
      · show _ = D.int i :: (intsOf xs).map .int
        rw [← a3]
      · rcases List.mem_cons.mp hj with e | e
        · subst e
          exact h1
        · exact a4 j e
    | _ => cases h1
/-- unlike people, at least one -/
def isRow (many : Int) (d : D) : Bool := match d with
  | .tup xs => decide (1 ≤ (xs.length : Int)) && decide ((xs.length : Int) ≤ many) && xs.all (fun x => isWithin x 0 (many - 1)) && decide (((dist (intsOf xs)).length : Int) = xs.length)
  | _ => false
theorem isRow_tup (many : Int) (xs : List D) : isRow many (.tup xs) = (decide (1 ≤ (xs.length : Int)) && decide ((xs.length : Int) ≤ many) && xs.all (fun x => isWithin x 0 (many - 1)) && decide (((dist (intsOf xs)).length : Int) = xs.length)) := rfl
theorem r_is_row (n : Nat) {d : D} {many : Int} (h : okD d = true) (hm : many ≤ 4000) : Phi GG fns (n + 2) K_is_row [.int many, d] = ret (.bl (isRow many d)) := by
  rw [e_is_row]
  unfold m_is_row
  rw [r_has_items (n := n) h]
  simp only [bR, isB_bl, oS]
  by_cases q : hasItems d 1 many = true
  · rw [q]
    cases d with
    | tup xs =>
      have q' : (decide (1 ≤ (xs.length : Int)) && decide ((xs.length : Int) ≤ many)) = true := q
      have hw : ∀ x ∈ xs, okD x = true := fun x hx => okDs_mem h hx
      simp only [Bool.not_true, Bool.false_eq_true, if_false, items_tup, items_lst, oS, bR, subD_int, nR, if_true]
      rw [mapO_pure (g := fun x => .bl (isWithin x 0 (many - 1)))]
      · simp only [bR, allD_map, oS, isB_bl]
        rw [isRow_tup, q', Bool.true_and]
        by_cases a : xs.all (fun x => isWithin x 0 (many - 1)) = true
        · rw [a]
          obtain ⟨b1, b2, b3, b4⟩ := isInts_of a
          have hl : (intsOf xs).length ≤ 4000 := by
            rw [Bool.and_eq_true, decide_eq_true_eq, decide_eq_true_eq] at q'
            omega
          simp only [lenSetD, b1, if_pos hl, lenD_tup, oS, bR, eqD_int, Bool.not_true, Bool.false_eq_true, if_false, Bool.true_and]
        · rw [Bool.not_eq_true] at a
          rw [a]
          rfl
      · intro x hx
        rw [r_is_within n (hw x hx)]
        rfl
    | _ => cases q
  · rw [Bool.not_eq_true] at q
    rw [q]
    show ret _ = ret _
    cases d with
    | tup xs =>
      rw [isRow_tup]
      have q' : (decide (1 ≤ (xs.length : Int)) && decide ((xs.length : Int) ≤ many)) = false := q
      rw [q', Bool.false_and, Bool.false_and]
    | _ => rfl
/-- a fact -/
structure Fact where
  a : Nat
  b : Nat
  lo : Int
  hi : Option Int
def fD (f : Fact) : D := .tup [.int (f.a : Nat), .int (f.b : Nat), .int f.lo, oD f.hi]
def iv : D → Int
  | .int i => i
  | _ => 0
theorem iv_of {d : D} {lo hi : Int} (h : isWithin d lo hi = true) : d = .int (iv d) ∧ lo ≤ iv d ∧ iv d ≤ hi := by
  cases d with
  | int i =>
    have h : (decide (lo ≤ i) && decide (i ≤ hi)) = true := h
    rw [Bool.and_eq_true, decide_eq_true_eq, decide_eq_true_eq] at h
    exact ⟨rfl, h⟩
  | _ => cases h
def isFact (marks : Int) (d : D) : Bool := match d with
  | .tup [a, b, lo, hi] => isWithin a 0 marks && (isWithin b 0 (marks + 1) && (decide (iv a < iv b) && (isWithin lo 0 60 && (isNon hi || isWithin hi (iv lo) 60))))
  | _ => false
theorem len4 {xs : List D} (h : hasItems (.tup xs) 4 4 = true) : ∃ a b c d, xs = [a, b, c, d] := by
  have h : (decide (4 ≤ (xs.length : Int)) && decide ((xs.length : Int) ≤ 4)) = true := h
  rw [Bool.and_eq_true, decide_eq_true_eq, decide_eq_true_eq] at h
  match xs, h with
  | [a, b, c, d], _ => exact ⟨a, b, c, d, rfl⟩
  | [], h => simp at h
  | [_], h => simp at h
  | [_, _], h => simp at h
  | [_, _, _], h => simp at h
  | _ :: _ :: _ :: _ :: _ :: _, h => simp at h; omega
theorem isND_non {d : D} (n : Bool) : isND n d .non = some (.bl (if n then !isNon d else isNon d)) := by cases d <;> rfl
theorem r_is_fact (n : Nat) {d : D} {marks : Int} (h : okD d = true) : Phi GG fns (n + 2) K_is_fact [.int marks, d] = ret (.bl (isFact marks d)) := by
  rw [e_is_fact]
  unfold m_is_fact
  rw [r_has_items (n := n) h]
  simp only [bR, isB_bl, oS]
  by_cases q : hasItems d 4 4 = true
  · rw [q]
    cases d with
    | tup xs =>
      obtain ⟨a, b, lo, hi, rfl⟩ := len4 q
      have ha : okD a = true := okDs_mem h (by simp)
      have hb : okD b = true := okDs_mem h (by simp)
      have hlo : okD lo = true := okDs_mem h (by simp)
      have hhi : okD hi = true := okDs_mem h (by simp)
      have e0 : atI [a, b, lo, hi] 0 = some a := rfl
      have e1 : atI [a, b, lo, hi] 1 = some b := rfl
      have e2 : atI [a, b, lo, hi] 2 = some lo := rfl
      have e3 : atI [a, b, lo, hi] 3 = some hi := rfl
      show _ = ret (D.bl (isWithin a 0 marks && (isWithin b 0 (marks + 1) && (decide (iv a < iv b) && (isWithin lo 0 60 && (isNon hi || isWithin hi (iv lo) 60))))))
      simp only [rd_tup, e0, e1, e2, e3, oS, bR, addD_int, Bool.not_true, Bool.false_eq_true, if_false, r_is_within n ha, r_is_within n hb, r_is_within n hlo, isB_bl, isND_non]
      by_cases k1 : isWithin a 0 marks = true
      · by_cases k2 : isWithin b 0 (marks + 1) = true
        · obtain ⟨v1, _, _⟩ := iv_of k1
          obtain ⟨v2, _, _⟩ := iv_of k2
          rw [k1, k2]
          have eo : ordD (fun i j => decide (j ≤ i)) a b = some (.bl (decide (iv b ≤ iv a))) := by rw [v1, v2]; rfl
          simp only [eo, bR, oS, isB_bl, Bool.not_true, Bool.false_eq_true, if_false, Bool.true_and]
          by_cases k3 : iv b ≤ iv a
          · have k3' : ¬ iv a < iv b := by omega
            simp [k3, k3', bR]
          · have k3' : iv a < iv b := by omega
            by_cases k4 : isWithin lo 0 60 = true
            · obtain ⟨v3, _, _⟩ := iv_of k4
              have r3 : Phi GG fns (n + 1) K_is_within [hi, lo, .int 60] = ret (.bl (isWithin hi (iv lo) 60)) := by
                have := r_is_within n (lo := iv lo) (hi := 60) hhi
                rw [← v3] at this
                exact this
              simp only [k3, k3', k4, decide_false, decide_true, Bool.false_eq_true, if_false, bR, Bool.not_true, r3, Bool.true_and]
              cases isNon hi <;> rfl
            · rw [Bool.not_eq_true] at k4
              simp [k3, k3', k4, bR]
        · rw [Bool.not_eq_true] at k2
          simp [k1, k2, bR]
      · rw [Bool.not_eq_true] at k1
        simp [k1, bR]
    | _ => cases q
  · rw [Bool.not_eq_true] at q
    rw [q]
    show ret _ = ret _
    cases d with
    | tup xs =>
      match xs, q with
      | [a, b, c, d], q => cases q
      | [], q => rfl
      | [_], q => rfl
      | [_, _], q => rfl
      | [_, _, _], q => rfl
      | _ :: _ :: _ :: _ :: _ :: _, q => rfl
    | _ => rfl
theorem fact_of {marks : Nat} {d : D} (h : isFact marks d = true) : ∃ f : Fact, d = fD f ∧ f.a < f.b ∧ f.a ≤ marks ∧ f.b ≤ marks + 1 ∧ 0 ≤ f.lo ∧ f.lo ≤ 60 ∧ ∀ k, f.hi = some k → f.lo ≤ k ∧ k ≤ 60 := by
  match d, h with
  | .tup [a, b, lo, hi], h =>
    have h : (isWithin a 0 marks && (isWithin b 0 (marks + 1) && (decide (iv a < iv b) && (isWithin lo 0 60 && (isNon hi || isWithin hi (iv lo) 60))))) = true := h
    simp only [Bool.and_eq_true, decide_eq_true_eq, Bool.or_eq_true] at h
    obtain ⟨h1, h2, h3, h4, h5⟩ := h
    obtain ⟨v1, a1, a2⟩ := iv_of h1
    obtain ⟨v2, b1, b2⟩ := iv_of h2
    obtain ⟨v3, c1, c2⟩ := iv_of h4
    rcases h5 with h5 | h5
    · have : hi = .non := by cases hi <;> first | rfl | cases h5
      subst this
      refine ⟨⟨(iv a).toNat, (iv b).toNat, iv lo, none⟩, ?_, ?_, ?_, ?_, c1, c2, fun k z => (by cases z)⟩
      · rw [v1, v2, v3]
        show D.tup [.int (iv a), .int (iv b), .int (iv lo), .non] = D.tup [.int ((iv a).toNat : Nat), .int ((iv b).toNat : Nat), .int (iv lo), .non]
        rw [Int.toNat_of_nonneg a1, Int.toNat_of_nonneg b1]
      · show (iv a).toNat < (iv b).toNat
        omega
      · show (iv a).toNat ≤ marks
        omega
      · show (iv b).toNat ≤ marks + 1
        omega
    · obtain ⟨v4, d1, d2⟩ := iv_of h5
      refine ⟨⟨(iv a).toNat, (iv b).toNat, iv lo, some (iv hi)⟩, ?_, ?_, ?_, ?_, c1, c2, fun k z => (by cases z; exact ⟨d1, d2⟩)⟩
      · show _ = D.tup [.int ((iv a).toNat : Nat), .int ((iv b).toNat : Nat), .int (iv lo), .int (iv hi)]
        rw [Int.toNat_of_nonneg a1, Int.toNat_of_nonneg b1, ← v1, ← v2, ← v3, ← v4]
      · show (iv a).toNat < (iv b).toNat
        omega
      · show (iv a).toNat ≤ marks
        omega
      · show (iv b).toNat ≤ marks + 1
        omega
/-! ### the bounds of a queue -/
def beg1 (N : Nat) : Nat → Option Mx
  | 0 => some (B0 N)
  | k + 1 => (beg1 N k).bind fun B => wbM N B k (k + 1) 0
def fact1 (N : Nat) (B : Option Mx) (f : Fact) : Option Mx :=
  let C := B.bind fun B => wbM N B f.a f.b (-f.lo)
  match C, f.hi with
  | some B, some h => wbM N B f.b f.a h
  | C, _ => C
def beginM (r : Nat) (fs : List Fact) : Option Mx := fs.foldl (fact1 (r + 2)) (beg1 (r + 2) (r + 1))
theorem beg1_ok (N : Nat) : ∀ k, k < N → ∃ B, beg1 N k = some B ∧ sq N B ∧ ∀ x : Nat → Int, (∀ i, x i ≤ x (i + 1)) → Sat x N B
  | 0, _ => ⟨B0 N, rfl, sq_mkM _ _, fun x _ => sat_B0 x N⟩
  | k + 1, h => by
    obtain ⟨B, e, s, z⟩ := beg1_ok N k (by omega)
    obtain ⟨B', e', _⟩ := sat_wb (z (fun _ => 0) fun _ => Int.le_refl _) (o := k) (t := k + 1) (m := 0) (by omega) h (by omega)
    refine ⟨B', ?_, sq_wbM s e', fun x hx => ?_⟩
    · show (beg1 N k).bind _ = _
      rw [e]
      exact e'
    · obtain ⟨B'', e'', z'⟩ := sat_wb (z x hx) (o := k) (t := k + 1) (m := 0) (by omega) h (by have := hx k; omega)
      rw [e'] at e''
      cases e''
      exact z'
theorem isND_ob (B : Option Mx) : isND true (obD B) .non = some (.bl B.isSome) := by cases B <;> rfl
theorem oD_neg (m : Int) : negD (.int m) = some (.int (-m)) := rfl
theorem r_begin_of (n : Nat) {m : D} {row : List D} {fs : List Fact} (hr : row.length ≤ 50) (hf : ∀ f ∈ fs, f.a < row.length + 2 ∧ f.b < row.length + 2) :
    Phi GG fns (n + 4) K_begin_of [.tup [m, .tup row, .tup (fs.map fD)]] = ret (obD (beginM row.length fs)) := by
  rw [e_begin_of]
  unfold m_begin_of
  have e1 : atI [m, .tup row, .tup (fs.map fD)] 1 = some (.tup row) := rfl
  have e2 : atI [m, .tup row, .tup (fs.map fD)] 2 = some (.tup (fs.map fD)) := rfl
  have eb := r_bounds_of (n + 2) (N := row.length + 2) (by omega)
  have ei : irngD (.int ((row.length : Int) + 1)) = some ((List.range (row.length + 1)).map fun i => .int (i : Nat)) := irng_nat (N := row.length + 1) (by omega)
  simp only [rd_tup, e1, oS, bR, lenD_tup, addD_int]
  rw [ei]
  have e3 : (row.length : Int) + 1 + 1 = ((row.length + 2 : Nat) : Int) := by omega
  rw [e3, eb]
  simp only [bR, oS]
  generalize hq : D.tup [m, .tup row, .tup (fs.map fD)] = Q at *
  refine ret_of fun S => ?_
  have h0 : beg1 (row.length + 2) 0 = some (B0 (row.length + 2)) := rfl
  -- the first loop
  refine forC_wp (fun xs ρ S' => S' = S ∧ ∃ (k : Nat) (B : Mx) (sl : Slot), xs = ((List.range (row.length + 1)).drop k).map (fun i => D.int (i : Nat)) ∧ k ≤ row.length + 1 ∧ beg1 (row.length + 2) k = some B ∧ sq (row.length + 2) B ∧ ρ = [.val Q, .val (.int ((row.length : Int) + 1)), .val (bD B), sl, .un, .un, .un, .un]) ?_ ?_ _ _ _
    ⟨rfl, 0, B0 (row.length + 2), .un, by rw [List.drop_zero], Nat.zero_le _, rfl, sq_mkM _ _, rfl⟩
  · rintro ρ S' ⟨rfl, k, B, sl, hx, hk, hB, sB, rfl⟩
    have hk2 : k = row.length + 1 := by
      have := congrArg List.length hx
      simp at this
      omega
    subst hk2
    subst hq
    simp only [asgn_one, asgn_many, setMany_nil, setMany_cons, List.set_cons_zero, List.set_cons_succ, getV_zero, getV_succ, oS, bR, rd_tup, e2, items_tup, items_lst]
    -- the second loop
    refine forC_wp (fun xs ρ S'' => S'' = S' ∧ ∃ (C : Option Mx) (gs : List Fact) (s3 s4 s5 s6 s7 : Slot), xs = gs.map fD ∧ (∀ f ∈ gs, f ∈ fs) ∧ (∀ B, C = some B → sq (row.length + 2) B) ∧ gs.foldl (fact1 (row.length + 2)) C = beginM row.length fs ∧
      ρ = [.val (D.tup [m, .tup row, .tup (fs.map fD)]), .val (.int ((row.length : Int) + 1)), .val (obD C), s3, s4, s5, s6, s7]) ?_ ?_ _ _ _ ⟨rfl, some B, fs, sl, .un, .un, .un, .un, rfl, fun f h => h, fun B' e => by cases e; exact sB, by unfold beginM; rw [hB], rfl⟩
    · rintro ρ S'' ⟨rfl, C, gs, s3, s4, s5, s6, s7, hx, hg, sC, hC, rfl⟩
      have : gs = [] := by cases gs <;> first | rfl | cases hx
      subst this
      exact ⟨by rw [← hC]; rfl, rfl⟩
    · rintro x xs ρ S'' k' ⟨rfl, C, gs, s3, s4, s5, s6, s7, hx, hg, sC, hC, rfl⟩ hk'
      cases gs with
      | nil => cases hx
      | cons f gs =>
        cases hx
        obtain ⟨ha, hb⟩ := hf f (hg f List.mem_cons_self)
        have done : ∀ C', fact1 (row.length + 2) C f = C' → (∀ B, C' = some B → sq (row.length + 2) B) → wp (k' [.val (D.tup [m, .tup row, .tup (fs.map fD)]), .val (.int ((row.length : Int) + 1)), .val (obD C'), s3, .val (.int (f.a : Nat)), .val (.int (f.b : Nat)), .val (.int f.lo), .val (oD f.hi)]) S'' (fun a S' => a = obD (beginM row.length fs) ∧ S' = S'') := fun C' e s' =>
          hk' _ _ ⟨rfl, C', gs, s3, _, _, _, _, rfl, fun g hg' => hg g (List.mem_cons_of_mem _ hg'), s', by rw [← e]; exact hC, rfl⟩
        unfold fD
        simp only [asgn_one, asgn_many, setMany_nil, setMany_cons, List.set_cons_zero, List.set_cons_succ, getV_zero, getV_succ, oS, bR, isND_ob, isB_bl]
        cases C with
        | none =>
          exact done none (by unfold fact1; cases f.hi <;> rfl) (fun B e => by cases e)
        | some B =>
          have sB' := sC B rfl
          have r1 := r_with_bound n (m := -f.lo) sB' (by omega) ha hb
          simp only [Option.isSome_some, if_true, oD_neg, oS, bR]
          have r1 : Phi GG fns (n + 3) K_with_bound [obD (some B), .int (f.a : Nat), .int (f.b : Nat), .int (-f.lo)] = _ := r1
          rw [r1]
          simp only [bR]
          have s1 : ∀ B', wbM (row.length + 2) B f.a f.b (-f.lo) = some B' → sq (row.length + 2) B' := fun B' e => sq_wbM sB' e
          generalize hW : wbM (row.length + 2) B f.a f.b (-f.lo) = C1 at *
          simp only [asgn_one, asgn_many, setMany_nil, setMany_cons, List.set_cons_zero, List.set_cons_succ, getV_zero, getV_succ, oS, bR, isND_ob, isB_bl]
          cases C1 with
          | none => exact done none (by unfold fact1; simp only [Option.bind_some, hW]) (fun B e => by cases e)
          | some B1 =>
            simp only [Option.isSome_some, if_true, asgn_one, asgn_many, setMany_nil, setMany_cons, List.set_cons_zero, List.set_cons_succ, getV_zero, getV_succ, oS, bR, isN_o, isB_bl]
            cases hh : f.hi with
            | none =>
              have := done (some B1) (by unfold fact1; simp only [Option.bind_some, hW, hh]) (fun B e => by cases e; exact s1 B1 rfl)
              rw [hh] at this
              exact this
            | some hi =>
              have r2 := r_with_bound n (m := hi) (s1 B1 rfl) (by omega) hb ha
              have r2 : Phi GG fns (n + 3) K_with_bound [obD (some B1), .int (f.b : Nat), .int (f.a : Nat), oD (some hi)] = _ := r2
              simp only [Option.isSome_some, if_true, bR]
              rw [r2]
              simp only [bR]
              have := done (wbM (row.length + 2) B1 f.b f.a hi) (by unfold fact1; simp only [Option.bind_some, hW, hh]) (fun B e => sq_wbM (s1 B1 rfl) e)
              rw [hh] at this
              exact this
  · rintro x xs ρ S' k' ⟨rfl, k, B, sl, hx, hk, hB, sB, rfl⟩ hk'
    have hlt : k < row.length + 1 := by
      rcases Nat.lt_or_ge k (row.length + 1) with h | h
      · exact h
      · have := congrArg List.length hx
        simp at this
        omega
    have hd : (List.range (row.length + 1)).drop k = k :: (List.range (row.length + 1)).drop (k + 1) := by
      rw [List.drop_eq_getElem_cons (by simpa using hlt)]
      simp
    rw [hd, List.map_cons] at hx
    cases hx
    obtain ⟨B', e', s', _⟩ := beg1_ok (row.length + 2) (k + 1) (by omega)
    have hw : wbM (row.length + 2) B k (k + 1) 0 = some B' := by
      have : (beg1 (row.length + 2) k).bind (fun B => wbM (row.length + 2) B k (k + 1) 0) = some B' := e'
      rw [hB] at this
      exact this
    have r1 := r_with_bound n (m := 0) sB (by omega) (o := k) (t := k + 1) (by omega) (by omega)
    rw [hw] at r1
    simp only [asgn_one, asgn_many, setMany_nil, setMany_cons, List.set_cons_zero, List.set_cons_succ, getV_zero, getV_succ, oS, bR, addD_int]
    have e4 : ((k : Int) + 1) = ((k + 1 : Nat) : Int) := by omega
    rw [e4, r1]
    exact hk' _ _ ⟨rfl, k + 1, B', _, rfl, hlt, e', s', rfl⟩
end PV

set_option Elab.async false
set_option linter.all false
set_option maxRecDepth 100000
set_option maxHeartbeats 4000000
/-! PvPd: queues as values; deeds, scripts. -/
namespace PV
open PySem PySem.Spec PyProof.Rows L2
/-! ### queues -/
def toFact : D → Fact
  | .tup [.int a, .int b, .int lo, .int k] => ⟨a.toNat, b.toNat, lo, some k⟩
  | .tup [.int a, .int b, .int lo, _] => ⟨a.toNat, b.toNat, lo, none⟩
  | _ => ⟨0, 0, 0, none⟩
theorem toFact_fD (f : Fact) : toFact (fD f) = f := by
  obtain ⟨a, b, lo, hi⟩ := f
  cases hi <;> rfl
theorem fD_toFact {marks : Nat} {d : D} (h : isFact marks d = true) : d = fD (toFact d) := by
  obtain ⟨f, rfl, _⟩ := fact_of h
  rw [toFact_fD]
def isQueue3 (m : D) : D → D → Bool
  | .tup row, .tup fs => isWithin m 2 4 && isRow (iv m) (.tup row) && decide (fs.length ≤ 4) && fs.all (isFact row.length) && (beginM row.length (fs.map toFact)).isSome
  | _, _ => false
def isQueue (d : D) : Bool := match d with
  | .tup [m, row, fs] => isQueue3 m row fs
  | _ => false
theorem hasItems_tup (xs : List D) (lo hi : Int) : hasItems (.tup xs) lo hi = (decide (lo ≤ (xs.length : Int)) && decide ((xs.length : Int) ≤ hi)) := rfl
theorem len3 {xs : List D} (h : hasItems (.tup xs) 3 3 = true) : ∃ a b c, xs = [a, b, c] := by
  rw [hasItems_tup, Bool.and_eq_true, decide_eq_true_eq, decide_eq_true_eq] at h
  match xs, h with
  | [a, b, c], _ => exact ⟨a, b, c, rfl⟩
  | [], h => simp at h
  | [_], h => simp at h
  | [_, _], h => simp at h
  | _ :: _ :: _ :: _ :: _, h => simp at h; omega
theorem row_len {m : Int} {xs : List D} (h : isRow m (.tup xs) = true) : 1 ≤ xs.length ∧ (xs.length : Int) ≤ m ∧ (∀ x ∈ xs, isWithin x 0 (m - 1) = true) := by
  rw [isRow_tup] at h
  simp only [Bool.and_eq_true, decide_eq_true_eq, List.all_eq_true] at h
  exact ⟨by omega, h.1.1.2, h.1.2⟩
theorem isNTrue (B : Option Mx) : isND true (obD B) .non = some (.bl B.isSome) := isND_ob B
theorem r_is_queue_value (n : Nat) {d : D} (h : okD d = true) : Phi GG fns (n + 5) K_is_queue_value [d] = ret (.bl (isQueue d)) := by
  rw [e_is_queue_value]
  unfold m_is_queue_value
  rw [r_has_items (n + 3) h]
  simp only [bR, isB_bl, oS]
  by_cases q : hasItems d 3 3 = true
  case neg =>
    rw [Bool.not_eq_true] at q
    rw [q]
    simp only [Bool.not_false, if_true, bR]
    congr 2
    unfold isQueue
    split
    · cases q
    · rfl
  case pos =>
  rw [q]
  cases d with
  | tup xs =>
    obtain ⟨m, row, fs, rfl⟩ := len3 q
    have hm : okD m = true := okDs_mem h (by simp)
    have hrow : okD row = true := okDs_mem h (by simp)
    have hfs : okD fs = true := okDs_mem h (by simp)
    have e0 : atI [m, row, fs] 0 = some m := rfl
    have e1 : atI [m, row, fs] 1 = some row := rfl
    have e2 : atI [m, row, fs] 2 = some fs := rfl
    simp only [rd_tup, e0, e1, e2, oS, bR, Bool.not_true, Bool.false_eq_true, if_false, r_is_within (n + 3) hm, isB_bl]
    by_cases k1 : isWithin m 2 4 = true
    case neg =>
      rw [Bool.not_eq_true] at k1
      rw [k1]
      simp only [Bool.not_false, if_true, bR]
      congr 2
      cases row with
      | tup row => cases fs <;> first | rfl | (show false = (isWithin m 2 4 && _ && _ && _ && _); rw [k1]; rfl)
      | _ => rfl
    case pos =>
    rw [k1]
    obtain ⟨v1, m1, m2⟩ := iv_of k1
    have rr : Phi GG fns (n + 4) K_is_row [m, row] = ret (.bl (isRow (iv m) row)) := by
      have := r_is_row (n + 2) (many := iv m) hrow (by omega)
      rw [← v1] at this
      exact this
    simp only [bR, Bool.not_true, Bool.false_eq_true, if_false, rr, isB_bl, oS]
    by_cases k2 : isRow (iv m) row = true
    case neg =>
      rw [Bool.not_eq_true] at k2
      rw [k2]
      simp only [Bool.not_false, if_true, bR]
      congr 2
      cases row with
      | tup row => cases fs <;> first | rfl | (show false = (isWithin m 2 4 && isRow (iv m) (.tup row) && _ && _ && _); rw [k2, Bool.and_false]; rfl)
      | _ => rfl
    case pos =>
    rw [k2]
    cases row with
    | tup row =>
      simp only [bR, Bool.not_true, Bool.false_eq_true, if_false, r_has_items (n + 3) hfs, isB_bl, oS]
      by_cases k3 : hasItems fs 0 4 = true
      case neg =>
        rw [Bool.not_eq_true] at k3
        rw [k3]
        simp only [Bool.not_false, if_true, bR]
        congr 2
        cases fs with
        | tup fs =>
          show false = (isWithin m 2 4 && isRow (iv m) (.tup row) && decide (fs.length ≤ 4) && _ && _)
          have : decide (fs.length ≤ 4) = false := by
            rw [hasItems_tup] at k3
            simp at k3 ⊢
            omega
          rw [this, Bool.and_false]
          rfl
        | _ => rfl
      case pos =>
      rw [k3]
      cases fs with
      | tup fs =>
        have hf : ∀ x ∈ fs, okD x = true := fun x hx => okDs_mem hfs hx
        have k3' : decide (fs.length ≤ 4) = true := by
          rw [hasItems_tup] at k3
          simp at k3 ⊢
          omega
        simp only [bR, Bool.not_true, Bool.false_eq_true, if_false, items_tup, oS, nR, if_true, lenD_tup]
        rw [mapO_pure (g := fun x => .bl (isFact row.length x))]
        · simp only [bR, allD_map, oS, isB_bl]
          show _ = ret (D.bl (isWithin m 2 4 && isRow (iv m) (.tup row) && decide (fs.length ≤ 4) && fs.all (isFact row.length) && (beginM row.length (fs.map toFact)).isSome))
          rw [k1, k2, k3']
          by_cases k4 : fs.all (isFact row.length) = true
          case neg =>
            rw [Bool.not_eq_true] at k4
            rw [k4]
            rfl
          case pos =>
          rw [k4]
          have k4' : ∀ x ∈ fs, isFact row.length x = true := fun x hx => (List.all_eq_true.mp k4) x hx
          have eq : (fs.map toFact).map fD = fs := by
            rw [List.map_map]
            conv => rhs; rw [← List.map_id fs]
            exact List.map_congr_left fun x hx => (fD_toFact (k4' x hx)).symm
          obtain ⟨l1, l2, _⟩ := row_len k2
          have rb := r_begin_of n (m := m) (row := row) (fs := fs.map toFact) (by omega) (fun f hf' => by
            obtain ⟨x, hx, rfl⟩ := List.mem_map.mp hf'
            obtain ⟨f, e, f1, f2, f3, _⟩ := fact_of (k4' x hx)
            rw [e, toFact_fD]
            omega)
          rw [eq] at rb
          simp only [bR, Bool.not_true, Bool.false_eq_true, if_false, rb, isND_ob, oS, Bool.and_self, Bool.true_and]
        · intro x hx
          rw [r_is_fact (n + 2) (hf x hx)]
          rfl
      | _ => cases k3
    | _ => cases k2
  | _ => cases q

/-! ### deeds -/
theorem beq_dec (a b : Str) : (a == b) = decide (a = b) := rfl
theorem eqD_str {a b : Str} (ha : PyData.strOk a = true) (hb : PyData.strOk b = true) (n : Bool) : eqD n (.str a) (.str b) = some (.bl (if n then !(decide (a = b)) else decide (a = b))) := by
  unfold eqD deq
  have h1 : SeqAt.shaped (.str a) = true := by simp [SeqAt.shaped, PyData.canLay0, PyData.depth, ha]
  have h2 : SeqAt.shaped (.str b) = true := by simp [SeqAt.shaped, PyData.canLay0, PyData.depth, hb]
  simp only [toPy, h1, h2, Bool.and_self, if_true, PyData.eqv, Option.map_some, beq_dec]
theorem inD2 (w a b : Str) : inD false (.str w) (.tup [.str a, .str b]) = some (.bl (decide (w = a ∨ w = b))) := by
  unfold inD inB
  simp [flatD, eqF, beq_dec, eq_comm]
theorem tupO2 (a b : D) : tupO [a, b] = some (.tup [a, b]) := Eq.trans rfl rfl
def deed2 (many : Int) (w : Str) (x : D) : Bool :=
  if w = "serve" ∨ w = "come" then isWithin x 1 9
  else isWithin x 0 (many - 1) && decide (w = "back" ∨ w = "off")
def sideB : D → Bool
  | .str s => decide (s = "ahead" ∨ s = "behind")
  | _ => false
def deed3 (many : Int) (w : Str) (x y : D) : Bool :=
  if w = "serve" ∨ w = "come" then false
  else if isWithin x 0 (many - 1) then
    if w = "back" ∨ w = "off" then false
    else if w = "keep" then sideB y
    else if w = "pass" then isWithin y 1 3
    else decide (w = "bring" ∨ w = "swap") && isWithin y 0 (many - 1) && decide (iv x ≠ iv y)
  else false
def isDeed (many : Int) : D → Bool
  | .tup [.str w, x] => deed2 many w x
  | .tup [.str w, x, y] => deed3 many w x y
  | _ => false
theorem slc1 (d : D) (xs : List D) : slcD (.tup (d :: xs)) (some 1) none = some (.tup xs) := by
  unfold slcD cut
  simp [HT.sIx]
theorem isiD_str (w : Str) : isiD "str" (.str w) = some (.bl true) := rfl
theorem atI0 (a : D) (xs : List D) : atI (a :: xs) 0 = some a := by
  show (atI _ ((0 : Nat) : Int)) = _
  rw [atI_ix (i := 0) rfl]
theorem atI1 (a b : D) (xs : List D) : atI (a :: b :: xs) 1 = some b := by
  show (atI _ ((1 : Nat) : Int)) = _
  rw [atI_ix (i := 1) rfl]
theorem atI2 (a b c : D) (xs : List D) : atI (a :: b :: c :: xs) 2 = some c := by
  show (atI _ ((2 : Nat) : Int)) = _
  rw [atI_ix (i := 2) rfl]
theorem isI_int (i : Int) : isI (.int i) = some i := Eq.trans rfl rfl
theorem r_is_deed (n : Nat) {d : D} {many : Int} (h : okD d = true) : Phi GG fns (n + 2) K_is_deed [.int many, d] = ret (.bl (isDeed many d)) := by
  rw [e_is_deed]
  unfold m_is_deed
  rw [r_has_items n h]
  simp only [bR, isB_bl, oS]
  by_cases q : hasItems d 2 3 = true
  case neg =>
    rw [Bool.not_eq_true] at q
    rw [q]
    simp only [Bool.not_false, if_true, bR]
    congr 2
    unfold isDeed
    split
    · cases q
    · cases q
    · rfl
  rw [q]
  have hc : (∃ w x, d = .tup [w, x]) ∨ (∃ w x y, d = .tup [w, x, y]) := by
    cases d with
    | tup xs =>
      rw [hasItems_tup, Bool.and_eq_true, decide_eq_true_eq, decide_eq_true_eq] at q
      match xs, q with
      | [a, b], _ => exact .inl ⟨a, b, rfl⟩
      | [a, b, c], _ => exact .inr ⟨a, b, c, rfl⟩
      | [], h => simp at h
      | [_], h => simp at h
      | _ :: _ :: _ :: _ :: _, h => simp at h; omega
    | _ => cases q
  have hs : ∀ w : D, (∃ s, w = .str s) ∨ ((okD w = true → isiD "str" w = some (.bl false)) ∧ ∀ s, w ≠ .str s) := by
    intro w
    cases w <;> first | exact .inl ⟨_, rfl⟩ | exact .inr ⟨fun z => rfl, fun s e => nomatch e⟩ | exact .inr ⟨fun z => (by cases z), fun s e => nomatch e⟩
  have c1 : PyData.strOk "keep" = true := by decide +kernel
  have c2 : PyData.strOk "pass" = true := by decide +kernel
  rcases hc with ⟨w, x, rfl⟩ | ⟨w, x, y, rfl⟩
  · have hw : okD w = true := okDs_mem h (by simp)
    have hx : okD x = true := okDs_mem h (by simp)
    rcases hs w with ⟨w, rfl⟩ | ⟨hn, hn'⟩
    case inr =>
      simp only [rd_tup, atI0, hn hw, oS, bR, isB_bl, Bool.not_true, Bool.false_eq_true, if_false, Bool.not_false, if_true]
      congr 2
      unfold isDeed
      split
      · rename_i e
        cases e
        exact (hn' _ rfl).elim
      · rename_i e
        cases e
      · rfl
    simp only [rd_tup, atI0, isiD_str, oS, bR, isB_bl, Bool.not_true, Bool.false_eq_true, if_false, isI_int, Option.map_some, slc1, setMany_nil, setMany_cons, List.set_cons_zero, List.set_cons_succ, getV_zero, getV_succ, tupO2, inD2, lenD_tup, eqD_int, subD_int]
    show _ = ret (D.bl (deed2 many w x))
    unfold deed2
    simp only [decide_eq_true_eq]
    by_cases k1 : w = "serve" ∨ w = "come"
    · simp only [k1, if_true, List.length_cons, List.length_nil, decide_true, r_is_within n hx]
      rfl
    simp only [k1, if_false, r_is_within n hx, bR, isB_bl, oS]
    by_cases k2 : isWithin x 0 (many - 1) = true
    case neg =>
      rw [Bool.not_eq_true] at k2
      simp [k2]
    by_cases k3 : w = "back" ∨ w = "off"
    · simp [k2, k3]
    simp only [k2, k3, Bool.not_true, Bool.false_eq_true, if_false, eqD_str hw c1, eqD_str hw c2, oS, bR, isB_bl, decide_eq_true_eq, List.length_cons, List.length_nil]
    by_cases k4 : w = "keep"
    · simp [k4]
    by_cases k5 : w = "pass"
    · simp [k5]
    by_cases k6 : w = "bring" ∨ w = "swap" <;> simp [k4, k5, k6]
  · have hw : okD w = true := okDs_mem h (by simp)
    have hx : okD x = true := okDs_mem h (by simp)
    have hy : okD y = true := okDs_mem h (by simp)
    rcases hs w with ⟨w, rfl⟩ | ⟨hn, hn'⟩
    case inr =>
      simp only [rd_tup, atI0, hn hw, oS, bR, isB_bl, Bool.not_true, Bool.false_eq_true, if_false, Bool.not_false, if_true]
      congr 2
      unfold isDeed
      split
      · rename_i e
        cases e
      · rename_i e
        cases e
        exact (hn' _ rfl).elim
      · rfl
    simp only [rd_tup, atI0, isiD_str, oS, bR, isB_bl, Bool.not_true, Bool.false_eq_true, if_false, isI_int, Option.map_some, slc1, setMany_nil, setMany_cons, List.set_cons_zero, List.set_cons_succ, getV_zero, getV_succ, tupO2, inD2, lenD_tup, eqD_int, subD_int]
    show _ = ret (D.bl (deed3 many w x y))
    unfold deed3
    simp only [decide_eq_true_eq, List.length_cons, List.length_nil]
    have l1 : ¬ (((0 + 1 + 1 : Nat) : Int) = 1) := by decide
    have l2 : ((0 + 1 + 1 : Nat) : Int) = 2 := by decide
    simp only [l1, l2, Bool.false_eq_true, if_false, if_true]
    by_cases k1 : w = "serve" ∨ w = "come"
    · simp only [k1, if_true]
      rfl
    simp only [k1, if_false, r_is_within n hx, bR, isB_bl, oS]
    by_cases k2 : isWithin x 0 (many - 1) = true
    case neg =>
      rw [Bool.not_eq_true] at k2
      simp [k2]
    by_cases k3 : w = "back" ∨ w = "off"
    · simp [k2, k3]
    simp only [k2, k3, Bool.not_true, Bool.false_eq_true, if_false, if_true, eqD_str hw c1, eqD_str hw c2, oS, bR, isB_bl, decide_eq_true_eq, atI1]
    by_cases k4 : w = "keep"
    · simp only [k4, if_true]
      rcases hs y with ⟨y, rfl⟩ | ⟨hn, hn'⟩
      · simp only [isiD_str, oS, bR, isB_bl, if_true, inD2]
        rfl
      · simp only [hn hy, oS, bR, isB_bl, Bool.false_eq_true, if_false]
        cases y <;> first | rfl | exact (hn' _ rfl).elim
    by_cases k5 : w = "pass"
    · simp only [if_neg k4, if_pos k5, if_true, r_is_within n hy]
    simp only [k4, k5, if_true, if_false, r_is_within n hy, bR, isB_bl, oS]
    by_cases k6 : w = "bring" ∨ w = "swap"
    case neg => simp [k6]
    by_cases k7 : isWithin y 0 (many - 1) = true
    case neg =>
      rw [Bool.not_eq_true] at k7
      simp [k6, k7]
    obtain ⟨v1, _, _⟩ := iv_of k2
    obtain ⟨v2, _, _⟩ := iv_of k7
    have e : eqD true x y = some (.bl (!decide (iv x = iv y))) := by
      rw [v1, v2, neD_int]
      rfl
    simp [k6, k7, e, oS]
def isScript (many : Int) : D → Bool
  | .tup xs => decide (xs.length ≤ 6) && xs.all (isDeed many)
  | _ => false
theorem r_is_script_value (n : Nat) {q : D} {d : D} {many : Int} (hq : ∃ xs, q = .tup (.int many :: xs)) (h : okD d = true) : Phi GG fns (n + 3) K_is_script_value [q, d] = ret (.bl (isScript many d)) := by
  obtain ⟨qs, rfl⟩ := hq
  rw [e_is_script_value]
  unfold m_is_script_value
  simp only [r_has_items (n + 1) h, bR, isB_bl, oS]
  by_cases q : hasItems d 0 6 = true
  · rw [q]
    cases d with
    | tup xs =>
      rw [hasItems_tup] at q
      simp only [if_true, items_tup, oS, bR, rd_tup, atI0, nR]
      rw [mapO_pure (g := fun x => .bl (isDeed many x))]
      · simp only [bR, allD_map, oS]
        have : decide (xs.length ≤ 6) = true := by
          simp at q ⊢
          omega
        show _ = ret (D.bl (decide (xs.length ≤ 6) && xs.all (isDeed many)))
        rw [this, Bool.true_and]
      · intro x hx
        rw [r_is_deed n (okDs_mem h hx)]
        rfl
    | _ => cases q
  · rw [Bool.not_eq_true] at q
    rw [q]
    simp only [Bool.false_eq_true, if_false]
    congr 2
    cases d with
    | tup xs =>
      rw [hasItems_tup] at q
      have : decide (xs.length ≤ 6) = false := by
        simp at q ⊢
        omega
      show false = (decide (xs.length ≤ 6) && xs.all (isDeed many))
      rw [this, Bool.false_and]
    | _ => rfl
theorem r_need_queue (n : Nat) {d : D} (h : okD d = true) : Phi GG fns (n + 6) K_need_queue [d] = if isQueue d = true then ret .non else raiM "InvalidQueue" none := by
  rw [e_need_queue]
  unfold m_need_queue
  rw [r_is_queue_value n h]
  simp only [bR, isB_bl, oS]
  cases isQueue d <;> rfl
end PV

set_option Elab.async false
set_option linter.all false
set_option maxRecDepth 100000
set_option maxHeartbeats 4000000
/-! PvPt: texts. -/
namespace PV
open PySem PySem.Spec PyProof.Rows L2 TL
/-! ### signs -/
theorem strOk_iff {a : Str} : PyData.strOk a = true ↔ ∀ k ∈ tl a, k < 0x110000 := by
  unfold PyData.strOk
  rw [← Array.all_toList, List.all_eq_true]
  simp
theorem strOk_app {a b : Str} (ha : PyData.strOk a = true) (hb : PyData.strOk b = true) : PyData.strOk (a ++ b) = true := by
  rw [strOk_iff] at *
  intro k hk
  rw [tl_append, List.mem_append] at hk
  rcases hk with h | h
  · exact ha k h
  · exact hb k h
def digs : List Nat := [48, 49, 50, 51, 52, 53, 54, 55, 56, 57]
theorem in_digs (k : Nat) : inD false (.str ⟨#[k]⟩) (.str "0123456789") = some (.bl (decide (k ∈ digs))) := by
  have : (Str.ofString "0123456789").cps.toList = digs := by decide +kernel
  unfold inD inB
  simp only [Option.map_some, inStr, Bool.false_eq_true, if_false]
  have f := PySem.StrLaws.found_one "0123456789" k
  rw [f, this]
/-- the integers that are written in words of one or two signs -/
def isNumW (w : Str) : Bool := decide (w ≠ "") && decide (w.length < 3) && (tl w).all (fun k => decide (k ∈ digs))
def numD (w : Str) : D := if isNumW w = true then (match intText? w with | some n => if strI n = w then .int n else .non | none => .non) else .non
def nums : List Str := (digs.map fun a => ⟨#[a]⟩) ++ (digs.map fun a => digs.map fun b => (⟨#[a, b]⟩ : Str)).flatten
theorem numW_mem {w : Str} (h : isNumW w = true) : w ∈ nums := by
  unfold isNumW at h
  simp only [Bool.and_eq_true, decide_eq_true_eq, List.all_eq_true] at h
  obtain ⟨⟨h1, h2⟩, h3⟩ := h
  rw [len_tl] at h2
  have e : w = ⟨(tl w).toArray⟩ := (mk_tl w).symm
  generalize tl w = l at *
  subst e
  unfold nums
  rw [List.mem_append]
  match l, h1, h2, h3 with
  | [], h1, _, _ => exact (h1 (by decide +kernel)).elim
  | [a], _, _, h3 => exact .inl (List.mem_map.mpr ⟨a, h3 a (by simp), rfl⟩)
  | [a, b], _, _, h3 =>
    refine .inr (List.mem_flatten.mpr ⟨_, List.mem_map.mpr ⟨a, h3 a (by simp), rfl⟩, List.mem_map.mpr ⟨b, h3 b (by simp), rfl⟩⟩)
  | _ :: _ :: _ :: _, _, h2, _ => simp at h2; omega
theorem nums_ok : nums.all (fun w => match intText? w with | some n => decide (0 ≤ n ∧ n < 100) | none => false) = true := by decide +kernel
theorem num_ok {w : Str} (h : isNumW w = true) : ∃ n, intText? w = some n ∧ 0 ≤ n ∧ n < 100 := by
  have := List.all_eq_true.mp nums_ok w (numW_mem h)
  cases q : intText? w with
  | none => rw [q] at this; cases this
  | some n =>
    rw [q] at this
    simp only [decide_eq_true_eq] at this
    exact ⟨n, rfl, this⟩
def hund : List Int := (List.range 100).map fun n : Nat => (n : Int)
theorem hund_mem {n : Int} (h : 0 ≤ n) (h2 : n < 100) : n ∈ hund := by
  refine List.mem_map.mpr ⟨n.toNat, List.mem_range.mpr (by omega), by omega⟩
theorem hund_ok : hund.all (fun n => PyData.strOk (strI n) && isNumW (strI n) && decide (intText? (strI n) = some n) && decide ((strI n).length ≤ 2) && (tl (strI n)).all fun k => decide (k ∈ digs)) = true := by decide +kernel
theorem strI_ok {n : Int} (h : 0 ≤ n) (h2 : n < 100) : PyData.strOk (strI n) = true ∧ isNumW (strI n) = true ∧ intText? (strI n) = some n ∧ (strI n).length ≤ 2 ∧ ∀ k ∈ tl (strI n), k ∈ digs := by
  have := List.all_eq_true.mp hund_ok n (hund_mem h h2)
  simp only [Bool.and_eq_true, and_assoc, decide_eq_true_eq, List.all_eq_true] at this
  exact this
theorem numD_strI {n : Int} (h : 0 ≤ n) (h2 : n < 100) : numD (strI n) = .int n := by
  obtain ⟨_, a, b, _, _⟩ := strI_ok h h2
  unfold numD
  rw [if_pos a, b]
  simp
theorem numD_cases (w : Str) : numD w = .non ∨ ∃ n, numD w = .int n ∧ w = strI n ∧ 0 ≤ n ∧ n < 100 := by
  unfold numD
  split
  · rename_i h
    obtain ⟨n, e, h1, h2⟩ := num_ok h
    rw [e]
    simp only
    split
    · rename_i h
      exact .inr ⟨n, rfl, h.symm, h1, h2⟩
    · exact .inl rfl
  · exact .inl rfl
theorem log_small {n : Int} (h : 0 ≤ n) (h2 : n < 1000000) : n.natAbs.log2 < 1920 := by
  have : n.natAbs < 2 ^ 20 := by omega
  have := Nat.log2_lt (n := n.natAbs) (k := 20)
  by_cases z : n.natAbs = 0
  · rw [z]; decide
  · have := (Nat.log2_lt z).mpr (by omega : n.natAbs < 2 ^ 20)
    omega
theorem strD_int {n : Int} (h : 0 ≤ n) (h2 : n < 1000000) : strD [.int n] = some (.str (strI n)) := by
  show (if n.natAbs.log2 < 1920 then some (D.str (strI n)) else none) = _
  rw [if_pos (log_small h h2)]
theorem fmtD_int {n : Int} (h : 0 ≤ n) (h2 : n < 1000000) : fmtD (.int n) = some (.str (strI n)) := by
  show (if n.natAbs.log2 < 1920 then some (D.str (strI n)) else none) = _
  rw [if_pos (log_small h h2)]
theorem strD_str (a : Str) : strD [.str a] = some (.str a) := rfl
theorem lenD_str {a : Str} (h : a.length ≤ 1000000) : lenD [.str a] = some (.int (a.length : Nat)) := by
  show (if a.length ≤ sizeLine then some (D.int a.length) else none) = _
  rw [if_pos (Nat.le_trans h (by decide))]
theorem items_str {a : Str} (h : a.length ≤ 1000000) : itemsD (.str a) = some ((tl a).map fun k => .str ⟨#[k]⟩) := by
  show (if a.cps.size ≤ sizeLine then some (a.cps.toList.map fun k => D.str ⟨#[k]⟩) else none) = _
  rw [if_pos (show a.cps.size ≤ sizeLine from Nat.le_trans h (by decide))]
theorem strOk_nil : PyData.strOk "" = true := by decide +kernel
theorem allD_bls (xs : List D) (ys : List Bool) (h : xs = ys.map .bl) : allD [.lst xs] = some (.bl (ys.all id)) := by
  subst h
  unfold allD
  have : isBls (ys.map D.bl) = some ys := by
    induction ys with
    | nil => rfl
    | cons y ys ih =>
      show (isBls (ys.map D.bl)).map (y :: ·) = _
      rw [ih]
      rfl
  simp only [this, Option.map_some]
def sgB : D → Bool
  | .str z => (tl z).all fun k => decide (k ∈ digs)
  | _ => false
/-! ### words and lines -/
theorem spl_len (S : List Nat) : ∀ (l : List Nat) (k : Nat) (acc : List Nat), (spl S k acc l).length ≤ l.length + 1
  | [], k, acc => by rw [spl_nil]; simp
  | c :: r, 0, acc => by
    unfold spl
    split
    · have := spl_len S r (S.length - 1) []
      simp only [List.length_cons]
      omega
    · have := spl_len S r 0 (acc ++ [c])
      simp only [List.length_cons]
      omega
  | c :: r, k + 1, acc => by
    unfold spl
    have := spl_len S r k acc
    simp only [List.length_cons]
    omega
theorem spl_mem (S : List Nat) : ∀ (l : List Nat) (k : Nat) (acc p : List Nat) (c : Nat), p ∈ spl S k acc l → c ∈ p → c ∈ acc ∨ c ∈ l
  | [], k, acc, p, c, h, hc => by
    rw [spl_nil, List.mem_singleton] at h
    subst h
    exact .inl hc
  | d :: r, 0, acc, p, c, h, hc => by
    unfold spl at h
    split at h
    · rcases List.mem_cons.mp h with e | e
      · subst e
        exact .inl hc
      · rcases spl_mem S r _ _ p c e hc with z | z
        · cases z
        · exact .inr (List.mem_cons_of_mem _ z)
    · rcases spl_mem S r _ _ p c h hc with z | z
      · rcases List.mem_append.mp z with z | z
        · exact .inl z
        · rw [List.mem_singleton] at z
          subst z
          exact .inr List.mem_cons_self
      · exact .inr (List.mem_cons_of_mem _ z)
  | d :: r, k + 1, acc, p, c, h, hc => by
    unfold spl at h
    rcases spl_mem S r _ _ p c h hc with z | z
    · exact .inl z
    · exact .inr (List.mem_cons_of_mem _ z)
theorem spl_wlen (S : List Nat) : ∀ (l : List Nat) (k : Nat) (acc p : List Nat), p ∈ spl S k acc l → p.length ≤ acc.length + l.length
  | [], k, acc, p, h => by
    rw [spl_nil, List.mem_singleton] at h
    subst h
    omega
  | d :: r, 0, acc, p, h => by
    unfold spl at h
    simp only [List.length_cons]
    split at h
    · rcases List.mem_cons.mp h with e | e
      · subst e
        omega
      · have := spl_wlen S r _ _ p e
        simp only [List.length_nil] at this
        omega
    · have := spl_wlen S r _ _ p h
      rw [List.length_append] at this
      simp only [List.length_cons, List.length_nil] at this
      omega
  | d :: r, k + 1, acc, p, h => by
    unfold spl at h
    have := spl_wlen S r _ _ p h
    simp only [List.length_cons]
    omega
def sep1 (y : Str) (s : Nat) : Prop := tl y = [s] ∧ y.cps.all (· < 256) = true
theorem sep_sp : sep1 " " 32 := ⟨by decide +kernel, by decide +kernel⟩
theorem sep_nl : sep1 "\n" 10 := ⟨by decide +kernel, by decide +kernel⟩
theorem split_tl {x y : Str} {s : Nat} (h : sep1 y s) : (Txt.split x y).map tl = spl (tl y) 0 [] (tl x) := split_spl x y (by rw [h.1]; simp) (kind_ok h.2)
theorem split_len {x y : Str} {s : Nat} (h : sep1 y s) : (Txt.split x y).length ≤ x.length + 1 := by
  have := congrArg List.length (split_tl (x := x) h)
  rw [List.length_map] at this
  rw [this, len_tl]
  exact spl_len _ _ _ _
theorem split_mem {x y p : Str} {s k : Nat} (h : sep1 y s) (hp : p ∈ Txt.split x y) (hk : k ∈ tl p) : k ∈ tl x := by
  have : tl p ∈ (Txt.split x y).map tl := List.mem_map_of_mem hp
  rw [split_tl h] at this
  rcases spl_mem _ _ _ _ _ k this hk with z | z
  · cases z
  · exact z
theorem split_ok {x y p : Str} {s : Nat} (h : sep1 y s) (hx : PyData.strOk x = true) (hp : p ∈ Txt.split x y) : PyData.strOk p = true := by
  rw [strOk_iff] at *
  exact fun k hk => hx k (split_mem h hp hk)
theorem split_wlen {x y p : Str} {s : Nat} (h : sep1 y s) (hp : p ∈ Txt.split x y) : p.length ≤ x.length := by
  have : tl p ∈ (Txt.split x y).map tl := List.mem_map_of_mem hp
  rw [split_tl h] at this
  have := spl_wlen _ _ _ _ _ this
  rw [len_tl, len_tl]
  simpa using this
theorem splitD_sep {x y : Str} {s : Nat} (h : sep1 y s) (hx : x.length ≤ 1000000) : splitD x (.str y) = some ((Txt.split x y).map .str) := by
  show (if (y.length == 0) = false ∧ x.length + 2 ≤ sizeLine ∧ (Txt.split x y).length ≤ sizeLine then some ((Txt.split x y).map D.str) else none) = _
  have hl := split_len (x := x) h
  have hs : sizeLine = 16777216 := by decide
  have hy : y.length = 1 := by rw [len_tl, h.1]; rfl
  rw [if_pos ⟨by rw [hy]; rfl, by omega, by omega⟩]
theorem split_jn {y : Str} {s : Nat} (h : sep1 y s) {ps : List Str} (hne : ps ≠ []) (hp : ∀ p ∈ ps, s ∉ tl p) : Txt.split (Txt.join y ps) y = ps := split_join h.1 h.2 hne hp
theorem split_ne {x y : Str} {s : Nat} (h : sep1 y s) : Txt.split x y ≠ [] := by
  intro e
  have := split_tl (x := x) h
  rw [e] at this
  have h2 : ∀ (S : List Nat) (l : List Nat) (k : Nat) (acc : List Nat), spl S k acc l ≠ [] := by
    intro S l
    induction l with
    | nil => intro k acc; rw [spl_nil]; simp
    | cons c r ih =>
      intro k acc
      cases k with
      | zero =>
        unfold spl
        split
        · simp
        · exact ih _ _
      | succ k => unfold spl; exact ih _ _
  exact h2 _ _ _ _ this.symm
/-! ### equal texts -/
theorem toPys_strs : ∀ xs : List Str, toPys (xs.map D.str) = some (xs.map PyData.str)
  | [] => rfl
  | x :: xs => by
    show (match toPy (D.str x), toPys (xs.map D.str) with | some d, some ds => some (d :: ds) | _, _ => none) = _
    rw [toPys_strs xs]
    rfl
theorem lay_strs : ∀ {xs : List Str}, (∀ x ∈ xs, PyData.strOk x = true) → PyData.canLayAll0 (xs.map PyData.str) = true
  | [], _ => rfl
  | x :: xs, h => by
    show PyData.canLayAll0 (.str x :: xs.map PyData.str) = true
    rw [PyData.canLayAll0, PyData.canLay0, h x List.mem_cons_self, lay_strs fun y hy => h y (List.mem_cons_of_mem _ hy)]
    rfl
theorem dep_strs : ∀ xs : List Str, PyData.depthAll (xs.map PyData.str) = 0
  | [] => rfl
  | x :: xs => by
    show PyData.depthAll (.str x :: xs.map PyData.str) = 0
    rw [PyData.depthAll, PyData.depth, dep_strs xs]
    rfl
theorem eqv_strs : ∀ xs ys : List Str, PyData.eqvAll (xs.map PyData.str) (ys.map PyData.str) = decide (xs = ys)
  | [], [] => rfl
  | [], _ :: _ => rfl
  | _ :: _, [] => rfl
  | x :: xs, y :: ys => by
    show PyData.eqvAll (.str x :: xs.map PyData.str) (.str y :: ys.map PyData.str) = _
    rw [PyData.eqvAll, PyData.eqv, eqv_strs xs ys, beq_dec]
    by_cases a : x = y <;> by_cases b : xs = ys <;> simp [a, b]
theorem eqD_strs {xs ys : List Str} (hx : ∀ x ∈ xs, PyData.strOk x = true) (hy : ∀ x ∈ ys, PyData.strOk x = true) (n : Bool) :
    eqD n (.lst (xs.map .str)) (.lst (ys.map .str)) = some (.bl (if n then !(decide (xs = ys)) else decide (xs = ys))) := by
  unfold eqD deq
  have sh : ∀ xs : List Str, (∀ x ∈ xs, PyData.strOk x = true) → SeqAt.shaped (.list (xs.map PyData.str)) = true := fun xs h => by
    unfold SeqAt.shaped
    rw [PyData.canLay0, lay_strs h, PyData.depth, dep_strs]
    rfl
  simp only [toPy, toPys_strs, Option.map_some, sh xs hx, sh ys hy, Bool.and_self, if_true, PyData.eqv, eqv_strs]
end PV

set_option Elab.async false
set_option linter.all false
set_option maxRecDepth 100000
set_option maxHeartbeats 4000000
/-! PvPu: parts of texts. -/
namespace PV
open PySem PySem.Spec PyProof.Rows L2 TL
/-- a good text, not long -/
def tx (a : Str) : Prop := PyData.strOk a = true ∧ a.length ≤ 1000000
def hiW (w : Str) : D := if w = "any" then .non else numD w
def fact5 (a b lo hi : Str) : D := .tup [numD a, numD b, numD lo, hiW hi]
/-- what the words of a fact write -/
def factP : List Str → D
  | [_, a, b, f, lo, t, hi] => if (f = "from" ∧ t = "to") ∧ (hi = "any" ∨ isNon (numD hi) = false) ∧ isFact 4 (fact5 a b lo hi) = true then fact5 a b lo hi else .non
  | _ => .non
theorem ok_any : PyData.strOk "any" = true := by decide +kernel
theorem ok_from : PyData.strOk "from" = true := by decide +kernel
theorem ok_to : PyData.strOk "to" = true := by decide +kernel
theorem okD_num (w : Str) : okD (numD w) = true := by
  rcases numD_cases w with e | ⟨n, e, _⟩ <;> rw [e] <;> rfl
theorem rd_lst' (xs : List D) (i : Int) : (rd fun S => idxD S (.lst xs) (.int i)) = opt (atI xs i) := rd_lst xs i
theorem tupO3 (a b c : D) : tupO [a, b, c] = some (.tup [a, b, c]) := Eq.trans rfl rfl
theorem tupO1 (a : D) : tupO [a] = some (.tup [a]) := Eq.trans rfl rfl
theorem atI3 (a b c d : D) (xs : List D) : atI (a :: b :: c :: d :: xs) 3 = some d := by
  show (atI _ ((3 : Nat) : Int)) = _
  rw [atI_ix (i := 3) rfl]
theorem atI4 (a b c d e : D) (xs : List D) : atI (a :: b :: c :: d :: e :: xs) 4 = some e := by
  show (atI _ ((4 : Nat) : Int)) = _
  rw [atI_ix (i := 4) rfl]
theorem atI5 (a b c d e f : D) (xs : List D) : atI (a :: b :: c :: d :: e :: f :: xs) 5 = some f := by
  show (atI _ ((5 : Nat) : Int)) = _
  rw [atI_ix (i := 5) rfl]
theorem atI6 (a b c d e f g : D) (xs : List D) : atI (a :: b :: c :: d :: e :: f :: g :: xs) 6 = some g := by
  show (atI _ ((6 : Nat) : Int)) = _
  rw [atI_ix (i := 6) rfl]
theorem inNon (xs : List D) (h : ∀ x ∈ xs, flatD x = true) : inD false .non (.lst xs) = some (.bl (xs.any isNon)) := by
  unfold inD inB
  have : xs.all flatD = true := List.all_eq_true.mpr h
  simp only [this, flatD, Bool.and_self, if_true, Option.map_some]
  congr 2
  have e : (fun y => eqF y .non) = isNon := by
    funext y
    cases y <;> rfl
  rw [e]
  simp
theorem flat_num (w : Str) : flatD (numD w) = true := by
  rcases numD_cases w with e | ⟨n, e, _⟩ <;> rw [e] <;> rfl
theorem isFact_num {k : Int} {a b lo hi : Str} (h : isFact k (fact5 a b lo hi) = true) : numD a ≠ .non ∧ numD b ≠ .non ∧ numD lo ≠ .non := by
  have h : (isWithin (numD a) 0 k && (isWithin (numD b) 0 (k + 1) && (decide (iv (numD a) < iv (numD b)) && (isWithin (numD lo) 0 60 && (isNon (hiW hi) || isWithin (hiW hi) (iv (numD lo)) 60))))) = true := h
  simp only [Bool.and_eq_true] at h
  obtain ⟨h1, h2, _, h3, _⟩ := h
  refine ⟨fun e => ?_, fun e => ?_, fun e => ?_⟩
  · rw [e] at h1; cases h1
  · rw [e] at h2; cases h2
  · rw [e] at h3; cases h3
theorem isNon_iff {d : D} : isNon d = true ↔ d = .non := by cases d <;> simp [isNon]
/-! ### lines -/
def two34 (x : Str) : Bool := decide (x = "2" ∨ x = "3" ∨ x = "4")
def one34 : List Str → Bool
  | [x] => two34 x
  | _ => false
def rowD (rest : List Str) : D := .tup (rest.map numD)
/-- what the words of a line of a queue write -/
def qPart : List Str → D
  | [] => .non
  | w :: rest =>
    if w = "people" ∧ one34 rest = true then .tup [.str "people", numD (rest.headD "")]
    else if w = "row" then (if isRow 4 (rowD rest) = true then .tup [.str "row", rowD rest] else .non)
    else if w = "gap" then (if isNon (factP (w :: rest)) = true then .non else .tup [.str "gap", factP (w :: rest)])
    else .non
theorem one34_iff {l : List Str} : one34 l = true ↔ ∃ x, l = [x] ∧ two34 x = true := by
  match l with
  | [] => exact ⟨fun h => (by cases h), fun ⟨x, h, _⟩ => (by cases h)⟩
  | [x] => exact ⟨fun h => ⟨x, rfl, h⟩, fun ⟨y, h, k⟩ => (by cases h; exact k)⟩
  | _ :: _ :: _ => exact ⟨fun h => (by cases h), fun ⟨x, h, _⟩ => (by cases h)⟩
theorem len1_of {α : Type} {l : List α} (h : l.length = 1) : ∃ x, l = [x] := by
  match l with
  | [x] => exact ⟨x, rfl⟩
  | [] => cases h
  | _ :: _ :: _ => simp at h
theorem ok_people : PyData.strOk "people" = true := by decide +kernel
theorem ok_row : PyData.strOk "row" = true := by decide +kernel
theorem ok_gap : PyData.strOk "gap" = true := by decide +kernel
theorem inD3 (w a b c : Str) : inD false (.str w) (.tup [.str a, .str b, .str c]) = some (.bl (decide (w = a ∨ w = b ∨ w = c))) := by
  unfold inD inB
  simp [flatD, eqF, beq_dec, eq_comm]
theorem lsl1 (d : D) (xs : List D) : lslD (.lst (d :: xs)) (some 1) none = some xs := by
  unfold lslD cut
  simp [HT.sIx]
theorem lsl01 (d : D) (xs : List D) : lslD (.lst (d :: xs)) none (some 1) = some [d] := by
  unfold lslD cut
  simp only [HT.sIx]
  simp
theorem two34_ok {x : Str} (h : two34 x = true) : intD [.str x] = some (numD x) ∧ x.length = 1 := by
  unfold two34 at h
  rw [decide_eq_true_eq] at h
  have e1 : strI 2 = "2" := by decide +kernel
  have e2 : strI 3 = "3" := by decide +kernel
  have e3 : strI 4 = "4" := by decide +kernel
  have k : ∀ n : Int, 0 ≤ n → n < 10 → (strI n).length = 1 → intD [.str (strI n)] = some (numD (strI n)) ∧ (strI n).length = 1 := fun n h1 h2 l => by
    obtain ⟨_, _, a, b, _⟩ := strI_ok h1 (by omega : n < 100)
    refine ⟨?_, l⟩
    rw [numD_strI h1 (by omega)]
    show (if (strI n).length ≤ 640 then (PySem.intText? (strI n)).map D.int else none) = _
    rw [if_pos (by omega), a]
    rfl
  rcases h with rfl | rfl | rfl
  · rw [← e1]; exact k 2 (by decide) (by decide) (by decide +kernel)
  · rw [← e2]; exact k 3 (by decide) (by decide) (by decide +kernel)
  · rw [← e3]; exact k 4 (by decide) (by decide) (by decide +kernel)
theorem okD_row (rest : List Str) : okD (rowD rest) = true := okDs_of fun x hx => by
  obtain ⟨w, _, rfl⟩ := List.mem_map.mp hx
  exact okD_num w
def wordD (x : Str) : D := if isNon (numD x) = true then .str x else numD x
def deedD (w : Str) (rest : List Str) : D := .tup (.str w :: rest.map wordD)
/-- what the words of a line of a script write -/
def dPart : List Str → D
  | [] => .non
  | w :: rest => if isDeed 4 (deedD w rest) = true then deedD w rest else .non
theorem zip_map (f g : Str → D) : ∀ l : List Str, zipL (l.map f) (l.map g) = l.map fun x => .tup [f x, g x]
  | [] => rfl
  | x :: l => by
    show D.tup [f x, g x] :: zipL (l.map f) (l.map g) = _
    rw [zip_map f g l]
    rfl
theorem okD_word {x : Str} (h : PyData.strOk x = true) : okD (wordD x) = true := by
  unfold wordD
  split
  · exact h
  · exact okD_num x
theorem words_tx {t y : Str} {s : Nat} (hy : sep1 y s) (h : tx t) : ∀ w ∈ Txt.split t y, tx w := fun w hw => ⟨split_ok hy h.1 hw, Nat.le_trans (split_wlen hy hw) h.2⟩
theorem catD_lst {xs ys : List D} (h : xs.length + ys.length ≤ 10000000) : catD (.lst xs) (.lst ys) = some (xs ++ ys) := by
  show (if xs.length + ys.length ≤ sizeLine then some (xs ++ ys) else none) = _
  rw [if_pos (Nat.le_trans h (by decide))]
theorem izip_lst (xs ys : List D) : izipD (.lst xs) (.lst ys) = some (zipL xs ys) := Eq.trans rfl rfl
theorem ienum_lst (xs : List D) : ienumD (.lst xs) = some (enumL 0 xs) := Eq.trans rfl rfl
theorem fnV_val {N k : Nat} {ρ : Ev} {i : Nat} (h : getV ρ i = some (.fn k)) (hk : k < N) : fnV N ρ i = some k := by
  unfold fnV
  rw [h]
  simp only
  rw [if_pos hk]
theorem lstO_nil : lstO [] = some [] := Eq.trans rfl rfl
theorem lstO_one (d : D) : lstO [d] = some [d] := Eq.trans rfl rfl
theorem lstO_two (d e : D) : lstO [d, e] = some [d, e] := Eq.trans rfl rfl
theorem appO_ok {xs : List D} (d : D) (h : xs.length ≤ 10000000) : appO xs d = some (xs ++ [d]) := by
  unfold appO
  rw [if_pos (Nat.lt_of_le_of_lt h (by decide))]
end PV

set_option Elab.async false
set_option linter.all false
set_option maxRecDepth 100000
set_option maxHeartbeats 4000000
/-! PvPv: queues as texts. -/
namespace PV
open PySem PySem.Spec PyProof.Rows L2 TL
theorem length_app (a b : Str) : (a ++ b).length = a.length + b.length := by
  rw [len_tl, tl_append, List.length_append, ← len_tl, ← len_tl]
theorem jsM_run {ρ : Ev} : ∀ {fs : List (Ev → Mm D)} {ys : List Str} {acc : Str}, fs.map (fun f => f ρ) = ys.map (fun y => ret (.str y)) → acc.length + (ys.map Str.length).sum ≤ 1000000 → jsM fs acc ρ = ret (ys.foldl (· ++ ·) acc)
  | [], [], acc, _, _ => rfl
  | [], y :: ys, acc, h, _ => by cases h
  | f :: fs, [], acc, h, _ => by cases h
  | f :: fs, y :: ys, acc, h, l => by
    rw [List.map_cons, List.map_cons, List.cons.injEq] at h
    rw [List.map_cons, List.sum_cons] at l
    unfold jsM
    rw [h.1, bR]
    have : (acc ++ y).length ≤ 1000000 := by rw [length_app]; omega
    show bnd (opt (isS (.str y))) _ = _
    rw [show isS (.str y) = some y from rfl, oS, bR, if_pos (Nat.le_trans this (by decide)), jsM_run h.2 (by rw [length_app]; omega)]
    rfl
/-- a small integer -/
def sm (i : Int) : Prop := 0 ≤ i ∧ i < 100
def hiT : Option Int → Str
  | none => "any"
  | some k => strI k
def factW (f : Fact) : List Str := ["gap", strI (f.a : Nat), strI (f.b : Nat), "from", strI f.lo, "to", hiT f.hi]
def factT (f : Fact) : Str := Txt.join " " (factW f)
structure FactS (f : Fact) : Prop where
  a : sm (f.a : Nat)
  b : sm (f.b : Nat)
  lo : sm f.lo
  hi : ∀ k, f.hi = some k → sm k
theorem sm_len {i : Int} (h : sm i) : (strI i).length ≤ 2 := (strI_ok h.1 h.2).2.2.2.1
theorem hi_len {f : Fact} (h : FactS f) : (hiT f.hi).length ≤ 3 := by
  cases q : f.hi with
  | none => show (Str.ofString "any").length ≤ 3; decide +kernel
  | some k => have := sm_len (h.hi k q); show (strI k).length ≤ 3; omega
theorem fold_tl : ∀ (ys : List Str) (acc : Str), tl (ys.foldl (· ++ ·) acc) = tl acc ++ (ys.map tl).flatten
  | [], acc => by simp
  | y :: ys, acc => by
    rw [List.foldl_cons, fold_tl ys, tl_append, List.map_cons, List.flatten_cons, List.append_assoc]
theorem tl_jn (y : Str) (ps : List Str) : tl (Txt.join y ps) = joinL (tl y) (ps.map tl) := by rw [join_eq, tl_join]
theorem tl_sp : tl " " = [32] := sep_sp.1
theorem tl_nl : tl "\n" = [10] := sep_nl.1
theorem tl_e : tl Str.empty = [] := rfl
theorem factT_eq (f : Fact) : (["gap ", strI (f.a : Nat), " ", strI (f.b : Nat), " from ", strI f.lo, " to ", hiT f.hi] : List Str).foldl (· ++ ·) Str.empty = factT f := by
  refine ext_tl ?_
  rw [fold_tl]
  unfold factT
  rw [tl_jn]
  have e1 : tl "gap " = tl "gap" ++ [32] := by decide +kernel
  have e2 : tl " from " = [32] ++ tl "from" ++ [32] := by decide +kernel
  have e3 : tl " to " = [32] ++ tl "to" ++ [32] := by decide +kernel
  simp only [factW, List.map_cons, List.map_nil, joinL, List.flatten_cons, List.flatten_nil, e1, e2, e3, tl_sp, tl_e, List.append_assoc, List.nil_append, List.append_nil]
/-! ### queues -/
structure Qu where
  m : Int
  row : List Int
  fs : List Fact
def qD (q : Qu) : D := .tup [.int q.m, .tup (q.row.map .int), .tup (q.fs.map fD)]
structure QOk (q : Qu) : Prop where
  good : isQueue (qD q) = true
  m2 : 2 ≤ q.m
  m4 : q.m ≤ 4
  l1 : 1 ≤ q.row.length
  lm : (q.row.length : Int) ≤ q.m
  rows : ∀ x ∈ q.row, 0 ≤ x ∧ x < q.m
  fl : q.fs.length ≤ 4
  facts : ∀ f ∈ q.fs, isFact q.row.length (fD f) = true
  row4 : isRow q.m (.tup (q.row.map .int)) = true
theorem isQueue_qD (q : Qu) : isQueue (qD q) = (isWithin (.int q.m) 2 4 && isRow q.m (.tup (q.row.map .int)) && decide ((q.fs.map fD).length ≤ 4) && (q.fs.map fD).all (isFact (q.row.map D.int).length) && (beginM (q.row.map D.int).length ((q.fs.map fD).map toFact)).isSome) := rfl
theorem toFacts (fs : List Fact) : (fs.map fD).map toFact = fs := by
  rw [List.map_map]
  conv => rhs; rw [← List.map_id fs]
  exact List.map_congr_left fun f _ => toFact_fD f
theorem QOk.of {q : Qu} (h : isQueue (qD q) = true) : QOk q := by
  have h0 := h
  rw [isQueue_qD] at h
  simp only [Bool.and_eq_true, decide_eq_true_eq, List.all_eq_true, List.length_map] at h
  obtain ⟨⟨⟨⟨h1, h2⟩, h3⟩, h4⟩, h5⟩ := h
  obtain ⟨l1, l2, l3⟩ := row_len h2
  have h1 : (decide (2 ≤ q.m) && decide (q.m ≤ 4)) = true := h1
  rw [Bool.and_eq_true, decide_eq_true_eq, decide_eq_true_eq] at h1
  rw [List.length_map] at l1 l2
  refine ⟨h0, h1.1, h1.2, l1, l2, fun x hx => ?_, h3, fun f hf => h4 _ (List.mem_map_of_mem hf), h2⟩
  obtain ⟨_, a, b⟩ := iv_of (l3 _ (List.mem_map_of_mem hx))
  have a : 0 ≤ x := a
  have b : x ≤ q.m - 1 := b
  omega
theorem fD_ok (f : Fact) : okD (fD f) = true := by
  obtain ⟨a, b, lo, hi⟩ := f
  cases hi <;> rfl
theorem qD_ok (q : Qu) : okD (qD q) = true := by
  refine okDs_of fun x hx => ?_
  simp only [List.mem_cons, List.not_mem_nil, or_false] at hx
  rcases hx with rfl | rfl | rfl
  · rfl
  · exact okDs_of fun x hx => by
      obtain ⟨i, _, rfl⟩ := List.mem_map.mp hx
      rfl
  · exact okDs_of fun x hx => by
      obtain ⟨i, _, rfl⟩ := List.mem_map.mp hx
      exact fD_ok i
theorem fact_sm {k : Nat} (hk : k ≤ 4) {f : Fact} (h : isFact k (fD f) = true) : FactS f := by
  obtain ⟨g, e, h1, h2, h3, h4, h5, h6⟩ := fact_of h
  have e : f = g := by rw [← toFact_fD f, e, toFact_fD]
  subst e
  exact ⟨⟨by omega, by omega⟩, ⟨by omega, by omega⟩, ⟨by omega, by omega⟩, fun k q => by have := h6 k q; exact ⟨by omega, by omega⟩⟩
theorem QOk.fact {q : Qu} (h : QOk q) {f : Fact} (hf : f ∈ q.fs) : FactS f := fact_sm (by have := h.lm; have := h.m4; omega) (h.facts f hf)
theorem QOk.smr {q : Qu} (h : QOk q) {x : Int} (hx : x ∈ q.row) : sm x := by
  obtain ⟨a, b⟩ := h.rows x hx
  have := h.m4
  exact ⟨a, by omega⟩
theorem QOk.smm {q : Qu} (h : QOk q) : sm q.m := by
  have := h.m4; have := h.m2
  exact ⟨by omega, by omega⟩
/-! ### the lines of a queue -/
def rowW (row : List Int) : List Str := "row" :: row.map strI
def qLines (q : Qu) : List Str := Txt.join " " ["people", strI q.m] :: Txt.join " " (rowW q.row) :: q.fs.map factT
def qText (q : Qu) : Str := Txt.join "\n" (qLines q)
theorem isStrs_map : ∀ ys : List Str, isStrs (ys.map D.str) = some ys
  | [] => rfl
  | y :: ys => by
    show (isStrs (ys.map D.str)).map (y :: ·) = _
    rw [isStrs_map ys]
    rfl
theorem joinD_strs {a : Str} {ys : List Str} (h : (ys.map Str.length).sum + ys.length * a.length ≤ 1000000) : joinD a (.lst (ys.map .str)) = some (.str (Txt.join a ys)) := by
  unfold joinD
  simp only [isStrs_map]
  rw [if_pos (Nat.le_trans h (by decide))]
theorem joinL_len (S : List Nat) : ∀ ps : List (List Nat), (joinL S ps).length ≤ (ps.map List.length).sum + ps.length * S.length
  | [] => by simp [joinL]
  | [p] => by simp [joinL]
  | p :: q :: r => by
    have := joinL_len S (q :: r)
    simp only [joinL, List.length_append, List.map_cons, List.sum_cons, List.length_cons, Nat.add_mul, Nat.one_mul] at this ⊢
    omega
theorem jn_len (y : Str) (ps : List Str) : (Txt.join y ps).length ≤ (ps.map Str.length).sum + ps.length * y.length := by
  have := joinL_len (tl y) (ps.map tl)
  rw [← tl_jn, ← len_tl, List.map_map, List.length_map, ← len_tl] at this
  have e : ps.map (List.length ∘ tl) = ps.map Str.length := List.map_congr_left fun p _ => (len_tl p).symm
  rw [e] at this
  exact this
theorem sum_le {k : Nat} : ∀ {ps : List Str}, (∀ p ∈ ps, p.length ≤ k) → (ps.map Str.length).sum ≤ ps.length * k
  | [], _ => by simp
  | p :: ps, h => by
    have := sum_le (k := k) (ps := ps) fun q hq => h q (List.mem_cons_of_mem _ hq)
    have h1 := h p List.mem_cons_self
    rw [List.map_cons, List.sum_cons, List.length_cons, Nat.add_mul, Nat.one_mul]
    omega
theorem jn_le {y : Str} {s : Nat} (hy : sep1 y s) {k : Nat} {ps : List Str} (h : ∀ p ∈ ps, p.length ≤ k) : (Txt.join y ps).length ≤ ps.length * (k + 1) := by
  have h1 := jn_len y ps
  have h2 := sum_le h
  have : y.length = 1 := by rw [len_tl, hy.1]; rfl
  rw [this, Nat.mul_one] at h1
  rw [Nat.mul_add, Nat.mul_one]
  omega
theorem joinD_le {y : Str} {s : Nat} (hy : sep1 y s) {k : Nat} {ps : List Str} (h : ∀ p ∈ ps, p.length ≤ k) (hl : ps.length * (k + 1) ≤ 1000000) : joinD y (.lst (ps.map .str)) = some (.str (Txt.join y ps)) := by
  refine joinD_strs ?_
  have h2 := sum_le h
  have : y.length = 1 := by rw [len_tl, hy.1]; rfl
  rw [this, Nat.mul_one]
  rw [Nat.mul_add, Nat.mul_one] at hl
  omega
theorem catD_strs {xs ys : List Str} (h : xs.length + ys.length ≤ 10000000) : catD (.lst (xs.map .str)) (.lst (ys.map .str)) = some ((xs ++ ys).map .str) := by
  rw [catD_lst (by simpa using h), List.map_append]
theorem factW_len {f : Fact} (h : FactS f) : ∀ w ∈ factW f, w.length ≤ 6 := by
  intro w hw
  simp only [factW, List.mem_cons, List.not_mem_nil, or_false] at hw
  have a1 := sm_len h.a; have a2 := sm_len h.b; have a3 := sm_len h.lo; have a4 := hi_len h
  rcases hw with rfl | rfl | rfl | rfl | rfl | rfl | rfl
  · decide +kernel
  · omega
  · omega
  · decide +kernel
  · omega
  · decide +kernel
  · omega
theorem factT_len {f : Fact} (h : FactS f) : (factT f).length ≤ 100 := by
  have := jn_le sep_sp (factW_len h)
  have e : (factW f).length = 7 := rfl
  rw [e] at this
  unfold factT
  omega
theorem rowW_len {q : Qu} (h : QOk q) : ∀ w ∈ rowW q.row, w.length ≤ 6 := by
  intro w hw
  rcases List.mem_cons.mp hw with rfl | hw
  · decide +kernel
  · obtain ⟨i, hi, rfl⟩ := List.mem_map.mp hw
    have := sm_len (h.smr hi)
    omega
theorem qLines_len {q : Qu} (h : QOk q) : ∀ l ∈ qLines q, l.length ≤ 100 := by
  intro l hl
  have h1 := h.lm; have h2 := h.m4
  rcases List.mem_cons.mp hl with rfl | hl
  · have := jn_le (k := 6) sep_sp (ps := ["people", strI q.m]) fun w hw => by
      simp only [List.mem_cons, List.not_mem_nil, or_false] at hw
      rcases hw with rfl | rfl
      · decide +kernel
      · have := sm_len h.smm
        omega
    simp only [List.length_cons, List.length_nil] at this
    omega
  rcases List.mem_cons.mp hl with rfl | hl
  · have := jn_le sep_sp (rowW_len h)
    simp only [rowW, List.length_cons, List.length_map] at this
    rw [rowW]
    omega
  · obtain ⟨f, hf, rfl⟩ := List.mem_map.mp hl
    exact factT_len (h.fact hf)
theorem qLines_num {q : Qu} (h : QOk q) : (qLines q).length ≤ 6 := by
  have := h.fl
  simp only [qLines, List.length_cons, List.length_map]
  omega
theorem qText_len {q : Qu} (h : QOk q) : (qText q).length ≤ 1000 := by
  have h1 := jn_le sep_nl (qLines_len h)
  have h2 := qLines_num h
  unfold qText
  omega
/-! ### good words -/
def wd (w : Str) : Prop := ∀ k ∈ tl w, 33 ≤ k ∧ k < 128
def wdB (w : Str) : Bool := (tl w).all fun k => decide (33 ≤ k ∧ k < 128)
theorem wd_of {w : Str} (h : wdB w = true) : wd w := fun k hk => by
  have := List.all_eq_true.mp h k hk
  simpa using this
theorem digs_wd {k : Nat} (h : k ∈ digs) : 33 ≤ k ∧ k < 128 := by
  simp only [digs, List.mem_cons, List.not_mem_nil, or_false] at h
  omega
theorem wd_sm {i : Int} (h : sm i) : wd (strI i) := fun k hk => digs_wd ((strI_ok h.1 h.2).2.2.2.2 k hk)
theorem wd_hi {f : Fact} (h : FactS f) : wd (hiT f.hi) := by
  cases q : f.hi with
  | none => exact wd_of (by decide +kernel)
  | some k => exact wd_sm (h.hi k q)
theorem wd_tx {w : Str} (h : wd w) (hl : w.length ≤ 1000000) : tx w := ⟨strOk_iff.mpr fun k hk => by have := h k hk; omega, hl⟩
theorem wd_people : wd "people" := wd_of (by decide +kernel)
theorem wd_row : wd "row" := wd_of (by decide +kernel)
theorem factW_wd {f : Fact} (h : FactS f) : ∀ w ∈ factW f, wd w := by
  intro w hw
  simp only [factW, List.mem_cons, List.not_mem_nil, or_false] at hw
  rcases hw with rfl | rfl | rfl | rfl | rfl | rfl | rfl
  · exact wd_of (by decide +kernel)
  · exact wd_sm h.a
  · exact wd_sm h.b
  · exact wd_of (by decide +kernel)
  · exact wd_sm h.lo
  · exact wd_of (by decide +kernel)
  · exact wd_hi h
theorem rowW_wd {q : Qu} (h : QOk q) : ∀ w ∈ rowW q.row, wd w := by
  intro w hw
  rcases List.mem_cons.mp hw with rfl | hw
  · exact wd_row
  · obtain ⟨i, hi, rfl⟩ := List.mem_map.mp hw
    exact wd_sm (h.smr hi)
theorem joinL_mem {S : List Nat} {k : Nat} : ∀ {ps : List (List Nat)}, k ∈ joinL S ps → k ∈ S ∨ ∃ p ∈ ps, k ∈ p
  | [], h => by cases h
  | [p], h => .inr ⟨p, by simp, h⟩
  | p :: q :: r, h => by
    have h : k ∈ p ++ (S ++ joinL S (q :: r)) := h
    rw [List.mem_append, List.mem_append] at h
    rcases h with h | h | h
    · exact .inr ⟨p, by simp, h⟩
    · exact .inl h
    · rcases joinL_mem h with h | ⟨z, hz, hk⟩
      · exact .inl h
      · exact .inr ⟨z, List.mem_cons_of_mem _ hz, hk⟩
/-- a line of good words -/
def ln (t : Str) : Prop := ∀ k ∈ tl t, 32 ≤ k ∧ k < 128
theorem ln_jn {ws : List Str} (h : ∀ w ∈ ws, wd w) : ln (Txt.join " " ws) := by
  intro k hk
  rw [tl_jn, tl_sp] at hk
  rcases joinL_mem hk with h1 | ⟨p, hp, h1⟩
  · rw [List.mem_singleton] at h1
    omega
  · obtain ⟨w, hw, rfl⟩ := List.mem_map.mp hp
    have := h w hw k h1
    omega
theorem split_words {ws : List Str} (hne : ws ≠ []) (h : ∀ w ∈ ws, wd w) : Txt.split (Txt.join " " ws) " " = ws := split_jn sep_sp hne fun w hw hk => by
  have := h w hw 32 hk
  omega
theorem split_lines {ls : List Str} (hne : ls ≠ []) (h : ∀ l ∈ ls, ln l) : Txt.split (Txt.join "\n" ls) "\n" = ls := split_jn sep_nl hne fun w hw hk => by
  have := h w hw 10 hk
  omega
theorem ln_tx {t : Str} (h : ln t) (hl : t.length ≤ 1000000) : tx t := ⟨strOk_iff.mpr fun k hk => by have := h k hk; omega, hl⟩
theorem qLines_ln {q : Qu} (h : QOk q) : ∀ l ∈ qLines q, ln l := by
  intro l hl
  rcases List.mem_cons.mp hl with rfl | hl
  · refine ln_jn fun w hw => ?_
    simp only [List.mem_cons, List.not_mem_nil, or_false] at hw
    rcases hw with rfl | rfl
    · exact wd_people
    · exact wd_sm h.smm
  rcases List.mem_cons.mp hl with rfl | hl
  · exact ln_jn (rowW_wd h)
  · obtain ⟨f, hf, rfl⟩ := List.mem_map.mp hl
    exact ln_jn (factW_wd (h.fact hf))
theorem qText_tx {q : Qu} (h : QOk q) : tx (qText q) := by
  refine ⟨strOk_iff.mpr fun k hk => ?_, by have := qText_len h; omega⟩
  unfold qText at hk
  rw [tl_jn, tl_nl] at hk
  rcases joinL_mem hk with h1 | ⟨p, hp, h1⟩
  · rw [List.mem_singleton] at h1
    omega
  · obtain ⟨w, hw, rfl⟩ := List.mem_map.mp hp
    have := qLines_ln h w hw k h1
    omega
/-! ### what the lines write -/
theorem two34_m {i : Int} (h1 : 2 ≤ i) (h2 : i ≤ 4) : two34 (strI i) = true := by
  have : i = 2 ∨ i = 3 ∨ i = 4 := by omega
  rcases this with rfl | rfl | rfl <;> decide +kernel
theorem isWithin_mono {d : D} {lo hi hi' : Int} (h : isWithin d lo hi = true) (l : hi ≤ hi') : isWithin d lo hi' = true := by
  cases d with
  | int i =>
    have h : (decide (lo ≤ i) && decide (i ≤ hi)) = true := h
    show (decide (lo ≤ i) && decide (i ≤ hi')) = true
    rw [Bool.and_eq_true, decide_eq_true_eq, decide_eq_true_eq] at *
    omega
  | _ => cases h
theorem isFact_mono {m k : Int} {d : D} (h : isFact m d = true) (l : m ≤ k) : isFact k d = true := by
  unfold isFact at *
  split at h
  · simp only [Bool.and_eq_true] at *
    exact ⟨isWithin_mono h.1 l, isWithin_mono h.2.1 (by omega), h.2.2⟩
  · cases h
theorem isRow_mono {m k : Int} {xs : List D} (h : isRow m (.tup xs) = true) (l : m ≤ k) : isRow k (.tup xs) = true := by
  rw [isRow_tup] at *
  simp only [Bool.and_eq_true, decide_eq_true_eq, List.all_eq_true] at *
  exact ⟨⟨⟨h.1.1.1, by omega⟩, fun x hx => isWithin_mono (h.1.2 x hx) (by omega)⟩, h.2⟩
theorem qPart_people {q : Qu} (h : QOk q) : qPart ["people", strI q.m] = .tup [.str "people", .int q.m] := by
  have := two34_m h.m2 h.m4
  have e : one34 [strI q.m] = true := this
  unfold qPart
  dsimp only
  rw [if_pos ⟨rfl, e⟩]
  have := h.smm
  unfold sm at this
  rw [List.headD_cons, numD_strI this.1 this.2]
theorem rowD_row {q : Qu} (h : QOk q) : rowD (q.row.map strI) = .tup (q.row.map .int) := by
  unfold rowD
  rw [List.map_map]
  congr 1
  exact List.map_congr_left fun i hi => by
    have := h.smr hi
    unfold sm at this
    exact numD_strI this.1 this.2
theorem ne_rp : ¬ (Str.ofString "row" = Str.ofString "people") := by decide +kernel
theorem ne_gp : ¬ (Str.ofString "gap" = Str.ofString "people") := by decide +kernel
theorem ne_gr : ¬ (Str.ofString "gap" = Str.ofString "row") := by decide +kernel
theorem qPart_row {q : Qu} (h : QOk q) : qPart (rowW q.row) = .tup [.str "row", .tup (q.row.map .int)] := by
  unfold rowW qPart
  dsimp only
  rw [if_neg fun z => ne_rp z.1, if_pos rfl, rowD_row h, if_pos (isRow_mono h.row4 h.m4)]
theorem hiW_hiT {f : Fact} (h : FactS f) : hiW (hiT f.hi) = oD f.hi ∧ (hiT f.hi = "any" ∨ isNon (numD (hiT f.hi)) = false) := by
  cases q : f.hi with
  | none => exact ⟨by unfold hiW hiT; rw [if_pos rfl]; rfl, .inl rfl⟩
  | some k =>
    have hk := h.hi k q
    unfold sm at hk
    have e := numD_strI hk.1 hk.2
    have ne : ¬ (strI k = Str.ofString "any") := fun z => by
      rw [z] at e
      have : numD "any" = .non := by
        have : ¬ (isNumW "any" = true) := by decide +kernel
        unfold numD
        rw [if_neg this]
      have e : numD "any" = .int k := e
      rw [this] at e
      cases e
    refine ⟨?_, .inr ?_⟩
    · unfold hiW hiT
      dsimp only
      rw [if_neg ne, e]
      rfl
    · show isNon (numD (strI k)) = false
      rw [e]
      rfl
theorem factP_W {k : Nat} (hk : k ≤ 4) {f : Fact} (h : isFact k (fD f) = true) : factP (factW f) = fD f := by
  have hs := fact_sm hk h
  obtain ⟨h1, h2⟩ := hiW_hiT hs
  have a0 := hs.a; have a1 := hs.b; have a2 := hs.lo
  unfold sm at a0 a1 a2
  have e : fact5 (strI (f.a : Nat)) (strI (f.b : Nat)) (strI f.lo) (hiT f.hi) = fD f := by
    unfold fact5 fD
    rw [h1, numD_strI a0.1 a0.2, numD_strI a1.1 a1.2, numD_strI a2.1 a2.2]
  unfold factW factP
  dsimp only
  rw [e, if_pos ⟨⟨rfl, rfl⟩, h2, isFact_mono h (by omega)⟩]
theorem qPart_gap {k : Nat} (hk : k ≤ 4) {f : Fact} (h : isFact k (fD f) = true) : qPart (factW f) = .tup [.str "gap", fD f] := by
  have e := factP_W hk h
  unfold factW at *
  unfold qPart
  dsimp only
  rw [if_neg fun z => ne_gp z.1, if_neg ne_gr, if_pos rfl, e]
  rfl
def pD (p : Str × D) : D := .tup [.str p.1, p.2]
def qParts (q : Qu) : List (Str × D) := ("people", .int q.m) :: ("row", .tup (q.row.map .int)) :: q.fs.map fun f => ("gap", fD f)
theorem qLines_parts {q : Qu} (h : QOk q) : (qLines q).map (fun t => qPart (Txt.split t " ")) = (qParts q).map pD := by
  have h1 := h.lm; have h2 := h.m4
  unfold qLines qParts
  rw [List.map_cons, List.map_cons, List.map_cons, List.map_cons, split_words (by simp) fun w hw => ?_, split_words (by simp [rowW]) (rowW_wd h), qPart_people h, qPart_row h, List.map_map, List.map_map]
  · congr 2
    refine List.map_congr_left fun f hf => ?_
    show qPart (Txt.split (factT f) " ") = _
    unfold factT
    rw [split_words (by simp [factW]) (factW_wd (h.fact hf)), qPart_gap (k := q.row.length) (by omega) (h.facts f hf)]
    rfl
  · simp only [List.mem_cons, List.not_mem_nil, or_false] at hw
    rcases hw with rfl | rfl
    · exact wd_people
    · exact wd_sm h.smm
theorem cut_take {α : Type} (xs : List α) (k : Nat) : cut xs none (some (k : Int)) = xs.take k := by
  unfold cut
  rw [HT.sIx_none, HT.sIx_nat, List.drop_zero, Nat.sub_zero]
  rcases Nat.le_total k xs.length with h | h
  · rw [Nat.min_eq_left h]
  · rw [Nat.min_eq_right h, List.take_length, List.take_of_length_le h]
theorem cut_drop {α : Type} (xs : List α) (k : Nat) : cut xs (some (k : Int)) none = xs.drop k := by
  unfold cut
  rw [HT.sIx_none, HT.sIx_nat]
  rcases Nat.le_total k xs.length with h | h
  · rw [Nat.min_eq_left h]
    exact List.take_of_length_le (by simp)
  · rw [Nat.min_eq_right h, Nat.sub_self, List.take_zero, List.drop_of_length_le h]
theorem lsl_take (xs : List D) (k : Nat) {i : Int} (h : i = (k : Int)) : lslD (.lst xs) none (some i) = some (xs.take k) := by
  subst h
  show some (cut _ _ _) = _
  rw [cut_take]
theorem lsl_drop (xs : List D) (k : Nat) {i : Int} (h : i = (k : Int)) : lslD (.lst xs) (some i) none = some (xs.drop k) := by
  subst h
  show some (cut _ _ _) = _
  rw [cut_drop]
theorem slc_take (xs : List D) (k : Nat) {i : Int} (h : i = (k : Int)) : slcD (.tup xs) none (some i) = some (.tup (xs.take k)) := by
  subst h
  show some (D.tup (cut _ _ _)) = _
  rw [cut_take]
theorem slc_drop (xs : List D) (k : Nat) {i : Int} (h : i = (k : Int)) : slcD (.tup xs) (some i) none = some (.tup (xs.drop k)) := by
  subst h
  show some (D.tup (cut _ _ _)) = _
  rw [cut_drop]
theorem flat_one (d : D) : ∀ k : Nat, (List.replicate k [d]).flatten = List.replicate k d
  | 0 => rfl
  | k + 1 => by rw [List.replicate_succ, List.flatten_cons, flat_one d k, List.replicate_succ]; rfl
theorem repD_one (d : D) {k : Nat} (h : k ≤ 2000000) : repD [d] (.int (k : Nat)) = some (List.replicate k d) := by
  have hs : 2000000 ≤ sizeLine := by decide
  have hh : -(2 ^ 63) ≤ (k : Int) ∧ (k : Int) < 2 ^ 63 ∧ [d].length * (k : Int).toNat ≤ sizeLine := by
    refine ⟨by omega, by omega, ?_⟩
    rw [Int.toNat_natCast]
    show 1 * k ≤ sizeLine
    omega
  unfold repD
  dsimp only
  rw [if_pos hh, Int.toNat_natCast, flat_one]
theorem lsl_t2 (xs : List D) : lslD (.lst xs) none (some 2) = some (xs.take 2) := lsl_take xs 2 rfl
theorem lsl_d2 (xs : List D) : lslD (.lst xs) (some 2) none = some (xs.drop 2) := lsl_drop xs 2 rfl
theorem slc_t2 (xs : List D) : slcD (.tup xs) none (some 2) = some (.tup (xs.take 2)) := slc_take xs 2 rfl
/-- what a text tells of a queue, by its parts -/
def pFound (ps : List (Str × D)) : D := .tup ((ps.take 2).map (·.2) ++ [.tup ((ps.drop 2).map (·.2))])
def pDue (n : Nat) : List Str := (([("people" : Str), "row"] : List Str) ++ List.replicate n ("gap" : Str)).take n
theorem itD (xs : List D) : itemsD (.lst xs) = some xs := items_lst xs
theorem addD_tup {xs ys : List D} (h : xs.length + ys.length ≤ 10000000) : addD (.tup xs) (.tup ys) = some (.tup (xs ++ ys)) := by
  show (if xs.length + ys.length ≤ sizeLine then some (D.tup (xs ++ ys)) else none) = _
  rw [if_pos (Nat.le_trans h (by decide))]
theorem parts_fst {ρ : Ev} {a b c : Slot} {d e f g : Slot} (ps : List (Str × D)) (h : ρ = [a, b, c, d, e, f, g]) :
    mapO (fun x9 => bnd (opt (asgn (.many [5, 6]) x9 ρ)) fun ρ10 => bnd (nox (opt (getV ρ10 5))) fun d12 => ret (some d12)) (ps.map pD) = ret ((ps.map (·.1)).map .str) := by
  subst h
  rw [mapO_pure (g := fun x => match x with | .tup [z, _] => z | _ => .non)]
  · rw [List.map_map, List.map_map]
    rfl
  · intro x hx
    obtain ⟨p, _, rfl⟩ := List.mem_map.mp hx
    unfold pD
    simp only [asgn_many, setMany_nil, setMany_cons, List.set_cons_zero, List.set_cons_succ, getV_zero, getV_succ, oS, bR, nR]
theorem parts_snd {ρ : Ev} {a b c : Slot} {d e f g : Slot} (ps : List (Str × D)) (h : ρ = [a, b, c, d, e, f, g]) :
    mapO (fun x9 => bnd (opt (asgn (.many [5, 6]) x9 ρ)) fun ρ10 => bnd (nox (opt (getV ρ10 6))) fun d12 => ret (some d12)) (ps.map pD) = ret (ps.map (·.2)) := by
  subst h
  rw [mapO_pure (g := fun x => match x with | .tup [_, z] => z | _ => .non)]
  · rw [List.map_map]
    rfl
  · intro x hx
    obtain ⟨p, _, rfl⟩ := List.mem_map.mp hx
    unfold pD
    simp only [asgn_many, setMany_nil, setMany_cons, List.set_cons_zero, List.set_cons_succ, getV_zero, getV_succ, oS, bR, nR]
theorem isiD_str' (w : Str) : isiD "str" (.str w) = some (.bl true) := rfl
theorem due_ok (n : Nat) : ∀ x ∈ pDue n, PyData.strOk x = true := by
  intro x hx
  have := List.mem_of_mem_take hx
  rw [List.mem_append] at this
  rcases this with h | h
  · simp only [List.mem_cons, List.not_mem_nil, or_false] at h
    rcases h with rfl | rfl
    · exact ok_people
    · exact ok_row
  · rw [List.eq_of_mem_replicate h]
    exact ok_gap
/-- a text with good lines -/
theorem pFound_q (q : Qu) : pFound (qParts q) = qD q := by
  unfold pFound qParts qD
  simp only [List.take_succ_cons, List.take_zero, List.map_cons, List.map_nil, List.drop_succ_cons, List.drop_zero, List.map_map, List.cons_append, List.nil_append]
  rfl
end PV

set_option Elab.async false
set_option linter.all false
set_option maxRecDepth 100000
set_option maxHeartbeats 4000000
/-! PvPx: scripts as texts. -/
namespace PV
open PySem PySem.Spec PyProof.Rows L2 TL
/-- what stands behind a deed's word -/
def argD (x : D) : Prop := (∃ i, x = .int i ∧ sm i) ∨ x = .str "ahead" ∨ x = .str "behind"
def words8 : List Str := ["serve", "come", "back", "off", "keep", "pass", "bring", "swap"]
def strW : D → Str
  | .int i => strI i
  | .str s => s
  | _ => ""
def dWords : D → List Str
  | .tup (.str w :: rest) => w :: rest.map strW
  | _ => []
theorem within_arg {x : D} {lo hi : Int} (h : isWithin x lo hi = true) (h1 : 0 ≤ lo) (h2 : hi < 100) : argD x := by
  obtain ⟨e, a, b⟩ := iv_of h
  exact .inl ⟨_, e, by omega, by omega⟩
theorem deed2_arg {many : Int} (hm : many ≤ 50) {w : Str} {x : D} (h : deed2 many w x = true) : w ∈ words8 ∧ argD x := by
  unfold deed2 at h
  split at h
  · rename_i k
    exact ⟨by rcases k with rfl | rfl <;> simp [words8], within_arg h (by omega) (by omega)⟩
  · rw [Bool.and_eq_true, decide_eq_true_eq] at h
    exact ⟨by rcases h.2 with rfl | rfl <;> simp [words8], within_arg h.1 (by omega) (by omega)⟩
theorem side_arg {y : D} (h : sideB y = true) : argD y := by
  cases y with
  | str s =>
    have h : s = "ahead" ∨ s = "behind" := by simpa [sideB] using h
    rcases h with rfl | rfl
    · exact .inr (.inl rfl)
    · exact .inr (.inr rfl)
  | _ => cases h
theorem deed3_arg {many : Int} (hm : many ≤ 50) {w : Str} {x y : D} (h : deed3 many w x y = true) : w ∈ words8 ∧ argD x ∧ argD y := by
  unfold deed3 at h
  split at h
  · cases h
  split at h
  · rename_i hx
    have ax : argD x := within_arg hx (by omega) (by omega)
    split at h
    · cases h
    split at h
    · rename_i k
      subst k
      exact ⟨by simp [words8], ax, side_arg h⟩
    split at h
    · rename_i k
      subst k
      exact ⟨by simp [words8], ax, within_arg h (by omega) (by omega)⟩
    · simp only [Bool.and_eq_true, decide_eq_true_eq] at h
      exact ⟨by rcases h.1.1 with rfl | rfl <;> simp [words8], ax, within_arg h.1.2 (by omega) (by omega)⟩
  · cases h
/-- a deed, by its words -/
structure DeedF (d : D) (w : Str) (rest : List D) : Prop where
  e : d = .tup (.str w :: rest)
  w8 : w ∈ words8
  l1 : 1 ≤ rest.length
  l2 : rest.length ≤ 2
  args : ∀ x ∈ rest, argD x
theorem deed_form {many : Int} (hm : many ≤ 50) {d : D} (h : isDeed many d = true) : ∃ w rest, DeedF d w rest := by
  unfold isDeed at h
  split at h
  · obtain ⟨a, b⟩ := deed2_arg hm h
    exact ⟨_, _, rfl, a, by simp, by simp, fun x hx => by rw [List.mem_singleton] at hx; exact hx ▸ b⟩
  · obtain ⟨a, b, c⟩ := deed3_arg hm h
    refine ⟨_, _, rfl, a, by simp, by simp, fun x hx => ?_⟩
    simp only [List.mem_cons, List.not_mem_nil, or_false] at hx
    rcases hx with rfl | rfl
    · exact b
    · exact c
  · cases h
theorem wd8 {w : Str} (h : w ∈ words8) : wd w ∧ w.length ≤ 6 ∧ 1 ≤ w.length := by
  have : words8.all (fun w => wdB w && decide (w.length ≤ 6) && decide (1 ≤ w.length)) = true := by decide +kernel
  have := List.all_eq_true.mp this w h
  simp only [Bool.and_eq_true, decide_eq_true_eq] at this
  exact ⟨wd_of this.1.1, this.1.2, this.2⟩
theorem num_side : ¬ (isNumW "ahead" = true) ∧ ¬ (isNumW "behind" = true) := ⟨by decide +kernel, by decide +kernel⟩
theorem arg_ok {x : D} (h : argD x) : wd (strW x) ∧ (strW x).length ≤ 6 ∧ wordD (strW x) = x ∧ strD [x] = some (.str (strW x)) ∧ okD x = true := by
  rcases h with ⟨i, rfl, hi⟩ | rfl | rfl
  · have := sm_len hi
    refine ⟨wd_sm hi, (by show (strI i).length ≤ 6; omega), ?_, ?_, rfl⟩
    · unfold wordD strW
      have := numD_strI hi.1 hi.2
      dsimp only
      rw [this]
      rfl
    · have := hi.2
      exact strD_int hi.1 (by omega)
  · refine ⟨wd_of (by decide +kernel), by decide +kernel, ?_, rfl, ?_⟩
    · unfold wordD strW numD
      dsimp only
      rw [if_neg num_side.1]
      rfl
    · show PyData.strOk "ahead" = true
      decide +kernel
  · refine ⟨wd_of (by decide +kernel), by decide +kernel, ?_, rfl, ?_⟩
    · unfold wordD strW numD
      dsimp only
      rw [if_neg num_side.2]
      rfl
    · show PyData.strOk "behind" = true
      decide +kernel
variable {d : D} {w : Str} {rest : List D}
theorem DeedF.words (h : DeedF d w rest) : dWords d = w :: rest.map strW := by
  rw [h.e]
  rfl
theorem DeedF.wds (h : DeedF d w rest) : ∀ z ∈ dWords d, wd z ∧ z.length ≤ 6 := by
  rw [h.words]
  intro z hz
  rcases List.mem_cons.mp hz with rfl | hz
  · exact ⟨(wd8 h.w8).1, (wd8 h.w8).2.1⟩
  · obtain ⟨x, hx, rfl⟩ := List.mem_map.mp hz
    have := arg_ok (h.args x hx)
    exact ⟨this.1, this.2.1⟩
theorem DeedF.ok (h : DeedF d w rest) : okD d = true := by
  rw [h.e]
  refine okDs_of fun x hx => ?_
  rcases List.mem_cons.mp hx with rfl | hx
  · exact (wd_tx (wd8 h.w8).1 (by have := (wd8 h.w8).2.1; omega)).1
  · exact (arg_ok (h.args x hx)).2.2.2.2
theorem DeedF.back (h : DeedF d w rest) : deedD w (rest.map strW) = d := by
  rw [h.e]
  unfold deedD
  rw [List.map_map]
  congr 2
  conv => rhs; rw [← List.map_id rest]
  exact List.map_congr_left fun x hx => (arg_ok (h.args x hx)).2.2.1
theorem DeedF.len (h : DeedF d w rest) : (dWords d).length ≤ 3 := by
  rw [h.words, List.length_cons, List.length_map]
  have := h.l2
  omega
def dText (d : D) : Str := Txt.join " " (dWords d)
theorem DeedF.tlen (h : DeedF d w rest) : (dText d).length ≤ 21 := by
  have h1 := jn_le sep_sp fun z hz => (h.wds z hz).2
  have h2 := h.len
  unfold dText
  omega
theorem DeedF.ln (h : DeedF d w rest) : ln (dText d) := ln_jn fun z hz => (h.wds z hz).1
theorem DeedF.split (h : DeedF d w rest) : Txt.split (dText d) " " = dWords d := split_words (by rw [h.words]; simp) fun z hz => (h.wds z hz).1
theorem DeedF.ne (h : DeedF d w rest) : tl (dText d) ≠ [] := by
  unfold dText
  rw [tl_jn, h.words]
  have h1 := (wd8 h.w8).2.2
  rw [len_tl] at h1
  intro e
  have e : joinL (tl " ") (tl w :: (rest.map strW).map tl) = [] := e
  cases rest with
  | nil =>
    have e : tl w = [] := e
    rw [e] at h1
    simp at h1
  | cons x r =>
    have e : tl w ++ (tl " " ++ joinL (tl " ") ((strW x :: r.map strW).map tl)) = [] := e
    rw [List.append_eq_nil_iff] at e
    rw [e.1] at h1
    simp at h1
theorem deed_mono {m k : Int} (l : m ≤ k) {d : D} (h : isDeed m d = true) : isDeed k d = true := by
  have h2 : ∀ w x, deed2 m w x = true → deed2 k w x = true := fun w x h => by
    unfold deed2 at *
    by_cases c : w = "serve" ∨ w = "come"
    · rw [if_pos c] at *
      exact h
    · rw [if_neg c] at *
      rw [Bool.and_eq_true] at *
      exact ⟨isWithin_mono h.1 (by omega), h.2⟩
  have h3 : ∀ w x y, deed3 m w x y = true → deed3 k w x y = true := fun w x y h => by
    unfold deed3 at *
    by_cases c : w = "serve" ∨ w = "come"
    · rw [if_pos c] at *
      exact h
    rw [if_neg c] at *
    by_cases hx : isWithin x 0 (m - 1) = true
    · rw [if_pos hx] at h
      rw [if_pos (isWithin_mono hx (by omega))]
      by_cases c2 : w = "back" ∨ w = "off"
      · rw [if_pos c2] at *
        exact h
      rw [if_neg c2] at *
      by_cases c3 : w = "keep"
      · rw [if_pos c3] at *
        exact h
      rw [if_neg c3] at *
      by_cases c4 : w = "pass"
      · rw [if_pos c4] at *
        exact h
      rw [if_neg c4] at *
      simp only [Bool.and_eq_true] at *
      exact ⟨⟨h.1.1, isWithin_mono h.1.2 (by omega)⟩, h.2⟩
    · rw [if_neg hx] at h
      cases h
  unfold isDeed at *
  split at h
  · exact h2 _ _ h
  · exact h3 _ _ _ h
  · cases h
theorem dPart_back {many : Int} (hm : many ≤ 4) (hd : isDeed many d = true) (h : DeedF d w rest) : dPart (dWords d) = d := by
  rw [h.words]
  unfold dPart
  dsimp only
  rw [h.back, if_pos (deed_mono hm hd)]
/-! ### scripts -/
def sLines (ds : List D) : List Str := ds.map dText
def sText (ds : List D) : Str := Txt.join "\n" (sLines ds)
structure SOk (m : Int) (ds : List D) : Prop where
  m4 : m ≤ 4
  l6 : ds.length ≤ 6
  deeds : ∀ d ∈ ds, isDeed m d = true
variable {m : Int} {ds : List D}
theorem SOk.of (hm : m ≤ 4) (h : isScript m (.tup ds) = true) : SOk m ds := by
  have h : (decide (ds.length ≤ 6) && ds.all (isDeed m)) = true := h
  rw [Bool.and_eq_true, decide_eq_true_eq, List.all_eq_true] at h
  exact ⟨hm, h.1, h.2⟩
theorem SOk.good (h : SOk m ds) : isScript m (.tup ds) = true := by
  show (decide (ds.length ≤ 6) && ds.all (isDeed m)) = true
  rw [Bool.and_eq_true, decide_eq_true_eq, List.all_eq_true]
  exact ⟨h.l6, h.deeds⟩
theorem SOk.form (h : SOk m ds) {d : D} (hd : d ∈ ds) : ∃ w rest, DeedF d w rest := deed_form (by have := h.m4; omega) (h.deeds d hd)
theorem SOk.ok (h : SOk m ds) : okD (.tup ds) = true := okDs_of fun d hd => by
  obtain ⟨w, rest, f⟩ := h.form hd
  exact f.ok
theorem SOk.len (h : SOk m ds) : ∀ l ∈ sLines ds, l.length ≤ 21 := fun l hl => by
  obtain ⟨d, hd, rfl⟩ := List.mem_map.mp hl
  obtain ⟨w, rest, f⟩ := h.form hd
  exact f.tlen
theorem SOk.lns (h : SOk m ds) : ∀ l ∈ sLines ds, ln l := fun l hl => by
  obtain ⟨d, hd, rfl⟩ := List.mem_map.mp hl
  obtain ⟨w, rest, f⟩ := h.form hd
  exact f.ln
theorem SOk.tlen (h : SOk m ds) : (sText ds).length ≤ 1000 := by
  have h1 := jn_le sep_nl h.len
  have h2 := h.l6
  rw [sLines, List.length_map] at h1
  rw [sText, sLines]
  omega
theorem SOk.tx (h : SOk m ds) : tx (sText ds) := by
  refine ⟨strOk_iff.mpr fun k hk => ?_, by have := h.tlen; omega⟩
  unfold sText at hk
  rw [tl_jn, tl_nl] at hk
  rcases joinL_mem hk with h1 | ⟨p, hp, h1⟩
  · rw [List.mem_singleton] at h1
    omega
  · obtain ⟨w, hw, rfl⟩ := List.mem_map.mp hp
    have := h.lns w hw k h1
    omega
end PV

set_option Elab.async false
set_option linter.all false
set_option maxRecDepth 100000
set_option maxHeartbeats 4000000
/-! PvPy: the deck: what is drawn. -/
namespace PV
open PySem PySem.Spec PyProof.Rows L2 TL
/-- the deck at n, its counter at most k -/
def Dk (S : Store) (n : Nat) (k : Nat) : Prop := ∃ a b c : Int, S[n]? = some (.lst [.int a, .int b, .int c]) ∧ 0 ≤ b ∧ b < 2147483579 ∧ 0 ≤ c ∧ c ≤ k
theorem Dk.mono {S : Store} {n k k' : Nat} (h : Dk S n k) (l : k ≤ k') : Dk S n k' := by
  obtain ⟨a, b, c, h1, h2, h3, h4, h5⟩ := h
  exact ⟨a, b, c, h1, h2, h3, h4, by omega⟩
theorem wp_dk {n : Nat} {xs : List D} {i : Int} {S : Store} {Q : D → Store → Prop} {d : D} (h : S[n]? = some (.lst xs)) (e : atI xs i = some d) (q : Q d S) : wp (rd fun S => idxD S (.obj n) (.int i)) S Q := by
  rw [wp_rd]
  refine ⟨d, ?_, q⟩
  show (match S[n]? with | some (.lst xs) => atI xs i | none => none) = some d
  rw [h]
  exact e
theorem wp_st {n : Nat} {xs : List D} {i : Int} {j : Nat} {S : Store} {Q : Unit → Store → Prop} {d : D} (h : S[n]? = some (.lst xs)) (e : ixN xs.length i = some j) (q : Q () (S.set n (.lst (xs.set j d)))) : wp (wr (setD (.obj n) (.int i) d)) S Q := by
  rw [wp_wr]
  refine ⟨_, ?_, q⟩
  show (match S[n]? with | some (.lst xs) => (match ixN xs.length i with | some j => some (S.set n (.lst (xs.set j d))) | none => none) | none => none) = _
  rw [h]
  show (match ixN xs.length i with | some j => some (S.set n (.lst (xs.set j d))) | none => none) = _
  rw [e]
theorem set_get {S : Store} {n : Nat} {o o' : Ob} (h : S[n]? = some o) : (S.set n o')[n]? = some o' := by
  obtain ⟨hl, _⟩ := List.getElem?_eq_some_iff.mp h
  rw [List.getElem?_set_self hl]
theorem modD_int {i j : Int} (h : j ≠ 0) : modD (.int i) (.int j) = some (.int (i.fmod j)) := by
  show (if j ≠ 0 then some (D.int (i.fmod j)) else none) = _
  rw [if_pos h]
theorem fdivD_int {i j : Int} (h : j ≠ 0) (h2 : j.natAbs < 1073741824) : fdivD (.int i) (.int j) = some (.int (i.fdiv j)) := by
  show (if j ≠ 0 ∧ j.natAbs < 1073741824 then some (D.int (i.fdiv j)) else none) = _
  rw [if_pos ⟨h, h2⟩]
theorem powD_int {i j : Int} (h : 0 ≤ j) (h2 : j ≤ 1000000) (h3 : i.natAbs < 2 ^ 64) : powD (.int i) (.int j) = some (.int (i ^ j.toNat)) := by
  show (if 0 ≤ j ∧ j ≤ 1000000 ∧ i.natAbs < 2 ^ 64 then some (D.int (i ^ j.toNat)) else none) = _
  rw [if_pos ⟨h, h2, h3⟩]
theorem mulD_l {i j : Int} (h : -(2 ^ 64) < i ∧ i < 2 ^ 64) : mulD (.int i) (.int j) = some (.int (i * j)) := by
  show (if small64 i || small64 j then some (D.int (i * j)) else none) = _
  rw [if_pos (by unfold small64; rw [decide_eq_true h]; rfl)]
theorem intD_int (i : Int) : intD [.int i] = some (.int i) := Eq.trans rfl rfl
theorem fmod_rg (a : Int) {s : Int} (h : 1 ≤ s) : 0 ≤ a.fmod s ∧ a.fmod s < s := ⟨Int.fmod_nonneg_of_pos a (by omega), Int.fmod_lt_of_pos a (by omega)⟩
theorem r_deck (n : Nat) {i t : Int} {S : Store} {Q : D → Store → Prop} (ht : 0 ≤ t) (ht2 : t ≤ 1000) (q : ∀ S', Dk S' S.length 1000 → Q (.obj S.length) S') : wp (Phi GG fns (n + 1) K__law_deck [.int i, .int t]) S Q := by
  rw [e__law_deck]
  unfold m__law_deck
  have hm := fmod_rg i (s := 2147483579) (by decide)
  have e1 : powD (.int 10) (.int 18) = some (.int (10 ^ 18)) := powD_int (by decide) (by decide) (by decide)
  have e2 : modD (.int i) (.int 2147483579) = some (.int (i.fmod 2147483579)) := modD_int (by decide)
  have l3 : ∀ a b c : D, lstO [a, b, c] = some [a, b, c] := fun a b c => by
    unfold lstO
    exact if_pos (show 3 ≤ sizeLine by decide)
  simp only [e1, e2, oS, bR, ord_int, isB_bl, subD_int, l3]
  have fin : ∀ a : Int, Q (.obj S.length) (S ++ [.lst [.int a, .int (i.fmod 2147483579), .int t]]) := fun a => q _ ⟨a, _, t, by rw [List.getElem?_append_right (Nat.le_refl _), Nat.sub_self]; rfl, hm.1, hm.2, ht, by omega⟩
  refine wp_ite (fun _ => ?_) (fun _ => ?_)
  · exact fin _
  · exact fin _
theorem r_pick (n : Nat) {o k : Nat} {s : Int} {S : Store} {Q : D → Store → Prop} (h : Dk S o k) (hk : k ≤ 1000000000) (h1 : 1 ≤ s) (h2 : s < 1073741824) (q : ∀ i S', 0 ≤ i → i < s → Dk S' o (k + 1) → Q (.int i) S') : wp (Phi GG fns (n + 1) K__law_pick [.obj o, .int s]) S Q := by
  rw [e__law_pick]
  unfold m__law_pick
  obtain ⟨a, b, c, hS, b0, b1, c0, c1⟩ := h
  have es : ∀ i : Int, modD (.int i) (.int s) = some (.int (i.fmod s)) := fun i => modD_int (by omega)
  have ef : ∀ i : Int, fdivD (.int i) (.int s) = some (.int (i.fdiv s)) := fun i => fdivD_int (by omega) (by omega)
  have ms : ∀ i : Int, mulD (.int 15485867) (.int i) = some (.int (15485867 * i)) := fun i => mulD_l (by decide)
  have ms2 : ∀ i : Int, mulD (.int 7919) (.int i) = some (.int (7919 * i)) := fun i => mulD_l (by decide)
  have md1 : ∀ i : Int, modD (.int i) (.int 2147483647) = some (.int (i.fmod 2147483647)) := fun i => modD_int (by decide)
  have md2 : ∀ i : Int, modD (.int i) (.int 2147483629) = some (.int (i.fmod 2147483629)) := fun i => modD_int (by decide)
  have fd1 : ∀ i : Int, fdivD (.int i) (.int 32) = some (.int (i.fdiv 32)) := fun i => fdivD_int (by decide) (by decide)
  simp only [wp_bnd]
  refine wp_dk hS (atI0 _ _) ?_
  simp only [ord_int, oS, isB_bl, wp_ret]
  refine wp_ite (fun _ => ?_) (fun _ => ?_)
  · simp only [wp_bnd]
    refine wp_dk hS (atI0 _ _) ?_
    simp only [wp_ret, intD_int, oS, es, wp_bnd]
    refine wp_dk hS (atI0 _ _) ?_
    simp only [wp_ret, oS, ef, wp_bnd]
    refine wp_st (j := 0) hS rfl ?_
    have hm := fmod_rg a h1
    exact q _ _ hm.1 hm.2 ⟨_, b, c, by rw [set_get hS]; rfl, b0, b1, c0, by omega⟩
  · simp only [wp_bnd]
    refine wp_dk hS (atI2 _ _ _ _) ?_
    simp only [addD_int, oS, wp_ret]
    refine wp_st (j := 2) hS rfl ?_
    have hS2 : (S.set o (.lst [.int a, .int b, .int (c + 1)]))[o]? = some (.lst [.int a, .int b, .int (c + 1)]) := set_get hS
    show wp _ (S.set o (.lst [.int a, .int b, .int (c + 1)])) _
    generalize S.set o (.lst [.int a, .int b, .int (c + 1)]) = S2 at hS2
    refine wp_dk hS2 (atI1 _ _ _) ?_
    refine wp_dk hS2 (atI2 _ _ _ _) ?_
    simp only [ms, addD_int, oS, wp_ret]
    refine wp_opt' (powD_int (by decide) (by decide) (by omega)) ?_
    simp only [md1, oS, wp_ret]
    refine wp_dk hS2 (atI2 _ _ _ _) ?_
    have g := fmod_rg ((b + 15485867 * (c + 1)) ^ (5 : Int).toNat) (s := 2147483647) (by decide)
    generalize ((b + 15485867 * (c + 1)) ^ (5 : Int).toNat).fmod 2147483647 = u at *
    simp only [ms2, addD_int, oS, wp_ret]
    refine wp_opt' (powD_int (by decide) (by decide) (by omega)) ?_
    simp only [md2, fd1, oS, wp_ret, intD_int, es]
    generalize (((u + 7919 * (c + 1)) ^ (3 : Int).toNat).fmod 2147483629).fdiv 32 = z
    have hm := fmod_rg z h1
    exact q _ _ hm.1 hm.2 ⟨a, b, c + 1, hS2, b0, b1, by omega, by omega⟩
theorem r_one (n : Nat) {o k : Nat} {xs : List D} {S : Store} {Q : D → Store → Prop} (h : Dk S o k) (hk : k ≤ 1000000000) (h1 : xs ≠ []) (h2 : xs.length < 1000000) (q : ∀ d S', d ∈ xs → Dk S' o (k + 1) → Q d S') : wp (Phi GG fns (n + 2) K__law_one [.obj o, .lst xs]) S Q := by
  rw [e__law_one]
  unfold m__law_one
  have hl : 1 ≤ xs.length := by cases xs <;> first | exact absurd rfl h1 | simp
  simp only [lenD_lst, oS, bR, wp_bnd]
  refine r_pick n h hk (by omega) (by omega) fun i S' i0 i1 hS' => ?_
  obtain ⟨j, rfl⟩ := Int.eq_ofNat_of_zero_le i0
  have hj : j < xs.length := by omega
  rw [rd_lst, atI_ix (List.getElem?_eq_getElem hj), oS]
  exact q _ _ (List.getElem_mem hj) hS'
end PV

set_option Elab.async false
set_option linter.all false
set_option maxRecDepth 100000
set_option maxHeartbeats 4000000
/-! PvPz: drawn deeds, scripts, rows, facts. -/
namespace PV
open PySem PySem.Spec PyProof.Rows L2 TL
theorem tupO4 (a b c d : D) : tupO [a, b, c, d] = some (.tup [a, b, c, d]) := Eq.trans rfl rfl
theorem lstO_le {xs : List D} (h : xs.length ≤ 1000000) : lstO xs = some xs := by
  unfold lstO
  rw [if_pos (Nat.le_trans h (by decide))]
theorem min2D_int (i j : Int) : min2D [.int i, .int j] = some (.int (if j < i then j else i)) := Eq.trans rfl rfl
theorem r_two (n : Nat) {o k : Nat} {m : Int} {S : Store} {Q : D → Store → Prop} (h : Dk S o k) (hk : k ≤ 100000000) (h1 : 2 ≤ m) (h2 : m ≤ 4) (q : ∀ a b S', 0 ≤ a → a < m → 0 ≤ b → b < m → a ≠ b → Dk S' o (k + 2) → Q (.tup [.int a, .int b]) S') : wp (Phi GG fns (n + 2) K__law_two [.obj o, .int m]) S Q := by
  rw [e__law_two]
  unfold m__law_two
  simp only [wp_bnd]
  refine r_pick n h (by omega) (by omega) (by omega) fun a S1 a0 a1 hS1 => ?_
  have es : ∀ i : Int, modD (.int i) (.int m) = some (.int (i.fmod m)) := fun i => modD_int (by omega)
  simp only [addD_int, subD_int, oS, bR, wp_bnd, wp_ret]
  refine r_pick n hS1 (by omega) (by omega) (by omega) fun p S2 p0 p1 hS2 => ?_
  simp only [addD_int, es, tupO2, oS, bR, wp_bnd, wp_ret]
  have e : (a + 1 + p).fmod m = (a + 1 + p) % m := Int.fmod_eq_emod_of_nonneg _ (by omega)
  rw [e]
  have hm : m = 2 ∨ m = 3 ∨ m = 4 := by omega
  refine q _ _ _ a0 a1 ?_ ?_ ?_ hS2 <;> rcases hm with rfl | rfl | rfl <;> omega
theorem inD_strs {w : Str} {ws : List Str} : inD false (.str w) (.lst (ws.map .str)) = some (.bl (decide (w ∈ ws))) := by
  have hf : (ws.map D.str).all flatD = true := by
    rw [List.all_eq_true]
    intro x hx
    obtain ⟨z, _, rfl⟩ := List.mem_map.mp hx
    rfl
  unfold inD inB
  have hw : flatD (.str w) = true := rfl
  simp only [hw, hf, Bool.and_self, if_true, Option.map_some, Bool.false_eq_true, if_false]
  congr 2
  rw [List.any_map]
  induction ws with
  | nil => rfl
  | cons z zs ih =>
    have hf' : (zs.map D.str).all flatD = true := by
      rw [List.map_cons, List.all_cons, Bool.and_eq_true] at hf
      exact hf.2
    rw [List.any_cons, ih hf']
    have e : ((fun y => eqF y (.str w)) ∘ D.str) z = decide (z = w) := rfl
    rw [e]
    by_cases c : z = w
    · subst c
      simp
    · have c' : ¬ w = z := fun z => c z.symm
      simp [c, c']
def dws : List Str := ["serve", "serve", "come", "keep", "keep", "back", "back", "pass", "pass", "swap", "bring", "off"]
theorem within_int {i lo hi : Int} (h : lo ≤ i) (h2 : i ≤ hi) : isWithin (.int i) lo hi = true := by
  show (decide (lo ≤ i) && decide (i ≤ hi)) = true
  rw [decide_eq_true h, decide_eq_true h2]
  rfl
theorem ne_keep : ¬ ((Str.ofString "keep") = "serve" ∨ (Str.ofString "keep") = "come") := by decide +kernel
theorem dws_ok : dws.all (fun w => PyData.strOk w) = true := by decide +kernel
theorem r_deed (n : Nat) {o k : Nat} {m t : Int} {S : Store} {Q : D → Store → Prop} (h : Dk S o k) (hk : k ≤ 100000000) (h1 : 2 ≤ m) (h2 : m ≤ 4) (t1 : 1 ≤ t) (t9 : t ≤ 9) (q : ∀ d S', isDeed m d = true → Dk S' o (k + 4) → Q d S') : wp (Phi GG fns (n + 3) K__law_deed [.obj o, .int m, .int t]) S Q := by
  rw [e__law_deed]
  unfold m__law_deed
  simp only [wp_bnd]
  refine r_two n h hk h1 h2 fun a b S1 a0 a1 b0 b1 ab hS1 => ?_
  have l12 : ∀ a b c d e f g h i j k l : D, lstO [a, b, c, d, e, f, g, h, i, j, k, l] = some [a, b, c, d, e, f, g, h, i, j, k, l] := fun a b c d e f g h i j k l => lstO_le (by simp)
  have l2 : ∀ a b : D, lstO [a, b] = some [a, b] := fun a b => lstO_le (by simp)
  simp only [asgn_many, setMany_nil, setMany_cons, List.set_cons_zero, List.set_cons_succ, getV_zero, getV_succ, oS, bR, l12, l2, wp_ret]
  refine r_one n hS1 (by omega) (by simp) (by simp) fun d S2 hd hS2 => ?_
  have hd : d ∈ dws.map D.str := hd
  obtain ⟨w, hw, rfl⟩ := List.mem_map.mp hd
  have c1 : PyData.strOk "keep" = true := by decide +kernel
  have c2 : PyData.strOk "pass" = true := by decide +kernel
  have ok := List.all_eq_true.mp dws_ok w hw
  have i1 : inD false (.str w) (.lst [.str "serve", .str "come"]) = some (.bl (decide (w = "serve" ∨ w = "come"))) := by
    have := inD_strs (w := w) (ws := ["serve", "come"])
    simp only [List.mem_cons, List.not_mem_nil, or_false] at this
    exact this
  have i2 : inD false (.str w) (.lst [.str "back", .str "off"]) = some (.bl (decide (w = "back" ∨ w = "off"))) := by
    have := inD_strs (w := w) (ws := ["back", "off"])
    simp only [List.mem_cons, List.not_mem_nil, or_false] at this
    exact this
  simp only [asgn_many, setMany_nil, setMany_cons, List.set_cons_zero, List.set_cons_succ, getV_zero, getV_succ, oS, bR, i1, i2, eqD_str ok c1, eqD_str ok c2, isB_bl, wp_bnd, wp_ret, decide_eq_true_eq, Bool.false_eq_true, if_false]
  have A := within_int a0 (show a ≤ m - 1 by omega)
  have B := within_int b0 (show b ≤ m - 1 by omega)
  refine wp_ite (fun k1 => ?_) (fun k1 => ?_)
  · simp only [wp_bnd, wp_ret]
    refine r_pick (n + 1) hS2 (by omega) t1 (by omega) fun p S3 p0 p1 hS3 => ?_
    simp only [addD_int, tupO2, wp_bnd, wp_ret, oS]
    refine q _ _ ?_ (hS3.mono (by omega))
    show deed2 m w (.int (1 + p)) = true
    unfold deed2
    rw [if_pos k1]
    exact within_int (by omega) (by omega)
  refine wp_ite (fun k2 => ?_) (fun k2 => ?_)
  · subst k2
    simp only [wp_bnd, wp_ret]
    refine r_one n hS2 (by omega) (by simp) (by simp) fun p S3 hp hS3 => ?_
    simp only [wp_bnd, wp_ret, oS, tupO3]
    refine q _ _ ?_ (hS3.mono (by omega))
    simp only [List.mem_cons, List.not_mem_nil, or_false] at hp
    have c : ¬ ((Str.ofString "keep") = "back" ∨ (Str.ofString "keep") = "off") := by decide +kernel
    rcases hp with rfl | rfl
    · show deed3 m "keep" (.int a) (.str "ahead") = true
      unfold deed3
      rw [if_neg ne_keep, if_pos A, if_neg c, if_pos rfl]
      rfl
    · show deed3 m "keep" (.int a) (.str "behind") = true
      unfold deed3
      rw [if_neg ne_keep, if_pos A, if_neg c, if_pos rfl]
      show decide ((Str.ofString "behind") = "ahead" ∨ (Str.ofString "behind") = "behind") = true
      rw [decide_eq_true (.inr rfl)]
  refine wp_ite (fun k3 => ?_) (fun k3 => ?_)
  · subst k3
    simp only [wp_bnd, wp_ret, min2D_int, oS, bR]
    have hmin : ∀ x : Int, (if (3 : Int) < t then (3 : Int) else t) = x → 1 ≤ x ∧ x ≤ 3 := fun x e => by split at e <;> omega
    obtain ⟨m1, m3⟩ := hmin _ rfl
    refine r_pick (n + 1) hS2 (by omega) m1 (by omega) fun p S3 p0 p1 hS3 => ?_
    simp only [addD_int, tupO3, wp_bnd, wp_ret, oS]
    refine q _ _ ?_ (hS3.mono (by omega))
    have d1 : ¬ ((Str.ofString "pass") = "serve" ∨ (Str.ofString "pass") = "come") := by decide +kernel
    have d2 : ¬ ((Str.ofString "pass") = "back" ∨ (Str.ofString "pass") = "off") := by decide +kernel
    have d3 : ¬ ((Str.ofString "pass") = "keep") := by decide +kernel
    show deed3 m "pass" (.int a) (.int (1 + p)) = true
    unfold deed3
    rw [if_neg d1, if_pos A, if_neg d2, if_neg d3, if_pos rfl]
    exact within_int (by omega) (by omega)
  refine wp_ite (fun k4 => ?_) (fun k4 => ?_)
  · simp only [wp_bnd, wp_ret, oS, tupO2]
    refine q _ _ ?_ (hS2.mono (by omega))
    show deed2 m w (.int a) = true
    unfold deed2
    rw [if_neg k1, A, decide_eq_true k4]
    rfl
  · simp only [wp_bnd, wp_ret, oS, tupO3]
    refine q _ _ ?_ (hS2.mono (by omega))
    have k5 : w = "bring" ∨ w = "swap" := by
      simp only [dws, List.mem_cons, List.not_mem_nil, or_false] at hw
      rcases hw with e | e | e | e | e | e | e | e | e | e | e | e
      · exact (k1 (.inl e)).elim
      · exact (k1 (.inl e)).elim
      · exact (k1 (.inr e)).elim
      · exact (k2 e).elim
      · exact (k2 e).elim
      · exact (k4 (.inl e)).elim
      · exact (k4 (.inl e)).elim
      · exact (k3 e).elim
      · exact (k3 e).elim
      · exact .inr e
      · exact .inl e
      · exact (k4 (.inr e)).elim
    show deed3 m w (.int a) (.int b) = true
    unfold deed3
    rw [if_neg k1, if_pos A, if_neg k4, if_neg k2, if_neg k3, B, decide_eq_true k5]
    show (true && true && decide (a ≠ b)) = true
    rw [decide_eq_true ab]
    rfl
theorem tupD_l (xs : List D) : tupD [.lst xs] = some (.tup xs) := tupD_lst xs
theorem irng_int {i : Int} (h : 0 ≤ i) (h2 : i ≤ 16777216) : irngD (.int i) = some ((List.range i.toNat).map fun i => .int (i : Nat)) := by
  have := irng_nat (N := i.toNat) (by omega)
  rw [Int.toNat_of_nonneg h] at this
  exact this
theorem r_script (n : Nat) {o k : Nat} {m z t : Int} {S : Store} {Q : D → Store → Prop} (h : Dk S o k) (hk : k ≤ 100000) (h1 : 2 ≤ m) (h2 : m ≤ 4) (z0 : 0 ≤ z) (z6 : z ≤ 6) (t1 : 1 ≤ t) (t9 : t ≤ 9) (q : ∀ ds S', (ds.length : Int) ≤ z → (∀ d ∈ ds, isDeed m d = true) → Dk S' o (k + 100) → Q (.tup ds) S') : wp (Phi GG fns (n + 4) K__law_script [.obj o, .int m, .int z, .int t]) S Q := by
  rw [e__law_script]
  unfold m__law_script
  simp only [wp_bnd, addD_int, oS, wp_ret]
  refine r_pick (n + 2) h (by omega) (by omega) (by omega) fun c S1 c0 c1 hS1 => ?_
  rw [irng_int c0 (by omega), oS, wp_ret]
  refine mapO_wp (fun xs acc S => Dk S o (k + 1 + 4 * acc.length) ∧ ((acc.length + xs.length : Nat) : Int) = c ∧ ∀ d ∈ acc, isDeed m d = true) ?_ _ [] _ _ ⟨by simpa using hS1, by simp; omega, fun d hd => by cases hd⟩ ?_
  · rintro x xs acc S ⟨hS, hc, hd⟩
    simp only [List.length_cons] at hc
    simp only [nR, bR, if_true, wp_bnd, nox_wp]
    refine r_deed n hS (by omega) h1 h2 t1 t9 fun d S' d1 hS' => ?_
    rw [wp_ret]
    show Dk S' o (k + 1 + 4 * (acc ++ [d]).length) ∧ (((acc ++ [d]).length + xs.length : Nat) : Int) = c ∧ ∀ e ∈ acc ++ [d], isDeed m e = true
    rw [List.length_append, List.length_singleton]
    refine ⟨hS'.mono (by omega), by omega, fun e he => ?_⟩
    rcases List.mem_append.mp he with he | he
    · exact hd e he
    · rw [List.mem_singleton] at he
      exact he ▸ d1
  · rintro ys S2 ⟨hS2, hc, hd⟩
    simp only [List.nil_append, List.length_nil, Nat.add_zero] at hS2 hc hd
    have hS2 : Dk S2 o (k + 30) := hS2.mono (by omega)
    simp only [tupD_lst, ord_int, oS, bR, isB_bl, wp_ret]
    refine wp_mono (Q := fun q17 S3 => Dk S3 o (k + 31) ∧ (q17 = true → 3 ≤ z)) ?_ ?_
    · refine wp_ite (fun k1 => ?_) (fun k1 => ?_)
      · simp only [wp_bnd]
        refine r_pick (n + 2) hS2 (by omega) (by decide) (by decide) fun p S3 p0 p1 hS3 => ?_
        simp only [ord_int, oS, isB_bl, wp_ret]
        exact ⟨hS3.mono (by omega), fun _ => by
          have k1 := of_decide_eq_true k1
          omega⟩
      · rw [wp_ret]
        exact ⟨hS2.mono (by omega), fun z => by cases z⟩
    · rintro q17 S3 ⟨hS3, hq⟩
      refine wp_ite (fun k1 => ?_) (fun k1 => ?_)
      · have hz := hq k1
        simp only [wp_bnd]
        refine r_pick (n + 2) hS3 (by omega) (by omega) (by omega) fun a S4 a0 a1 hS4 => ?_
        have l2 : ∀ a b : D, lstO [a, b] = some [a, b] := fun a b => lstO_le (by simp)
        simp only [wp_ret, l2, oS, bR]
        refine r_one (n + 1) hS4 (by omega) (by simp) (by simp) fun s S5 hs hS5 => ?_
        simp only [wp_ret, tupO3, oS]
        refine r_deed n hS5 (by omega) h1 h2 t1 t9 fun d S6 hd6 hS6 => ?_
        have ez : z - 3 = (((z - 3).toNat : Nat) : Int) := by omega
        have hl : (ys.take (z - 3).toNat).length ≤ (z - 3).toNat := List.length_take_le _ _
        simp only [wp_ret, tupO2, tupO3, oS, subD_int, isI_int, Option.map_some, slc_take ys (z - 3).toNat ez]
        refine wp_opt' (addD_tup (by simp only [List.length_cons, List.length_nil]; omega)) ?_
        refine q _ _ ?_ ?_ (hS6.mono (by omega))
        · simp only [List.length_append, List.length_cons, List.length_nil]
          omega
        · have A := within_int a0 (show a ≤ m - 1 by omega)
          intro e he
          rcases List.mem_append.mp he with he | he
          · simp only [List.mem_cons, List.not_mem_nil, or_false] at he
            have c : ¬ ((Str.ofString "keep") = "back" ∨ (Str.ofString "keep") = "off") := by decide +kernel
            rcases he with rfl | rfl | rfl
            · simp only [List.mem_cons, List.not_mem_nil, or_false] at hs
              have hs' : sideB s = true := by
                rcases hs with rfl | rfl
                · rfl
                · show decide ((Str.ofString "behind") = "ahead" ∨ (Str.ofString "behind") = "behind") = true
                  rw [decide_eq_true (.inr rfl)]
              show deed3 m "keep" (.int a) s = true
              unfold deed3
              rw [if_neg ne_keep, if_pos A, if_neg c, if_pos rfl]
              exact hs'
            · exact hd6
            · show deed2 m "back" (.int a) = true
              have d1 : ¬ ((Str.ofString "back") = "serve" ∨ (Str.ofString "back") = "come") := by decide +kernel
              unfold deed2
              rw [if_neg d1, A, decide_eq_true (.inl rfl)]
              rfl
          · exact hd e (List.mem_of_mem_take he)
      · rw [wp_ret]
        exact q _ _ (by omega) hd (hS3.mono (by omega))
end PV

set_option Elab.async false
set_option linter.all false
set_option maxRecDepth 100000
set_option maxHeartbeats 4000000
/-! PvQa: drawn rows, facts, queues; gaps. -/
namespace PV
open PySem PySem.Spec PyProof.Rows L2 TL
/-! ### rows -/
structure RowOk (m t : Int) (row : List Int) : Prop where
  l1 : 1 ≤ row.length
  lm : (row.length : Int) ≤ m
  lt : (row.length : Int) ≤ t
  rg : ∀ x ∈ row, 0 ≤ x ∧ x < m
  nd : row.Nodup
theorem intsOf_map : ∀ row : List Int, intsOf (row.map .int) = row
  | [] => rfl
  | i :: is => by
    show i :: intsOf (is.map .int) = _
    rw [intsOf_map is]
theorem RowOk.good {m t : Int} {row : List Int} (h : RowOk m t row) : isRow m (.tup (row.map .int)) = true := by
  rw [isRow_tup, intsOf_map, List.length_map]
  have h1 := h.l1
  have e : ((dist row).length : Int) = row.length := by rw [dist_len.mpr h.nd]
  simp only [Bool.and_eq_true, decide_eq_true_eq, List.all_eq_true]
  refine ⟨⟨⟨by omega, h.lm⟩, fun x hx => ?_⟩, e⟩
  obtain ⟨i, hi, rfl⟩ := List.mem_map.mp hx
  have := h.rg i hi
  exact within_int this.1 (by omega)
theorem rngD_int {i : Int} (h : 0 ≤ i) (h2 : i ≤ 16777216) : rngD (.int i) = some ((List.range i.toNat).map fun i => .int (i : Nat)) := irng_int h h2
def rints (n : Nat) : List Int := (List.range n).map fun i => (i : Nat)
theorem rints_D (n : Nat) : ((List.range n).map fun i => D.int (i : Nat)) = (rints n).map .int := by
  unfold rints
  rw [List.map_map]
  rfl
theorem rints_len (n : Nat) : (rints n).length = n := by simp [rints]
theorem rints_nd (n : Nat) : (rints n).Nodup := by
  unfold rints
  exact List.Pairwise.map _ (fun a b (h : a ≠ b) (e : (a : Int) = b) => h (by omega)) List.nodup_range
theorem rints_mem {n : Nat} {x : Int} (h : x ∈ rints n) : 0 ≤ x ∧ x < n := by
  obtain ⟨i, hi, rfl⟩ := List.mem_map.mp h
  have := List.mem_range.mp hi
  omega
theorem filter_int (a : Int) : ∀ rs : List Int, (rs.map D.int).filterMap (fun x => match x with | .int i => if i = a then none else some (.int i) | _ => none) = (rs.filter (· != a)).map D.int
  | [] => rfl
  | r :: rs => by
    rw [List.map_cons, List.filterMap_cons, filter_int a rs, List.filter_cons]
    by_cases e : r = a
    · simp [e]
    · simp [e]
theorem r_row (n : Nat) {o k : Nat} {m t : Int} {S : Store} {Q : D → Store → Prop} (h : Dk S o k) (hk : k ≤ 100000) (h1 : 2 ≤ m) (h2 : m ≤ 4) (t1 : 1 ≤ t) (t9 : t ≤ 9) (q : ∀ row S', RowOk m t row → Dk S' o (k + 10) → Q (.tup (row.map .int)) S') : wp (Phi GG fns (n + 3) K__law_row [.obj o, .int m, .int t]) S Q := by
  rw [e__law_row]
  unfold m__law_row
  have hmin : ∀ x : Int, (if t < m then t else m) = x → 1 ≤ x ∧ x ≤ m ∧ x ≤ t := fun x e => by split at e <;> omega
  have t0 : tupO [] = some (.tup []) := Eq.trans rfl rfl
  have t1' : ∀ a : D, tupO [a] = some (.tup [a]) := fun a => Eq.trans rfl rfl
  simp only [rngD_int (show 0 ≤ m by omega) (by omega), rints_D, asgn_many, setMany_nil, setMany_cons, List.set_cons_zero, List.set_cons_succ, getV_zero, getV_succ, oS, bR, t0, min2D_int, wp_bnd]
  obtain ⟨m1, m2, m3⟩ := hmin _ rfl
  generalize (if t < m then t else m) = z at *
  refine r_pick (n + 1) h (by omega) m1 (by omega) fun c S1 c0 c1 hS1 => ?_
  simp only [addD_int, oS, wp_ret]
  rw [irng_int (by omega) (by omega), oS, wp_ret]
  refine forC_wp (fun xs ρ S' => ∃ (fs rs : List Int) (s3 s6 s7 : Slot), ρ = [.val (.obj o), .val (.int m), .val (.int t), s3, .val (.lst (rs.map .int)), .val (.tup (fs.map .int)), s6, s7] ∧ Dk S' o (k + 1 + fs.length) ∧ (fs ++ rs).Nodup ∧ (∀ x ∈ fs ++ rs, 0 ≤ x ∧ x < m) ∧
    ((fs.length + rs.length : Nat) : Int) = m ∧ ((fs.length + xs.length : Nat) : Int) = 1 + c) ?_ ?_ _ _ _ ⟨[], rints m.toNat, .un, .un, .un, rfl, hS1, rints_nd _, fun x hx => by have := rints_mem hx; omega, by rw [rints_len]; simp; omega, by simp; omega⟩
  · rintro ρ S' ⟨fs, rs, s3, s6, s7, rfl, hS', nd, rg, hl, hc⟩
    simp only [getV_zero, getV_succ, oS, wp_ret]
    have hf : (fs.length : Int) = 1 + c := by simpa using hc
    exact q _ _ ⟨by omega, by omega, by omega, fun x hx => rg x (List.mem_append_left _ hx), (List.nodup_append.mp nd).1⟩ (hS'.mono (by omega))
  · rintro x xs ρ S' kk ⟨fs, rs, s3, s6, s7, rfl, hS', nd, rg, hl, hc⟩ hk'
    rw [List.length_cons] at hc
    simp only [asgn_one, List.set_cons_zero, List.set_cons_succ, getV_zero, getV_succ, oS, bR, wp_bnd]
    have hrs : rs ≠ [] := fun e => by
      subst e
      simp at hl
      omega
    refine r_one (n + 1 - 1) hS' (by omega) (by simpa using hrs) (by rw [List.length_map]; omega) fun d S2 hd hS2 => ?_
    obtain ⟨a, ha, rfl⟩ := List.mem_map.mp hd
    simp only [asgn_one, List.set_cons_zero, List.set_cons_succ, getV_zero, getV_succ, oS, bR, wp_bnd, t1', items_lst, wipeE_cons, wipeE_nil, wp_ret]
    refine wp_opt' (addD_tup (by simp only [List.length_map, List.length_cons, List.length_nil]; omega)) ?_
    rw [mapO_flt (g := fun x => match x with | .int i => if i = a then none else some (.int i) | _ => none)]
    · simp only [wp_ret, filter_int, ownV_zero, ownV_succ, oS, List.set_cons_zero, List.set_cons_succ]
      have ea : fs.map D.int ++ [D.int a] = (fs ++ [a]).map D.int := by rw [List.map_append]; rfl
      rw [ea]
      have er : rs.filter (· != a) = rs.erase a := ((List.nodup_append.mp nd).2.1.erase_eq_filter a).symm
      have hle := List.length_erase_of_mem ha
      have hpos : 0 < rs.length := List.length_pos_of_mem ha
      refine hk' _ _ ⟨fs ++ [a], rs.filter (· != a), _, _, _, rfl, ?_, ?_, ?_, ?_, ?_⟩
      · rw [List.length_append, List.length_singleton]
        exact hS2
      · rw [er, List.append_assoc]
        refine List.nodup_append.mpr ⟨(List.nodup_append.mp nd).1, ?_, ?_⟩
        · refine List.nodup_cons.mpr ⟨?_, (List.nodup_append.mp nd).2.1.erase a⟩
          rw [(List.nodup_append.mp nd).2.1.erase_eq_filter a]
          simp
        · intro u hu v hv
          rcases List.mem_cons.mp hv with e | e
          · subst e
            exact (List.nodup_append.mp nd).2.2 u hu _ ha
          · exact (List.nodup_append.mp nd).2.2 u hu v (List.mem_of_mem_erase e)
      · intro u hu
        rw [List.append_assoc] at hu
        rcases List.mem_append.mp hu with e | e
        · exact rg u (List.mem_append_left _ e)
        · rcases List.mem_cons.mp e with e | e
          · subst e
            exact rg _ (List.mem_append_right _ ha)
          · exact rg u (List.mem_append_right _ ((List.mem_filter.mp e).1))
      · rw [er, List.length_append, List.length_singleton, hle]
        omega
      · rw [List.length_append, List.length_singleton]
        omega
    · intro x hx
      obtain ⟨i, hi, rfl⟩ := List.mem_map.mp hx
      simp only [asgn_one, List.set_cons_zero, List.set_cons_succ, getV_zero, getV_succ, oS, bR, neD_int, isB_bl, nR]
      by_cases e : i = a
      · subst e
        simp
      · have e' : ¬ a = i := fun z => e z.symm
        simp [e, e']
/-! ### facts -/
structure FactOk (r : Nat) (f : Fact) : Prop where
  ab : f.a < f.b
  b1 : f.b ≤ r + 1
  l0 : 0 ≤ f.lo
  l3 : f.lo ≤ 3
  h6 : ∀ k, f.hi = some k → f.lo ≤ k ∧ k ≤ 6
theorem FactOk.good {r : Nat} {f : Fact} (h : FactOk r f) : isFact r (fD f) = true := by
  obtain ⟨a, b, lo, hi⟩ := f
  obtain ⟨ab, b1, l0, l3, h6⟩ := h
  dsimp only at *
  show (isWithin (.int (a : Nat)) 0 r && (isWithin (.int (b : Nat)) 0 (r + 1) && (decide ((a : Int) < (b : Int)) && (isWithin (.int lo) 0 60 && (isNon (oD hi) || isWithin (oD hi) lo 60))))) = true
  rw [within_int (by omega) (by omega), within_int (by omega) (by omega), within_int (by omega) (by omega), decide_eq_true (by omega)]
  cases hi with
  | none => rfl
  | some k =>
    have := h6 k rfl
    show (true && (true && (true && (true && (false || isWithin (.int k) lo 60))))) = true
    rw [within_int (by omega) (by omega)]
    rfl
theorem r_fact (n : Nat) {o k r : Nat} {S : Store} {Q : D → Store → Prop} (h : Dk S o k) (hk : k ≤ 100000) (h2 : r ≤ 4) (q : ∀ f S', FactOk r f → Dk S' o (k + 5) → Q (fD f) S') : wp (Phi GG fns (n + 3) K__law_fact [.obj o, .int (r : Nat)]) S Q := by
  rw [e__law_fact]
  unfold m__law_fact
  have l3 : ∀ a b c : D, lstO [a, b, c] = some [a, b, c] := fun a b c => lstO_le (by simp)
  simp only [addD_int, oS, bR, wp_bnd]
  refine r_pick (n + 1) h (by omega) (by omega) (by omega) fun a S1 a0 a1 hS1 => ?_
  simp only [addD_int, subD_int, oS, bR, wp_bnd]
  refine r_pick (n + 1) hS1 (by omega) (by omega) (by omega) fun b S2 b0 b1 hS2 => ?_
  simp only [addD_int, subD_int, oS, bR, wp_bnd, wp_ret]
  refine r_pick (n + 1) hS2 (by omega) (by decide) (by decide) fun lo S3 lo0 lo1 hS3 => ?_
  refine r_pick (n + 1) hS3 (by omega) (by decide) (by decide) fun h S4 h0 h1 hS4 => ?_
  simp only [addD_int, subD_int, oS, bR, wp_bnd, wp_ret, l3]
  refine r_one n hS4 (by omega) (by simp) (by simp) fun d S5 hd hS5 => ?_
  simp only [tupO4, oS, wp_ret]
  have hd : ∃ hi : Option Int, d = oD hi ∧ ∀ k, hi = some k → lo ≤ k ∧ k ≤ 6 := by
    simp only [List.mem_cons, List.not_mem_nil, or_false] at hd
    rcases hd with rfl | rfl | rfl
    · exact ⟨none, rfl, fun k e => by cases e⟩
    · exact ⟨none, rfl, fun k e => by cases e⟩
    · exact ⟨some (lo + h), rfl, fun k e => by cases e; omega⟩
  obtain ⟨hi, rfl, hh⟩ := hd
  have := q ⟨a.toNat, (a + 1 + b).toNat, lo, hi⟩ S5 ⟨by show a.toNat < (a + 1 + b).toNat; omega, by show (a + 1 + b).toNat ≤ r + 1; omega, lo0, by show lo ≤ 3; omega, hh⟩ (hS5.mono (by omega))
  have e : fD ⟨a.toNat, (a + 1 + b).toNat, lo, hi⟩ = .tup [.int a, .int (a + 1 + b), .int lo, oD hi] := by
    show D.tup [.int (a.toNat : Nat), .int ((a + 1 + b).toNat : Nat), .int lo, oD hi] = _
    rw [Int.toNat_of_nonneg a0, Int.toNat_of_nonneg (by omega)]
  rw [← e]
  exact this
/-! ### gaps -/
def gD (gs : List Int) : D := .tup (gs.map .int)
/-- how many between -/
def btw (gs : List Int) (a b : Nat) : Int := ((gs.drop a).take (b - a)).sum
def keep1 (gs : List Int) (f : Fact) : Bool := decide (f.lo ≤ btw gs f.a f.b) && (match f.hi with | none => true | some h => decide (btw gs f.a f.b ≤ h))
def keepsB (fs : List Fact) (gs : List Int) : Bool := fs.all (keep1 gs)
theorem sIx_le (l d k : Nat) (h : k ≤ l) : HT.sIx l d (some (k : Int)) = k := by
  rw [HT.sIx_nat]
  exact Nat.min_eq_left h
theorem isInts_map : ∀ xs : List Int, isInts (xs.map .int) = some xs
  | [] => rfl
  | i :: is => by
    show (isInts (is.map .int)).map (i :: ·) = _
    rw [isInts_map is]
    rfl
theorem sumD_ints (xs : List Int) : sumD [.tup (xs.map .int)] = some (.int xs.sum) := by
  show (isInts (xs.map .int)).map _ = _
  rw [isInts_map]
  rfl
theorem slc_mid (gs : List Int) {a b : Nat} (ha : a ≤ gs.length) (hb : b ≤ gs.length) : slcD (gD gs) (some (a : Int)) (some (b : Int)) = some (.tup (((gs.drop a).take (b - a)).map .int)) := by
  show some (D.tup (cut (gs.map .int) _ _)) = _
  unfold cut
  rw [List.length_map, sIx_le _ _ _ ha, sIx_le _ _ _ hb, List.map_take, List.map_drop]
theorem btw_sum (gs : List Int) (a b : Nat) : btw gs a b = ((gs.drop a).take (b - a)).sum := rfl
theorem r_keeps (n : Nat) {m : D} {row : List D} {fs : List Fact} {gs : List Int} (hf : ∀ f ∈ fs, f.a ≤ gs.length ∧ f.b ≤ gs.length) : Phi GG fns (n + 1) K__law_keeps [.tup [m, .tup row, .tup (fs.map fD)], gD gs] = ret (.bl (keepsB fs gs)) := by
  rw [e__law_keeps]
  unfold m__law_keeps
  simp only [rd_tup, atI2, oS, bR, items_tup]
  generalize D.tup [m, .tup row, .tup (fs.map fD)] = Z
  refine ret_of fun S => ?_
  refine forC_wp (fun xs ρ S' => S' = S ∧ ∃ (gl : List Fact) (s2 s3 s4 s5 s6 : Slot), xs = gl.map fD ∧ (∀ f ∈ gl, f ∈ fs) ∧ keepsB gl gs = keepsB fs gs ∧ ρ = [.val Z, .val (gD gs), s2, s3, s4, s5, s6]) ?_ ?_ _ _ _ ⟨rfl, fs, .un, .un, .un, .un, .un, rfl, fun f h => h, rfl, rfl⟩
  · rintro ρ S' ⟨rfl, gl, s2, s3, s4, s5, s6, hx, hg, he, rfl⟩
    have : gl = [] := by cases gl <;> first | rfl | cases hx
    subst this
    rw [wp_ret, ← he]
    exact ⟨rfl, rfl⟩
  · rintro x xs ρ S' kk ⟨rfl, gl, s2, s3, s4, s5, s6, hx, hg, he, rfl⟩ hk'
    cases gl with
    | nil => cases hx
    | cons f gl =>
      cases hx
      obtain ⟨ha, hb⟩ := hf f (hg f List.mem_cons_self)
      have ek : keepsB (f :: gl) gs = (keep1 gs f && keepsB gl gs) := rfl
      unfold fD
      simp only [asgn_many, setMany_nil, setMany_cons, List.set_cons_zero, List.set_cons_succ, getV_zero, getV_succ, oS, bR, isI_int, Option.map_some, slc_mid gs ha hb, sumD_ints, ord_int, isB_bl, ← btw_sum]
      by_cases c1 : btw gs f.a f.b < f.lo
      · have z : keep1 gs f = false := by
          unfold keep1
          rw [decide_eq_false (by omega)]
          rfl
        simp only [c1, decide_true, if_true, bR]
        rw [wp_ret]
        refine ⟨?_, rfl⟩
        rw [← he, ek, z]
        rfl
      · simp only [c1, decide_false, Bool.false_eq_true, if_false, isND_non, oS, bR, isB_bl]
        cases hh : f.hi with
        | none =>
          simp only [oD, isNon, bR, Bool.not_true, if_true, Bool.false_eq_true, if_false, isND_non, oS, isB_bl]
          refine hk' _ _ ⟨rfl, gl, _, _, _, _, _, rfl, fun g hg' => hg g (List.mem_cons_of_mem _ hg'), ?_, rfl⟩
          rw [← he, ek]
          unfold keep1
          rw [hh, decide_eq_true (by omega)]
          rfl
        | some k =>
          simp only [oD, isNon, bR, Bool.not_false, if_true, ord_int, oS, isB_bl, isND_non, decide_eq_true_eq]
          by_cases c2 : k < btw gs f.a f.b
          · rw [if_pos c2, wp_ret]
            refine ⟨?_, rfl⟩
            rw [← he, ek]
            unfold keep1
            rw [hh]
            dsimp only
            rw [decide_eq_false (show ¬ btw gs f.a f.b ≤ k by omega), Bool.and_false]
            rfl
          · rw [if_neg c2]
            refine hk' _ _ ⟨rfl, gl, _, _, _, _, _, rfl, fun g hg' => hg g (List.mem_cons_of_mem _ hg'), ?_, rfl⟩
            rw [← he, ek]
            unfold keep1
            rw [hh, decide_eq_true (show f.lo ≤ btw gs f.a f.b by omega)]
            dsimp only
            rw [decide_eq_true (show btw gs f.a f.b ≤ k by omega)]
            rfl
end PV

set_option Elab.async false
set_option linter.all false
set_option maxRecDepth 100000
set_option maxHeartbeats 4000000
/-! PvQb: all gaps up to a top; drawn queues. -/
namespace PV
open PySem PySem.Spec PyProof.Rows L2 TL
def allG (t : Nat) : Nat → List (List Int)
  | 0 => [[]]
  | k + 1 => ((allG t k).map fun r => (rints (t + 1)).map fun i => r ++ [i]).flatten
def boxes (r : Nat) (fs : List Fact) (t : Nat) : List (List Int) := (allG t (r + 1)).filter (keepsB fs)
theorem flat_len {α : Type} {c : Nat} : ∀ {xs : List (List α)}, (∀ x ∈ xs, x.length = c) → xs.flatten.length = xs.length * c
  | [], _ => by simp
  | x :: xs, h => by
    rw [List.flatten_cons, List.length_append, h x List.mem_cons_self, flat_len fun y hy => h y (List.mem_cons_of_mem _ hy), List.length_cons, Nat.add_mul, Nat.one_mul]
    omega
theorem allG_len (t : Nat) : ∀ k, (allG t k).length = (t + 1) ^ k
  | 0 => rfl
  | k + 1 => by
    show (((allG t k).map _).flatten).length = _
    rw [flat_len (c := t + 1), List.length_map, allG_len t k, Nat.pow_succ]
    intro x hx
    obtain ⟨r, _, rfl⟩ := List.mem_map.mp hx
    rw [List.length_map, rints_len]
theorem allG_mem {t : Nat} : ∀ {k : Nat} {g : List Int}, g ∈ allG t k → g.length = k ∧ ∀ x ∈ g, 0 ≤ x ∧ x ≤ t
  | 0, g, h => by
    have h : g ∈ [[]] := h
    rw [List.mem_singleton] at h
    subst h
    exact ⟨rfl, fun x hx => by cases hx⟩
  | k + 1, g, h => by
    have h : g ∈ ((allG t k).map fun r => (rints (t + 1)).map fun i => r ++ [i]).flatten := h
    obtain ⟨l, hl, hg⟩ := List.mem_flatten.mp h
    obtain ⟨r, hr, rfl⟩ := List.mem_map.mp hl
    obtain ⟨i, hi, rfl⟩ := List.mem_map.mp hg
    obtain ⟨h1, h2⟩ := allG_mem hr
    have h3 := rints_mem hi
    refine ⟨by rw [List.length_append, h1]; rfl, fun x hx => ?_⟩
    rcases List.mem_append.mp hx with e | e
    · exact h2 x e
    · rw [List.mem_singleton] at e
      subst e
      omega
theorem allG_of {t : Nat} : ∀ {k : Nat} {g : List Int}, g.length = k → (∀ x ∈ g, 0 ≤ x ∧ x ≤ t) → g ∈ allG t k
  | 0, g, h, _ => by
    have : g = [] := List.eq_nil_of_length_eq_zero h
    subst this
    exact List.mem_singleton.mpr rfl
  | k + 1, g, h, hg => by
    have hne : g ≠ [] := fun e => by subst e; cases h
    have e := List.dropLast_concat_getLast hne
    show g ∈ ((allG t k).map fun r => (rints (t + 1)).map fun i => r ++ [i]).flatten
    refine List.mem_flatten.mpr ⟨_, List.mem_map.mpr ⟨g.dropLast, allG_of (by rw [List.length_dropLast, h]; rfl) fun x hx => hg x ((List.dropLast_subset g) hx), rfl⟩, List.mem_map.mpr ⟨g.getLast hne, ?_, e⟩⟩
    have := hg _ (List.getLast_mem hne)
    refine List.mem_map.mpr ⟨(g.getLast hne).toNat, List.mem_range.mpr (by omega), ?_⟩
    exact Int.toNat_of_nonneg this.1
theorem catD_le {xs ys : List D} (h : xs.length + ys.length ≤ 10000000) : catD (.lst xs) (.lst ys) = some (xs ++ ys) := catD_lst h
theorem r_boxes (n : Nat) {m : D} {row : List D} {fs : List Fact} {t : Nat} (hf : ∀ f ∈ fs, f.a ≤ row.length + 1 ∧ f.b ≤ row.length + 1) (ht : (t + 1) ^ (row.length + 1) ≤ 1000000) (hr : row.length ≤ 1000) (ht2 : t ≤ 10000) :
    Phi GG fns (n + 2) K__law_boxes [.tup [m, .tup row, .tup (fs.map fD)], .int (t : Nat)] = ret (.lst ((boxes row.length fs t).map gD)) := by
  rw [e__law_boxes]
  unfold m__law_boxes
  have t0 : tupO [] = some (.tup []) := Eq.trans rfl rfl
  have t1 : ∀ a : D, tupO [a] = some (.tup [a]) := fun a => Eq.trans rfl rfl
  have l1 : ∀ a : D, lstO [a] = some [a] := fun a => lstO_le (by simp)
  have l0 : lstO [] = some [] := lstO_le (by simp)
  have ei : irngD (.int ((row.length : Int) + 1)) = some ((List.range (row.length + 1)).map fun i => .int (i : Nat)) := irng_nat (N := row.length + 1) (by omega)
  have et : irngD (.int ((t : Int) + 1)) = some ((rints (t + 1)).map .int) := by
    rw [← rints_D]
    exact irng_nat (N := t + 1) (by omega)
  have hpow : ∀ k, k ≤ row.length + 1 → (t + 1) ^ k ≤ 1000000 := fun k hk => Nat.le_trans (Nat.pow_le_pow_right (by omega) hk) ht
  simp only [rd_tup, atI1, t0, l1, l0, oS, bR, lenD_tup, addD_int, ei]
  generalize hq : D.tup [m, .tup row, .tup (fs.map fD)] = Z
  refine ret_of fun S => ?_
  refine forC_wp (fun xs ρ S' => S' = S ∧ ∃ (k : Nat) (s3 s4 s5 s6 s7 : Slot), k + xs.length = row.length + 1 ∧ ρ = [.val Z, .val (.int (t : Nat)), .val (.lst ((allG t k).map gD)), s3, s4, s5, s6, s7]) ?_ ?_ _ _ _ ⟨rfl, 0, .un, .un, .un, .un, .un, by simp, rfl⟩
  · rintro ρ S' ⟨rfl, k, s3, s4, s5, s6, s7, hk, rfl⟩
    have hk : k = row.length + 1 := by simpa using hk
    subst hk
    have hitems : ∀ xs : List D, itemsD (.lst xs) = some xs := items_lst
    generalize hG : (allG t (row.length + 1)).map gD = GG1
    simp only [getV_zero, getV_succ, oS, bR, hitems, wipeE_cons, wipeE_nil, List.set_cons_zero, List.set_cons_succ]
    subst hG
    rw [mapO_flt (g := fun x => match x with | .tup xs => if keepsB fs (intsOf xs) = true then some (.tup xs) else none | _ => none)]
    · rw [bR, wp_ret]
      refine ⟨congrArg D.lst ?_, rfl⟩
      unfold boxes
      rw [List.filterMap_map]
      have : ∀ l : List (List Int), l.filterMap ((fun x => match x with | .tup xs => if keepsB fs (intsOf xs) = true then some (.tup xs) else none | _ => none : D → Option D) ∘ gD) = (l.filter (keepsB fs)).map gD := by
        intro l
        induction l with
        | nil => rfl
        | cons g l ih =>
          rw [List.filterMap_cons, List.filter_cons, ih]
          have e : ((fun x => match x with | .tup xs => if keepsB fs (intsOf xs) = true then some (.tup xs) else none | _ => none : D → Option D) ∘ gD) g = if keepsB fs g = true then some (gD g) else none := by
            show (if keepsB fs (intsOf (g.map .int)) = true then some (D.tup (g.map .int)) else none) = _
            rw [intsOf_map]
            rfl
          rw [e]
          by_cases c : keepsB fs g = true
          · rw [if_pos c, if_pos c]
            rfl
          · rw [if_neg c, if_neg c]
      exact this _
    · intro x hx
      obtain ⟨g, hg, rfl⟩ := List.mem_map.mp hx
      have hl := (allG_mem hg).1
      have rk := r_keeps n (m := m) (row := row) (fs := fs) (gs := g) (fun f hf' => by rw [hl]; exact hf f hf')
      rw [hq] at rk
      simp only [asgn_one, List.set_cons_zero, List.set_cons_succ, getV_zero, getV_succ, oS, bR, rk, isB_bl, nR]
      show _ = ret (if keepsB fs (intsOf (g.map .int)) = true then some (D.tup (g.map .int)) else none)
      rw [intsOf_map]
      by_cases c : keepsB fs g = true
      · rw [if_pos c, if_pos c]
        rfl
      · rw [if_neg c, if_neg c]
  · rintro x xs ρ S' kk ⟨rfl, k, s3, s4, s5, s6, s7, hk, rfl⟩ hk'
    rw [List.length_cons] at hk
    simp only [asgn_one, List.set_cons_zero, List.set_cons_succ, getV_zero, getV_succ, oS, bR, items_lst]
    refine forC_wp (fun ys ρ S'' => S'' = S' ∧ ∃ (d e : List (List Int)) (s5 s6 s7 : Slot), d ++ e = allG t k ∧ ys = e.map gD ∧ ρ = [.val Z, .val (.int (t : Nat)), .val (.lst ((allG t k).map gD)), .val x, .val (.lst (((d.map fun r => (rints (t + 1)).map fun i => r ++ [i]).flatten).map gD)), s5, s6, s7]) ?_ ?_ _ _ _ ⟨rfl, [], allG t k, s5, s6, s7, rfl, rfl, rfl⟩
    · rintro ρ S'' ⟨rfl, d, e, s5, s6, s7, hde, he, rfl⟩
      have : e = [] := by cases e <;> first | rfl | cases he
      subst this
      rw [List.append_nil] at hde
      subst hde
      simp only [List.set_cons_zero, List.set_cons_succ, getV_zero, getV_succ, oS, bR]
      exact hk' _ _ ⟨rfl, k + 1, _, _, _, _, _, by omega, rfl⟩
    · rintro y ys ρ S'' kk2 ⟨rfl, d, e, s5, s6, s7, hde, he, rfl⟩ hk2
      cases e with
      | nil => cases he
      | cons r e =>
        cases he
        simp only [asgn_one, List.set_cons_zero, List.set_cons_succ, getV_zero, getV_succ, oS, bR, addD_int, et, wipeE_cons, wipeE_nil]
        rw [mapO_pure (g := fun x => match x with | .int i => gD (r ++ [i]) | _ => .non)]
        · have hlen : d.length + 1 ≤ (t + 1) ^ k := by
            rw [← allG_len t k, ← hde, List.length_append, List.length_cons]
            omega
          have hd : ((d.map fun r => (rints (t + 1)).map fun i => r ++ [i]).flatten).length = d.length * (t + 1) := by
            rw [flat_len (c := t + 1), List.length_map]
            intro z hz
            obtain ⟨u, _, rfl⟩ := List.mem_map.mp hz
            rw [List.length_map, rints_len]
          have hp := hpow (k + 1) (by omega)
          have hm : (d.length + 1) * (t + 1) ≤ (t + 1) ^ (k + 1) := by
            rw [Nat.pow_succ]
            exact Nat.mul_le_mul_right _ hlen
          rw [Nat.add_mul, Nat.one_mul] at hm
          simp only [bR]
          rw [catD_le (by rw [List.length_map, List.length_map, List.length_map, rints_len, hd]; omega)]
          simp only [oS, bR, List.set_cons_zero, List.set_cons_succ]
          refine hk2 _ _ ⟨rfl, d ++ [r], e, .val (gD r), s6, s7, by rw [List.append_assoc]; exact hde, rfl, ?_⟩
          have e2 : ((d ++ [r]).map fun r => (rints (t + 1)).map fun i => r ++ [i]).flatten = (d.map fun r => (rints (t + 1)).map fun i => r ++ [i]).flatten ++ (rints (t + 1)).map fun i => r ++ [i] := by
            rw [List.map_append, List.flatten_append, List.map_singleton, List.flatten_singleton]
          rw [e2, List.map_append, List.map_map, List.map_map]
          rfl
        · intro x hx
          obtain ⟨i, hi, rfl⟩ := List.mem_map.mp hx
          have : addD (gD r) (.tup [.int i]) = some (gD (r ++ [i])) := by
            unfold gD
            have hl : r.length = k := (allG_mem (t := t) (k := k) (g := r) (by rw [← hde]; simp)).1
            rw [addD_tup (by rw [List.length_map, hl]; simp; omega), List.map_append]
            rfl
          simp only [asgn_one, List.set_cons_zero, List.set_cons_succ, getV_zero, getV_succ, oS, bR, t1, this, nR, if_true]
/-! ### facts that can be so -/
def upx (gs : List Int) (i : Nat) : Int := (gs.take i).sum
theorem upx_succ (gs : List Int) (i : Nat) (h : ∀ x ∈ gs, 0 ≤ x) : upx gs i ≤ upx gs (i + 1) := by
  unfold upx
  rw [List.take_succ, List.sum_append]
  cases q : gs[i]? with
  | none => simp
  | some x =>
    have := h x (List.mem_of_getElem? q)
    simp
    omega
theorem btw_upx (gs : List Int) {a b : Nat} (h : a ≤ b) : btw gs a b = upx gs b - upx gs a := by
  unfold btw upx
  have e : gs.take b = gs.take a ++ (gs.drop a).take (b - a) := by
    rw [← List.take_add]
    congr 1
    omega
  rw [e, List.sum_append]
  omega
theorem facts_sat {N : Nat} {x : Nat → Int} : ∀ {fs : List Fact} {B : Mx}, Sat x N B → (∀ f ∈ fs, f.a < N ∧ f.b < N ∧ f.lo ≤ x f.b - x f.a ∧ ∀ h, f.hi = some h → x f.b - x f.a ≤ h) → ∃ B', fs.foldl (fact1 N) (some B) = some B' ∧ Sat x N B'
  | [], B, h, _ => ⟨B, rfl, h⟩
  | f :: fs, B, h, hf => by
    obtain ⟨h1, h2, h3, h4⟩ := hf f List.mem_cons_self
    obtain ⟨B1, e1, s1⟩ := sat_wb h h1 h2 (m := -f.lo) (by omega)
    have : ∃ B2, fact1 N (some B) f = some B2 ∧ Sat x N B2 := by
      unfold fact1
      simp only [Option.bind_some, e1]
      cases q : f.hi with
      | none => exact ⟨B1, rfl, s1⟩
      | some k =>
        obtain ⟨B2, e2, s2⟩ := sat_wb s1 h2 h1 (m := k) (h4 k q)
        exact ⟨B2, e2, s2⟩
    obtain ⟨B2, e2, s2⟩ := this
    rw [List.foldl_cons, e2]
    exact facts_sat s2 fun g hg => hf g (List.mem_cons_of_mem _ hg)
theorem begin_sat {r : Nat} {x : Nat → Int} {fs : List Fact} (hm : ∀ i, x i ≤ x (i + 1)) (hf : ∀ f ∈ fs, f.a < r + 2 ∧ f.b < r + 2 ∧ f.lo ≤ x f.b - x f.a ∧ ∀ h, f.hi = some h → x f.b - x f.a ≤ h) : ∃ B, beginM r fs = some B ∧ Sat x (r + 2) B := by
  obtain ⟨B, e, _, hs⟩ := beg1_ok (r + 2) (r + 1) (by omega)
  unfold beginM
  rw [e]
  exact facts_sat (hs x hm) hf
theorem keep1_iff {gs : List Int} {f : Fact} : keep1 gs f = true ↔ f.lo ≤ btw gs f.a f.b ∧ ∀ h, f.hi = some h → btw gs f.a f.b ≤ h := by
  unfold keep1
  rw [Bool.and_eq_true, decide_eq_true_eq]
  refine and_congr_right fun _ => ?_
  cases f.hi with
  | none => exact ⟨fun _ h e => (nomatch e), fun _ => rfl⟩
  | some k => exact ⟨fun h k' e => by cases e; exact of_decide_eq_true h, fun h => decide_eq_true (h k rfl)⟩
theorem keeps_begin {r : Nat} {fs : List Fact} {gs : List Int} (hg : ∀ x ∈ gs, 0 ≤ x) (hf : ∀ f ∈ fs, f.a < f.b ∧ f.b ≤ r + 1) (hk : keepsB fs gs = true) : ∃ B, beginM r fs = some B ∧ Sat (upx gs) (r + 2) B := by
  refine begin_sat (fun i => upx_succ gs i hg) fun f hf' => ?_
  obtain ⟨h1, h2⟩ := hf f hf'
  have hk' := keep1_iff.mp (List.all_eq_true.mp hk f hf')
  rw [btw_upx gs (Nat.le_of_lt h1)] at hk'
  exact ⟨by omega, by omega, hk'.1, hk'.2⟩
/-! ### queues -/
/-- a queue that was drawn -/
structure QDr (q : Qu) (t : Int) : Prop where
  m2 : 2 ≤ q.m
  m4 : q.m ≤ 4
  row : RowOk q.m t q.row
  fl : q.fs.length ≤ 2
  fs : ∀ f ∈ q.fs, FactOk q.row.length f
  can : ∃ gs ∈ allG 4 (q.row.length + 1), keepsB q.fs gs = true
theorem QDr.ok {q : Qu} {t : Int} (h : QDr q t) : QOk q := by
  refine QOk.of ?_
  rw [isQueue_qD, toFacts]
  obtain ⟨gs, hg, hk⟩ := h.can
  obtain ⟨B, e, _⟩ := keeps_begin (r := q.row.length) (fun x hx => ((allG_mem hg).2 x hx).1) (fun f hf => ⟨(h.fs f hf).ab, (h.fs f hf).b1⟩) hk
  have hfl := h.fl
  rw [List.length_map, List.length_map, e, within_int h.m2 h.m4, h.row.good, decide_eq_true (show q.fs.length ≤ 4 by omega)]
  simp only [Bool.true_and, Option.isSome_some, Bool.and_true, List.all_eq_true]
  intro x hx
  obtain ⟨f, hf, rfl⟩ := List.mem_map.mp hx
  exact (h.fs f hf).good
theorem eqD_nil (b : Bool) {xs : List (List Int)} : eqD b (.lst (xs.map gD)) (.lst []) = some (.bl (if b then !xs.isEmpty else xs.isEmpty)) := by
  have a1 : ∀ g : List Int, toPys (g.map D.int) = some (g.map PyData.int) := by
    intro g
    induction g with
    | nil => rfl
    | cons i g ih =>
      show (match toPy (.int i), toPys (g.map D.int) with | some d, some ds => some (d :: ds) | _, _ => none) = _
      rw [ih]
      rfl
  have a2 : ∀ xs : List (List Int), toPys (xs.map gD) = some (xs.map fun g => PyData.tuple (g.map .int)) := by
    intro xs
    induction xs with
    | nil => rfl
    | cons g xs ih =>
      show (match (toPys (g.map D.int)).map PyData.tuple, toPys (xs.map gD) with | some d, some ds => some (d :: ds) | _, _ => none) = _
      rw [ih, a1]
      rfl
  have b1 : ∀ g : List Int, PyData.canLayAll0 (g.map PyData.int) = true ∧ PyData.depthAll (g.map PyData.int) = 0 := by
    intro g
    induction g with
    | nil => exact ⟨rfl, rfl⟩
    | cons i g ih => exact ⟨by simp [PyData.canLayAll0, PyData.canLay0, ih.1], by simp [PyData.depthAll, PyData.depth, ih.2]⟩
  have b2 : ∀ xs : List (List Int), PyData.canLayAll0 (xs.map fun g => PyData.tuple (g.map .int)) = true ∧ PyData.depthAll (xs.map fun g => PyData.tuple (g.map .int)) ≤ 1 := by
    intro xs
    induction xs with
    | nil => exact ⟨rfl, by simp [PyData.depthAll]⟩
    | cons g xs ih =>
      refine ⟨by simp [PyData.canLayAll0, PyData.canLay0, (b1 g).1, ih.1], ?_⟩
      have := ih.2
      simp only [List.map_cons, PyData.depthAll, PyData.depth, (b1 g).2]
      omega
  have s1 : SeqAt.shaped (.list (xs.map fun g => PyData.tuple (g.map .int))) = true := by
    have := (b2 xs).2
    have e : PyData.depth (.list (xs.map fun g => PyData.tuple (g.map .int))) = PyData.depthAll (xs.map fun g => PyData.tuple (g.map .int)) + 1 := by simp [PyData.depth]
    have e2 : PyData.canLay0 (.list (xs.map fun g => PyData.tuple (g.map .int))) = true := by
      unfold PyData.canLay0
      exact (b2 xs).1
    unfold SeqAt.shaped
    rw [e, e2, Bool.true_and, decide_eq_true_eq]
    omega
  have s2 : SeqAt.shaped (.list []) = true := by decide +kernel
  have p1 : toPy (.lst (xs.map gD)) = some (.list (xs.map fun g => PyData.tuple (g.map .int))) := by
    show (toPys (xs.map gD)).map _ = _
    rw [a2]
    rfl
  have p2 : toPy (.lst []) = some (.list []) := rfl
  unfold eqD deq
  simp only [p1, p2, s1, s2, Bool.and_self, if_true]
  cases xs <;> cases b <;> rfl
theorem r_queue (n : Nat) {o k : Nat} {t : Int} {S : Store} {Q : D → Store → Prop} (h : Dk S o k) (hk : k ≤ 50000) (t1 : 1 ≤ t) (t9 : t ≤ 9) (q : ∀ q S', QDr q t → Dk S' o (k + 30) → Q (qD q) S') : wp (Phi GG fns (n + 4) K__law_queue [.obj o, .int t]) S Q := by
  rw [e__law_queue]
  unfold m__law_queue
  have t0 : tupO [] = some (.tup []) := Eq.trans rfl rfl
  have t1' : ∀ a : D, tupO [a] = some (.tup [a]) := fun a => Eq.trans rfl rfl
  have l4 : ∀ a b c d : D, lstO [a, b, c, d] = some [a, b, c, d] := fun a b c d => lstO_le (by simp)
  have l0 : lstO [] = some [] := lstO_le (by simp)
  simp only [wp_bnd]
  refine r_pick (n + 2) h (by omega) (by decide) (by decide) fun m S1 m0 m1 hS1 => ?_
  simp only [addD_int, oS, bR, wp_bnd, wp_ret]
  refine r_row n hS1 (by omega) (by omega) (by omega) t1 t9 fun row S2 hrow hS2 => ?_
  simp only [t0, l4, oS, bR, asgn_many, setMany_nil, setMany_cons, List.set_cons_zero, List.set_cons_succ, getV_zero, getV_succ, wp_bnd, wp_ret]
  refine r_one (n + 1) hS2 (by omega) (by simp) (by simp) fun c S3 hc hS3 => ?_
  have hc : ∃ i : Int, c = .int i ∧ 0 ≤ i ∧ i ≤ 2 := by
    simp only [List.mem_cons, List.not_mem_nil, or_false] at hc
    rcases hc with rfl | rfl | rfl | rfl
    · exact ⟨0, rfl, by decide, by decide⟩
    · exact ⟨0, rfl, by decide, by decide⟩
    · exact ⟨1, rfl, by decide, by decide⟩
    · exact ⟨2, rfl, by decide, by decide⟩
  obtain ⟨i, rfl, i0, i2⟩ := hc
  rw [irng_int i0 (by omega), oS, wp_ret]
  have hl4 : row.length ≤ 4 := by
    have := hrow.lm
    omega
  refine forC_wp (fun xs ρ S' => ∃ (fs : List Fact) (s3 s6 : Slot), ρ = [.val (.obj o), .val (.int t), .val (.int (2 + m)), s3, .val (.tup (row.map .int)), .val (.tup (fs.map fD)), s6] ∧ (∃ j, Dk S' o (k + 15 + 5 * j) ∧ j + xs.length ≤ 2) ∧ fs.length + xs.length ≤ 2 ∧ (∀ f ∈ fs, FactOk row.length f) ∧
    ∃ gs ∈ allG 4 (row.length + 1), keepsB fs gs = true) ?_ ?_ _ _ _ ⟨[], .un, .un, rfl, ⟨0, hS3.mono (by omega), by simp; omega⟩, by simp; omega, (fun f hf => nomatch hf), ?_⟩
  · rintro ρ S' ⟨fs, s3, s6, rfl, ⟨j, hS', hj⟩, hfl, hfs, hcan⟩
    simp only [List.length_nil, Nat.add_zero] at hj hfl
    simp only [getV_zero, getV_succ, oS, bR, tupO3, wp_ret]
    exact q ⟨2 + m, row, fs⟩ S' ⟨by show 2 ≤ 2 + m; omega, by show 2 + m ≤ 4; omega, hrow, hfl, hfs, hcan⟩ (hS'.mono (by omega))
  · rintro x xs ρ S' kk ⟨fs, s3, s6, rfl, ⟨j, hS', hj⟩, hfl, hfs, hcan⟩ hk'
    rw [List.length_cons] at hj hfl
    simp only [asgn_one, List.set_cons_zero, List.set_cons_succ, getV_zero, getV_succ, oS, bR, lenD_tup, List.length_map, wp_bnd]
    refine r_fact n hS' (by omega) hl4 fun f S4 hf hS4 => ?_
    have hf' : ∀ g ∈ fs ++ [f], FactOk row.length g := fun g hg => by
      rcases List.mem_append.mp hg with e | e
      · exact hfs g e
      · rw [List.mem_singleton] at e
        exact e ▸ hf
    have ec : addD (.tup (fs.map fD)) (.tup [fD f]) = some (.tup ((fs ++ [f]).map fD)) := by
      rw [addD_tup (by simp; omega), List.map_append]
      rfl
    have rb := r_boxes (n + 1) (m := .int (2 + m)) (row := row.map .int) (fs := fs ++ [f]) (t := 4) (fun g hg => by
      have hh := hf' g hg
      have := hh.ab; have := hh.b1
      rw [List.length_map]
      omega) (by rw [List.length_map]; exact Nat.le_trans (Nat.pow_le_pow_right (by decide) (show row.length + 1 ≤ 5 by omega)) (by decide)) (by rw [List.length_map]; omega) (by decide)
    have rb : Phi GG fns (n + 3) K__law_boxes [.tup [.int (2 + m), .tup (row.map .int), .tup ((fs ++ [f]).map fD)], .int 4] = _ := rb
    simp only [t1', ec, oS, bR, List.set_cons_zero, List.set_cons_succ, getV_zero, getV_succ, tupO3, rb, l0, eqD_nil, isB_bl, wp_bnd, wp_ret, if_true]
    refine wp_ite (fun k1 => ?_) (fun k1 => ?_)
    · refine hk' _ _ ⟨fs ++ [f], _, _, rfl, ⟨j + 1, hS4.mono (by omega), by omega⟩, by rw [List.length_append, List.length_singleton]; omega, hf', ?_⟩
      rw [List.length_map] at k1
      cases hb : boxes row.length (fs ++ [f]) 4 with
      | nil => rw [hb] at k1; cases k1
      | cons g l =>
        have hg : g ∈ boxes row.length (fs ++ [f]) 4 := by rw [hb]; exact List.mem_cons_self
        unfold boxes at hg
        rw [List.mem_filter] at hg
        exact ⟨g, hg.1, hg.2⟩
    · exact hk' _ _ ⟨fs, _, _, rfl, ⟨j + 1, hS4.mono (by omega), by omega⟩, by omega, hfs, hcan⟩
  · refine ⟨List.replicate (row.length + 1) 0, allG_of (by simp) fun x hx => ?_, rfl⟩
    rw [List.eq_of_mem_replicate hx]
    decide
end PV

set_option Elab.async false
set_option linter.all false
set_option maxRecDepth 100000
set_option maxHeartbeats 4000000
/-! PvQc: equal things; texts written here. -/
namespace PV
open PySem PySem.Spec PyProof.Rows L2 TL
/-! ### the same -/
mutual
def dp : D → Nat
  | .tup xs => dps xs + 1
  | .lst xs => dps xs + 1
  | _ => 0
def dps : List D → Nat
  | [] => 0
  | x :: xs => max (dp x) (dps xs)
end
theorem dps_mem : ∀ {xs : List D} {x : D}, x ∈ xs → dp x ≤ dps xs
  | [], _, h => by cases h
  | y :: ys, x, h => by
    unfold dps
    rcases List.mem_cons.mp h with e | e
    · subst e
      exact Nat.le_max_left _ _
    · exact Nat.le_trans (dps_mem e) (Nat.le_max_right _ _)
def sortN : D → Int
  | .bl _ => 1
  | .int _ => 2
  | .str _ => 3
  | .lst _ => 4
  | .tup _ => 5
  | _ => 6
theorem r_sort (n : Nat) {d : D} (h : okD d = true) : Phi GG fns (n + 1) K__law_sort [d] = ret (.int (sortN d)) := by
  rw [e__law_sort]
  cases d <;> first | rfl | cases h
theorem enum_mem : ∀ {xs : List D} {k : Nat} {y : D}, y ∈ enumL k xs → ∃ i x, y = .tup [.int ((k + i : Nat) : Int), x] ∧ xs[i]? = some x
  | [], _, _, h => by cases h
  | x :: xs, k, y, h => by
    rcases List.mem_cons.mp h with e | e
    · exact ⟨0, x, e, rfl⟩
    · obtain ⟨i, z, e1, e2⟩ := enum_mem e
      refine ⟨i + 1, z, ?_, by rw [List.getElem?_cons_succ]; exact e2⟩
      rw [e1]
      have : k + 1 + i = k + (i + 1) := by omega
      rw [this]
theorem ienum_tup (xs : List D) : ienumD (.tup xs) = some (enumL 0 xs) := Eq.trans rfl rfl
theorem filt_none {f : D → Mm (Option D)} {xs : List D} (h : ∀ x ∈ xs, f x = ret none) : mapO f xs = ret [] := by
  rw [mapO_flt (g := fun _ => none) h]
  have : xs.filterMap (fun _ => (none : Option D)) = [] := by
    rw [List.filterMap_eq_nil_iff]
    exact fun _ _ => rfl
  rw [this]
theorem eqD_nn : eqD false (.lst []) (.lst []) = some (.bl true) := by
  have := eqD_nil false (xs := [])
  exact this
theorem r_same : ∀ (n : Nat) (d : D), okD d = true → dp d ≤ n → Phi GG fns (n + 2) K__law_same [d, d] = ret (.bl true)
  | n, d, h, hd => by
    rw [e__law_same]
    unfold m__law_same
    have l0 : lstO [] = some [] := lstO_nil
    simp only [r_sort n h, bR, neD_int, decide_true, Bool.not_true, oS, isB_bl, Bool.false_eq_true, if_false, ord_int]
    have key : ∀ (xs : List D) (Z : D), (Z = .tup xs ∨ Z = .lst xs) → (∀ x ∈ xs, okD x = true) → dps xs + 1 ≤ n → mapO (fun x16 => bnd (opt (asgn (.many [2, 3]) x16 [.val Z, .val Z, .un, .un])) fun ρ17 => bnd (nox (bnd (bnd (bnd (bnd (opt (getV ρ17 3)) fun t18 => bnd (bnd (bnd (opt (getV ρ17 1)) fun t19 => bnd (opt (getV ρ17 2)) fun t20 => rd fun S => idxD S t19 t20) fun t21 => ret ([t21])) fun t22 => ret ((t18 :: t22))) fun t23 => Phi GG fns (n + 1) K__law_same t23) fun t24 => opt (isB t24)) fun q25 => ret ((!q25)))) fun b26 => if b26 = true then bnd (nox (opt (getV ρ17 2))) fun d27 => ret (some d27) else ret none) (enumL 0 xs) = ret [] := by
      intro xs Z hZ hx hn
      refine filt_none fun y hy => ?_
      obtain ⟨i, x, rfl, hi⟩ := enum_mem hy
      have hxm := List.mem_of_getElem? hi
      have ix : (rd fun S => idxD S Z (.int ((0 + i : Nat) : Int))) = ret x := by
        rw [Nat.zero_add]
        rcases hZ with rfl | rfl
        · rw [rd_tup, atI_ix hi, oS]
        · rw [rd_lst, atI_ix hi, oS]
      have hle := dps_mem hxm
      obtain ⟨j, rfl⟩ : ∃ j, n = j + 1 := ⟨n - 1, by omega⟩
      have ih := r_same j x (hx x hxm) (by omega)
      simp only [asgn_many, setMany_nil, setMany_cons, List.set_cons_zero, List.set_cons_succ, getV_zero, getV_succ, oS, bR, ix, ih, isB_bl, nR, Bool.not_true, Bool.false_eq_true, if_false]
    have rest : (3 : Int) < 4 ∧ (4 : Int) < 6 ∧ (3 : Int) < 5 ∧ (5 : Int) < 6 := by decide
    obtain ⟨g1, g2, g3, g4⟩ := rest
    cases d with
    | tup xs =>
      have hx : ∀ x ∈ xs, okD x = true := fun x hx => okDs_mem h hx
      have hd : dps xs + 1 ≤ n := hd
      simp only [sortN, g3, g4, decide_true, if_true, bR, oS, isB_bl, lenD_tup, neD_int, Bool.not_true, Bool.false_eq_true, if_false, ienum_tup]
      rw [key xs _ (.inl rfl) hx hd]
      simp only [bR, l0, oS, eqD_nn]
    | lst xs =>
      have hx : ∀ x ∈ xs, okD x = true := fun x hx => okDs_mem h hx
      have hd : dps xs + 1 ≤ n := hd
      simp only [sortN, g1, g2, decide_true, if_true, bR, oS, isB_bl, lenD_lst, neD_int, Bool.not_true, Bool.false_eq_true, if_false, ienum_lst]
      rw [key xs _ (.inr rfl) hx hd]
      simp only [bR, l0, oS, eqD_nn]
    | obj _ => cases h
    | fn _ => cases h
    | exn _ => cases h
    | non => rfl
    | bl b => cases b <;> rfl
    | int i =>
      have e : eqD false (.int i) (.int i) = some (.bl true) := by
        rw [eqD_int, decide_eq_true rfl]
      simp only [sortN, e, bR, oS, isB_bl]
      rfl
    | str a =>
      have e : eqD false (.str a) (.str a) = some (.bl true) := by
        rw [eqD_str h h]
        simp
      simp only [sortN, e, bR, oS, isB_bl]
      rfl
/-! ### texts by words -/
theorem addD_str {a b : Str} (h : a.length + b.length ≤ 1000000) : addD (.str a) (.str b) = some (.str (a ++ b)) := by
  show (if a.length + b.length ≤ sizeLine then some (D.str (a ++ b)) else none) = _
  rw [if_pos (Nat.le_trans h (by decide))]
theorem joinL_cons (S p : List Nat) : ∀ ps : List (List Nat), joinL S (p :: ps) = p ++ (ps.map (S ++ ·)).flatten
  | [] => by simp [joinL]
  | q :: ps => by
    show p ++ (S ++ joinL S (q :: ps)) = _
    rw [joinL_cons S q ps, List.map_cons, List.flatten_cons, List.append_assoc]
def rowF (acc : Str) (row : List Int) : Str := row.foldl (fun a i => (a ++ " ") ++ strI i) acc
theorem tl_rowF : ∀ (row : List Int) (acc : Str), tl (rowF acc row) = tl acc ++ ((row.map fun i => tl (strI i)).map ([32] ++ ·)).flatten
  | [], acc => by simp [rowF]
  | i :: row, acc => by
    show tl (rowF ((acc ++ " ") ++ strI i) row) = _
    rw [tl_rowF row, tl_append, tl_append, tl_sp, List.map_cons, List.map_cons, List.flatten_cons, List.append_assoc, List.append_assoc, List.append_assoc]
def markF (f : Fact) : Str := (("\ngap " ++ strI (f.a : Nat)) ++ " ") ++ strI (f.b : Nat)
def factF (acc : Str) (f : Fact) : Str := ((((acc ++ markF f) ++ " from ") ++ strI f.lo) ++ " to ") ++ hiT f.hi
theorem tl_factF (acc : Str) (f : Fact) : tl (factF acc f) = tl acc ++ ([10] ++ tl (factT f)) := by
  unfold factF markF factT
  have e1 : tl "\ngap " = [10] ++ (tl "gap" ++ [32]) := by decide +kernel
  have e2 : tl " from " = [32] ++ (tl "from" ++ [32]) := by decide +kernel
  have e3 : tl " to " = [32] ++ (tl "to" ++ [32]) := by decide +kernel
  rw [tl_jn]
  simp only [tl_append, factW, List.map_cons, List.map_nil, joinL, e1, e2, e3, tl_sp, List.append_assoc]
theorem tl_factsF : ∀ (fs : List Fact) (acc : Str), tl (fs.foldl factF acc) = tl acc ++ ((fs.map fun f => tl (factT f)).map ([10] ++ ·)).flatten
  | [], acc => by simp
  | f :: fs, acc => by
    rw [List.foldl_cons, tl_factsF fs, tl_factF, List.map_cons, List.map_cons, List.flatten_cons, List.append_assoc, List.append_assoc]
def writeT (q : Qu) : Str := q.fs.foldl factF (rowF (("people " ++ strI q.m) ++ "\nrow") q.row)
theorem writeT_eq (q : Qu) : writeT q = qText q := by
  refine ext_tl ?_
  unfold writeT qText qLines rowW
  have e1 : tl "people " = tl "people" ++ [32] := by decide +kernel
  have e2 : tl "\nrow" = [10] ++ tl "row" := by decide +kernel
  rw [tl_factsF, tl_rowF]
  simp only [tl_append, e1, e2, tl_jn, tl_nl, tl_sp, joinL_cons, List.map_map, List.map_cons, List.map_nil, List.flatten_cons, List.flatten_nil, List.append_assoc, List.append_nil, Function.comp_def]
theorem hiT_str {f : Fact} (h : FactS f) : (bnd (bnd (opt (isND false (oD f.hi) .non)) fun t42 => opt (isB t42)) fun q43 => if q43 = true then ret (D.str "any") else opt (strD [oD f.hi])) = ret (.str (hiT f.hi)) := by
  cases q : f.hi with
  | none => rfl
  | some k =>
    have hk := h.hi k q
    unfold sm at hk
    have fk := strD_int hk.1 (by omega : k < 1000000)
    simp only [oD, bR, isND_non, oS, isB_bl, isNon, Bool.false_eq_true, if_false, fk, hiT]
theorem strD_sm {i : Int} (h : sm i) : strD [.int i] = some (.str (strI i)) := strD_int h.1 (by have := h.2; omega)
def lineF (acc : Str) (xs : List D) : Str := xs.foldl (fun a x => (a ++ " ") ++ strW x) acc
theorem tl_lineF : ∀ (xs : List D) (acc : Str), tl (lineF acc xs) = tl acc ++ ((xs.map fun x => tl (strW x)).map ([32] ++ ·)).flatten
  | [], acc => by simp [lineF]
  | i :: row, acc => by
    show tl (lineF ((acc ++ " ") ++ strW i) row) = _
    rw [tl_lineF row, tl_append, tl_append, tl_sp, List.map_cons, List.map_cons, List.flatten_cons, List.append_assoc, List.append_assoc, List.append_assoc]
theorem DeedF.line {d : D} {w : Str} {rest : List D} (h : DeedF d w rest) : lineF w rest = dText d := by
  refine ext_tl ?_
  unfold dText
  rw [tl_lineF, tl_jn, h.words, tl_sp, List.map_cons, joinL_cons, List.map_map, List.map_map, List.map_map]
  rfl
theorem slc_1 (d : D) (xs : List D) : slcD (.tup (d :: xs)) (some 1) none = some (.tup xs) := slc1 d xs
theorem appO_le {xs : List D} {d : D} (h : xs.length ≤ 1000000) : appO xs d = some (xs ++ [d]) := by
  unfold appO
  rw [if_pos (Nat.lt_of_le_of_lt h (by decide))]
end PV

set_option Elab.async false
set_option linter.all false
set_option maxRecDepth 100000
set_option maxHeartbeats 4000000
/-! PvRa: bounds that stand have numbers within them. -/
namespace PV
open PySem PySem.Spec PyProof.Rows L2 TL
/-- bounds that are as near as can be -/
structure Cl (N : Nat) (B : Mx) : Prop where
  sq : sq N B
  dg : ∀ i, i < N → ent B i i = some 0
  tr : ∀ i j k a b, i < N → j < N → k < N → ent B i j = some a → ent B j k = some b → ∃ c, ent B i k = some c ∧ c ≤ a + b
def Le (N : Nat) (B B' : Mx) : Prop := ∀ i j a, i < N → j < N → ent B i j = some a → ∃ c, ent B' i j = some c ∧ c ≤ a
theorem Le.refl (N : Nat) (B : Mx) : Le N B B := fun i j a _ _ e => ⟨a, e, Int.le_refl _⟩
theorem Le.trans {N : Nat} {A B C : Mx} (h : Le N A B) (h2 : Le N B C) : Le N A C := fun i j a hi hj e => by
  obtain ⟨c, e1, l1⟩ := h i j a hi hj e
  obtain ⟨d, e2, l2⟩ := h2 i j c hi hj e1
  exact ⟨d, e2, by omega⟩
theorem cl_B0 (N : Nat) : Cl N (B0 N) := by
  have e : ∀ i j, i < N → j < N → ent (B0 N) i j = if i = j then some 0 else none := fun i j hi hj => ent_mkM hi hj
  refine ⟨sq_mkM N _, fun i hi => by rw [e i i hi hi, if_pos rfl], fun i j k a b hi hj hk h1 h2 => ?_⟩
  rw [e i j hi hj] at h1
  rw [e j k hj hk] at h2
  split at h1
  · split at h2
    · rename_i q1 q2
      subst q1 q2
      cases h1
      cases h2
      exact ⟨0, by rw [e i i hi hi, if_pos rfl], by omega⟩
    · cases h2
  · cases h1
theorem clo_inv {B : Mx} {o t : Nat} {m : Int} {i j : Nat} {x : Int} (h : cloM B o t m i j = some x) : ent B i j = some x ∨ ∃ p q, ent B i o = some p ∧ ent B t j = some q ∧ x = p + m + q := by
  unfold cloM at h
  cases q1 : ent B i o with
  | none =>
    rw [q1] at h
    cases q3 : ent B i j with
    | none => rw [q3] at h; cases h
    | some y => rw [q3] at h; exact .inl h
  | some p =>
    cases q2 : ent B t j with
    | none =>
      rw [q1, q2] at h
      cases q3 : ent B i j with
      | none => rw [q3] at h; cases h
      | some y => rw [q3] at h; exact .inl h
    | some q =>
      rw [q1, q2] at h
      cases q3 : ent B i j with
      | none => rw [q3] at h; cases h; exact .inr ⟨p, q, rfl, rfl, rfl⟩
      | some y =>
        rw [q3] at h
        have h : some (if p + m + q < y then p + m + q else y) = some x := h
        split at h
        · cases h; exact .inr ⟨p, q, rfl, rfl, rfl⟩
        · exact .inl h
theorem clo_dir {B : Mx} {o t : Nat} {m : Int} {i j : Nat} {a : Int} (h : ent B i j = some a) : ∃ c, cloM B o t m i j = some c ∧ c ≤ a := by
  unfold cloM
  rw [h]
  cases q : sumO (sumO (ent B i o) (some m)) (ent B t j) with
  | none => exact ⟨a, rfl, Int.le_refl _⟩
  | some y =>
    refine ⟨if y < a then y else a, rfl, ?_⟩
    split <;> omega
theorem clo_via {B : Mx} {o t : Nat} {m : Int} {i j : Nat} {p q : Int} (h : ent B i o = some p) (h2 : ent B t j = some q) : ∃ c, cloM B o t m i j = some c ∧ c ≤ p + m + q := by
  unfold cloM
  rw [h, h2]
  cases q3 : ent B i j with
  | none => exact ⟨p + m + q, rfl, Int.le_refl _⟩
  | some y =>
    refine ⟨if p + m + q < y then p + m + q else y, rfl, ?_⟩
    split <;> omega
theorem cl_wb {N : Nat} {B B' : Mx} {o t : Nat} {m : Int} (C : Cl N B) (ho : o < N) (ht : t < N) (e : wbM N B o t m = some B') : Cl N B' ∧ Le N B B' ∧ ∃ c, ent B' o t = some c ∧ c ≤ m := by
  unfold wbM at e
  split at e
  · cases e
  · rename_i hl
    have hb : ∀ k, ent B t o = some k → 0 ≤ k + m := fun k hk => by
      rw [hk] at hl
      have : ¬ (decide (k + m < 0) = true) := hl
      rw [decide_eq_true_eq] at this
      omega
    split at e
    · rename_i hle
      cases e
      refine ⟨C, Le.refl _ _, ?_⟩
      cases q : ent B o t with
      | none => rw [q] at hle; cases hle
      | some k =>
        rw [q] at hle
        have : decide (k ≤ m) = true := hle
        exact ⟨k, rfl, of_decide_eq_true this⟩
    · cases e
      have E : ∀ i j, i < N → j < N → ent (mkM N (cloM B o t m)) i j = cloM B o t m i j := fun i j hi hj => ent_mkM hi hj
      have vi : ∀ i j p q, i < N → j < N → ent B i o = some p → ent B t j = some q → ∃ c, ent (mkM N (cloM B o t m)) i j = some c ∧ c ≤ p + m + q := fun i j p q hi hj h1 h2 => by
        rw [E i j hi hj]
        exact clo_via h1 h2
      have di : ∀ i j a, i < N → j < N → ent B i j = some a → ∃ c, ent (mkM N (cloM B o t m)) i j = some c ∧ c ≤ a := fun i j a hi hj h1 => by
        rw [E i j hi hj]
        exact clo_dir h1
      refine ⟨⟨sq_mkM N _, fun i hi => ?_, fun i j k a b hi hj hk h1 h2 => ?_⟩, di, ?_⟩
      · obtain ⟨c, e1, l1⟩ := di i i 0 hi hi (C.dg i hi)
        have e2 := e1
        rw [E i i hi hi] at e2
        rw [e1]
        rcases clo_inv e2 with z | ⟨p, q, z1, z2, rfl⟩
        · rw [C.dg i hi] at z
          cases z
          rfl
        · obtain ⟨d, y1, y2⟩ := C.tr t i o q p ht hi ho z2 z1
          have := hb d y1
          exact congrArg some (by omega)
      · rw [E i j hi hj] at h1
        rw [E j k hj hk] at h2
        rcases clo_inv h1 with z | ⟨p, q, z1, z2, rfl⟩
        · rcases clo_inv h2 with y | ⟨p', q', y1, y2, rfl⟩
          · obtain ⟨c, e1, l1⟩ := C.tr i j k a b hi hj hk z y
            obtain ⟨d, e2, l2⟩ := di i k c hi hk e1
            exact ⟨d, e2, by omega⟩
          · obtain ⟨c, e1, l1⟩ := C.tr i j o a p' hi hj ho z y1
            obtain ⟨d, e2, l2⟩ := vi i k c q' hi hk e1 y2
            exact ⟨d, e2, by omega⟩
        · rcases clo_inv h2 with y | ⟨p', q', y1, y2, rfl⟩
          · obtain ⟨c, e1, l1⟩ := C.tr t j k q b ht hj hk z2 y
            obtain ⟨d, e2, l2⟩ := vi i k p c hi hk z1 e1
            exact ⟨d, e2, by omega⟩
          · obtain ⟨c, e1, l1⟩ := C.tr t j o q p' ht hj ho z2 y1
            obtain ⟨d, e2, l2⟩ := vi i k p q' hi hk z1 y2
            have := hb c e1
            exact ⟨d, e2, by omega⟩
      · obtain ⟨d, e2, l2⟩ := vi o t 0 0 ho ht (C.dg o ho) (C.dg t ht)
        exact ⟨d, e2, by omega⟩
def Ub (B : Mx) (i j : Nat) (m : Int) : Prop := ∃ c, ent B i j = some c ∧ c ≤ m
theorem Ub.le {N : Nat} {B B' : Mx} {i j : Nat} {m : Int} (h : Ub B i j m) (l : Le N B B') (hi : i < N) (hj : j < N) : Ub B' i j m := by
  obtain ⟨c, e, q⟩ := h
  obtain ⟨d, e2, q2⟩ := l i j c hi hj e
  exact ⟨d, e2, by omega⟩
theorem cl_beg1 (N : Nat) : ∀ k B, k < N → beg1 N k = some B → Cl N B ∧ ∀ i, i < k → Ub B i (i + 1) 0
  | 0, B, _, e => by
    cases e
    exact ⟨cl_B0 N, fun i h => absurd h (Nat.not_lt_zero i)⟩
  | k + 1, B, hk, e => by
    have e : (beg1 N k).bind (fun B => wbM N B k (k + 1) 0) = some B := e
    cases q : beg1 N k with
    | none => rw [q] at e; cases e
    | some B1 =>
      rw [q] at e
      have e : wbM N B1 k (k + 1) 0 = some B := e
      obtain ⟨C, u⟩ := cl_beg1 N k B1 (by omega) q
      obtain ⟨C2, l, x⟩ := cl_wb C (by omega) hk e
      refine ⟨C2, fun i hi => ?_⟩
      by_cases z : i = k
      · subst z
        exact x
      · exact (u i (by omega)).le l (by omega) (by omega)
theorem fact1_none (N : Nat) (f : Fact) : fact1 N none f = none := by
  unfold fact1
  cases f.hi <;> rfl
theorem facts_none (N : Nat) : ∀ fs : List Fact, fs.foldl (fact1 N) none = none
  | [] => rfl
  | f :: fs => by
    rw [List.foldl_cons, fact1_none]
    exact facts_none N fs
def FUb (B : Mx) (f : Fact) : Prop := Ub B f.a f.b (-f.lo) ∧ ∀ h, f.hi = some h → Ub B f.b f.a h
theorem cl_facts {N : Nat} : ∀ (fs : List Fact) (B B' : Mx), (∀ f ∈ fs, f.a < N ∧ f.b < N) → Cl N B → fs.foldl (fact1 N) (some B) = some B' → Cl N B' ∧ Le N B B' ∧ ∀ f ∈ fs, FUb B' f
  | [], B, B', _, C, e => by
    cases e
    exact ⟨C, Le.refl _ _, fun f h => nomatch h⟩
  | f :: fs, B, B', hf, C, e => by
    rw [List.foldl_cons] at e
    obtain ⟨ha, hb⟩ := hf f List.mem_cons_self
    have hf2 : ∀ g ∈ fs, g.a < N ∧ g.b < N := fun g hg => hf g (List.mem_cons_of_mem _ hg)
    cases q : fact1 N (some B) f with
    | none => rw [q, facts_none] at e; cases e
    | some B2 =>
      rw [q] at e
      unfold fact1 at q
      have q : (match wbM N B f.a f.b (-f.lo), f.hi with | some B, some h => wbM N B f.b f.a h | C, _ => C) = some B2 := q
      cases q1 : wbM N B f.a f.b (-f.lo) with
      | none => rw [q1] at q; cases q
      | some B1 =>
        rw [q1] at q
        obtain ⟨C1, l1, u1⟩ := cl_wb C ha hb q1
        have key : Cl N B2 ∧ Le N B B2 ∧ FUb B2 f := by
          cases q2 : f.hi with
          | none =>
            rw [q2] at q
            cases q
            exact ⟨C1, l1, u1, fun h z => by rw [q2] at z; cases z⟩
          | some h =>
            rw [q2] at q
            have q : wbM N B1 f.b f.a h = some B2 := q
            obtain ⟨C2, l2, u2⟩ := cl_wb C1 hb ha q
            refine ⟨C2, l1.trans l2, Ub.le u1 l2 ha hb, fun h' z => ?_⟩
            rw [q2] at z
            cases z
            exact u2
        obtain ⟨C2, l2, u2⟩ := key
        obtain ⟨C3, l3, u3⟩ := cl_facts fs B2 B' hf2 C2 e
        refine ⟨C3, l2.trans l3, fun g hg => ?_⟩
        rcases List.mem_cons.mp hg with rfl | hg
        · exact ⟨u2.1.le l3 ha hb, fun h z => (u2.2 h z).le l3 hb ha⟩
        · exact u3 g hg
/-- numbers that go up, as the facts ask -/
structure Sol (r : Nat) (fs : List Fact) (s : Nat → Int) : Prop where
  nn : ∀ i, i < r + 2 → 0 ≤ s i
  up : ∀ i, i + 1 < r + 2 → s i ≤ s (i + 1)
  lo : ∀ f ∈ fs, s f.a + f.lo ≤ s f.b
  hi : ∀ f ∈ fs, ∀ h, f.hi = some h → s f.b - h ≤ s f.a
theorem begin_sol {r : Nat} {fs : List Fact} (hf : ∀ f ∈ fs, f.a < r + 2 ∧ f.b < r + 2) (h : (beginM r fs).isSome = true) : ∃ s, Sol r fs s := by
  unfold beginM at h
  cases q : beg1 (r + 2) (r + 1) with
  | none => rw [q, facts_none] at h; cases h
  | some B1 =>
    rw [q] at h
    cases q2 : fs.foldl (fact1 (r + 2)) (some B1) with
    | none => rw [q2] at h; cases h
    | some B =>
      obtain ⟨C1, u1⟩ := cl_beg1 (r + 2) (r + 1) B1 (by omega) q
      obtain ⟨C, l, u⟩ := cl_facts fs B1 B hf C1 q2
      have u1 : ∀ i, i < r + 1 → Ub B i (i + 1) 0 := fun i hi => (u1 i hi).le l (by omega) (by omega)
      have z : ∀ v, v < r + 2 → Ub B 0 v 0 := by
        intro v
        induction v with
        | zero => exact fun hv => ⟨0, C.dg 0 hv, Int.le_refl _⟩
        | succ v ih =>
          intro hv
          obtain ⟨c, e, q⟩ := ih (by omega)
          obtain ⟨d, e2, q2⟩ := u1 v (by omega)
          obtain ⟨x, e3, q3⟩ := C.tr 0 v (v + 1) c d (by omega) (by omega) hv e e2
          exact ⟨x, e3, by omega⟩
      have key : ∀ i j m, i < r + 2 → j < r + 2 → Ub B i j m → -(ent B 0 i).getD 0 - -(ent B 0 j).getD 0 ≤ m := by
        intro i j m hi hj ⟨c, e, q⟩
        obtain ⟨a, e1, _⟩ := z i hi
        obtain ⟨x, e3, q3⟩ := C.tr 0 i j a c (by omega) hi hj e1 e
        rw [e1, e3]
        show -a - -x ≤ m
        omega
      refine ⟨fun v => -(ent B 0 v).getD 0, fun i hi => ?_, fun i hi => ?_, fun f hm => ?_, fun f hm h hh => ?_⟩
      · obtain ⟨c, e, q⟩ := z i hi
        show 0 ≤ -(ent B 0 i).getD 0
        rw [e]
        show 0 ≤ -c
        omega
      · have := key i (i + 1) 0 (by omega) hi (u1 i (by omega))
        show -(ent B 0 i).getD 0 ≤ -(ent B 0 (i + 1)).getD 0
        omega
      · have := key f.a f.b _ (hf f hm).1 (hf f hm).2 (u f hm).1
        show -(ent B 0 f.a).getD 0 + f.lo ≤ -(ent B 0 f.b).getD 0
        omega
      · have := key f.b f.a _ (hf f hm).2 (hf f hm).1 ((u f hm).2 h hh)
        show -(ent B 0 f.b).getD 0 - h ≤ -(ent B 0 f.a).getD 0
        omega
end PV

set_option Elab.async false
set_option linter.all false
set_option maxRecDepth 100000
set_option maxHeartbeats 4000000
/-! PvRb: raising numbers until they fit. -/
namespace PV
open PySem PySem.Spec PyProof.Rows L2 TL
abbrev Fn1 := Nat → Int
/-- x v is at least x u + w -/
structure Ed where
  u : Nat
  v : Nat
  w : Int
def raise (x : Fn1) (e : Ed) : Fn1 := fun i => if i = e.v then (if x e.u + e.w > x e.v then x e.u + e.w else x e.v) else x i
def turn (es : List Ed) (x : Fn1) : Fn1 := es.foldl raise x
def fEd (f : Fact) : List Ed := ⟨f.a, f.b, f.lo⟩ :: (match f.hi with | none => [] | some h => [⟨f.b, f.a, -h⟩])
def allEd (r : Nat) (fs : List Fact) : List Ed := (fs.map fEd).flatten ++ (List.range (r + 1)).map fun i => ⟨i, i + 1, 0⟩
theorem raise_up (x : Fn1) (e : Ed) (i : Nat) : x i ≤ raise x e i := by
  unfold raise
  split
  · rename_i h
    subst h
    split <;> omega
  · exact Int.le_refl _
theorem raise_at (x : Fn1) (e : Ed) : x e.u + e.w ≤ raise x e e.v := by
  unfold raise
  rw [if_pos rfl]
  split <;> omega
theorem turn_up : ∀ (es : List Ed) (x : Fn1) (i : Nat), x i ≤ turn es x i
  | [], x, i => Int.le_refl _
  | e :: es, x, i => Int.le_trans (raise_up x e i) (turn_up es (raise x e) i)
theorem turn_at : ∀ (es : List Ed) (x : Fn1) (e : Ed), e ∈ es → x e.u + e.w ≤ turn es x e.v
  | d :: es, x, e, h => by
    rcases List.mem_cons.mp h with rfl | h
    · exact Int.le_trans (raise_at x e) (turn_up es (raise x e) e.v)
    · have := turn_at es (raise x d) e h
      have := raise_up x d e.u
      show x e.u + e.w ≤ turn es (raise x d) e.v
      omega
/-- numbers that fit -/
def Fit (es : List Ed) (s : Fn1) : Prop := ∀ e ∈ es, s e.u + e.w ≤ s e.v
theorem raise_le {x s : Fn1} {e : Ed} (h : ∀ i, x i ≤ s i) (he : s e.u + e.w ≤ s e.v) (i : Nat) : raise x e i ≤ s i := by
  unfold raise
  split
  · rename_i q
    subst q
    have := h e.u
    have := h e.v
    split <;> omega
  · exact h i
theorem turn_le : ∀ (es : List Ed) (x s : Fn1), (∀ i, x i ≤ s i) → Fit es s → ∀ i, turn es x i ≤ s i
  | [], x, s, h, _, i => h i
  | e :: es, x, s, h, hf, i => turn_le es (raise x e) s (fun j => raise_le h (hf e List.mem_cons_self) j) (fun d hd => hf d (List.mem_cons_of_mem _ hd)) i
def iter (es : List Ed) : Nat → Fn1 → Fn1
  | 0, x => x
  | k + 1, x => turn es (iter es k x)
/-- the sum of the first N -/
def sumN (s : Fn1) : Nat → Nat
  | 0 => 0
  | N + 1 => sumN s N + (s N).toNat
theorem sumN_le {s t : Fn1} : ∀ N : Nat, (∀ i, i < N → t i ≤ s i) → sumN t N ≤ sumN s N
  | 0, _ => Nat.le_refl _
  | N + 1, h => by
    have := sumN_le N fun i hi => h i (by omega)
    have := h N (by omega)
    unfold sumN
    omega
theorem sumN_lt {s t : Fn1} : ∀ (N v : Nat), v < N → (∀ i, i < N → t i ≤ s i) → t v < s v → 0 ≤ t v → sumN t N < sumN s N
  | 0, v, hv, _, _, _ => absurd hv (Nat.not_lt_zero v)
  | N + 1, v, hv, h, q, q2 => by
    have h1 := sumN_le (s := s) (t := t) N fun i hi => h i (by omega)
    have h2 := h N (by omega)
    unfold sumN
    by_cases z : v = N
    · subst z
      omega
    · have := sumN_lt (s := s) (t := t) N v (by omega) (fun i hi => h i (by omega)) q q2
      omega
theorem least_ex {P : Fn1 → Prop} (N : Nat) : ∀ (n : Nat) (s : Fn1), P s → sumN s N ≤ n → ∃ s, P s ∧ ∀ t, P t → sumN s N ≤ sumN t N
  | 0, s, hs, h => ⟨s, hs, fun t _ => by omega⟩
  | n + 1, s, hs, h => by
    by_cases q : ∃ t, P t ∧ sumN t N < sumN s N
    · obtain ⟨t, ht, l⟩ := q
      exact least_ex N n t ht (by omega)
    · refine ⟨s, hs, fun t ht => ?_⟩
      apply Decidable.byContradiction
      intro z
      exact q ⟨t, ht, by omega⟩
/-- how many are below -/
def below (x s : Fn1) : Nat → Nat
  | 0 => 0
  | N + 1 => below x s N + if x N < s N then 1 else 0
theorem below_le (x s : Fn1) : ∀ N, below x s N ≤ N
  | 0 => Nat.le_refl _
  | N + 1 => by
    have := below_le x s N
    unfold below
    split <;> omega
theorem below_mono {x y s : Fn1} : ∀ N : Nat, (∀ i, i < N → x i ≤ y i) → below y s N ≤ below x s N
  | 0, _ => Nat.le_refl _
  | N + 1, h => by
    have h1 := below_mono (x := x) (y := y) (s := s) N fun i hi => h i (by omega)
    have := h N (by omega)
    unfold below
    split <;> split <;> omega
theorem below_lt {x y s : Fn1} : ∀ (N v : Nat), v < N → (∀ i, i < N → x i ≤ y i) → x v < s v → ¬ y v < s v → below y s N < below x s N
  | 0, v, hv, _, _, _ => absurd hv (Nat.not_lt_zero v)
  | N + 1, v, hv, h, q1, q2 => by
    have h1 := below_mono (x := x) (y := y) (s := s) N fun i hi => h i (by omega)
    have h2 := h N (by omega)
    unfold below
    by_cases z : v = N
    · subst z
      rw [if_pos q1, if_neg q2]
      omega
    · have := below_lt (x := x) (y := y) (s := s) N v (by omega) (fun i hi => h i (by omega)) q1 q2
      split <;> split <;> omega
theorem below_zero {x s : Fn1} : ∀ N : Nat, below x s N = 0 → ∀ i, i < N → ¬ x i < s i
  | 0, _, i, hi => absurd hi (Nat.not_lt_zero i)
  | N + 1, h, i, hi => by
    unfold below at h
    by_cases z : i = N
    · subst z
      intro q
      rw [if_pos q] at h
      omega
    · exact below_zero N (by omega) i (by omega)
section
variable {es : List Ed} {N : Nat} {s : Fn1}
/-- the least numbers that fit -/
structure Least (es : List Ed) (N : Nat) (s : Fn1) : Prop where
  fit : Fit es s
  nn : ∀ i, 0 ≤ s i
  min : ∀ t : Fn1, Fit es t → (∀ i, 0 ≤ t i) → sumN s N ≤ sumN t N
theorem Least.step (L : Least es N s) (hE : ∀ e ∈ es, e.u < N ∧ e.v < N) {x : Fn1} (x0 : ∀ i, 0 ≤ x i) (hx : ∀ i, x i ≤ s i) (h : below x s N ≠ 0) : below (turn es x) s N < below x s N := by
  have up := turn_up es x
  have le := turn_le es x s hx L.fit
  apply Decidable.byContradiction
  intro hn
  have all : ∀ v, v < N → x v < s v → turn es x v < s v := fun v hv q => by
    apply Decidable.byContradiction
    intro z
    exact hn (below_lt N v hv (fun i _ => up i) q z)
  obtain ⟨v, hv, q⟩ : ∃ v, v < N ∧ x v < s v := by
    apply Decidable.byContradiction
    intro z
    have : ∀ M, M ≤ N → below x s M = 0 := by
      intro M
      induction M with
      | zero => exact fun _ => rfl
      | succ M ih =>
        intro hM
        unfold below
        rw [ih (by omega), if_neg fun q => z ⟨M, by omega, q⟩]
    exact h (this N (Nat.le_refl _))
  let t : Fn1 := fun i => if i < N ∧ x i < s i then s i - 1 else s i
  have t1 : ∀ i, i < N → x i < s i → t i = s i - 1 := fun i h1 h2 => if_pos ⟨h1, h2⟩
  have t2 : ∀ i, t i ≤ s i := fun i => by
    show (if i < N ∧ x i < s i then s i - 1 else s i) ≤ s i
    split <;> omega
  have t3 : ∀ i, ¬ x i < s i → t i = s i := fun i h1 => if_neg fun z => h1 z.2
  have fit : Fit es t := by
    intro e he
    obtain ⟨hu, hw⟩ := hE e he
    have f := L.fit e he
    by_cases qv : x e.v < s e.v
    · rw [t1 e.v hw qv]
      by_cases qu : x e.u < s e.u
      · rw [t1 e.u hu qu]
        omega
      · rw [t3 e.u qu]
        have := turn_at es x e he
        have := all e.v hw qv
        have := hx e.u
        omega
    · rw [t3 e.v qv]
      have := t2 e.u
      omega
  have nn : ∀ i, 0 ≤ t i := fun i => by
    show 0 ≤ (if i < N ∧ x i < s i then s i - 1 else s i)
    have := x0 i
    have := L.nn i
    split <;> omega
  have m := L.min t fit nn
  have := sumN_lt (s := s) (t := t) N v hv (fun i _ => t2 i) (by rw [t1 v hv q]; omega) (nn v)
  omega
theorem Least.all (L : Least es N s) (hE : ∀ e ∈ es, e.u < N ∧ e.v < N) : ∀ k, (∀ i, 0 ≤ iter es k (fun _ => 0) i) ∧ (∀ i, iter es k (fun _ => 0) i ≤ s i) ∧ below (iter es k fun _ => 0) s N ≤ N - k
  | 0 => ⟨fun _ => Int.le_refl _, L.nn, below_le _ _ _⟩
  | k + 1 => by
    obtain ⟨h0, h1, h2⟩ := L.all hE k
    refine ⟨fun i => Int.le_trans (h0 i) (turn_up es _ i), turn_le es _ s h1 L.fit, ?_⟩
    show below (turn es (iter es k fun _ => 0)) s N ≤ N - (k + 1)
    by_cases q : below (iter es k fun _ => 0) s N = 0
    · have := below_mono (x := iter es k fun _ => 0) (y := turn es (iter es k fun _ => 0)) (s := s) N fun i _ => turn_up es _ i
      omega
    · have := L.step hE h0 h1 q
      omega
theorem Least.done (L : Least es N s) (hE : ∀ e ∈ es, e.u < N ∧ e.v < N) {k : Nat} (hk : N ≤ k) : ∀ i, i < N → iter es k (fun _ => 0) i = s i := by
  obtain ⟨h0, h1, h2⟩ := L.all hE k
  intro i hi
  have := below_zero (x := iter es k fun _ => 0) (s := s) N (by omega) i hi
  have := h1 i
  omega
end
end PV

set_option Elab.async false
set_option linter.all false
set_option maxRecDepth 100000
set_option maxHeartbeats 4000000
/-! PvRc: the least numbers, and whether the facts can be so. -/
namespace PV
open PySem PySem.Spec PyProof.Rows L2 TL
structure FB (r : Nat) (f : Fact) : Prop where
  ab : f.a < f.b
  b1 : f.b ≤ r + 1
def fin400 (r : Nat) (fs : List Fact) : Fn1 := iter (allEd r fs) 400 fun _ => 0
def difs (r : Nat) (x : Fn1) : List Int := (List.range (r + 1)).map fun i => x (i + 1) - x i
def canB (r : Nat) (fs : List Fact) : Bool := decide (fin400 r fs 0 = 0) && keepsB fs (difs r (fin400 r fs))
theorem ed_lt {r : Nat} {fs : List Fact} (hf : ∀ f ∈ fs, FB r f) : ∀ e ∈ allEd r fs, e.u < r + 2 ∧ e.v < r + 2 := by
  intro e he
  unfold allEd at he
  rcases List.mem_append.mp he with h | h
  · obtain ⟨l, hl, h⟩ := List.mem_flatten.mp h
    obtain ⟨f, hm, rfl⟩ := List.mem_map.mp hl
    have q := hf f hm
    have := q.ab
    have := q.b1
    unfold fEd at h
    rcases List.mem_cons.mp h with rfl | h
    · exact ⟨by show f.a < _; omega, by show f.b < _; omega⟩
    · cases z : f.hi with
      | none => rw [z] at h; cases h
      | some k =>
        rw [z] at h
        rcases List.mem_singleton.mp h with rfl
        exact ⟨by show f.b < _; omega, by show f.a < _; omega⟩
  · obtain ⟨i, hi, rfl⟩ := List.mem_map.mp h
    rw [List.mem_range] at hi
    exact ⟨by show i < _; omega, by show i + 1 < _; omega⟩
theorem fit_iff {r : Nat} {fs : List Fact} {s : Fn1} : Fit (allEd r fs) s ↔ (∀ f ∈ fs, s f.a + f.lo ≤ s f.b ∧ ∀ h, f.hi = some h → s f.b - h ≤ s f.a) ∧ ∀ i, i < r + 1 → s i ≤ s (i + 1) := by
  constructor
  · intro F
    have mf : ∀ f ∈ fs, ∀ e ∈ fEd f, e ∈ allEd r fs := fun f hf e he => List.mem_append_left _ (List.mem_flatten.mpr ⟨_, List.mem_map.mpr ⟨f, hf, rfl⟩, he⟩)
    refine ⟨fun f hf => ⟨F ⟨f.a, f.b, f.lo⟩ (mf f hf _ List.mem_cons_self), fun h hh => ?_⟩, fun i hi => ?_⟩
    · have := F ⟨f.b, f.a, -h⟩ (mf f hf _ (by unfold fEd; rw [hh]; exact List.mem_cons_of_mem _ List.mem_cons_self))
      have : s f.b + -h ≤ s f.a := this
      omega
    · have := F ⟨i, i + 1, 0⟩ (List.mem_append_right _ (List.mem_map.mpr ⟨i, List.mem_range.mpr hi, rfl⟩))
      have : s i + 0 ≤ s (i + 1) := this
      omega
  · intro ⟨h1, h2⟩ e he
    rcases List.mem_append.mp he with h | h
    · obtain ⟨l, hl, h⟩ := List.mem_flatten.mp h
      obtain ⟨f, hm, rfl⟩ := List.mem_map.mp hl
      unfold fEd at h
      rcases List.mem_cons.mp h with rfl | h
      · exact (h1 f hm).1
      · cases z : f.hi with
        | none => rw [z] at h; cases h
        | some k =>
          rw [z] at h
          rcases List.mem_singleton.mp h with rfl
          have := (h1 f hm).2 k z
          show s f.b + -k ≤ s f.a
          omega
    · obtain ⟨i, hi, rfl⟩ := List.mem_map.mp h
      have := h2 i (List.mem_range.mp hi)
      show s i + 0 ≤ s (i + 1)
      omega
theorem difs_len (r : Nat) (x : Fn1) : (difs r x).length = r + 1 := by unfold difs; rw [List.length_map, List.length_range]
theorem difs_upx (r : Nat) (x : Fn1) : ∀ i, i ≤ r + 1 → upx (difs r x) i = x i - x 0
  | 0, _ => by
    show ((difs r x).take 0).sum = _
    rw [List.take_zero]
    simp
  | i + 1, h => by
    have ih := difs_upx r x i (by omega)
    have e : (difs r x)[i]? = some (x (i + 1) - x i) := by
      unfold difs
      rw [List.getElem?_map, List.getElem?_range (by omega)]
      rfl
    unfold upx at ih ⊢
    rw [List.take_add_one, e, List.sum_append, ih]
    show x i - x 0 + [x (i + 1) - x i].sum = _
    simp
    omega
theorem difs_btw (r : Nat) (x : Fn1) {a b : Nat} (h : a ≤ b) (hb : b ≤ r + 1) : btw (difs r x) a b = x b - x a := by
  rw [btw_upx _ h, difs_upx r x b hb, difs_upx r x a (by omega)]
  omega
theorem keeps_difs {r : Nat} {fs : List Fact} {x : Fn1} (hf : ∀ f ∈ fs, FB r f) : keepsB fs (difs r x) = true ↔ ∀ f ∈ fs, x f.a + f.lo ≤ x f.b ∧ ∀ h, f.hi = some h → x f.b - h ≤ x f.a := by
  unfold keepsB
  rw [List.all_eq_true]
  constructor
  · intro h f hm
    have q := hf f hm
    have := q.ab
    have h := keep1_iff.mp (h f hm)
    rw [difs_btw r x (by omega) q.b1] at h
    refine ⟨by omega, fun k hk => ?_⟩
    have := h.2 k hk
    omega
  · intro h f hm
    have q := hf f hm
    have := q.ab
    rw [keep1_iff, difs_btw r x (by omega) q.b1]
    have h := h f hm
    refine ⟨by omega, fun k hk => ?_⟩
    have := h.2 k hk
    omega
/-- the last turn leaves them in order -/
theorem iter_ord {r : Nat} {fs : List Fact} {k : Nat} : ∀ i, i < r + 1 → iter (allEd r fs) (k + 1) (fun _ => 0) i ≤ iter (allEd r fs) (k + 1) (fun _ => 0) (i + 1) := by
  have key : ∀ (m : Nat) (x : Fn1) (i : Nat), i < m → turn ((List.range m).map fun i => (⟨i, i + 1, 0⟩ : Ed)) x i ≤ turn ((List.range m).map fun i => (⟨i, i + 1, 0⟩ : Ed)) x (i + 1) := by
    intro m x
    induction m with
    | zero => exact fun i hi => absurd hi (Nat.not_lt_zero i)
    | succ m ih =>
      intro i hi
      have e : turn ((List.range (m + 1)).map fun i => (⟨i, i + 1, 0⟩ : Ed)) x = raise (turn ((List.range m).map fun i => (⟨i, i + 1, 0⟩ : Ed)) x) ⟨m, m + 1, 0⟩ := by
        unfold turn
        rw [List.range_succ, List.map_append, List.foldl_append]
        rfl
      rw [e]
      generalize turn ((List.range m).map fun i => (⟨i, i + 1, 0⟩ : Ed)) x = y at ih
      by_cases q : i = m
      · subst q
        have h1 := raise_at y ⟨i, i + 1, 0⟩
        have h2 : raise y ⟨i, i + 1, 0⟩ i = y i := if_neg (by show ¬ i = i + 1; omega)
        have h1 : y i + 0 ≤ raise y ⟨i, i + 1, 0⟩ (i + 1) := h1
        omega
      · have h2 : raise y ⟨m, m + 1, 0⟩ i = y i := if_neg (by show ¬ i = m + 1; omega)
        have h3 : raise y ⟨m, m + 1, 0⟩ (i + 1) = y (i + 1) := if_neg (by show ¬ i + 1 = m + 1; omega)
        rw [h2, h3]
        exact ih i (by omega)
  intro i hi
  show turn (allEd r fs) _ i ≤ turn (allEd r fs) _ (i + 1)
  unfold allEd turn
  rw [List.foldl_append]
  exact key (r + 1) _ i hi
theorem can_begin {r : Nat} {fs : List Fact} (hr : r + 2 ≤ 400) (hf : ∀ f ∈ fs, FB r f) : canB r fs = (beginM r fs).isSome := by
  rw [Bool.eq_iff_iff]
  constructor
  · intro h
    unfold canB at h
    rw [Bool.and_eq_true] at h
    obtain ⟨B, e, _⟩ := keeps_begin (r := r) (fs := fs) (gs := difs r (fin400 r fs)) (fun x hx => by
      obtain ⟨i, hi, rfl⟩ := List.mem_map.mp hx
      have : fin400 r fs i ≤ fin400 r fs (i + 1) := iter_ord (k := 399) i (List.mem_range.mp hi)
      omega) (fun f hm => ⟨(hf f hm).ab, (hf f hm).b1⟩) h.2
    rw [e]
    rfl
  · intro h
    obtain ⟨s0, S0⟩ := begin_sol (fun f hm => by have q := hf f hm; have := q.ab; have := q.b1; omega) h
    have hE := ed_lt hf
    let P : Fn1 → Prop := fun s => Fit (allEd r fs) s ∧ ∀ i, 0 ≤ s i
    have p0 : P fun i => if i < r + 2 then s0 i else 0 := by
      refine ⟨fit_iff.mpr ⟨fun f hm => ?_, fun i hi => ?_⟩, fun i => ?_⟩
      · have q := hf f hm
        have := q.ab
        have := q.b1
        have l := S0.lo f hm
        simp only [show f.a < r + 2 by omega, show f.b < r + 2 by omega, if_true]
        exact ⟨l, fun k hk => S0.hi f hm k hk⟩
      · simp only [show i < r + 2 by omega, show i + 1 < r + 2 by omega, if_true]
        exact S0.up i (by omega)
      · show 0 ≤ if i < r + 2 then s0 i else 0
        split
        · exact S0.nn i (by assumption)
        · exact Int.le_refl _
    obtain ⟨s, ⟨sf, sn⟩, sm⟩ := least_ex (P := P) (r + 2) _ _ p0 (Nat.le_refl _)
    have L : Least (allEd r fs) (r + 2) s := ⟨sf, sn, fun t t1 t2 => sm t ⟨t1, t2⟩⟩
    have D : ∀ i, i < r + 2 → fin400 r fs i = s i := L.done hE hr
    obtain ⟨f1, f2⟩ := fit_iff.mp sf
    have mono : ∀ i, i < r + 2 → s 0 ≤ s i := by
      intro i
      induction i with
      | zero => exact fun _ => Int.le_refl _
      | succ i ih =>
        intro hi
        have := ih (by omega)
        have := f2 i (by omega)
        omega
    have z0 : s 0 = 0 := by
      apply Decidable.byContradiction
      intro hz
      have h0 := sn 0
      let t : Fn1 := fun i => if i < r + 2 then s i - 1 else s i
      have te : ∀ i, i < r + 2 → t i = s i - 1 := fun i hi => if_pos hi
      have := sm t ⟨fun e he => by
        obtain ⟨hu, hv⟩ := hE e he
        rw [te _ hu, te _ hv]
        have := sf e he
        omega, fun i => by
        by_cases hi : i < r + 2
        · rw [te i hi]
          have := mono i hi
          omega
        · show 0 ≤ if i < r + 2 then s i - 1 else s i
          rw [if_neg hi]
          exact sn i⟩
      have := sumN_lt (s := s) (t := t) (r + 2) 0 (by omega) (fun i hi => by rw [te i hi]; omega) (by rw [te 0 (by omega)]; omega) (by rw [te 0 (by omega)]; omega)
      omega
    unfold canB
    rw [Bool.and_eq_true, decide_eq_true_eq, D 0 (by omega)]
    refine ⟨z0, (keeps_difs hf).mpr fun f hm => ?_⟩
    have q := hf f hm
    have := q.ab
    have := q.b1
    rw [D f.a (by omega), D f.b (by omega)]
    exact f1 f hm
end PV

set_option Elab.async false
set_option linter.all false
set_option maxRecDepth 100000
set_option maxHeartbeats 4000000
/-! PvRd: whether the facts can be so, by the def of the law. -/
namespace PV
open PySem PySem.Spec PyProof.Rows L2 TL
def lf (N : Nat) (x : Fn1) : List D := (List.range N).map fun i => .int (x i)
theorem lf_len (N : Nat) (x : Fn1) : (lf N x).length = N := by unfold lf; rw [List.length_map, List.length_range]
theorem lf_at {N i : Nat} {x : Fn1} (h : i < N) : atD (lf N x) (.int (i : Nat)) = some (.int (x i)) := by
  show atI _ _ = _
  refine atI_ix ?_
  unfold lf
  rw [List.getElem?_map, List.getElem?_range h]
  rfl
theorem lf_set {N i : Nat} {x y : Fn1} {v : Int} (h : i < N) (hy : ∀ j, j < N → y j = if j = i then v else x j) : setO (lf N x) (.int (i : Nat)) (.int v) = some (lf N y) := by
  have e : ixN (lf N x).length (i : Nat) = some i := by
    rw [lf_len]
    unfold ixN
    rw [if_pos (by omega), if_pos (by omega), Int.toNat_natCast]
  unfold setO
  simp only [e, Option.map_some]
  congr 1
  apply List.ext_getElem?
  intro j
  unfold lf
  by_cases hj : j < N
  · by_cases q : j = i
    · subst q
      rw [List.getElem?_set_self (by rw [List.length_map, List.length_range]; exact hj), List.getElem?_map, List.getElem?_range hj, Option.map_some, hy j hj, if_pos rfl]
    · rw [List.getElem?_set_ne (Ne.symm q), List.getElem?_map, List.getElem?_map, List.getElem?_range hj, Option.map_some, Option.map_some, hy j hj, if_neg q]
  · rw [List.getElem?_eq_none (by rw [List.length_set, List.length_map, List.length_range]; omega), List.getElem?_eq_none (by rw [List.length_map, List.length_range]; omega)]
theorem lf_zero (N : Nat) : List.replicate N (D.int 0) = lf N fun _ => 0 := by
  unfold lf
  apply List.ext_getElem?
  intro j
  by_cases hj : j < N
  · rw [List.getElem?_replicate, if_pos hj, List.getElem?_map, List.getElem?_range hj]
    rfl
  · rw [List.getElem?_replicate, if_neg hj, List.getElem?_eq_none (by rw [List.length_map, List.length_range]; omega)]
theorem max2_int (i j : Int) : max2D [.int i, .int j] = some (.int (if j > i then j else i)) := rfl
theorem turn_cat (a b : List Ed) (x : Fn1) : turn (a ++ b) x = turn b (turn a x) := List.foldl_append
theorem turn_cons (e : Ed) (es : List Ed) (x : Fn1) : turn (e :: es) x = turn es (raise x e) := rfl
def ordE (i : Nat) : Ed := ⟨i, i + 1, 0⟩
theorem r_can_be (n : Nat) {m : D} {row : List D} {fs : List Fact} (hr : row.length ≤ 50) (hf : ∀ f ∈ fs, FB row.length f) :
    Phi GG fns (n + 2) K__law_can_be [.tup [m, .tup row, .tup (fs.map fD)]] = ret (.bl (canB row.length fs)) := by
  rw [e__law_can_be]
  unfold m__law_can_be
  have c1 : ((row.length : Nat) : Int) + 1 = ((row.length + 1 : Nat) : Int) := by omega
  have c2 : ((row.length : Nat) : Int) + 2 = ((row.length + 2 : Nat) : Int) := by omega
  simp only [rd_tup, atI1, lenD_tup, addD_int, oS, bR, lstO_one, c1, c2, repD_one _ (show row.length + 2 ≤ 2000000 by omega), lf_zero, irng_int (show (0 : Int) ≤ 400 by decide) (show (400 : Int) ≤ 16777216 by decide)]
  have hkeep : ∀ gs : List Int, gs.length = row.length + 1 → Phi GG fns (n + 1) K__law_keeps [.tup [m, .tup row, .tup (fs.map fD)], gD gs] = ret (.bl (keepsB fs gs)) := fun gs hl => r_keeps n fun f hm => by
    have q := hf f hm
    have := q.ab
    have := q.b1
    omega
  have hat : (rd fun S => idxD S (D.tup [m, .tup row, .tup (fs.map fD)]) (.int 2)) = ret (.tup (fs.map fD)) := by
    rw [rd_tup, atI2]
    rfl
  generalize D.tup [m, .tup row, .tup (fs.map fD)] = Z at hkeep hat ⊢
  refine ret_of fun S => ?_
  refine forC_wp (fun xs ρ S' => S' = S ∧ ∃ (t : Nat) (s1 s4 s5 s6 s7 s8 : Slot), xs.length + t = 400 ∧ ρ = [.val Z, s1, .val (.int ((row.length + 1 : Nat) : Int)), .own (lf (row.length + 2) (iter (allEd row.length fs) t fun _ => 0)), s4, s5, s6, s7, s8]) ?_ ?_ _ _ _ ⟨rfl, 0, .un, .un, .un, .un, .un, .un, by rw [List.length_map, List.length_range]; rfl, rfl⟩
  · rintro ρ S' ⟨rfl, t, s1, s4, s5, s6, s7, s8, ht, rfl⟩
    have ht : t = 400 := by simpa using ht
    subst ht
    have z0 : atD (lf (row.length + 2) (iter (allEd row.length fs) 400 fun _ => 0)) (.int 0) = some (.int (fin400 row.length fs 0)) := lf_at (i := 0) (by omega)
    simp only [ownV_succ, ownV_zero, getV_succ, getV_zero, oS, bR, z0, eqD_int, isB_bl]
    by_cases q : fin400 row.length fs 0 = 0
    · simp only [q, decide_true, if_true]
      have hm : ∀ x ∈ (List.range (((row.length + 1 : Nat) : Int)).toNat).map (fun i => D.int (i : Nat)), (bnd (opt (asgn (.one 4) x (wipeE [Slot.val Z, s1, Slot.val (.int ((row.length + 1 : Nat) : Int)), Slot.own (lf (row.length + 2) (iter (allEd row.length fs) 400 fun _ => 0)), s4, s5, s6, s7, s8] [4]))) fun ρ79 => bnd (nox (ret true)) fun b87 => if b87 = true then bnd (nox (bnd (bnd (opt (ownV ρ79 3)) fun t80 => bnd (bnd (opt (getV ρ79 4)) fun t81 => opt (addD t81 (.int 1 : D))) fun t82 => opt (atD t80 t82)) fun t83 => bnd (bnd (opt (ownV ρ79 3)) fun t84 => bnd (opt (getV ρ79 4)) fun t85 => opt (atD t84 t85)) fun t86 => opt (subD t83 t86))) fun d88 => ret (some d88) else ret none) = ret (some ((fun x => match x with | .int i => .int (fin400 row.length fs (i.toNat + 1) - fin400 row.length fs i.toNat) | d => d) x)) := by
        intro x hx
        obtain ⟨i, hi, rfl⟩ := List.mem_map.mp hx
        rw [List.mem_range, Int.toNat_natCast] at hi
        have a1 : (((i : Nat) : Int) + 1) = ((i + 1 : Nat) : Int) := by omega
        simp only [wipeE_cons, wipeE_nil, asgn_one, List.set_cons_zero, List.set_cons_succ, ownV_succ, ownV_zero, getV_succ, getV_zero, oS, bR, nR, if_true, addD_int, a1, lf_at (show i < row.length + 2 by omega), lf_at (show i + 1 < row.length + 2 by omega), subD_int, Int.toNat_natCast]
        rfl
      rw [irng_int (by omega) (by omega)]
      simp only [oS, bR]
      rw [mapO_pure hm]
      simp only [bR, tupD_l, oS, List.map_map]
      have e : D.tup (List.map ((fun x => match x with | .int i => .int (fin400 row.length fs (i.toNat + 1) - fin400 row.length fs i.toNat) | d => d) ∘ fun i => D.int (i : Nat)) (List.range (((row.length + 1 : Nat) : Int)).toNat)) = gD (difs row.length (fin400 row.length fs)) := by
        unfold gD difs
        rw [List.map_map, Int.toNat_natCast]
        rfl
      rw [e, hkeep _ (difs_len _ _), wp_ret]
      refine ⟨?_, rfl⟩
      unfold canB
      rw [decide_eq_true q, Bool.true_and]
    · simp only [q, decide_false, Bool.false_eq_true, if_false]
      rw [wp_ret]
      refine ⟨?_, rfl⟩
      unfold canB
      rw [decide_eq_false q, Bool.false_and]
  · rintro x xs ρ S' kk ⟨rfl, t, s1, s4, s5, s6, s7, s8, ht, rfl⟩ hk'
    have ht : xs.length + (t + 1) = 400 := by
      rw [List.length_cons] at ht
      omega
    have hb : ∀ f ∈ fs, f.a < row.length + 2 ∧ f.b < row.length + 2 := fun f hm => by
      have q := hf f hm
      have := q.ab
      have := q.b1
      omega
    generalize hX : iter (allEd row.length fs) t (fun _ => 0) = X
    simp only [asgn_one, List.set_cons_zero, List.set_cons_succ, getV_zero, oS, bR, hat, items_tup]
    refine forC_wp (fun ys ρ S2 => S2 = S' ∧ ∃ (gl : List Fact) (y : Fn1) (s4 s5 s6 s7 s8 : Slot), ys = gl.map fD ∧ (∀ f ∈ gl, f ∈ fs) ∧ turn (gl.map fEd).flatten y = turn (fs.map fEd).flatten X ∧ ρ = [.val Z, .val x, .val (.int ((row.length + 1 : Nat) : Int)), .own (lf (row.length + 2) y), s4, s5, s6, s7, s8]) ?_ ?_ _ _ _ ⟨rfl, fs, X, s4, s5, s6, s7, s8, rfl, fun f h => h, rfl, rfl⟩
    · rintro ρ S2 ⟨rfl, gl, y, s4, s5, s6, s7, s8, hy, _, he, rfl⟩
      have : gl = [] := by cases gl <;> first | rfl | cases hy
      subst this
      have he : y = turn (fs.map fEd).flatten X := he
      simp only [getV_succ, getV_zero, oS, bR]
      rw [irng_int (by omega) (by omega)]
      simp only [oS, bR]
      refine forC_wp (fun ys ρ S3 => S3 = S2 ∧ ∃ (il : List Nat) (z : Fn1) (s4 : Slot), ys = il.map (fun i => D.int (i : Nat)) ∧ (∀ i ∈ il, i < row.length + 1) ∧ turn (il.map ordE) z = turn ((List.range (row.length + 1)).map ordE) y ∧ ρ = [.val Z, .val x, .val (.int ((row.length + 1 : Nat) : Int)), .own (lf (row.length + 2) z), s4, s5, s6, s7, s8]) ?_ ?_ _ _ _ ⟨rfl, List.range (row.length + 1), y, s4, by rw [Int.toNat_natCast], fun i hi => List.mem_range.mp hi, rfl, rfl⟩
      · rintro ρ S3 ⟨rfl, il, z, s4, hz, _, hez, rfl⟩
        have : il = [] := by cases il <;> first | rfl | cases hz
        subst this
        have hez : z = turn ((List.range (row.length + 1)).map ordE) y := hez
        refine hk' _ _ ⟨rfl, t + 1, .val x, s4, s5, s6, s7, s8, ht, ?_⟩
        have : iter (allEd row.length fs) (t + 1) (fun _ => 0) = z := by
          show turn (allEd row.length fs) (iter (allEd row.length fs) t fun _ => 0) = z
          rw [hX, hez, he]
          unfold allEd
          rw [turn_cat]
          rfl
        rw [this]
      · rintro w ws ρ S3 k3 ⟨rfl, il, z, s4, hz, hil, hez, rfl⟩ hk3
        cases il with
        | nil => cases hz
        | cons i il =>
          cases hz
          have hi := hil i List.mem_cons_self
          have a1 : (((i : Nat) : Int) + 1) = ((i + 1 : Nat) : Int) := by omega
          simp only [asgn_one, List.set_cons_zero, List.set_cons_succ, ownV_succ, ownV_zero, getV_succ, getV_zero, oS, bR, addD_int, a1, lf_at (show i < row.length + 2 by omega), lf_at (show i + 1 < row.length + 2 by omega), max2_int]
          rw [lf_set (y := raise z (ordE i)) (show i + 1 < row.length + 2 by omega) (fun j _ => by
            unfold raise ordE
            simp only [Int.add_zero])]
          simp only [oS, bR]
          exact hk3 _ _ ⟨rfl, il, _, _, rfl, fun j hj => hil j (List.mem_cons_of_mem _ hj), hez, rfl⟩
    · rintro w ws ρ S2 k2 ⟨rfl, gl, y, s4, s5, s6, s7, s8, hy, hgl, he, rfl⟩ hk2
      cases gl with
      | nil => cases hy
      | cons f gl =>
        cases hy
        obtain ⟨ha, hb2⟩ := hb f (hgl f List.mem_cons_self)
        unfold fD
        simp only [asgn_many, setMany_nil, setMany_cons, List.set_cons_zero, List.set_cons_succ, ownV_succ, ownV_zero, getV_zero, getV_succ, oS, bR, addD_int, lf_at ha, lf_at hb2, max2_int]
        rw [lf_set (y := raise y ⟨f.a, f.b, f.lo⟩) hb2 (fun j _ => rfl)]
        have hgl' : ∀ g ∈ gl, g ∈ fs := fun g hg => hgl g (List.mem_cons_of_mem _ hg)
        simp only [oS, bR, isND_non, isB_bl, List.set_cons_zero, List.set_cons_succ, getV_zero, getV_succ]
        cases hh : f.hi with
        | none =>
          simp only [oD, isNon, Bool.not_true, if_true, Bool.false_eq_true, if_false, bR, oS]
          refine hk2 _ _ ⟨rfl, gl, _, _, _, _, _, _, rfl, hgl', ?_, rfl⟩
          rw [← he, List.map_cons, List.flatten_cons, turn_cat]
          unfold fEd
          rw [hh]
          rfl
        | some h =>
          simp only [oD, isNon, Bool.not_false, if_true, ownV_succ, ownV_zero, getV_zero, getV_succ, oS, bR, lf_at ha, lf_at hb2, subD_int, max2_int]
          rw [lf_set (y := raise (raise y ⟨f.a, f.b, f.lo⟩) ⟨f.b, f.a, -h⟩) ha (fun j _ => by
            show raise (raise y ⟨f.a, f.b, f.lo⟩) ⟨f.b, f.a, -h⟩ j = _
            unfold raise
            simp only [← Int.sub_eq_add_neg])]
          simp only [oS, bR, List.set_cons_zero, List.set_cons_succ]
          refine hk2 _ _ ⟨rfl, gl, _, _, _, _, _, _, rfl, hgl', ?_, rfl⟩
          rw [← he, List.map_cons, List.flatten_cons, turn_cat]
          unfold fEd
          rw [hh]
          rfl
end PV

set_option Elab.async false
set_option linter.all false
set_option maxRecDepth 100000
set_option maxHeartbeats 4000000
/-! PvRe: what the law asks of numbers, facts, queues. -/
namespace PV
open PySem PySem.Spec PyProof.Rows L2 TL
def wholeB : D → Bool
  | .int _ => true
  | _ => false
theorem r_whole (n : Nat) {d : D} (h : okD d = true) : Phi GG fns (n + 1) K__law_whole [d] = ret (.bl (wholeB d)) := by
  rw [e__law_whole]
  cases d with
  | obj _ => cases h
  | fn _ => cases h
  | exn _ => cases h
  | _ => rfl
theorem r_number (n : Nat) {d : D} {lo hi : Int} (h : okD d = true) : Phi GG fns (n + 2) K__law_number [d, .int lo, .int hi] = ret (.bl (isWithin d lo hi)) := by
  rw [e__law_number]
  unfold m__law_number
  rw [r_whole n h]
  cases d with
  | int i =>
    show (if decide (lo ≤ i) = true then ret (D.bl (decide (i ≤ hi))) else ret (D.bl false)) = ret (D.bl (decide (lo ≤ i) && decide (i ≤ hi)))
    cases decide (lo ≤ i) <;> rfl
  | obj _ => cases h
  | fn _ => cases h
  | exn _ => cases h
  | _ => rfl
theorem isi_tup {d : D} (h : okD d = true) : isiD "tuple" d = some (.bl (tupB d)) := by
  cases d with
  | obj _ => cases h
  | fn _ => cases h
  | exn _ => cases h
  | _ => rfl
theorem tup_of {d : D} (h : tupB d = true) : ∃ xs, d = .tup xs := by
  cases d with
  | tup xs => exact ⟨xs, rfl⟩
  | _ => cases h
theorem r_lfact (n : Nat) {d : D} {marks : Int} (h : okD d = true) : Phi GG fns (n + 3) K__law_is_fact [.int marks, d] = ret (.bl (isFact marks d)) := by
  rw [e__law_is_fact]
  unfold m__law_is_fact
  rw [isi_tup h]
  simp only [bR, isB_bl, oS]
  by_cases q : tupB d = true
  case neg =>
    rw [Bool.not_eq_true] at q
    rw [q]
    simp only [Bool.not_false, if_true, bR]
    congr 2
    unfold isFact
    split
    · cases q
    · rfl
  obtain ⟨xs, rfl⟩ := tup_of q
  simp only [q, Bool.not_true, Bool.false_eq_true, if_false, lenD_tup, oS, bR, neD_int, isB_bl]
  by_cases l : xs.length = 4
  case neg =>
    have l' : ¬ ((xs.length : Nat) : Int) = 4 := by omega
    simp only [l', decide_false, Bool.not_false, if_true]
    congr 2
    unfold isFact
    split
    · rename_i e
      cases e
      exact (l rfl).elim
    · rfl
  match xs, l with
  | [a, b, lo, hi], _ =>
    have ha : okD a = true := okDs_mem h (by simp)
    have hb : okD b = true := okDs_mem h (by simp)
    have hlo : okD lo = true := okDs_mem h (by simp)
    have hhi : okD hi = true := okDs_mem h (by simp)
    have e0 : atI [a, b, lo, hi] 0 = some a := rfl
    have e1 : atI [a, b, lo, hi] 1 = some b := rfl
    have e2 : atI [a, b, lo, hi] 2 = some lo := rfl
    have e3 : atI [a, b, lo, hi] 3 = some hi := rfl
    have l4 : (([a, b, lo, hi].length : Nat) : Int) = 4 := rfl
    show _ = ret (D.bl (isWithin a 0 marks && (isWithin b 0 (marks + 1) && (decide (iv a < iv b) && (isWithin lo 0 60 && (isNon hi || isWithin hi (iv lo) 60))))))
    simp only [l4, decide_true, rd_tup, e0, e1, e2, e3, oS, bR, addD_int, Bool.not_true, Bool.false_eq_true, if_false, r_number n ha, r_number n hb, r_number n hlo, isB_bl, isND_non]
    by_cases k1 : isWithin a 0 marks = true
    · by_cases k2 : isWithin b 0 (marks + 1) = true
      · obtain ⟨v1, _, _⟩ := iv_of k1
        obtain ⟨v2, _, _⟩ := iv_of k2
        rw [k1, k2]
        have eo : ordD (fun i j => decide (j ≤ i)) a b = some (.bl (decide (iv b ≤ iv a))) := by rw [v1, v2]; rfl
        simp only [eo, bR, oS, isB_bl, Bool.not_true, Bool.false_eq_true, if_false, Bool.true_and]
        by_cases k3 : iv b ≤ iv a
        · have k3' : ¬ iv a < iv b := by omega
          simp [k3, k3', bR]
        · have k3' : iv a < iv b := by omega
          by_cases k4 : isWithin lo 0 60 = true
          · obtain ⟨v3, _, _⟩ := iv_of k4
            have r3 : Phi GG fns (n + 2) K__law_number [hi, lo, .int 60] = ret (.bl (isWithin hi (iv lo) 60)) := by
              have := r_number n (lo := iv lo) (hi := 60) hhi
              rw [← v3] at this
              exact this
            simp only [k3, k3', k4, decide_false, decide_true, Bool.false_eq_true, if_false, bR, Bool.not_true, r3, Bool.true_and]
            cases isNon hi <;> rfl
          · rw [Bool.not_eq_true] at k4
            simp [k3, k3', k4, bR]
      · rw [Bool.not_eq_true] at k2
        simp [k1, k2, bR]
    · rw [Bool.not_eq_true] at k1
      simp [k1, bR]
/-! ### ones -/
theorem eqD_ones (b : Bool) (k : Nat) : eqD b (.lst (List.replicate k (.int 1))) (.lst []) = some (.bl (if b then !decide (k = 0) else decide (k = 0))) := by
  have a1 : toPys (List.replicate k (D.int 1)) = some (List.replicate k (PyData.int 1)) := by
    induction k with
    | zero => rfl
    | succ k ih =>
      show (match toPy (.int 1), toPys (List.replicate k (D.int 1)) with | some d, some ds => some (d :: ds) | _, _ => none) = _
      rw [ih]
      rfl
  have b1 : PyData.canLayAll0 (List.replicate k (PyData.int 1)) = true ∧ PyData.depthAll (List.replicate k (PyData.int 1)) = 0 := by
    clear a1
    induction k with
    | zero => exact ⟨rfl, rfl⟩
    | succ k ih => exact ⟨by simp [List.replicate_succ, PyData.canLayAll0, PyData.canLay0, ih.1], by simp [List.replicate_succ, PyData.depthAll, PyData.depth, ih.2]⟩
  have s1 : SeqAt.shaped (.list (List.replicate k (PyData.int 1))) = true := by
    have e : PyData.depth (.list (List.replicate k (PyData.int 1))) = PyData.depthAll (List.replicate k (PyData.int 1)) + 1 := by simp [PyData.depth]
    have e2 : PyData.canLay0 (.list (List.replicate k (PyData.int 1))) = true := by
      unfold PyData.canLay0
      exact b1.1
    unfold SeqAt.shaped
    rw [e, e2, b1.2, Bool.true_and, decide_eq_true_eq]
    omega
  have s2 : SeqAt.shaped (.list []) = true := by decide +kernel
  have p1 : toPy (.lst (List.replicate k (.int 1))) = some (.list (List.replicate k (PyData.int 1))) := by
    show (toPys _).map _ = _
    rw [a1]
    rfl
  have p2 : toPy (.lst []) = some (.list []) := rfl
  unfold eqD deq
  simp only [p1, p2, s1, s2, Bool.and_self, if_true]
  cases k <;> cases b <;> rfl
theorem ones_of (p : D → Bool) : ∀ xs : List D, ∃ k, xs.filterMap (fun x => if p x = true then none else some (D.int 1)) = List.replicate k (.int 1) ∧ (k = 0 ↔ xs.all p = true)
  | [] => ⟨0, rfl, by simp⟩
  | x :: xs => by
    obtain ⟨k, e, h⟩ := ones_of p xs
    by_cases q : p x = true
    · exact ⟨k, by rw [List.filterMap_cons, if_pos q]; exact e, by rw [List.all_cons, q, Bool.true_and]; exact h⟩
    · refine ⟨k + 1, by rw [List.filterMap_cons, if_neg q, List.replicate_succ]; exact congrArg _ e, ?_⟩
      rw [Bool.not_eq_true] at q
      rw [List.all_cons, q, Bool.false_and]
      simp
theorem eqD_all (b : Bool) (p : D → Bool) (xs : List D) : eqD b (.lst (xs.filterMap (fun x => if p x = true then none else some (D.int 1)))) (.lst []) = some (.bl (if b then !xs.all p else xs.all p)) := by
  obtain ⟨k, e, h⟩ := ones_of p xs
  rw [e, eqD_ones]
  have : decide (k = 0) = xs.all p := by
    rw [Bool.eq_iff_iff, decide_eq_true_eq]
    exact h
  rw [this]
/-! ### queues -/
def shape3 (m : D) : D → D → Bool
  | .tup row, .tup fs => isWithin m 2 4 && isRow (iv m) (.tup row) && decide (fs.length ≤ 4) && fs.all (isFact row.length)
  | _, _ => false
def shapeQ : D → Bool
  | .tup [m, row, fs] => shape3 m row fs
  | _ => false
theorem shape_facts {m : D} {row fs : List D} (h : shape3 m (.tup row) (.tup fs) = true) : row.length ≤ 4 ∧ ∃ gs : List Fact, fs = gs.map fD ∧ gs = fs.map toFact ∧ ∀ f ∈ gs, FB row.length f := by
  have h : (isWithin m 2 4 && isRow (iv m) (.tup row) && decide (fs.length ≤ 4) && fs.all (isFact row.length)) = true := h
  simp only [Bool.and_eq_true, decide_eq_true_eq] at h
  obtain ⟨⟨⟨h1, h2⟩, h3⟩, h4⟩ := h
  obtain ⟨_, m1, m2⟩ := iv_of h1
  obtain ⟨r1, r2, _⟩ := row_len h2
  rw [List.all_eq_true] at h4
  refine ⟨by omega, fs.map toFact, ?_, rfl, fun f hf => ?_⟩
  · rw [List.map_map]
    conv => lhs; rw [← List.map_id fs]
    exact List.map_congr_left fun d hd => fD_toFact (h4 d hd)
  · obtain ⟨d, hd, rfl⟩ := List.mem_map.mp hf
    obtain ⟨f, rfl, a1, a2, a3, _⟩ := fact_of (h4 d hd)
    rw [toFact_fD]
    exact ⟨a1, a3⟩
theorem isQueue_shape (d : D) : isQueue d = (shapeQ d && match d with | .tup [_, .tup row, .tup fs] => (beginM row.length (fs.map toFact)).isSome | _ => false) := by
  unfold isQueue shapeQ
  split
  · rename_i m row fs
    cases row <;> cases fs <;> first | rfl | (simp [isQueue3, shape3])
  · simp
theorem r_lqueue (n : Nat) {d : D} (h : okD d = true) : Phi GG fns (n + 4) K__law_is_queue [d] = ret (.bl (shapeQ d)) := by
  rw [e__law_is_queue]
  unfold m__law_is_queue
  rw [isi_tup h]
  simp only [bR, isB_bl, oS]
  by_cases q : tupB d = true
  case neg =>
    rw [Bool.not_eq_true] at q
    rw [q]
    simp only [Bool.not_false, if_true, bR]
    congr 2
    unfold shapeQ
    split
    · cases q
    · rfl
  obtain ⟨xs, rfl⟩ := tup_of q
  simp only [q, Bool.not_true, Bool.false_eq_true, if_false, lenD_tup, oS, bR, neD_int, isB_bl]
  by_cases l : xs.length = 3
  case neg =>
    have l' : ¬ ((xs.length : Nat) : Int) = 3 := by omega
    simp only [l', decide_false, Bool.not_false, if_true, bR]
    congr 2
    unfold shapeQ
    split
    · rename_i e
      cases e
      exact (l rfl).elim
    · rfl
  match xs, l with
  | [m, row, fs], _ =>
    have hm : okD m = true := okDs_mem h (by simp)
    have hrow : okD row = true := okDs_mem h (by simp)
    have hfs : okD fs = true := okDs_mem h (by simp)
    have e0 : atI [m, row, fs] 0 = some m := rfl
    have l3 : (([m, row, fs].length : Nat) : Int) = 3 := rfl
    show _ = ret (D.bl (shape3 m row fs))
    simp only [l3, decide_true, rd_tup, e0, oS, bR, Bool.not_true, Bool.false_eq_true, if_false, r_number (n + 1) hm, isB_bl]
    by_cases k1 : isWithin m 2 4 = true
    case neg =>
      rw [Bool.not_eq_true] at k1
      rw [k1]
      simp only [Bool.not_false, if_true, bR]
      congr 2
      cases row with
      | tup row => cases fs <;> first | rfl | (show false = (isWithin m 2 4 && _ && _ && _); rw [k1]; rfl)
      | _ => rfl
    obtain ⟨v1, m1, m2⟩ := iv_of k1
    simp only [k1, Bool.not_true, Bool.false_eq_true, if_false, asgn_many, setMany_nil, setMany_cons, List.set_cons_zero, List.set_cons_succ, getV_zero, getV_succ, oS, bR, isi_tup hrow, isB_bl]
    by_cases kr : tupB row = true
    case neg =>
      rw [Bool.not_eq_true] at kr
      rw [kr]
      simp only [Bool.not_false, if_true, bR]
      congr 2
      cases row with
      | tup row => cases kr
      | _ => rfl
    obtain ⟨row, rfl⟩ := tup_of kr
    have ho1 : ordD (fun i j => decide (i ≤ j)) (.int ((row.length : Nat) : Int)) m = some (.bl (decide (((row.length : Nat) : Int) ≤ iv m))) := by
      rw [v1]
      rfl
    simp only [kr, Bool.not_true, Bool.false_eq_true, if_false, lenD_tup, oS, bR, ord_int, isB_bl, ho1]
    have hrow' : shape3 m (.tup row) fs = true → 1 ≤ (row.length : Int) ∧ (row.length : Int) ≤ iv m := fun z => by
      cases fs with
      | tup fs =>
        have z : (isWithin m 2 4 && isRow (iv m) (.tup row) && decide (fs.length ≤ 4) && fs.all (isFact row.length)) = true := z
        simp only [Bool.and_eq_true] at z
        obtain ⟨r1, r2, _⟩ := row_len z.1.1.2
        exact ⟨by omega, r2⟩
      | _ => cases z
    by_cases c1 : (1 : Int) ≤ (row.length : Int)
    case neg =>
      simp only [c1, decide_false, Bool.false_eq_true, if_false, bR, isB_bl, oS, Bool.not_false, if_true]
      congr 2
      exact (Bool.eq_false_iff.mpr fun z => c1 (hrow' z).1).symm
    simp only [c1, decide_true, if_true, bR, isB_bl, oS]
    by_cases c2 : (row.length : Int) ≤ iv m
    case neg =>
      simp only [c2, decide_false, Bool.false_eq_true, if_false, bR, isB_bl, oS, Bool.not_false, if_true]
      congr 2
      exact (Bool.eq_false_iff.mpr fun z => c2 (hrow' z).2).symm
    have hw : ∀ x ∈ row, okD x = true := fun x hx => okDs_mem hrow hx
    have es : subD m (.int 1) = some (.int (iv m - 1)) := by rw [v1]; rfl
    simp only [c2, decide_true, bR, isB_bl, oS, Bool.not_true, Bool.false_eq_true, if_false, items_tup]
    rw [mapO_flt (g := fun x => if isWithin x 0 (iv m - 1) = true then none else some (.int 1))]
    case _ =>
      simp only [oS, bR, lstO_nil, eqD_all, isB_bl, if_true]
      have er : isRow (iv m) (.tup row) = (row.all (fun x => isWithin x 0 (iv m - 1)) && decide (((dist (intsOf row)).length : Int) = row.length)) := by
        rw [isRow_tup, decide_eq_true c1, decide_eq_true c2]
        rfl
      by_cases a : row.all (fun x => isWithin x 0 (iv m - 1)) = true
      case neg =>
        rw [Bool.not_eq_true] at a
        rw [a] at er ⊢
        simp only [Bool.not_false, if_true, bR]
        congr 2
        cases fs with
        | tup fs =>
          show false = (isWithin m 2 4 && isRow (iv m) (.tup row) && _ && _)
          rw [er]
          simp
        | _ => rfl
      obtain ⟨b1, b2, b3, b4⟩ := isInts_of a
      have hl : (intsOf row).length ≤ 4000 := by omega
      simp only [a, Bool.not_true, Bool.false_eq_true, if_false, lenSetD, b1, if_pos hl, lenD_tup, oS, bR, neD_int, isB_bl]
      by_cases c3 : ((dist (intsOf row)).length : Int) = row.length
      case neg =>
        simp only [c3, decide_false, Bool.not_false, if_true]
        congr 2
        cases fs with
        | tup fs =>
          show false = (isWithin m 2 4 && isRow (iv m) (.tup row) && _ && _)
          rw [er, decide_eq_false c3]
          simp
        | _ => rfl
      simp only [c3, decide_true, Bool.not_true, Bool.false_eq_true, if_false, isi_tup hfs, oS, bR, isB_bl]
      have er2 : isRow (iv m) (.tup row) = true := by rw [er, a, decide_eq_true c3]; rfl
      by_cases kf : tupB fs = true
      case neg =>
        rw [Bool.not_eq_true] at kf
        rw [kf]
        simp only [Bool.not_false, if_true, bR]
        congr 2
        cases fs with
        | tup fs => cases kf
        | _ => rfl
      obtain ⟨fs, rfl⟩ := tup_of kf
      have hf : ∀ x ∈ fs, okD x = true := fun x hx => okDs_mem hfs hx
      have e3 : shape3 m (.tup row) (.tup fs) = (decide (fs.length ≤ 4) && fs.all (isFact row.length)) := by
        show (isWithin m 2 4 && isRow (iv m) (.tup row) && decide (fs.length ≤ 4) && fs.all (isFact row.length)) = _
        rw [k1, er2]
        rfl
      rw [e3]
      simp only [kf, Bool.not_true, Bool.false_eq_true, if_false, lenD_tup, oS, bR, ord_int, isB_bl]
      by_cases c4 : fs.length ≤ 4
      case neg =>
        have c4' : (4 : Int) < (fs.length : Int) := by omega
        simp only [c4', decide_true, if_true, c4, decide_false, Bool.false_and]
      have c4' : ¬ (4 : Int) < (fs.length : Int) := by omega
      simp only [c4', decide_false, Bool.false_eq_true, if_false, c4, decide_true, Bool.true_and, items_tup, oS, bR]
      rw [mapO_flt (g := fun x => if isFact row.length x = true then none else some (.int 1))]
      · simp only [oS, bR, eqD_all, Bool.false_eq_true, if_false]
      · intro x hx
        simp only [wipeE_cons, wipeE_nil, asgn_one, List.set_cons_zero, List.set_cons_succ, getV_zero, getV_succ, oS, bR, nR, lenD_tup, r_lfact n (hf x hx), isB_bl]
        cases isFact row.length x <;> rfl
    case _ =>
      intro x hx
      simp only [wipeE_cons, wipeE_nil, asgn_one, List.set_cons_zero, List.set_cons_succ, getV_zero, getV_succ, oS, bR, nR, es, r_number (n + 1) (hw x hx), isB_bl]
      cases isWithin x 0 (iv m - 1) <;> rfl
end PV

set_option Elab.async false
set_option linter.all false
set_option maxRecDepth 100000
set_option maxHeartbeats 4000000
/-! PvRf: what the law asks of deeds. -/
namespace PV
open PySem PySem.Spec PyProof.Rows L2 TL
theorem lin2 (w a b : Str) : inD false (.str w) (.lst [.str a, .str b]) = some (.bl (decide (w = a ∨ w = b))) := by
  unfold inD inB
  simp [flatD, eqF, beq_dec, eq_comm]
theorem lin6 (w a b c d e f : Str) : inD true (.str w) (.lst [.str a, .str b, .str c, .str d, .str e, .str f]) = some (.bl (!decide (w = a ∨ w = b ∨ w = c ∨ w = d ∨ w = e ∨ w = f))) := by
  unfold inD inB
  simp [flatD, eqF, beq_dec, eq_comm]
theorem lstO_six (a b c d e f : D) : lstO [a, b, c, d, e, f] = some [a, b, c, d, e, f] := lstO_le (by simp)
def six (w : Str) : Prop := w = "keep" ∨ w = "back" ∨ w = "pass" ∨ w = "swap" ∨ w = "bring" ∨ w = "off"
instance (w : Str) : Decidable (six w) := by unfold six; infer_instance
theorem lin6' (w : Str) : inD true (.str w) (.lst [.str "keep", .str "back", .str "pass", .str "swap", .str "bring", .str "off"]) = some (.bl (!decide (six w))) := lin6 w _ _ _ _ _ _
theorem isi_str {d : D} (h : okD d = true) : (∃ s, d = .str s) ∨ (isiD "str" d = some (.bl false) ∧ ∀ s, d ≠ .str s) := by
  cases d with
  | str s => exact .inl ⟨s, rfl⟩
  | obj _ => cases h
  | fn _ => cases h
  | exn _ => cases h
  | _ => exact .inr ⟨rfl, fun s e => nomatch e⟩
theorem six_back {w : Str} (h : w = "back" ∨ w = "off") : six w := by
  rcases h with rfl | rfl
  · exact .inr (.inl rfl)
  · exact .inr (.inr (.inr (.inr (.inr rfl))))
theorem li2 (a b : D) : (([a, b].length : Nat) : Int) = 2 := rfl
theorem li23 (a b : D) : ¬ (([a, b].length : Nat) : Int) = 3 := by
  show ¬ ((2 : Int) = 3)
  decide
theorem li32 (a b c : D) : ¬ (([a, b, c].length : Nat) : Int) = 2 := by
  show ¬ ((3 : Int) = 2)
  decide
theorem r_ldeed (n : Nat) {d : D} {many : Int} (h : okD d = true) : Phi GG fns (n + 3) K__law_is_deed [.int many, d] = ret (.bl (isDeed many d)) := by
  rw [e__law_is_deed]
  unfold m__law_is_deed
  rw [isi_tup h]
  simp only [bR, isB_bl, oS, lstO_two, lstO_six]
  by_cases q : tupB d = true
  case neg =>
    rw [Bool.not_eq_true] at q
    rw [q]
    simp only [Bool.not_false, if_true, bR]
    congr 2
    unfold isDeed
    split
    · cases q
    · cases q
    · rfl
  obtain ⟨xs, rfl⟩ := tup_of q
  simp only [q, Bool.not_true, Bool.false_eq_true, if_false, lenD_tup, oS, bR, ord_int, neD_int, eqD_int, isB_bl]
  have c1 : PyData.strOk "keep" = true := by decide +kernel
  have c2 : PyData.strOk "pass" = true := by decide +kernel
  match xs, h with
  | [], h =>
    simp only [List.length_nil, show ((0 : Nat) : Int) < 2 by decide, decide_true, if_true, bR]
    rfl
  | [a], h =>
    simp only [List.length_cons, List.length_nil, show ((0 + 1 : Nat) : Int) < 2 by decide, decide_true, if_true, bR]
    congr 2
    unfold isDeed
    split
    · rename_i e
      cases e
    · rename_i e
      cases e
    · rfl
  | w :: x :: r, h =>
    have hw : okD w = true := okDs_mem h (by simp)
    have hx : okD x = true := okDs_mem h (by simp)
    have hl : ¬ (((w :: x :: r).length : Nat) : Int) < 2 := by simp only [List.length_cons]; omega
    simp only [hl, decide_false, Bool.false_eq_true, if_false, rd_tup, atI0, atI1, oS, bR]
    rcases isi_str hw with ⟨w, rfl⟩ | ⟨hn, hn'⟩
    case inr =>
      simp only [hn, oS, bR, isB_bl, Bool.not_false, if_true]
      congr 2
      unfold isDeed
      split
      · rename_i e
        cases e
        exact (hn' _ rfl).elim
      · rename_i e
        cases e
        exact (hn' _ rfl).elim
      · rfl
    simp only [isiD_str, oS, bR, isB_bl, Bool.not_true, Bool.false_eq_true, if_false, lin2, lin6', decide_eq_true_eq, subD_int, r_number n hx, eqD_str hw c1, eqD_str hw c2]
    by_cases k1 : w = "serve" ∨ w = "come"
    · simp only [k1, if_true]
      match r, h with
      | [], h =>
        show (if ((([D.str w, x].length : Nat) : Int) = 2) then ret (D.bl (isWithin x 1 9)) else ret (D.bl false)) = ret (D.bl (deed2 many w x))
        rw [if_pos (li2 _ _)]
        unfold deed2
        rw [if_pos k1]
      | [y], h =>
        show (if ((([D.str w, x, y].length : Nat) : Int) = 2) then ret (D.bl (isWithin x 1 9)) else ret (D.bl false)) = ret (D.bl (deed3 many w x y))
        rw [if_neg (li32 _ _ _)]
        unfold deed3
        rw [if_pos k1]
      | y :: z :: r, h =>
        rw [if_neg (by simp only [List.length_cons]; omega)]
        rfl
    simp only [k1, if_false]
    by_cases k2 : six w
    case neg =>
      have kb : ¬ (w = "back" ∨ w = "off") := fun z => k2 (six_back z)
      have kk : ¬ w = "keep" := fun z => k2 (.inl z)
      have kp : ¬ w = "pass" := fun z => k2 (.inr (.inr (.inl z)))
      have ks : ¬ (w = "bring" ∨ w = "swap") := fun z => k2 (by rcases z with z | z; exact .inr (.inr (.inr (.inr (.inl z)))); exact .inr (.inr (.inr (.inl z))))
      simp only [k2, decide_false, Bool.not_false, if_true, bR]
      congr 2
      match r with
      | [] =>
        show false = deed2 many w x
        unfold deed2
        simp [k1, kb]
      | [y] =>
        show false = deed3 many w x y
        unfold deed3
        simp [k1, kb, kk, kp, ks]
      | y :: z :: r => rfl
    simp only [k2, decide_true, Bool.not_true, Bool.false_eq_true, if_false, bR, isB_bl, oS]
    by_cases k3 : isWithin x 0 (many - 1) = true
    case neg =>
      rw [Bool.not_eq_true] at k3
      simp only [k3, Bool.not_false, if_true]
      congr 2
      match r with
      | [] =>
        show false = deed2 many w x
        unfold deed2
        simp [k1, k3]
      | [y] =>
        show false = deed3 many w x y
        unfold deed3
        simp [k1, k3]
      | y :: z :: r => rfl
    simp only [k3, Bool.not_true, Bool.false_eq_true, if_false, bR, isB_bl, oS]
    by_cases k4 : w = "back" ∨ w = "off"
    · simp only [k4, if_true, bR]
      match r with
      | [] =>
        show (if ((([D.str w, x].length : Nat) : Int) = 2) then _ else _) = ret (D.bl (deed2 many w x))
        rw [if_pos (li2 _ _)]
        unfold deed2
        simp [k1, k3, k4]
      | [y] =>
        show (if ((([D.str w, x, y].length : Nat) : Int) = 2) then _ else _) = ret (D.bl (deed3 many w x y))
        rw [if_neg (li32 _ _ _)]
        unfold deed3
        simp [k1, k3, k4]
      | y :: z :: r =>
        rw [if_neg (by simp only [List.length_cons]; omega)]
        rfl
    simp only [k4, if_false, decide_false]
    match r, h with
    | [], h =>
      have e1 : ¬ ((([D.str w, x].length : Nat) : Int) = 3) := li23 _ _
      have e2 : ((([D.str w, x].length : Nat) : Int) = 2) := li2 _ _
      simp only [e1, e2, decide_false, decide_true, Bool.not_false, if_true, bR]
      show _ = ret (D.bl (deed2 many w x))
      unfold deed2
      simp [k1, k3, k4]
    | y :: z :: r, h =>
      have e1 : ¬ ((((D.str w :: x :: y :: z :: r).length : Nat) : Int) = 3) := by simp only [List.length_cons]; omega
      have e2 : ¬ ((((D.str w :: x :: y :: z :: r).length : Nat) : Int) = 2) := by simp only [List.length_cons]; omega
      simp only [e1, e2, decide_false, Bool.not_false, if_true, if_false, bR]
      rfl
    | [y], h =>
      have hy : okD y = true := okDs_mem h (by simp)
      have e1 : ((([D.str w, x, y].length : Nat) : Int) = 3) := rfl
      have e3 : atI [D.str w, x, y] 2 = some y := rfl
      simp only [e1, decide_true, Bool.not_true, Bool.false_eq_true, if_false, bR, oS, isB_bl, e3, decide_eq_true_eq, r_number n hy]
      show _ = ret (D.bl (deed3 many w x y))
      unfold deed3
      rw [if_neg k1, if_pos k3, if_neg k4]
      by_cases k5 : w = "keep"
      · simp only [k5, if_true]
        rcases isi_str hy with ⟨s, rfl⟩ | ⟨hn, hn'⟩
        · simp only [isiD_str, oS, bR, isB_bl, if_true, lin2]
          rfl
        · simp only [hn, oS, bR, isB_bl, Bool.false_eq_true, if_false]
          congr 2
          cases y with
          | str s => exact (hn' s rfl).elim
          | _ => rfl
      simp only [k5, if_false]
      by_cases k6 : w = "pass"
      · simp only [k6, if_true]
      simp only [k6, if_false]
      have kb : w = "bring" ∨ w = "swap" := by
        rcases k2 with z | z | z | z | z | z
        · exact (k5 z).elim
        · exact (k4 (.inl z)).elim
        · exact (k6 z).elim
        · exact .inr z
        · exact .inl z
        · exact (k4 (.inr z)).elim
      simp only [kb, decide_true, Bool.true_and]
      by_cases k7 : isWithin y 0 (many - 1) = true
      case neg =>
        rw [Bool.not_eq_true] at k7
        simp only [k7, Bool.false_eq_true, if_false, Bool.false_and]
      obtain ⟨v1, _, _⟩ := iv_of k3
      obtain ⟨v2, _, _⟩ := iv_of k7
      have e4 : eqD true y x = some (.bl (decide (iv x ≠ iv y))) := by
        obtain ⟨i, rfl⟩ : ∃ i, x = .int i := ⟨_, v1⟩
        obtain ⟨j, rfl⟩ : ∃ j, y = .int j := ⟨_, v2⟩
        show eqD true (.int j) (.int i) = some (.bl (decide (i ≠ j)))
        rw [neD_int]
        by_cases z : i = j
        · subst z
          simp
        · have z' : ¬ j = i := fun w => z w.symm
          simp [z, z']
      simp only [k7, if_true, e4, oS, Bool.true_and]
end PV

set_option Elab.async false
set_option linter.all false
set_option maxRecDepth 100000
set_option maxHeartbeats 4000000
/-! PvRg: gaps, by the program. -/
namespace PV
open PySem PySem.Spec PyProof.Rows L2 TL
abbrev big : Int := 1000000000000000000000000000000
def gapsB (r : Nat) (fs : List Fact) : D → Bool
  | .tup xs => decide (xs.length = r + 1) && (xs.all (fun x => isWithin x 0 big) && keepsB fs (intsOf xs))
  | _ => false
theorem r_sums_of (n : Nat) {gs : List Int} (h : gs.length ≤ 1000) : Phi GG fns (n + 1) K_sums_of [gD gs] = ret (.lst ((List.range (gs.length + 1)).map fun i => .int (upx gs i))) := by
  rw [e_sums_of]
  unfold m_sums_of
  have hl : lenD [gD gs] = some (.int ((gs.length : Nat) : Int)) := by
    unfold gD
    rw [lenD_tup, List.length_map]
  simp only [hl, oS, bR, addD_int]
  rw [irng_int (by omega) (by omega)]
  simp only [oS, bR]
  rw [mapO_pure (g := fun x => match x with | .int i => .int (upx gs i.toNat) | d => d)]
  · simp only [bR, List.map_map]
    congr 3
  · intro x hx
    obtain ⟨i, hi, rfl⟩ := List.mem_map.mp hx
    have e : slcD (gD gs) none (some ((i : Nat) : Int)) = some (.tup ((gs.take i).map .int)) := by
      unfold gD
      rw [slc_take _ i rfl, List.map_take]
    simp only [nR, bR, if_true, isI_int, Option.map_some, oS, e, sumD_ints]
    first | done | rfl
theorem r_are_gaps (n : Nat) {m : D} {row : List D} {fs : List Fact} {d : D} (h : okD d = true) (hr : row.length ≤ 50) (hf : ∀ f ∈ fs, FB row.length f) :
    Phi GG fns (n + 2) K_are_gaps [.tup [m, .tup row, .tup (fs.map fD)], d] = ret (.bl (gapsB row.length fs d)) := by
  rw [e_are_gaps]
  unfold m_are_gaps
  have c1 : ((row.length : Nat) : Int) + 1 = ((row.length + 1 : Nat) : Int) := by omega
  simp only [rd_tup, atI1, atI2, lenD_tup, addD_int, oS, bR, c1, r_has_items (n := n) h, isB_bl]
  by_cases q : hasItems d ((row.length + 1 : Nat) : Int) ((row.length + 1 : Nat) : Int) = true
  case neg =>
    rw [Bool.not_eq_true] at q
    rw [q]
    simp only [Bool.not_false, if_true, bR]
    congr 2
    cases d with
    | tup xs =>
      show false = (decide (xs.length = row.length + 1) && _)
      have : ¬ xs.length = row.length + 1 := fun z => by
        have q : (decide (((row.length + 1 : Nat) : Int) ≤ (xs.length : Int)) && decide ((xs.length : Int) ≤ ((row.length + 1 : Nat) : Int))) = false := q
        rw [z] at q
        simp at q
      rw [decide_eq_false this]
      rfl
    | _ => rfl
  rw [q]
  cases d with
  | tup xs =>
    have q' : (decide (((row.length + 1 : Nat) : Int) ≤ (xs.length : Int)) && decide ((xs.length : Int) ≤ ((row.length + 1 : Nat) : Int))) = true := q
    have hl : xs.length = row.length + 1 := by
      rw [Bool.and_eq_true, decide_eq_true_eq, decide_eq_true_eq] at q'
      omega
    have hw : ∀ x ∈ xs, okD x = true := fun x hx => okDs_mem h hx
    simp only [Bool.not_true, Bool.false_eq_true, if_false, items_tup, oS, bR, nR, if_true]
    rw [mapO_pure (g := fun x => .bl (isWithin x 0 big))]
    case _ =>
      simp only [bR, allD_map, oS, isB_bl]
      have e : gapsB row.length fs (.tup xs) = (xs.all (fun x => isWithin x 0 big) && keepsB fs (intsOf xs)) := by
        show (decide (xs.length = row.length + 1) && _) = _
        rw [decide_eq_true hl, Bool.true_and]
      by_cases a : xs.all (fun x => isWithin x 0 big) = true
      case neg =>
        rw [Bool.not_eq_true] at a
        rw [e, a]
        rfl
      obtain ⟨b1, b2, b3, b4⟩ := isInts_of a
      have exs : D.tup xs = gD (intsOf xs) := by
        unfold gD
        rw [← b3]
      have hgs : (intsOf xs).length = row.length + 1 := by omega
      rw [e, a, Bool.true_and]
      rw [exs]
      generalize intsOf xs = gs at hgs
      simp only [Bool.not_true, Bool.false_eq_true, if_false, r_sums_of n (gs := gs) (by omega), bR]
      generalize D.tup [m, .tup row, .tup (fs.map fD)] = Z
      refine ret_of fun S => ?_
      refine forC_wp (fun ys ρ S' => S' = S ∧ ∃ (gl : List Fact) (s4 s5 s6 s7 s8 : Slot), ys = gl.map fD ∧ (∀ f ∈ gl, f ∈ fs) ∧ keepsB gl gs = keepsB fs gs ∧ ρ = [.val Z, .val (gD gs), .val (.int ((row.length + 1 : Nat) : Int)), .val (.lst ((List.range (gs.length + 1)).map fun i => .int (upx gs i))), s4, s5, s6, s7, s8]) ?_ ?_ _ _ _ ⟨rfl, fs, .un, .un, .un, .un, .un, rfl, fun f h => h, rfl, rfl⟩
      · rintro ρ S' ⟨rfl, gl, s4, s5, s6, s7, s8, hx, hg, he, rfl⟩
        have : gl = [] := by cases gl <;> first | rfl | cases hx
        subst this
        rw [wp_ret, ← he]
        exact ⟨rfl, rfl⟩
      · rintro x ys ρ S' kk ⟨rfl, gl, s4, s5, s6, s7, s8, hx, hg, he, rfl⟩ hk'
        cases gl with
        | nil => cases hx
        | cons f gl =>
          cases hx
          have qf := hf f (hg f List.mem_cons_self)
          have q1 := qf.ab
          have q2 := qf.b1
          have ek : keepsB (f :: gl) gs = (keep1 gs f && keepsB gl gs) := rfl
          have ga : ∀ i : Nat, i < gs.length + 1 → atI ((List.range (gs.length + 1)).map fun i => D.int (upx gs i)) (i : Int) = some (.int (upx gs i)) := fun i hi => atI_ix (by rw [List.getElem?_map, List.getElem?_range hi]; rfl)
          unfold fD
          simp only [asgn_many, setMany_nil, setMany_cons, List.set_cons_zero, List.set_cons_succ, getV_zero, getV_succ, oS, bR, rd_lst, ga f.a (by omega), ga f.b (by omega), subD_int, ord_int, isB_bl, ← btw_upx gs (show f.a ≤ f.b by omega)]
          by_cases c1 : btw gs f.a f.b < f.lo
          · have z : keep1 gs f = false := by
              unfold keep1
              rw [decide_eq_false (by omega)]
              rfl
            simp only [c1, decide_true, if_true, bR]
            rw [wp_ret]
            refine ⟨?_, rfl⟩
            rw [← he, ek, z]
            rfl
          · simp only [c1, decide_false, Bool.false_eq_true, if_false, isND_non, oS, bR, isB_bl]
            cases hh : f.hi with
            | none =>
              simp only [oD, isNon, bR, Bool.not_true, if_true, Bool.false_eq_true, if_false, isND_non, oS, isB_bl]
              refine hk' _ _ ⟨rfl, gl, _, _, _, _, _, rfl, fun g hg' => hg g (List.mem_cons_of_mem _ hg'), ?_, rfl⟩
              rw [← he, ek]
              unfold keep1
              rw [hh, decide_eq_true (by omega)]
              rfl
            | some k =>
              simp only [oD, isNon, bR, Bool.not_false, if_true, ord_int, oS, isB_bl, isND_non, decide_eq_true_eq]
              by_cases c2 : k < btw gs f.a f.b
              · rw [if_pos c2, wp_ret]
                refine ⟨?_, rfl⟩
                rw [← he, ek]
                unfold keep1
                rw [hh, decide_eq_true (by omega)]
                have : ¬ btw gs f.a f.b ≤ k := by omega
                simp [this]
              · rw [if_neg c2]
                refine hk' _ _ ⟨rfl, gl, _, _, _, _, _, rfl, fun g hg' => hg g (List.mem_cons_of_mem _ hg'), ?_, rfl⟩
                rw [← he, ek]
                unfold keep1
                rw [hh, decide_eq_true (by omega)]
                have : btw gs f.a f.b ≤ k := by omega
                simp [this]
    case _ =>
      intro x hx
      rw [r_is_within n (hw x hx)]
      rfl
  | _ => cases q
theorem r_is_queue (n : Nat) {d : D} (h : okD d = true) : Phi GG fns (n + 6) K_is_queue [d] = ret (.bl (isQueue d)) := by
  rw [e_is_queue]
  exact r_is_queue_value n h
theorem r_is_gaps (n : Nat) {m : D} {row : List D} {fs : List Fact} {d : D} (ho : okD (.tup [m, .tup row, .tup (fs.map fD)]) = true) (hq : isQueue (.tup [m, .tup row, .tup (fs.map fD)]) = true) (h : okD d = true) (hr : row.length ≤ 50) (hf : ∀ f ∈ fs, FB row.length f) :
    Phi GG fns (n + 7) K_is_gaps [.tup [m, .tup row, .tup (fs.map fD)], d] = ret (.bl (gapsB row.length fs d)) := by
  rw [e_is_gaps]
  unfold m_is_gaps
  rw [r_need_queue n ho, hq, if_pos rfl, r_are_gaps (n + 4) h hr hf]
  rfl
theorem r_is_gaps_no (n : Nat) {q d : D} (ho : okD q = true) (hq : isQueue q = false) : Phi GG fns (n + 7) K_is_gaps [q, d] = raiM "InvalidQueue" none := by
  rw [e_is_gaps]
  unfold m_is_gaps
  rw [r_need_queue n ho, hq, if_neg Bool.false_ne_true]
  rfl
theorem r_is_script (n : Nat) {q d : D} {many : Int} (ho : okD q = true) (hq : isQueue q = true) (hm : ∃ xs, q = .tup (.int many :: xs)) (h : okD d = true) : Phi GG fns (n + 7) K_is_script [q, d] = ret (.bl (isScript many d)) := by
  rw [e_is_script]
  unfold m_is_script
  rw [r_need_queue n ho, hq, if_pos rfl, r_is_script_value (n + 3) hm h]
  rfl
end PV

set_option Elab.async false
set_option linter.all false
set_option maxRecDepth 100000
set_option maxHeartbeats 4000000
/-! PvRh: what is spoilt. -/
namespace PV
open PySem PySem.Spec PyProof.Rows L2 TL
theorem dps_le {k : Nat} : ∀ {xs : List D}, (∀ x ∈ xs, dp x ≤ k) → dps xs ≤ k
  | [], _ => Nat.zero_le _
  | x :: xs, h => by
    unfold dps
    exact Nat.max_le.mpr ⟨h x List.mem_cons_self, dps_le fun y hy => h y (List.mem_cons_of_mem _ hy)⟩
mutual
/-- how long lists are within -/
def wid : D → Nat
  | .tup xs => max xs.length (wids xs)
  | .lst xs => max xs.length (wids xs)
  | _ => 0
def wids : List D → Nat
  | [] => 0
  | x :: xs => max (wid x) (wids xs)
end
theorem wids_le {k : Nat} : ∀ {xs : List D}, (∀ x ∈ xs, wid x ≤ k) → wids xs ≤ k
  | [], _ => Nat.zero_le _
  | x :: xs, h => by
    unfold wids
    exact Nat.max_le.mpr ⟨h x List.mem_cons_self, wids_le fun y hy => h y (List.mem_cons_of_mem _ hy)⟩
theorem wids_mem : ∀ {xs : List D} {x : D}, x ∈ xs → wid x ≤ wids xs
  | y :: ys, x, h => by
    unfold wids
    rcases List.mem_cons.mp h with rfl | h
    · exact Nat.le_max_left _ _
    · exact Nat.le_trans (wids_mem h) (Nat.le_max_right _ _)
structure Tm (k L : Nat) (d : D) : Prop where
  ok : okD d = true
  dp : dp d ≤ k
  wd : wid d ≤ L
theorem Tm.mono {k L k' L' : Nat} {d : D} (h : Tm k L d) (a : k ≤ k') (b : L ≤ L') : Tm k' L' d := ⟨h.ok, Nat.le_trans h.dp a, Nat.le_trans h.wd b⟩
theorem Tm.tup {k L : Nat} {xs : List D} (h : ∀ x ∈ xs, Tm k L x) (l : xs.length ≤ L) : Tm (k + 1) L (.tup xs) :=
  ⟨okDs_of fun x hx => (h x hx).ok, Nat.succ_le_succ (dps_le fun x hx => (h x hx).dp), Nat.max_le.mpr ⟨l, wids_le fun x hx => (h x hx).wd⟩⟩
theorem Tm.lst {k L : Nat} {xs : List D} (h : ∀ x ∈ xs, Tm k L x) (l : xs.length ≤ L) : Tm (k + 1) L (.lst xs) :=
  ⟨okDs_of fun x hx => (h x hx).ok, Nat.succ_le_succ (dps_le fun x hx => (h x hx).dp), Nat.max_le.mpr ⟨l, wids_le fun x hx => (h x hx).wd⟩⟩
theorem Tm.inT {k L : Nat} {xs : List D} (h : Tm k L (.tup xs)) : ∃ j, k = j + 1 ∧ xs.length ≤ L ∧ ∀ x ∈ xs, Tm j L x := by
  have d : dps xs + 1 ≤ k := h.dp
  have w : max xs.length (wids xs) ≤ L := h.wd
  refine ⟨k - 1, by omega, by omega, fun x hx => ⟨okDs_mem h.ok hx, ?_, ?_⟩⟩
  · have := dps_mem hx
    omega
  · have := wids_mem hx
    omega
theorem Tm.inL {k L : Nat} {xs : List D} (h : Tm k L (.lst xs)) : ∃ j, k = j + 1 ∧ xs.length ≤ L ∧ ∀ x ∈ xs, Tm j L x := by
  have d : dps xs + 1 ≤ k := h.dp
  have w : max xs.length (wids xs) ≤ L := h.wd
  refine ⟨k - 1, by omega, by omega, fun x hx => ⟨okDs_mem h.ok hx, ?_, ?_⟩⟩
  · have := dps_mem hx
    omega
  · have := wids_mem hx
    omega
theorem tm_leaf {k L : Nat} {d : D} (h : okD d = true) (h1 : PV.dp d = 0) (h2 : wid d = 0) : Tm k L d := ⟨h, by omega, by omega⟩
theorem atI_mem {xs : List D} {i : Int} (h : 0 ≤ i) (h2 : i < (xs.length : Int)) : ∃ d ∈ xs, atI xs i = some d := by
  obtain ⟨k, rfl⟩ : ∃ k : Nat, i = (k : Int) := ⟨i.toNat, by omega⟩
  have hk : k < xs.length := by omega
  exact ⟨xs[k], List.getElem_mem hk, atI_ix (List.getElem?_eq_getElem hk)⟩
/-- one of a list, by a number that is picked -/
theorem pick_at (n : Nat) {o k : Nat} {xs : List D} {s : Int} {S : Store} {Q : D → Store → Prop} (h : Dk S o k) (hk : k ≤ 1000000000) (hs : s = (xs.length : Int)) (h1 : xs ≠ []) (h2 : xs.length < 1000000) (q : ∀ d S', d ∈ xs → Dk S' o (k + 1) → Q d S') :
    wp (bnd (Phi GG fns (n + 1) K__law_pick [.obj o, .int s]) fun t => rd fun S => idxD S (.lst xs) t) S Q := by
  have l1 : 1 ≤ xs.length := by
    cases xs with
    | nil => exact (h1 rfl).elim
    | cons => simp
  rw [wp_bnd]
  refine r_pick n h hk (by omega) (by omega) fun i S' i0 i1 hS' => ?_
  obtain ⟨d, hd, e⟩ := atI_mem (xs := xs) i0 (by omega)
  rw [rd_lst, e, oS, wp_ret]
  exact q d S' hd hS'
def seqB : D → Bool
  | .tup _ => true
  | .lst _ => true
  | _ => false
theorem isw_of {d : D} (h : okD d = true) : isi2D "tuple" "list" d = some (.bl (seqB d)) := by
  cases d with
  | obj _ => cases h
  | fn _ => cases h
  | exn _ => cases h
  | _ => rfl
theorem isis_of {d : D} (h : okD d = true) : isiD "str" d = some (.bl (match d with | .str _ => true | _ => false)) := by
  cases d with
  | obj _ => cases h
  | fn _ => cases h
  | exn _ => cases h
  | _ => rfl
theorem lofD_tup (xs : List D) : lofD (.tup xs) = some xs := rfl
theorem lofD_lst (xs : List D) : lofD (.lst xs) = some xs := rfl
theorem tupD_t (xs : List D) : tupD [.tup xs] = some (.tup xs) := rfl
theorem setO_at {xs : List D} {i : Int} {d : D} (h : 0 ≤ i) (h2 : i < (xs.length : Int)) : setO xs (.int i) d = some (xs.set i.toNat d) := by
  have e : ixN xs.length i = some i.toNat := by
    unfold ixN
    rw [if_pos h, if_pos h2]
  show (ixN xs.length i).map _ = _
  rw [e]
  rfl
theorem addD_tl {a b : List D} (h : a.length + b.length ≤ 1000000) : addD (.tup a) (.tup b) = some (.tup (a ++ b)) := by
  have : 1000000 ≤ sizeLine := by decide
  exact if_pos (by omega)
def sixL (w v : List D → D) (xs : List D) : List D := [v xs, w (xs ++ xs.take 1), w (xs.drop 1), w xs.reverse, .tup [.int 0, .int 1], .non]
theorem sixL_ok {w v : List D → D} {xs : List D} {j L : Nat} (hw : ∀ ys : List D, (∀ y ∈ ys, Tm j (L + 1) y) → ys.length ≤ L + 1 → Tm (j + 1) (L + 1) (w ys)) (hv : ∀ ys : List D, (∀ y ∈ ys, Tm j (L + 1) y) → ys.length ≤ L + 1 → Tm (j + 1) (L + 1) (v ys)) (hL : 1 ≤ L) (hx : ∀ x ∈ xs, Tm j L x) (hl : xs.length ≤ L) :
    ∀ d ∈ sixL w v xs, Tm (j + 2) (L + 1) d := by
  have hx' : ∀ x ∈ xs, Tm j (L + 1) x := fun x h => (hx x h).mono (Nat.le_refl _) (by omega)
  have up : ∀ d, Tm (j + 1) (L + 1) d → Tm (j + 2) (L + 1) d := fun d h => h.mono (by omega) (Nat.le_refl _)
  intro d hd
  unfold sixL at hd
  simp only [List.mem_cons, List.not_mem_nil, or_false] at hd
  rcases hd with rfl | rfl | rfl | rfl | rfl | rfl
  · exact up _ (hv xs hx' (by omega))
  · refine up _ (hw _ (fun y hy => ?_) ?_)
    · rcases List.mem_append.mp hy with hy | hy
      · exact hx' y hy
      · exact hx' y (List.mem_of_mem_take hy)
    · rw [List.length_append, List.length_take]
      omega
  · refine up _ (hw _ (fun y hy => hx' y (List.mem_of_mem_drop hy)) ?_)
    rw [List.length_drop]
    omega
  · refine up _ (hw _ (fun y hy => hx' y (List.mem_reverse.mp hy)) ?_)
    rw [List.length_reverse]
    omega
  · refine Tm.mono (k := 1) (L := 2) ?_ (by omega) (by omega)
    exact Tm.tup (k := 0) (fun x hx => by
      simp only [List.mem_cons, List.not_mem_nil, or_false] at hx
      rcases hx with rfl | rfl <;> exact tm_leaf rfl rfl rfl) (Nat.le_refl _)
  · exact tm_leaf rfl rfl rfl
theorem set_ok {xs : List D} {i : Nat} {d : D} {j L : Nat} (hx : ∀ x ∈ xs, Tm j L x) (hd : Tm (j + 1) (L + 1) d) : ∀ x ∈ xs.set i d, Tm (j + 1) (L + 1) x := by
  intro x h
  rcases List.mem_or_eq_of_mem_set h with h | rfl
  · exact (hx x h).mono (by omega) (by omega)
  · exact hd
def ten (i : Int) : List D := [.int (1 - i), .int (i + 1), .int 60, .bl true, .bl false, .non, .str "1", .int 0, .int 3, .int 61]
def sev : List D := [.non, .int 0, .str "x", .tup [], .lst [], .bl true, .int 5]
def eig : List D := [.str "serve", .str "keep", .str "back", .str "ahead", .str "", .non, .int 0, .str "Pass"]
theorem ten_ok {k L : Nat} (i : Int) : ∀ d ∈ ten i, Tm k L d := by
  intro d hd
  unfold ten at hd
  simp only [List.mem_cons, List.not_mem_nil, or_false] at hd
  rcases hd with rfl | rfl | rfl | rfl | rfl | rfl | rfl | rfl | rfl | rfl <;> first | exact tm_leaf rfl rfl rfl | exact tm_leaf (by decide +kernel) rfl rfl
theorem sev_ok {k L : Nat} : ∀ d ∈ sev, Tm (k + 1) L d := by
  intro d hd
  unfold sev at hd
  simp only [List.mem_cons, List.not_mem_nil, or_false] at hd
  rcases hd with rfl | rfl | rfl | rfl | rfl | rfl | rfl
  · exact tm_leaf rfl rfl rfl
  · exact tm_leaf rfl rfl rfl
  · exact tm_leaf (by decide +kernel) rfl rfl
  · exact Tm.tup (fun x hx => by cases hx) (Nat.zero_le _)
  · exact Tm.lst (fun x hx => by cases hx) (Nat.zero_le _)
  · exact tm_leaf rfl rfl rfl
  · exact tm_leaf rfl rfl rfl
theorem eig_ok {k L : Nat} : ∀ d ∈ eig, Tm k L d := by
  intro d hd
  unfold eig at hd
  simp only [List.mem_cons, List.not_mem_nil, or_false] at hd
  rcases hd with rfl | rfl | rfl | rfl | rfl | rfl | rfl | rfl <;> exact tm_leaf (by decide +kernel) rfl rfl
theorem lstO_ten (i : Int) : lstO (ten i) = some (ten i) := lstO_le (show 10 ≤ 1000000 by decide)
theorem lstO_sev : lstO sev = some sev := lstO_le (show 7 ≤ 1000000 by decide)
theorem lstO_eig : lstO eig = some eig := lstO_le (show 8 ≤ 1000000 by decide)
end PV

set_option Elab.async false
set_option linter.all false
set_option maxRecDepth 100000
set_option maxHeartbeats 4000000
/-! PvRi: what is spoilt, by the def of the law. -/
namespace PV
open PySem PySem.Spec PyProof.Rows L2 TL
def SpI (j : Nat) : Prop := ∀ (n o kk L : Nat) (d : D) (S : Store) (Q : D → Store → Prop), Tm j L d → 1 ≤ L → L ≤ 1000 → Dk S o kk → kk + 2 * (j + 1) ≤ 1000000 → (∀ d' S', Tm (j + 1) (L + 1) d' → Dk S' o (kk + 2 * (j + 1)) → Q d' S') → wp (Phi GG fns (n + j + 3) K__law_spoilt [.obj o, d]) S Q
theorem tupO_nil : tupO [] = some (.tup []) := Eq.trans rfl rfl
theorem slcT1 (xs : List D) : slcD (.tup xs) none (some 1) = some (.tup (xs.take 1)) := slc_take xs 1 rfl
theorem slcD1 (xs : List D) : slcD (.tup xs) (some 1) none = some (.tup (xs.drop 1)) := slc_drop xs 1 rfl
theorem lslT1 (xs : List D) : lslD (.lst xs) none (some 1) = some (xs.take 1) := lsl_take xs 1 rfl
theorem lslD1 (xs : List D) : lslD (.lst xs) (some 1) none = some (xs.drop 1) := lsl_drop xs 1 rfl
theorem spoilt_tup (j n o kk L : Nat) (xs : List D) (S : Store) (Q : D → Store → Prop) (h : Tm j L (.tup xs)) (hL : 1 ≤ L) (hL2 : L ≤ 1000) (hS : Dk S o kk) (hk : kk + 2 * (j + 1) ≤ 1000000) (ih : ∀ j', j = j' + 1 → SpI j') (q : ∀ d' S', Tm (j + 1) (L + 1) d' → Dk S' o (kk + 2 * (j + 1)) → Q d' S') : wp (Phi GG fns (n + j + 3) K__law_spoilt [.obj o, .tup xs]) S Q := by
  rw [show n + j + 3 = (n + j + 2) + 1 from rfl, e__law_spoilt]
  unfold m__law_spoilt
  have ho := h.ok
  obtain ⟨j', rfl, hl, hx⟩ := h.inT
  have hI := ih j' rfl
  have i1 : isI (.int 1) = some 1 := rfl
  have hadd : addD (.tup xs) (.tup (xs.take 1)) = some (.tup (xs ++ xs.take 1)) := addD_tl (by rw [List.length_take]; omega)
  have h6 : lstO [.lst xs, .tup (xs ++ xs.take 1), .tup (xs.drop 1), .tup xs.reverse, .tup [.int 0, .int 1], .non] = some (sixL .tup .lst xs) := lstO_six _ _ _ _ _ _
  simp only [isw_of ho, isi_tup ho, seqB, tupB, oS, bR, isB_bl, if_true, lenD_tup, ord_int, i1, Option.map_some, slcT1, slcD1, lslT1, lslD1, hadd, lofD_tup, tupO2, trevD, revD, Bool.false_eq_true, if_false, tupD_l, h6]
  have partC : ∀ S', Dk S' o (kk + 1) → wp (bnd (Phi GG fns (n + (j' + 1) + 2) K__law_pick [D.obj o, D.int 6]) fun t45 => rd fun S => idxD S (.lst (sixL .tup .lst xs)) t45) S' Q := fun S' hS' => by
    refine pick_at (n + j' + 2) hS' (by omega) rfl (fun z => by cases z) (show 6 < 1000000 by decide) fun d S2 hd hS2 => ?_
    exact q d S2 (sixL_ok (fun ys h1 h2 => Tm.tup h1 h2) (fun ys h1 h2 => Tm.lst h1 h2) hL hx hl d hd) (hS2.mono (by omega))
  by_cases c0 : (0 : Int) < (xs.length : Int)
  case neg =>
    simp only [c0, decide_false, Bool.false_eq_true, if_false, bR]
    exact partC S (hS.mono (by omega))
  simp only [c0, decide_true, if_true, wp_bnd]
  refine r_pick (n + j' + 2) hS (by omega) (by omega) (by omega) fun c S1 c1 c2 hS1 => ?_
  rw [ord_int, oS, wp_ret, isB_bl, oS, wp_ret]
  by_cases c3 : 0 < c
  case neg =>
    simp only [c3, decide_false, Bool.false_eq_true, if_false]
    exact partC S1 hS1
  simp only [c3, decide_true, if_true, wp_bnd]
  refine r_pick (n + j' + 2) hS1 (by omega) (by omega) (by omega) fun i S2 i0 i9 hS2 => ?_
  obtain ⟨x, hxm, ex⟩ := atI_mem i0 i9
  have ex : atD xs (.int i) = some x := ex
  simp only [ex, oS, wp_ret]
  refine hI n o (kk + 1 + 1) L x S2 _ (hx x hxm) hL hL2 hS2 (by omega) fun d' S3 hd' hS3 => ?_
  simp only [setO_at i0 i9, oS, wp_ret, tupD_l]
  exact q _ _ (Tm.tup (set_ok hx hd') (by rw [List.length_set]; omega)) (hS3.mono (by omega))
theorem spoilt_lst (j n o kk L : Nat) (xs : List D) (S : Store) (Q : D → Store → Prop) (h : Tm j L (.lst xs)) (hL : 1 ≤ L) (hL2 : L ≤ 1000) (hS : Dk S o kk) (hk : kk + 2 * (j + 1) ≤ 1000000) (ih : ∀ j', j = j' + 1 → SpI j') (q : ∀ d' S', Tm (j + 1) (L + 1) d' → Dk S' o (kk + 2 * (j + 1)) → Q d' S') : wp (Phi GG fns (n + j + 3) K__law_spoilt [.obj o, .lst xs]) S Q := by
  rw [show n + j + 3 = (n + j + 2) + 1 from rfl, e__law_spoilt]
  unfold m__law_spoilt
  have ho := h.ok
  obtain ⟨j', rfl, hl, hx⟩ := h.inL
  have hI := ih j' rfl
  have i1 : isI (.int 1) = some 1 := rfl
  have hadd : catD (.lst xs) (.lst (xs.take 1)) = some (xs ++ xs.take 1) := catD_le (by rw [List.length_take]; omega)
  have h6 : lstO [.tup xs, .lst (xs ++ xs.take 1), .lst (xs.drop 1), .lst xs.reverse, .tup [.int 0, .int 1], .non] = some (sixL .lst .tup xs) := lstO_six _ _ _ _ _ _
  simp only [isw_of ho, isi_tup ho, seqB, tupB, oS, bR, isB_bl, if_true, lenD_lst, ord_int, i1, Option.map_some, slcT1, slcD1, lslT1, lslD1, hadd, lofD_lst, tupO2, trevD, revD, Bool.false_eq_true, if_false, tupD_l, h6]
  have partC : ∀ S', Dk S' o (kk + 1) → wp (bnd (Phi GG fns (n + (j' + 1) + 2) K__law_pick [D.obj o, D.int 6]) fun t45 => rd fun S => idxD S (.lst (sixL .lst .tup xs)) t45) S' Q := fun S' hS' => by
    refine pick_at (n + j' + 2) hS' (by omega) rfl (fun z => by cases z) (show 6 < 1000000 by decide) fun d S2 hd hS2 => ?_
    exact q d S2 (sixL_ok (fun ys h1 h2 => Tm.lst h1 h2) (fun ys h1 h2 => Tm.tup h1 h2) hL hx hl d hd) (hS2.mono (by omega))
  by_cases c0 : (0 : Int) < (xs.length : Int)
  case neg =>
    simp only [c0, decide_false, Bool.false_eq_true, if_false, bR]
    exact partC S (hS.mono (by omega))
  simp only [c0, decide_true, if_true, wp_bnd]
  refine r_pick (n + j' + 2) hS (by omega) (by omega) (by omega) fun c S1 c1 c2 hS1 => ?_
  rw [ord_int, oS, wp_ret, isB_bl, oS, wp_ret]
  by_cases c3 : 0 < c
  case neg =>
    simp only [c3, decide_false, Bool.false_eq_true, if_false]
    exact partC S1 hS1
  simp only [c3, decide_true, if_true, wp_bnd]
  refine r_pick (n + j' + 2) hS1 (by omega) (by omega) (by omega) fun i S2 i0 i9 hS2 => ?_
  obtain ⟨x, hxm, ex⟩ := atI_mem i0 i9
  have ex : atD xs (.int i) = some x := ex
  simp only [ex, oS, wp_ret]
  refine hI n o (kk + 1 + 1) L x S2 _ (hx x hxm) hL hL2 hS2 (by omega) fun d' S3 hd' hS3 => ?_
  simp only [setO_at i0 i9, oS, wp_ret]
  exact q _ _ (Tm.lst (set_ok hx hd') (by rw [List.length_set]; omega)) (hS3.mono (by omega))
theorem spoilt_leaf (j n o kk L : Nat) (d : D) (S : Store) (Q : D → Store → Prop) (h : Tm j L d) (hd : seqB d = false) (hS : Dk S o kk) (hk : kk + 2 * (j + 1) ≤ 1000000) (q : ∀ d' S', Tm (j + 1) (L + 1) d' → Dk S' o (kk + 2 * (j + 1)) → Q d' S') : wp (Phi GG fns (n + j + 3) K__law_spoilt [.obj o, d]) S Q := by
  rw [show n + j + 3 = (n + j + 2) + 1 from rfl, e__law_spoilt]
  unfold m__law_spoilt
  have ho := h.ok
  have h8 : lstO [.str "serve", .str "keep", .str "back", .str "ahead", .str "", .non, .int 0, .str "Pass"] = some eig := lstO_eig
  have h7 : lstO [.non, .int 0, .str "x", .tup [], .lst [], .bl true, .int 5] = some sev := lstO_sev
  simp only [isw_of ho, hd, isis_of ho, oS, bR, isB_bl, Bool.false_eq_true, if_false, r_whole (n + j + 1) ho, tupO_nil, lstO_nil, h8, h7]
  have part7 : wp (bnd (Phi GG fns (n + j + 2) K__law_pick [D.obj o, D.int 7]) fun t => rd fun S => idxD S (.lst sev) t) S Q := by
    refine pick_at (n + j + 1) hS (by omega) rfl (fun z => by cases z) (show 7 < 1000000 by decide) fun d S2 hd hS2 => ?_
    exact q d S2 (sev_ok d hd) (hS2.mono (by omega))
  cases d with
  | tup xs => cases hd
  | lst xs => cases hd
  | obj _ => cases ho
  | fn _ => cases ho
  | exn _ => cases ho
  | str z =>
    simp only [if_true]
    refine r_one (n + j) hS (by omega) (fun z => by cases z) (show 8 < 1000000 by decide) fun d S2 hd hS2 => ?_
    exact q d S2 (eig_ok d hd) (hS2.mono (by omega))
  | int i =>
    have h10 : lstO [.int (1 - i), .int (i + 1), .int 60, .bl true, .bl false, .non, .str "1", .int 0, .int 3, .int 61] = some (ten i) := lstO_ten i
    simp only [Bool.false_eq_true, if_false, wholeB, if_true, subD_int, addD_int, oS, bR, h10]
    refine pick_at (n + j + 1) hS (by omega) rfl (fun z => by cases z) (show 10 < 1000000 by decide) fun d S2 hd hS2 => ?_
    exact q d S2 (ten_ok i d hd) (hS2.mono (by omega))
  | bl b =>
    simp only [Bool.false_eq_true, if_false, wholeB]
    exact part7
  | non =>
    simp only [Bool.false_eq_true, if_false, wholeB]
    exact part7
theorem spoilt_any (j n o kk L : Nat) (d : D) (S : Store) (Q : D → Store → Prop) (h : Tm j L d) (hL : 1 ≤ L) (hL2 : L ≤ 1000) (hS : Dk S o kk) (hk : kk + 2 * (j + 1) ≤ 1000000) (ih : ∀ j', j = j' + 1 → SpI j') (q : ∀ d' S', Tm (j + 1) (L + 1) d' → Dk S' o (kk + 2 * (j + 1)) → Q d' S') : wp (Phi GG fns (n + j + 3) K__law_spoilt [.obj o, d]) S Q := by
  cases d with
  | tup xs => exact spoilt_tup j n o kk L xs S Q h hL hL2 hS hk ih q
  | lst xs => exact spoilt_lst j n o kk L xs S Q h hL hL2 hS hk ih q
  | _ => exact spoilt_leaf j n o kk L _ S Q h rfl hS hk q
theorem r_spoilt : ∀ j, SpI j := by
  intro j
  induction j with
  | zero =>
    intro n o kk L d S Q h hL hL2 hS hk q
    exact spoilt_any 0 n o kk L d S Q h hL hL2 hS hk (fun j' e => absurd e (by omega)) q
  | succ j ih =>
    intro n o kk L d S Q h hL hL2 hS hk q
    exact spoilt_any (j + 1) n o kk L d S Q h hL hL2 hS hk (fun j' e => by cases e; exact ih) q
end PV

set_option Elab.async false
set_option linter.all false
set_option maxRecDepth 100000
set_option maxHeartbeats 4000000
/-! PvRj: scripts and gaps, right and spoilt. -/
namespace PV
open PySem PySem.Spec PyProof.Rows L2 TL
theorem r_same2 (n : Nat) {d e : D} (h : d = e) (ho : okD d = true) (hd : dp d ≤ n) : Phi GG fns (n + 2) K__law_same [d, e] = ret (.bl true) := by
  subst h
  exact r_same n d ho hd
theorem wp_eq {α β : Type} {x : Mm α} {a : α} {f : α → Mm β} {S : Store} {Q : β → Store → Prop} (h : x = ret a) (k : wp (f a) S Q) : wp (bnd x f) S Q := by
  rw [h]
  exact k
theorem r_sameB (n : Nat) (b : Bool) : Phi GG fns (n + 2) K__law_same [.bl b, .bl b] = ret (.bl true) := r_same2 n rfl rfl (Nat.zero_le _)
theorem fok_FB {r : Nat} {f : Fact} (h : FactOk r f) : FB r f := ⟨h.ab, h.b1⟩
theorem pow30 : powD (.int 10) (.int 30) = some (.int big) := by
  rw [powD_int (by decide) (by decide) (by decide)]
  rfl
theorem tm_script {m : Int} {ds : List D} (hm : m ≤ 4) (l : ds.length ≤ 6) (h : ∀ d ∈ ds, isDeed m d = true) : Tm 2 6 (.tup ds) := by
  refine Tm.tup (k := 1) (fun d hd => ?_) l
  obtain ⟨w, rest, F⟩ := deed_form (by omega) (h d hd)
  rw [F.e]
  refine Tm.mono (k := 1) (L := 3) ?_ (Nat.le_refl _) (by omega)
  refine Tm.tup (k := 0) (fun x hx => ?_) (by have := F.l2; simp only [List.length_cons]; omega)
  rcases List.mem_cons.mp hx with rfl | hx
  · refine ⟨okDs_mem (F.e ▸ F.ok : okD (.tup (.str w :: rest)) = true) List.mem_cons_self, Nat.le_refl _, Nat.zero_le _⟩
  · have ho := (arg_ok (F.args x hx)).2.2.2.2
    rcases F.args x hx with ⟨i, rfl, _⟩ | rfl | rfl <;> exact ⟨ho, Nat.le_refl _, Nat.zero_le _⟩
theorem tm_gaps {gs : List Int} (l : gs.length ≤ 6) : Tm 2 6 (gD gs) := by
  refine Tm.mono (k := 1) (L := 6) ?_ (by omega) (Nat.le_refl _)
  refine Tm.tup (k := 0) (fun x hx => ?_) (by rw [List.length_map]; exact l)
  obtain ⟨i, _, rfl⟩ := List.mem_map.mp hx
  exact tm_leaf rfl rfl rfl
theorem r_all_right (n : Nat) {o k : Nat} {q : Qu} {t : Int} {ds : List D} {gs : List Int} {S : Store} {Q : D → Store → Prop} (hq : QDr q t) (h : Dk S o k) (hk : k ≤ 100000) (hd : Tm 2 6 (.tup ds)) (hg : Tm 2 6 (gD gs)) (q' : ∀ S', Dk S' o (k + 200) → Q (.bl true) S') :
    wp (Phi GG fns (n + 8) K__law_all_right [.obj o, qD q, .tup ds, gD gs]) S Q := by
  rw [e__law_all_right]
  unfold m__law_all_right
  have QO := hq.ok
  have ho : okD (qD q) = true := qD_ok q
  have hgood : isQueue (qD q) = true := QO.good
  have hF : ∀ f ∈ q.fs, FB (q.row.map D.int).length f := fun f hf => by
    rw [List.length_map]
    exact fok_FB (hq.fs f hf)
  have hrl : (q.row.map D.int).length = q.row.length := List.length_map _
  have hr4 : q.row.length ≤ 4 := by
    have := hq.row.lm
    have := hq.m4
    omega
  have a0 : (rd fun S => idxD S (qD q) (.int 0)) = ret (.int q.m) := by unfold qD; rw [rd_tup, atI0, oS]
  have a1 : (rd fun S => idxD S (qD q) (.int 1)) = ret (.tup (q.row.map .int)) := by unfold qD; rw [rd_tup, atI1, oS]
  have hs : ∀ d, okD d = true → Phi GG fns (n + 7) K_is_script [qD q, d] = ret (.bl (isScript q.m d)) := fun d hd => r_is_script n ho hgood ⟨_, rfl⟩ hd
  have hgp : ∀ d, okD d = true → Phi GG fns (n + 7) K_is_gaps [qD q, d] = ret (.bl (gapsB q.row.length q.fs d)) := fun d hd => by
    have := r_is_gaps n (m := .int q.m) (row := q.row.map .int) (fs := q.fs) ho hgood hd (by omega) hF
    rw [hrl] at this
    exact this
  have hkp : ∀ gs : List Int, gs.length = q.row.length + 1 → Phi GG fns (n + 7) K__law_keeps [qD q, gD gs] = ret (.bl (keepsB q.fs gs)) := fun gs hl => r_keeps (n + 6) fun f hm => by
    have z := hq.fs f hm
    have := z.ab
    have := z.b1
    omega
  have hld : ∀ d, okD d = true → Phi GG fns (n + 7) K__law_is_deed [.int q.m, d] = ret (.bl (isDeed q.m d)) := fun d hd => r_ldeed (n + 4) hd
  have hnm : ∀ d, okD d = true → Phi GG fns (n + 7) K__law_number [d, .int 0, .int big] = ret (.bl (isWithin d 0 big)) := fun d hd => r_number (n + 5) hd
  have hsm : ∀ b, Phi GG fns (n + 7) K__law_same [.bl b, .bl b] = ret (.bl true) := fun b => r_sameB (n + 5) b
  have c1 : ((q.row.length : Nat) : Int) + 1 = ((q.row.length + 1 : Nat) : Int) := by omega
  simp only [a1, oS, bR, lenD_tup, hrl, addD_int, c1, lstO_two, lstO_nil]
  generalize qD q = Z at a0 a1 hs hgp hkp
  rw [irng_int (by decide) (by decide)]
  simp only [oS, bR, wp_bnd]
  refine mapO_wp (fun xs acc S => Dk S o (k + 7 * acc.length) ∧ acc.length + xs.length = 16 ∧ ∀ d ∈ acc, Tm 3 7 d) ?_ _ [] _ _ ⟨by simpa using h, by simp, fun d hd => by cases hd⟩ ?_
  · rintro x xs acc S1 ⟨hS, hc, ha⟩
    simp only [List.length_cons] at hc
    simp only [nR, bR, if_true, wp_bnd, nox_wp]
    refine r_one (n + 5) hS (by omega) (fun z => by cases z) (show 2 < 1000000 by decide) fun d S2 hd2 hS2 => ?_
    have hT : Tm 2 6 d := by
      simp only [List.mem_cons, List.not_mem_nil, or_false] at hd2
      rcases hd2 with rfl | rfl
      · exact hd
      · exact hg
    simp only [wp_ret]
    refine r_spoilt 2 (n + 2) o _ 6 d S2 _ hT (by omega) (by omega) hS2 (by omega) fun d' S3 hd' hS3 => ?_
    refine ⟨hS3.mono (by simp only [List.length_append, List.length_cons, List.length_nil]; omega), by simp only [List.length_append, List.length_cons, List.length_nil]; omega, fun e he => ?_⟩
    rcases List.mem_append.mp he with he | he
    · exact ha e he
    · rcases List.mem_singleton.mp he with rfl
      exact hd'
  · rintro ys S1 ⟨hS1, hl1, hy⟩
    simp only [List.nil_append, List.length_nil, Nat.add_zero] at hS1 hl1 hy
    have hcat : catD (.lst [.tup ds, gD gs]) (.lst ys) = some ([.tup ds, gD gs] ++ ys) := catD_le (by simp only [List.length_cons, List.length_nil]; omega)
    simp only [wp_ret, hcat, oS, items_lst]
    have hall : ∀ x ∈ [D.tup ds, gD gs] ++ ys, Tm 3 7 x := fun x hx => by
      rcases List.mem_append.mp hx with hx | hx
      · simp only [List.mem_cons, List.not_mem_nil, or_false] at hx
        rcases hx with rfl | rfl
        · exact hd.mono (by omega) (by omega)
        · exact hg.mono (by omega) (by omega)
      · exact hy x hx
    refine forC_wp (fun xs ρ S' => S' = S1 ∧ (∀ x ∈ xs, Tm 3 7 x) ∧ ∃ s5 s6 s7 s8 : Slot, ρ = [.val (.obj o), .val Z, .val (.tup ds), .val (gD gs), .val (.int ((q.row.length + 1 : Nat) : Int)), s5, s6, s7, s8]) ?_ ?_ _ _ _ ⟨rfl, hall, _, _, _, _, rfl⟩
    · rintro ρ S2 ⟨rfl, _, s5, s6, s7, s8, rfl⟩
      rw [wp_ret]
      exact q' _ (hS1.mono (by omega))
    · rintro x xs ρ S2 kk ⟨rfl, hx, s5, s6, s7, s8, rfl⟩ hkk
      have hT := hx x List.mem_cons_self
      have ox := hT.ok
      have next : ∀ s6' : Slot, wp (kk [.val (.obj o), .val Z, .val (.tup ds), .val (gD gs), .val (.int ((q.row.length + 1 : Nat) : Int)), .val x, s6', s7, s8]) S2 Q := fun s6' => hkk _ _ ⟨rfl, fun y hy => hx y (List.mem_cons_of_mem _ hy), _, _, _, _, rfl⟩
      by_cases kt : tupB x = true
      case neg =>
        rw [Bool.not_eq_true] at kt
        have e1 : isScript q.m x = false := by
          cases x with
          | tup xs => cases kt
          | _ => rfl
        have e2 : gapsB q.row.length q.fs x = false := by
          cases x with
          | tup xs => cases kt
          | _ => rfl
        simp only [asgn_one, List.set_cons_zero, List.set_cons_succ, getV_zero, getV_succ, oS, bR, isi_tup ox, kt, isB_bl, Bool.false_eq_true, if_false, hs x ox, hgp x ox, e1, e2, hsm, Bool.not_true]
        exact next _
      obtain ⟨us, rfl⟩ := tup_of kt
      have hu : ∀ u ∈ us, okD u = true := fun u hm => okDs_mem ox hm
      have e1 : isScript q.m (.tup us) = (decide (us.length ≤ 6) && us.all (isDeed q.m)) := rfl
      have e2 : gapsB q.row.length q.fs (.tup us) = (decide (us.length = q.row.length + 1) && (us.all (fun x => isWithin x 0 big) && keepsB q.fs (intsOf us))) := rfl
      simp only [asgn_one, List.set_cons_zero, List.set_cons_succ, getV_zero, getV_succ, oS, bR, isi_tup ox, kt, isB_bl, if_true, lenD_tup, ord_int, items_tup]
      refine wp_eq (a := .bl (isScript q.m (.tup us))) ?_ ?_
      · rw [e1]
        by_cases c : us.length ≤ 6
        · have c' : ((us.length : Nat) : Int) ≤ 6 := by omega
          rw [decide_eq_true c', if_pos rfl, mapO_flt (g := fun x => if isDeed q.m x = true then none else some (.int 1))]
          · simp only [bR, eqD_all, oS, decide_eq_true c, Bool.true_and]
            rfl
          · intro u hm
            simp only [wipeE_cons, wipeE_nil, asgn_one, List.set_cons_zero, List.set_cons_succ, getV_zero, getV_succ, oS, bR, nR, a0, hld u (hu u hm), isB_bl]
            cases isDeed q.m u <;> rfl
        · have c' : ¬ ((us.length : Nat) : Int) ≤ 6 := by omega
          rw [decide_eq_false c', if_neg Bool.false_ne_true, decide_eq_false c]
          rfl
      simp only [List.set_cons_zero, List.set_cons_succ, getV_zero, getV_succ, oS, bR, isB_bl, hs _ ox, hsm, Bool.not_true, Bool.false_eq_true, if_false, eqD_int]
      by_cases cl : us.length = q.row.length + 1
      case neg =>
        have cl' : ¬ ((us.length : Nat) : Int) = ((q.row.length + 1 : Nat) : Int) := by omega
        have e3 : gapsB q.row.length q.fs (.tup us) = false := by rw [e2, decide_eq_false cl]; rfl
        simp only [cl', decide_false, Bool.false_eq_true, if_false, hgp _ ox, e3, hsm, bR, oS, isB_bl, Bool.not_true]
        exact next _
      have cl' : ((us.length : Nat) : Int) = ((q.row.length + 1 : Nat) : Int) := by omega
      have ez : (decide (((us.length : Nat) : Int) = ((q.row.length + 1 : Nat) : Int))) = true := decide_eq_true cl'
      simp only [ez, if_true, items_tup, oS, bR, isB_bl]
      refine wp_eq (a := .bl (gapsB q.row.length q.fs (.tup us))) ?_ ?_
      · rw [mapO_flt (g := fun x => if isWithin x 0 big = true then none else some (.int 1))]
        · simp only [bR, eqD_all, oS, isB_bl]
          by_cases ca : us.all (fun x => isWithin x 0 big) = true
          case neg =>
            rw [Bool.not_eq_true] at ca
            have e3 : gapsB q.row.length q.fs (.tup us) = false := by rw [e2, ca]; simp
            rw [e3]
            simp only [ca, Bool.false_eq_true, if_false]
          obtain ⟨b1, b2, b3, b4⟩ := isInts_of ca
          have e3 : gapsB q.row.length q.fs (.tup us) = keepsB q.fs (intsOf us) := by rw [e2, decide_eq_true cl, ca]; rfl
          have e4 : Phi GG fns (n + 7) K__law_keeps [Z, .tup us] = ret (.bl (keepsB q.fs (intsOf us))) := by
            have := hkp (intsOf us) (by omega)
            unfold gD at this
            rw [← b3] at this
            exact this
          rw [e3]
          simp only [ca, if_true, e4, Bool.false_eq_true, if_false]
        · intro u hm
          simp only [wipeE_cons, wipeE_nil, asgn_one, List.set_cons_zero, List.set_cons_succ, getV_zero, getV_succ, oS, bR, nR, pow30, hnm u (hu u hm), isB_bl]
          cases isWithin u 0 big <;> rfl
      simp only [List.set_cons_zero, List.set_cons_succ, getV_zero, getV_succ, oS, bR, isB_bl, hgp _ ox, hsm, Bool.not_true, Bool.false_eq_true, if_false]
      exact next _
end PV

set_option Elab.async false
set_option linter.all false
set_option maxRecDepth 100000
set_option maxHeartbeats 4000000
/-! PvRk: the law of the queues. -/
namespace PV
open PySem PySem.Spec PyProof.Rows L2 TL
theorem bnd_rai {α : Type} {x : Str} {fl : Option D} {f : D → Mm α} : bnd (raiM x fl) f = fun S => some (.exc x fl, S) := rfl
theorem tri_rai {told : D → D} {kin : Str → Option D → Option D} {x : Str} {fl : Option D} {d : D} (h : kin x fl = some d) : triM told kin (raiM x fl) = ret d := by
  funext S
  show (match kin x fl with | some d => some (Out.ok d, S) | none => none) = _
  rw [h]
  rfl
theorem kin_queue : kinD "InvalidQueue" none = some (.str "queue +") := by rfl
theorem lev_phi (n : Nat) : lev GG fns (n + 2) n = Phi GG fns n := lev_le (by omega)
theorem eqD_strB {a b : Str} (ha : PyData.strOk a = true) (hb : PyData.strOk b = true) (e : a = b) : eqD true (.str a) (.str b) = some (.bl false) := by
  subst e
  rw [eqD_str ha hb]
  simp
theorem lsl_k (xs : List D) (k : Nat) : lslD (.lst xs) none (some (k : Int)) = some (xs.take k) := lsl_take xs k rfl
theorem r_lgood (n : Nat) {d : D} (h : okD d = true) : (bnd (Phi GG fns (n + 4) K__law_is_queue [d]) fun t74 => bnd (opt (isB t74)) fun q75 => if q75 = true then Phi GG fns (n + 4) K__law_can_be [d] else ret (.bl false)) = ret (.bl (isQueue d)) := by
  rw [r_lqueue n h]
  simp only [bR, isB_bl, oS]
  by_cases q : shapeQ d = true
  case neg =>
    rw [Bool.not_eq_true] at q
    rw [isQueue_shape, q, if_neg Bool.false_ne_true]
    rfl
  rw [if_pos q, isQueue_shape, q, Bool.true_and]
  unfold shapeQ at q
  split at q
  · rename_i m row fs
    cases row with
    | tup row =>
      cases fs with
      | tup fs =>
        obtain ⟨h1, gs, h2, h3, h4⟩ := shape_facts q
        show _ = ret (D.bl (beginM row.length (fs.map toFact)).isSome)
        rw [← h3, ← can_begin (by omega) h4, h2]
        exact r_can_be (n + 2) (by omega) h4
      | _ => cases q
    | _ => cases q
  · cases q
theorem tm_queue {q : Qu} (h : QDr q 4) : Tm 3 4 (qD q) := by
  have hr : q.row.length ≤ 4 := by
    have := h.row.lm
    have := h.m4
    omega
  refine Tm.tup (k := 2) (fun x hx => ?_) (show 3 ≤ 4 by decide)
  simp only [List.mem_cons, List.not_mem_nil, or_false] at hx
  rcases hx with rfl | rfl | rfl
  · exact tm_leaf rfl rfl rfl
  · refine Tm.mono (k := 1) (L := 4) (Tm.tup (k := 0) (fun x hx => ?_) (by rw [List.length_map]; exact hr)) (by omega) (Nat.le_refl _)
    obtain ⟨i, _, rfl⟩ := List.mem_map.mp hx
    exact tm_leaf rfl rfl rfl
  · refine Tm.tup (k := 1) (fun x hx => ?_) (by rw [List.length_map]; have := h.fl; omega)
    obtain ⟨f, _, rfl⟩ := List.mem_map.mp hx
    refine Tm.tup (k := 0) (fun x hx => ?_) (show 4 ≤ 4 by decide)
    simp only [List.mem_cons, List.not_mem_nil, or_false] at hx
    rcases hx with rfl | rfl | rfl | rfl
    · exact tm_leaf rfl rfl rfl
    · exact tm_leaf rfl rfl rfl
    · exact tm_leaf rfl rfl rfl
    · cases f.hi <;> exact tm_leaf rfl rfl rfl
/-! ### what stands at the end -/
def f1D : Fact := ⟨0, 1, 0, some 2⟩
theorem end_gaps (n : Nat) : Phi GG fns (n + 7) K_is_gaps [.tup [.int 3, .tup [.int 0, .int 1], .tup [.tup [.int 0, .int 1, .int 0, .int 2]]], .tup [.int 3, .int 0, .int 0]] = ret (.bl false) := by
  have h := r_is_gaps n (m := .int 3) (row := [.int 0, .int 1]) (fs := [f1D]) (d := .tup [.int 3, .int 0, .int 0]) rfl (by decide +kernel) rfl (show 2 ≤ 50 by decide) (fun f hf => by
    rcases List.mem_singleton.mp hf with rfl
    exact ⟨show 0 < 1 by decide, show 1 ≤ 2 + 1 by decide⟩)
  have e : gapsB [D.int 0, D.int 1].length [f1D] (.tup [.int 3, .int 0, .int 0]) = false := by decide +kernel
  rw [e] at h
  exact h
def fa1 : D := .tup [.int 0, .int 1, .int 5, .int 9]
def fa2 : D := .tup [.int 1, .int 2, .int 5, .non]
def fa3 : D := .tup [.int 0, .int 2, .int 0, .int 10]
def fa4 : D := .tup [.int 0, .int 2, .int 0, .int 9]
def rowsE : List D := [.tup [.int 2, .tup [.int 1], .tup [fa1, fa2, fa3]], .tup [.int 2, .tup [.int 1], .tup [fa1, fa2, fa4]], .tup [.int 2, .tup [.int 1], .tup [fa1, fa2, fa3, fa1, fa2]], .tup [.int 2, .tup [], .tup []],
  .tup [.int 4, .tup [.int 3, .int 0, .int 1, .int 2], .tup []], .tup [.int 2, .tup [.int 0, .int 1], .tup [.tup [.int 0, .int 3, .int 61, .non]]], .tup [.int 2, .tup [.int 0, .int 0], .tup []], .tup [.int 3, .tup [.int 0], .tup [.tup [.int 1, .int 2, .int 3, .int 2]]]]
theorem rowsE_ok : ∀ d ∈ rowsE, okD d = true := fun d hd => okDs_mem (show okDs rowsE = true by decide +kernel) hd
theorem rowsE_q : rowsE.map isQueue = [true, false, false, false, true, false, false, false] := by decide +kernel
theorem bls_eq : eqD false (.lst [.bl true, .bl false, .bl false, .bl false, .bl true, .bl false, .bl false, .bl false]) (.lst [.bl true, .bl false, .bl false, .bl false, .bl true, .bl false, .bl false, .bl false]) = some (.bl true) := by
  have p : toPy (.lst [.bl true, .bl false, .bl false, .bl false, .bl true, .bl false, .bl false, .bl false]) = some (.list [.bool true, .bool false, .bool false, .bool false, .bool true, .bool false, .bool false, .bool false]) := rfl
  have s : SeqAt.shaped (.list [.bool true, .bool false, .bool false, .bool false, .bool true, .bool false, .bool false, .bool false]) = true := by decide +kernel
  have v : PyData.eqv (.list [.bool true, .bool false, .bool false, .bool false, .bool true, .bool false, .bool false, .bool false]) (.list [.bool true, .bool false, .bool false, .bool false, .bool true, .bool false, .bool false, .bool false]) = true := by decide +kernel
  unfold eqD deq
  simp only [p, s, v, Bool.and_self, if_true]
  rfl
end PV

set_option Elab.async false
set_option linter.all false
set_option maxRecDepth 100000
set_option maxHeartbeats 4000000
/-! PvRl: the law of the queues, at every script. -/
namespace PV
open PySem PySem.Spec PyProof.Rows L2 TL
theorem r_law (ns : List Int) (hns : ns.length ≤ 1000) (n : Nat) (S : Store) : wp (Phi GG fns (n + 10) K_law [.lst (ns.map .int)]) S (fun d _ => d = .bl true) := by
  have e := e_law (n + 7) (.lst (ns.map .int))
  rw [lev_phi] at e
  rw [e]
  unfold m_law
  have t0 : tupO [] = some (.tup []) := Eq.trans rfl rfl
  have ec : catD (.lst [.int 0]) (.lst (ns.map .int)) = some ((0 :: ns).map .int) := by
    rw [catD_lst (by simp; omega)]
    rfl
  have es : lslD (.lst ((0 :: ns).map .int)) none (some 10) = some (((0 :: ns).take 10).map .int) := by
    have := lsl_k ((0 :: ns).map D.int) 10
    rw [← List.map_take] at this
    exact this
  simp only [lstO_one, ec, es, isI_int, Option.map_some, items_lst, oS, bR]
  generalize hZ : D.lst (ns.map D.int) = Z
  refine forC_wp (fun xs ρ S' => (∃ cs : List Int, xs = cs.map .int) ∧ ∃ s1 s2 s3 s4 s5 s6 s7 s8 s9 s10 s11 : Slot, ρ = [.val Z, s1, s2, s3, s4, s5, s6, s7, s8, s9, s10, s11]) ?_ ?_ _ _ _ ⟨⟨_, rfl⟩, _, _, _, _, _, _, _, _, _, _, _, rfl⟩
  · rintro ρ S' ⟨_, s1, s2, s3, s4, s5, s6, s7, s8, s9, s10, s11, rfl⟩
    have i2 : isND true (.bl false) (.bl false) = some (.bl false) := rfl
    have l4 : ∀ a b c d : D, lstO [a, b, c, d] = some [a, b, c, d] := fun a b c d => lstO_le (by simp)
    have l8 : ∀ a b c d e f g h : D, lstO [a, b, c, d, e, f, g, h] = some [a, b, c, d, e, f, g, h] := fun a b c d e f g h => lstO_le (by simp)
    have hs : ∀ a b c : D, slcD (.tup [a, b, c]) none (some 2) = some (.tup [a, b]) := fun a b c => slc_take [a, b, c] 2 rfl
    have ha1 : ∀ a b c : D, addD (.tup [a, b]) (.tup [c]) = some (.tup [a, b, c]) := fun a b c => addD_tl (by simp)
    have ha2 : ∀ a b c d e : D, addD (.tup [a, b, c]) (.tup [d, e]) = some (.tup [a, b, c, d, e]) := fun a b c d e => addD_tl (by simp)
    have hc : ∀ a b c d e f g h : D, catD (.lst [a, b, c, d]) (.lst [e, f, g, h]) = some [a, b, c, d, e, f, g, h] := fun a b c d e f g h => catD_le (by simp)
    simp only [t0, tupO1, tupO2, tupO3, tupO4, l4, l8, hs, ha1, ha2, hc, end_gaps, i2, isB_bl, isI_int, Option.map_some, Bool.false_eq_true, if_false, List.set_cons_zero, List.set_cons_succ, getV_zero, getV_succ, items_lst, oS, bR]
    refine wp_eq (a := D.lst (rowsE.map fun x => D.bl (isQueue x))) ?_ ?_
    · refine (congrArg (fun m => bnd m fun t1 => ret (D.lst t1)) (mapO_pure (xs := rowsE) (g := fun x => D.bl (isQueue x)) fun x hx => ?_)).trans rfl
      simp only [wipeE_cons, wipeE_nil, asgn_one, List.set_cons_zero, List.set_cons_succ, getV_zero, getV_succ, oS, bR, nR, if_true, r_is_queue (n + 3) (rowsE_ok x hx)]
    · have : rowsE.map (fun x => D.bl (isQueue x)) = [true, false, false, false, true, false, false, false].map D.bl := by
        rw [← rowsE_q, List.map_map]
        rfl
      rw [this]
      simp only [bR, List.map_cons, List.map_nil, bls_eq, oS]
      rfl
  · rintro x xs ρ S' kk ⟨⟨cs, hx⟩, s1, s2, s3, s4, s5, s6, s7, s8, s9, s10, s11, rfl⟩ hk'
    cases cs with
    | nil => cases hx
    | cons c cs =>
    cases hx
    have kk' : ∀ (ρ' : Ev) (S' : Store), (∃ s1 s2 s3 s4 s5 s6 s7 s8 s9 s10 s11 : Slot, ρ' = [.val Z, s1, s2, s3, s4, s5, s6, s7, s8, s9, s10, s11]) → wp (kk ρ') S' (fun d _ => d = .bl true) := fun ρ' S' h => hk' ρ' S' ⟨⟨cs, rfl⟩, h⟩
    clear hk'
    simp only [asgn_one, List.set_cons_zero, List.set_cons_succ, getV_zero, getV_succ, oS, bR, wp_bnd]
    refine r_deck (n + 8) (by decide) (by decide) fun S1 hS1 => ?_
    generalize S'.length = o at hS1
    simp only [List.set_cons_zero, List.set_cons_succ, getV_zero, getV_succ, oS, bR, wp_bnd, wp_ret]
    refine r_queue (n + 5) hS1 (by omega) (by decide) (by decide) fun q S2 hq hS2 => ?_
    have hT := tm_queue hq
    try simp only [List.set_cons_zero, List.set_cons_succ, getV_zero, getV_succ, oS, bR, wp_bnd, wp_ret]
    refine r_spoilt 3 (n + 3) o _ 4 (qD q) S2 _ hT (by decide) (by decide) hS2 (by omega) fun d1 S3 hd1 hS3 => ?_
    refine r_spoilt 4 (n + 2) o _ 5 d1 S3 _ hd1 (by decide) (by decide) hS3 (by omega) fun d2 S4 hd2 hS4 => ?_
    have a0 : (rd fun S => idxD S (qD q) (.int 0)) = ret (.int q.m) := by unfold qD; rw [rd_tup, atI0, oS]
    have a1 : (rd fun S => idxD S (qD q) (.int 1)) = ret (.tup (q.row.map .int)) := by unfold qD; rw [rd_tup, atI1, oS]
    have lq : lofD (qD q) = some [.int q.m, .tup (q.row.map .int), .tup (q.fs.map fD)] := rfl
    have sq : slcD (qD q) none (some 2) = some (.tup [.int q.m, .tup (q.row.map .int)]) := slc_take _ 2 rfl
    have l9 : ∀ a b c d e f g h i : D, lstO [a, b, c, d, e, f, g, h, i] = some [a, b, c, d, e, f, g, h, i] := fun a b c d e f g h i => lstO_le (by simp)
    simp only [wp_ret, ← wp_bnd, a1, lq, sq, t0, tupO1, tupO3, l9, isI_int, Option.map_some, List.set_cons_zero, List.set_cons_succ, getV_zero, getV_succ, oS, bR]
    rw [irng_int (by decide) (by decide)]
    simp only [oS, bR, wp_bnd]
    refine mapO_wp (fun xs acc S => Dk S o (1000 + 30 + 2 * (3 + 1) + 2 * (4 + 1) + 8 * acc.length) ∧ acc.length + xs.length = 40 ∧ ∀ d ∈ acc, Tm 4 5 d) ?_ _ [] _ _ ⟨by simpa using hS4, by simp, fun d hd => by cases hd⟩ ?_
    · rintro x xs acc S5 ⟨hS, hc, ha⟩
      simp only [List.length_cons] at hc
      simp only [wipeE_cons, wipeE_nil, asgn_one, List.set_cons_zero, List.set_cons_succ, getV_zero, getV_succ, oS, nR, bR, if_true, wp_bnd, nox_wp]
      refine r_spoilt 3 (n + 3) o _ 4 (qD q) S5 _ hT (by decide) (by decide) hS (by omega) fun d' S6 hd' hS6 => ?_
      refine ⟨hS6.mono (by simp only [List.length_append, List.length_cons, List.length_nil]; omega), by simp only [List.length_append, List.length_cons, List.length_nil]; omega, fun e he => ?_⟩
      rcases List.mem_append.mp he with he | he
      · exact ha e he
      · rcases List.mem_singleton.mp he with rfl
        exact hd'
    · rintro ys S5 ⟨hS5, hl5, hy⟩
      simp only [List.nil_append, List.length_nil, Nat.add_zero] at hS5 hl5 hy
      generalize hL : ([qD q, d1, d2, .tup (q.row.map .int), .lst [.int q.m, .tup (q.row.map .int), .tup (q.fs.map fD)], .non, .tup [], .tup [.int q.m, .tup (q.row.map .int)], .tup [.int 5, .tup [.int 0], .tup []]] : List D) = ls
      have hll : ls.length = 9 := by rw [← hL]; rfl
      have hcat : catD (.lst ls) (.lst ys) = some (ls ++ ys) := catD_le (by omega)
      have hqi : ∀ x ∈ [D.int q.m, .tup (q.row.map .int), .tup (q.fs.map fD)], okD x = true := fun x hx => okDs_mem (qD_ok q) hx
      have hzero : ∀ x ∈ ls, okD x = true ∧ dp x ≤ 5 := by
        have hq3 := hT.dp
        have hdq : ∀ x ∈ [D.int q.m, .tup (q.row.map .int), .tup (q.fs.map fD)], dp x ≤ 2 := fun x hx => by
          have h1 : dps [D.int q.m, .tup (q.row.map .int), .tup (q.fs.map fD)] + 1 ≤ 3 := hq3
          have := dps_mem hx
          omega
        intro x hx
        rw [← hL] at hx
        simp only [List.mem_cons, List.not_mem_nil, or_false] at hx
        rcases hx with rfl | rfl | rfl | rfl | rfl | rfl | rfl | rfl | rfl
        · exact ⟨qD_ok q, by omega⟩
        · exact ⟨hd1.ok, by have := hd1.dp; omega⟩
        · exact ⟨hd2.ok, hd2.dp⟩
        · exact ⟨hqi _ (by simp), by have := hdq (.tup (q.row.map .int)) (by simp); omega⟩
        · exact ⟨qD_ok q, Nat.le_trans hq3 (by decide)⟩
        · exact ⟨rfl, Nat.zero_le _⟩
        · exact ⟨rfl, show 1 ≤ 5 by decide⟩
        · refine ⟨okDs_of fun x hx => hqi x (by simp only [List.mem_cons, List.not_mem_nil, or_false] at hx; rcases hx with rfl | rfl <;> simp), ?_⟩
          show dps [D.int q.m, .tup (q.row.map .int)] + 1 ≤ 5
          have := dps_le (k := 2) (xs := [D.int q.m, .tup (q.row.map .int)]) fun x hx => hdq x (by simp only [List.mem_cons, List.not_mem_nil, or_false] at hx; rcases hx with rfl | rfl <;> simp)
          omega
        · exact ⟨rfl, show 2 ≤ 5 by decide⟩
      have hall : ∀ x ∈ ls ++ ys, okD x = true := fun x hx => by
        rcases List.mem_append.mp hx with hx | hx
        · exact (hzero x hx).1
        · exact (hy x hx).ok
      clear hzero
      simp only [wp_ret, getV_zero, getV_succ, hcat, oS, items_lst]
      refine forC_wp (fun xs ρ S' => S' = S5 ∧ (∀ x ∈ xs, okD x = true) ∧ ∃ s8 s9 s10 s11 : Slot, ρ = [.val Z, .val (.int c), s2, s3, .val (.obj o), .val (qD q), .val d1, .val (.lst ls), s8, s9, s10, s11]) ?_ ?_ _ _ _ ⟨rfl, hall, _, _, _, _, rfl⟩
      · rintro ρ S6 ⟨rfl, _, s8, s9, s10, s11, rfl⟩
        simp only [getV_zero, getV_succ, oS, bR, a0, wp_bnd, wp_ret]
        refine r_script (n + 5) hS5 (by omega) hq.m2 hq.m4 (by decide) (by decide) (by decide) (by decide) fun ds S7 hl hds hS7 => ?_
        have hbx : Phi GG fns (n + 9) K__law_boxes [qD q, .int 4] = ret (.lst ((boxes q.row.length q.fs 4).map gD)) := by
          have hr4 : q.row.length ≤ 4 := by
            have := hq.row.lm
            have := hq.m4
            omega
          have h := r_boxes (n + 7) (m := .int q.m) (row := q.row.map .int) (fs := q.fs) (t := 4) (fun f hf => by
            have z := hq.fs f hf
            have := z.ab
            have := z.b1
            rw [List.length_map]
            omega) (by
            rw [List.length_map]
            exact Nat.le_trans (Nat.pow_le_pow_right (by decide) (show q.row.length + 1 ≤ 5 by omega)) (by decide)) (by rw [List.length_map]; omega) (by decide)
          rw [List.length_map] at h
          exact h
        obtain ⟨g0, hg0, hk0⟩ := hq.can
        have hmem : g0 ∈ boxes q.row.length q.fs 4 := List.mem_filter.mpr ⟨hg0, hk0⟩
        obtain ⟨g1, gr, hbe⟩ : ∃ g1 gr, boxes q.row.length q.fs 4 = g1 :: gr := by
          cases hb : boxes q.row.length q.fs 4 with
          | nil => rw [hb] at hmem; cases hmem
          | cons a b => exact ⟨a, b, rfl⟩
        have hg1 : g1 ∈ allG 4 (q.row.length + 1) := by
          have : g1 ∈ boxes q.row.length q.fs 4 := by rw [hbe]; exact List.mem_cons_self
          exact (List.mem_filter.mp this).1
        have hgl := (allG_mem hg1).1
        have hr4 : q.row.length ≤ 4 := by
          have := hq.row.lm
          have := hq.m4
          omega
        simp only [List.set_cons_zero, List.set_cons_succ, getV_zero, getV_succ, oS, bR, hbx, hbe, List.map_cons, rd_lst, atI0, wp_ret, wp_bnd]
        refine r_all_right (n + 1) hq hS7 (by omega) (tm_script hq.m4 (by omega) hds) (tm_gaps (by omega)) fun S8 hS8 => ?_
        simp only [isB_bl, oS, wp_ret, Bool.not_true, Bool.false_eq_true, if_false]
        exact kk' _ _ ⟨_, _, _, _, _, _, _, _, _, _, _, rfl⟩
      · rintro x xs ρ S6 k2 ⟨rfl, hxs, s8, s9, s10, s11, rfl⟩ hk2
        have ox := hxs x List.mem_cons_self
        have next : ∀ s10 : Slot, wp (k2 [.val Z, .val (.int c), s2, s3, .val (.obj o), .val (qD q), .val d1, .val (.lst ls), .val x, s9, s10, s11]) S6 (fun d _ => d = .bl true) := fun s10 => hk2 _ _ ⟨rfl, fun y hy => hxs y (List.mem_cons_of_mem _ hy), _, _, _, _, rfl⟩
        have hg := r_lgood (n + 5) ox
        simp only [asgn_one, List.set_cons_zero, List.set_cons_succ, getV_zero, getV_succ, oS, bR]
        refine wp_eq hg ?_
        have w1 : eqD true (.str "queue +") (.str "queue +") = some (.bl false) := eqD_strB (by decide +kernel) (by decide +kernel) rfl
        simp only [List.set_cons_zero, List.set_cons_succ, getV_zero, getV_succ, oS, bR, r_is_queue (n + 3) ox, r_sameB (n + 7), isB_bl, Bool.not_true, Bool.false_eq_true, if_false]
        cases hb : isQueue x with
        | true =>
          simp only [Bool.not_true, Bool.false_eq_true, if_false, bR]
          exact next _
        | false =>
          simp only [Bool.not_false, if_true, r_is_gaps_no n ox hb, tri_rai kin_queue, w1, bR, oS, isB_bl, Bool.false_eq_true, if_false]
          exact next _
end PV

set_option Elab.async false
set_option linter.all false
set_option maxRecDepth 100000
set_option maxHeartbeats 0
namespace HD
open PySem PySem.Spec PyProof.Rows L2 L2H LamX PV
def d_bounds_of : He.DefD := ⟨("bounds_of", none), "bounds_of", "bounds_of", defArgs (PV.top 1), defBody (PV.top 1), defScope (PV.top 1), [], []⟩
def d_least_of : He.DefD := ⟨("least_of", none), "least_of", "least_of", defArgs (PV.top 2), defBody (PV.top 2), defScope (PV.top 2), [], []⟩
def d_summed : He.DefD := ⟨("summed", none), "summed", "summed", defArgs (PV.top 3), defBody (PV.top 3), defScope (PV.top 3), [], []⟩
def d_with_bound : He.DefD := ⟨("with_bound", none), "with_bound", "with_bound", defArgs (PV.top 4), defBody (PV.top 4), defScope (PV.top 4), [], []⟩
def d_closer : He.DefD := ⟨("closer", none), "closer", "closer", defArgs (PV.top 5), defBody (PV.top 5), defScope (PV.top 5), [], []⟩
def d_is_within : He.DefD := ⟨("is_within", none), "is_within", "is_within", defArgs (PV.top 25), defBody (PV.top 25), defScope (PV.top 25), [], []⟩
def d_has_items : He.DefD := ⟨("has_items", none), "has_items", "has_items", defArgs (PV.top 26), defBody (PV.top 26), defScope (PV.top 26), [], []⟩
def d_is_row : He.DefD := ⟨("is_row", none), "is_row", "is_row", defArgs (PV.top 27), defBody (PV.top 27), defScope (PV.top 27), [], []⟩
def d_is_fact : He.DefD := ⟨("is_fact", none), "is_fact", "is_fact", defArgs (PV.top 28), defBody (PV.top 28), defScope (PV.top 28), [], []⟩
def d_is_queue_value : He.DefD := ⟨("is_queue_value", none), "is_queue_value", "is_queue_value", defArgs (PV.top 29), defBody (PV.top 29), defScope (PV.top 29), [], []⟩
def d_begin_of : He.DefD := ⟨("begin_of", none), "begin_of", "begin_of", defArgs (PV.top 30), defBody (PV.top 30), defScope (PV.top 30), [], []⟩
def d_sums_of : He.DefD := ⟨("sums_of", none), "sums_of", "sums_of", defArgs (PV.top 31), defBody (PV.top 31), defScope (PV.top 31), [], []⟩
def d_are_gaps : He.DefD := ⟨("are_gaps", none), "are_gaps", "are_gaps", defArgs (PV.top 32), defBody (PV.top 32), defScope (PV.top 32), [], []⟩
def d_is_deed : He.DefD := ⟨("is_deed", none), "is_deed", "is_deed", defArgs (PV.top 33), defBody (PV.top 33), defScope (PV.top 33), [], []⟩
def d_is_script_value : He.DefD := ⟨("is_script_value", none), "is_script_value", "is_script_value", defArgs (PV.top 34), defBody (PV.top 34), defScope (PV.top 34), [], []⟩
def d_need_queue : He.DefD := ⟨("need_queue", none), "need_queue", "need_queue", defArgs (PV.top 35), defBody (PV.top 35), defScope (PV.top 35), [], []⟩
def d_is_queue : He.DefD := ⟨("is_queue", none), "is_queue", "is_queue", defArgs (PV.top 36), defBody (PV.top 36), defScope (PV.top 36), [], []⟩
def d_is_script : He.DefD := ⟨("is_script", none), "is_script", "is_script", defArgs (PV.top 37), defBody (PV.top 37), defScope (PV.top 37), [], []⟩
def d_is_gaps : He.DefD := ⟨("is_gaps", none), "is_gaps", "is_gaps", defArgs (PV.top 38), defBody (PV.top 38), defScope (PV.top 38), [], []⟩
def d__law_deck : He.DefD := ⟨("_law_deck", none), "_law_deck", "_law_deck", defArgs (PV.top 40), defBody (PV.top 40), defScope (PV.top 40), [], []⟩
def d__law_pick : He.DefD := ⟨("_law_pick", none), "_law_pick", "_law_pick", defArgs (PV.top 41), defBody (PV.top 41), defScope (PV.top 41), [], []⟩
def d__law_whole : He.DefD := ⟨("_law_whole", none), "_law_whole", "_law_whole", defArgs (PV.top 42), defBody (PV.top 42), defScope (PV.top 42), [], []⟩
def d__law_one : He.DefD := ⟨("_law_one", none), "_law_one", "_law_one", defArgs (PV.top 43), defBody (PV.top 43), defScope (PV.top 43), [], []⟩
def d__law_sort : He.DefD := ⟨("_law_sort", none), "_law_sort", "_law_sort", defArgs (PV.top 44), defBody (PV.top 44), defScope (PV.top 44), [], []⟩
def d__law_same : He.DefD := ⟨("_law_same", none), "_law_same", "_law_same", defArgs (PV.top 45), defBody (PV.top 45), defScope (PV.top 45), [], []⟩
def d__law_kin : He.DefD := ⟨("_law_kin", none), "_law_kin", "_law_kin", defArgs (PV.top 46), defBody (PV.top 46), defScope (PV.top 46), [], []⟩
def d__law_try : He.DefD := ⟨("_law_try", none), "_law_try", "_law_try", defArgs (PV.top 47), defBody (PV.top 47), defScope (PV.top 47), [], []⟩
def d__law_two : He.DefD := ⟨("_law_two", none), "_law_two", "_law_two", defArgs (PV.top 48), defBody (PV.top 48), defScope (PV.top 48), [], []⟩
def d__law_deed : He.DefD := ⟨("_law_deed", none), "_law_deed", "_law_deed", defArgs (PV.top 49), defBody (PV.top 49), defScope (PV.top 49), [], []⟩
def d__law_script : He.DefD := ⟨("_law_script", none), "_law_script", "_law_script", defArgs (PV.top 50), defBody (PV.top 50), defScope (PV.top 50), [], []⟩
def d__law_row : He.DefD := ⟨("_law_row", none), "_law_row", "_law_row", defArgs (PV.top 51), defBody (PV.top 51), defScope (PV.top 51), [], []⟩
def d__law_fact : He.DefD := ⟨("_law_fact", none), "_law_fact", "_law_fact", defArgs (PV.top 52), defBody (PV.top 52), defScope (PV.top 52), [], []⟩
def d__law_queue : He.DefD := ⟨("_law_queue", none), "_law_queue", "_law_queue", defArgs (PV.top 53), defBody (PV.top 53), defScope (PV.top 53), [], []⟩
def d__law_keeps : He.DefD := ⟨("_law_keeps", none), "_law_keeps", "_law_keeps", defArgs (PV.top 54), defBody (PV.top 54), defScope (PV.top 54), [], []⟩
def d__law_boxes : He.DefD := ⟨("_law_boxes", none), "_law_boxes", "_law_boxes", defArgs (PV.top 55), defBody (PV.top 55), defScope (PV.top 55), [], []⟩
def d__law_number : He.DefD := ⟨("_law_number", none), "_law_number", "_law_number", defArgs (PV.top 56), defBody (PV.top 56), defScope (PV.top 56), [], []⟩
def d__law_is_fact : He.DefD := ⟨("_law_is_fact", none), "_law_is_fact", "_law_is_fact", defArgs (PV.top 57), defBody (PV.top 57), defScope (PV.top 57), [], []⟩
def d__law_is_queue : He.DefD := ⟨("_law_is_queue", none), "_law_is_queue", "_law_is_queue", defArgs (PV.top 58), defBody (PV.top 58), defScope (PV.top 58), [], []⟩
def d__law_can_be : He.DefD := ⟨("_law_can_be", none), "_law_can_be", "_law_can_be", defArgs (PV.top 59), defBody (PV.top 59), defScope (PV.top 59), [], []⟩
def d__law_is_deed : He.DefD := ⟨("_law_is_deed", none), "_law_is_deed", "_law_is_deed", defArgs (PV.top 60), defBody (PV.top 60), defScope (PV.top 60), [], []⟩
def d__law_spoilt : He.DefD := ⟨("_law_spoilt", none), "_law_spoilt", "_law_spoilt", defArgs (PV.top 61), defBody (PV.top 61), defScope (PV.top 61), [], []⟩
def d__law_all_right : He.DefD := ⟨("_law_all_right", none), "_law_all_right", "_law_all_right", defArgs (PV.top 62), defBody (PV.top 62), defScope (PV.top 62), [], []⟩
def d_law : He.DefD := ⟨("law", none), "law", "law", defArgs (PV.top 63), defBody (PV.top 63), defScope (PV.top 63), [], []⟩
def fn0 : List He.DefD := [d_bounds_of, d_least_of, d_summed, d_with_bound, d_closer, d_is_within, d_has_items, d_is_row, d_is_fact, d_is_queue_value, d_begin_of, d_sums_of, d_are_gaps, d_is_deed, d_is_script_value, d_need_queue, d_is_queue, d_is_script, d_is_gaps, d__law_deck, d__law_pick, d__law_whole, d__law_one, d__law_sort, d__law_same, d__law_kin, d__law_try, d__law_two, d__law_deed, d__law_script]
def fn1 : List He.DefD := [d__law_row, d__law_fact, d__law_queue, d__law_keeps, d__law_boxes, d__law_number, d__law_is_fact, d__law_is_queue, d__law_can_be, d__law_is_deed, d__law_spoilt, d__law_all_right, d_law]
def fn : List He.DefD := fn0 ++ fn1
def fa0 : List He.Fa := [.glo "bounds_of", .glo "least_of", .glo "summed", .glo "with_bound", .glo "closer", .glo "is_within", .glo "has_items", .glo "is_row", .glo "is_fact", .glo "is_queue_value", .glo "begin_of", .glo "sums_of", .glo "are_gaps", .glo "is_deed", .glo "is_script_value", .glo "need_queue", .glo "is_queue", .glo "is_script", .glo "is_gaps", .glo "_law_deck", .glo "_law_pick", .glo "_law_whole", .glo "_law_one", .glo "_law_sort", .glo "_law_same", .glo "_law_kin", .glo "_law_try", .glo "_law_two", .glo "_law_deed", .glo "_law_script"]
def fa1 : List He.Fa := [.glo "_law_row", .glo "_law_fact", .glo "_law_queue", .glo "_law_keeps", .glo "_law_boxes", .glo "_law_number", .glo "_law_is_fact", .glo "_law_is_queue", .glo "_law_can_be", .glo "_law_is_deed", .glo "_law_spoilt", .glo "_law_all_right", .glo "law", .free "len", .free "max", .free "min", .free "int", .free "str", .free "sum", .free "all", .free "tuple", .free "set", .free "range", .free "list", .free "enumerate", .free "zip", .free "isinstance", .free "bool", .free "ValueError", .glo "QueueError"]
def fa2 : List He.Fa := [.glo "InvalidQueue", .glo "InvalidGaps", .glo "InvalidScript", .glo "InvalidPerson", .glo "InvalidNumber", .glo "InvalidSeen", .glo "InvalidDeeds", .glo "InvalidPlan", .glo "InvalidIndex", .glo "Unlike", .glo "NothingToUndo", .glo "TooMany", .glo "InvalidText", .exc "InvalidQueue", .exc "InvalidGaps", .exc "InvalidScript", .exc "InvalidPerson", .exc "InvalidNumber", .exc "InvalidSeen", .exc "InvalidDeeds", .exc "InvalidPlan", .exc "InvalidIndex", .exc "Unlike", .exc "NothingToUndo"]
def fa : List He.Fa := fa0 ++ fa1 ++ fa2
def tf : List He.Defn := [("law", none)]
def clsL : List Str := ["InvalidQueue", "InvalidGaps", "InvalidScript", "InvalidPerson", "InvalidNumber", "InvalidSeen", "InvalidDeeds", "InvalidPlan", "InvalidIndex", "Unlike", "NothingToUndo"]
def exB (K : PySem.W.Frag) : Bool := clsL.all (clsB K isE exN "InvalidText" "TooMany" "QueueError") && (gvL.all fun p => gvB K p.1 p.2) && decide (((tf.map fun p => (He.cT K p).2) ++ [mainGlobals]).Nodup)
def nms0 : List Str := ["__name__", "bounds_of", "least_of", "summed", "with_bound", "closer", "QueueError", "InvalidQueue", "InvalidGaps", "InvalidScript", "InvalidPerson", "InvalidNumber", "InvalidSeen", "InvalidDeeds", "InvalidPlan", "InvalidIndex", "Unlike", "NothingToUndo", "TooMany", "InvalidText", "SIDES", "MOST", "MOST_DEEDS", "is_within", "has_items", "is_row", "is_fact", "is_queue_value", "begin_of", "sums_of"]
def nms1 : List Str := ["are_gaps", "is_deed", "is_script_value", "need_queue", "is_queue", "is_script", "is_gaps", "_law_deck", "_law_pick", "_law_whole", "_law_one", "_law_sort", "_law_same", "_law_kin", "_law_try", "_law_two", "_law_deed", "_law_script", "_law_row", "_law_fact", "_law_queue", "_law_keeps", "_law_boxes", "_law_number", "_law_is_fact", "_law_is_queue", "_law_can_be", "_law_is_deed", "_law_spoilt", "_law_all_right"]
def nms : List Str := nms0 ++ nms1
abbrev R : PySem.W.OpenRow := PySem.W.OpenLaw.row PySem.Challenge.rw_keptplaces_k01_queues_recognized
abbrev hk : PySem.W.Hook := He.hookX 4 fa fn [] tf exB
def ob (s : PySem.W.SharedT) : He.AlX := He.obsX 4 fa fn [] tf exB (HandSHeadRun.getT s)
theorem ob_eq (s : PySem.W.SharedT) : ob s = hk.obs s.abs := He.obsX_eq (HandSHeadRun.getT_eq s)
theorem run (w : World) : HandSHeadRun.RunEq R (PySem.W.view R.prog [63]) hk ob 12000 nms w := by
  intro os
  kernel_rfl
end HD

set_option Elab.async false
set_option linter.all false
set_option maxRecDepth 100000
set_option maxHeartbeats 8000000
namespace PV
open PySem PySem.Spec PyProof.Rows L2 L2H LamX HD
def cfT (K : PySem.W.Frag) : List (Addr × Str) := [((He.cT K ("law", none)).2, lamQ "law")]
def cfOf (K : PySem.W.Frag) : Cf := ⟨K, fun k => He.ga K (((fns[k]?).map (·.nm)).getD ""), cfT K, fun x => He.ga K x, fun _ => ""⟩
def kinE : List (Nat × Ex) := [(1, .frz (.dsp (.cons (.ise 0 1) (.cons (.ise 0 2) (.cons (.ise 0 3) .nil))))), (1, .frz (.lcat (.var 1) (.frz (.dsp (.cons (.ise 0 4) (.cons (.ise 0 5) (.cons (.ise 0 6) .nil))))))), (1, .frz (.lcat (.var 1) (.frz (.dsp (.cons (.ise 0 7) (.cons (.ise 0 8) (.cons (.ise 0 9) .nil))))))), (1, .frz (.lcat (.var 1) (.frz (.dsp (.cons (.ise 0 10) (.cons (.ise 0 11) (.cons (.ise 0 12) .nil))))))), (1, .frz (.lcat (.var 1) (.frz (.dsp (.cons (.ise 0 13) (.cons (.ise 0 14) .nil)))))), (2, .kon (.str "queue gaps script person number seen deeds plan index unlike undo many text +"))]
def kinN : List Str := ["_law_e", "_law_kinds", "_law_names", "_law_name", "_law_good"]
theorem kin_ck : ckK (Gk exN isE) kinN (defScope (top 46)) kinE (defBody (top 46)) = true := by decide +kernel
theorem kin_sc : FnScope kinN ["_law_e"] (defScope (top 46)) := ⟨rfl, rfl, rfl, by decide +kernel, rfl, by decide +kernel, by decide +kernel⟩
theorem try_sc : FnScope ["_law_call_so", "_law_found", "_law_e"] ["_law_call_so"] (defScope (top 47)) := ⟨rfl, rfl, rfl, by decide +kernel, rfl, by decide +kernel, by decide +kernel⟩
theorem try_tx : tryOk "_law_found" "_law_call_so" "_law_e" "_law_kin" "InvalidText" "TooMany" "QueueError" (defBody (top 47)) = true := by decide +kernel
theorem try_nm : ∀ y ∈ (["_law_call_so", "_law_found", "_law_e", "_law_kin", "InvalidText", "TooMany", "QueueError", "_law_try"] : List Str), nmB y = true := fun y hy => List.all_eq_true.mp (show (["_law_call_so", "_law_found", "_law_e", "_law_kin", "InvalidText", "TooMany", "QueueError", "_law_try"] : List Str).all nmB = true by decide +kernel) y hy
theorem try_lo : ∀ y ∈ (["_law_call_so", "_law_found", "_law_e"] : List Str), (defScope (top 47)).names.lookup y = some .local := fun y hy => of_decide_eq_true (List.all_eq_true.mp (show (["_law_call_so", "_law_found", "_law_e"] : List Str).all (fun y => decide ((defScope (top 47)).names.lookup y = some .local)) = true by decide +kernel) y hy)
theorem try_gl : ∀ y ∈ (["_law_kin", "InvalidText", "TooMany", "QueueError"] : List Str), (defScope (top 47)).names.lookup y = some .globalImplicit := fun y hy => of_decide_eq_true (List.all_eq_true.mp (show (["_law_kin", "InvalidText", "TooMany", "QueueError"] : List Str).all (fun y => decide ((defScope (top 47)).names.lookup y = some .globalImplicit)) = true by decide +kernel) y hy)
def kinW : List D := [.str "queue", .str "gaps", .str "script", .str "person", .str "number", .str "seen", .str "deeds", .str "plan", .str "index", .str "unlike", .str "undo", .str "many", .str "text", .str "+"]
theorem kin_spl : splitD "queue gaps script person number seen deeds plan index unlike undo many text +" (.str " ") = some kinW := by
  have e : Txt.split "queue gaps script person number seen deeds plan index unlike undo many text +" " " = (["queue", "gaps", "script", "person", "number", "seen", "deeds", "plan", "index", "unlike", "undo", "many", "text", "+"] : List Str) := by decide +kernel
  show (if ((Str.ofString " ").length == 0) = false ∧ (Str.ofString "queue gaps script person number seen deeds plan index unlike undo many text +").length + 2 ≤ sizeLine ∧ (Txt.split "queue gaps script person number seen deeds plan index unlike undo many text +" " ").length ≤ sizeLine then some ((Txt.split "queue gaps script person number seen deeds plan index unlike undo many text +" " ").map D.str) else none) = _
  rw [e]
  exact if_pos (by decide +kernel)
theorem kr_InvalidQueue (a : Addr) (S : Store) : runK (Zk exN isE "InvalidQueue" a) kinE (startE kinN [.exn a]) S = some (.ok (.rt (.str "queue +")), S) := by
  have h0 : (exN[0]?).bind (fun x => (isE "InvalidQueue" x).map D.bl) = some (.bl true) := by rfl
  have h1 : (exN[1]?).bind (fun x => (isE "InvalidQueue" x).map D.bl) = some (.bl true) := by rfl
  have h2 : (exN[2]?).bind (fun x => (isE "InvalidQueue" x).map D.bl) = some (.bl false) := by rfl
  have h3 : (exN[3]?).bind (fun x => (isE "InvalidQueue" x).map D.bl) = some (.bl false) := by rfl
  have h4 : (exN[4]?).bind (fun x => (isE "InvalidQueue" x).map D.bl) = some (.bl false) := by rfl
  have h5 : (exN[5]?).bind (fun x => (isE "InvalidQueue" x).map D.bl) = some (.bl false) := by rfl
  have h6 : (exN[6]?).bind (fun x => (isE "InvalidQueue" x).map D.bl) = some (.bl false) := by rfl
  have h7 : (exN[7]?).bind (fun x => (isE "InvalidQueue" x).map D.bl) = some (.bl false) := by rfl
  have h8 : (exN[8]?).bind (fun x => (isE "InvalidQueue" x).map D.bl) = some (.bl false) := by rfl
  have h9 : (exN[9]?).bind (fun x => (isE "InvalidQueue" x).map D.bl) = some (.bl false) := by rfl
  have h10 : (exN[10]?).bind (fun x => (isE "InvalidQueue" x).map D.bl) = some (.bl false) := by rfl
  have h11 : (exN[11]?).bind (fun x => (isE "InvalidQueue" x).map D.bl) = some (.bl false) := by rfl
  have h12 : (exN[12]?).bind (fun x => (isE "InvalidQueue" x).map D.bl) = some (.bl false) := by rfl
  have h13 : (exN[13]?).bind (fun x => (isE "InvalidQueue" x).map D.bl) = some (.bl false) := by rfl
  have h14 : (exN[14]?).bind (fun x => (isE "InvalidQueue" x).map D.bl) = some (.bl true) := by rfl
  have hsel : selD [.lst kinW, .lst [.bl true, .bl false, .bl false, .bl false, .bl false, .bl false, .bl false, .bl false, .bl false, .bl false, .bl false, .bl false, .bl false, .bl true]] = some [.str "queue", .str "+"] := by rfl
  have hjo : joinD " " (.lst [.str "queue", .str "+"]) = some (.str "queue +") := by
    have e : Txt.join " " (["queue", "+"] : List Str) = "queue +" := by decide +kernel
    rw [← e]
    rfl
  have c0 : ∀ xs ys : List D, xs.length + ys.length ≤ 1000 → catD (.lst xs) (.lst ys) = some (xs ++ ys) := fun xs ys h => if_pos (Nat.le_trans h (by decide))
  have hs : startE kinN [.exn a] = [.val (.exn a), .un, .un, .un, .un] := rfl
  have g1 : ∀ (s : Slot) (d : D) (l : Ev), getV (s :: .val d :: l) 1 = some d := fun _ _ _ => Eq.trans rfl rfl
  have g2 : ∀ (s t : Slot) (d : D) (l : Ev), getV (s :: t :: .val d :: l) 2 = some d := fun _ _ _ _ => Eq.trans rfl rfl
  have i1 : isS (.str " ") = some (" " : Str) := rfl
  have i2 : isS (.str "queue gaps script person number seen deeds plan index unlike undo many text +") = some ("queue gaps script person number seen deeds plan index unlike undo many text +" : Str) := rfl
  rw [hs]
  simp only [kinE, runK, seqM, den, Dn.val, onlyIf, Md.isHot, if_true, iseF_a, h0, h1, h2, h3, h4, h5, h6, h7, h8, h9, h10, h11, h12, h13, h14, bR, oS, c0, List.length_cons, List.length_nil, List.set_cons_zero, List.set_cons_succ, g1, g2, List.cons_append, List.nil_append, Nat.reduceLeDiff, Nat.reduceAdd, sizeLine_eq, lastM, pickM, i1, i2, kin_spl, hsel, hjo, reduceIte]
  rfl
theorem kr_InvalidGaps (a : Addr) (S : Store) : runK (Zk exN isE "InvalidGaps" a) kinE (startE kinN [.exn a]) S = some (.ok (.rt (.str "gaps +")), S) := by
  have h0 : (exN[0]?).bind (fun x => (isE "InvalidGaps" x).map D.bl) = some (.bl true) := by rfl
  have h1 : (exN[1]?).bind (fun x => (isE "InvalidGaps" x).map D.bl) = some (.bl false) := by rfl
  have h2 : (exN[2]?).bind (fun x => (isE "InvalidGaps" x).map D.bl) = some (.bl true) := by rfl
  have h3 : (exN[3]?).bind (fun x => (isE "InvalidGaps" x).map D.bl) = some (.bl false) := by rfl
  have h4 : (exN[4]?).bind (fun x => (isE "InvalidGaps" x).map D.bl) = some (.bl false) := by rfl
  have h5 : (exN[5]?).bind (fun x => (isE "InvalidGaps" x).map D.bl) = some (.bl false) := by rfl
  have h6 : (exN[6]?).bind (fun x => (isE "InvalidGaps" x).map D.bl) = some (.bl false) := by rfl
  have h7 : (exN[7]?).bind (fun x => (isE "InvalidGaps" x).map D.bl) = some (.bl false) := by rfl
  have h8 : (exN[8]?).bind (fun x => (isE "InvalidGaps" x).map D.bl) = some (.bl false) := by rfl
  have h9 : (exN[9]?).bind (fun x => (isE "InvalidGaps" x).map D.bl) = some (.bl false) := by rfl
  have h10 : (exN[10]?).bind (fun x => (isE "InvalidGaps" x).map D.bl) = some (.bl false) := by rfl
  have h11 : (exN[11]?).bind (fun x => (isE "InvalidGaps" x).map D.bl) = some (.bl false) := by rfl
  have h12 : (exN[12]?).bind (fun x => (isE "InvalidGaps" x).map D.bl) = some (.bl false) := by rfl
  have h13 : (exN[13]?).bind (fun x => (isE "InvalidGaps" x).map D.bl) = some (.bl false) := by rfl
  have h14 : (exN[14]?).bind (fun x => (isE "InvalidGaps" x).map D.bl) = some (.bl true) := by rfl
  have hsel : selD [.lst kinW, .lst [.bl false, .bl true, .bl false, .bl false, .bl false, .bl false, .bl false, .bl false, .bl false, .bl false, .bl false, .bl false, .bl false, .bl true]] = some [.str "gaps", .str "+"] := by rfl
  have hjo : joinD " " (.lst [.str "gaps", .str "+"]) = some (.str "gaps +") := by
    have e : Txt.join " " (["gaps", "+"] : List Str) = "gaps +" := by decide +kernel
    rw [← e]
    rfl
  have c0 : ∀ xs ys : List D, xs.length + ys.length ≤ 1000 → catD (.lst xs) (.lst ys) = some (xs ++ ys) := fun xs ys h => if_pos (Nat.le_trans h (by decide))
  have hs : startE kinN [.exn a] = [.val (.exn a), .un, .un, .un, .un] := rfl
  have g1 : ∀ (s : Slot) (d : D) (l : Ev), getV (s :: .val d :: l) 1 = some d := fun _ _ _ => Eq.trans rfl rfl
  have g2 : ∀ (s t : Slot) (d : D) (l : Ev), getV (s :: t :: .val d :: l) 2 = some d := fun _ _ _ _ => Eq.trans rfl rfl
  have i1 : isS (.str " ") = some (" " : Str) := rfl
  have i2 : isS (.str "queue gaps script person number seen deeds plan index unlike undo many text +") = some ("queue gaps script person number seen deeds plan index unlike undo many text +" : Str) := rfl
  rw [hs]
  simp only [kinE, runK, seqM, den, Dn.val, onlyIf, Md.isHot, if_true, iseF_a, h0, h1, h2, h3, h4, h5, h6, h7, h8, h9, h10, h11, h12, h13, h14, bR, oS, c0, List.length_cons, List.length_nil, List.set_cons_zero, List.set_cons_succ, g1, g2, List.cons_append, List.nil_append, Nat.reduceLeDiff, Nat.reduceAdd, sizeLine_eq, lastM, pickM, i1, i2, kin_spl, hsel, hjo, reduceIte]
  rfl
theorem kr_InvalidScript (a : Addr) (S : Store) : runK (Zk exN isE "InvalidScript" a) kinE (startE kinN [.exn a]) S = some (.ok (.rt (.str "script +")), S) := by
  have h0 : (exN[0]?).bind (fun x => (isE "InvalidScript" x).map D.bl) = some (.bl true) := by rfl
  have h1 : (exN[1]?).bind (fun x => (isE "InvalidScript" x).map D.bl) = some (.bl false) := by rfl
  have h2 : (exN[2]?).bind (fun x => (isE "InvalidScript" x).map D.bl) = some (.bl false) := by rfl
  have h3 : (exN[3]?).bind (fun x => (isE "InvalidScript" x).map D.bl) = some (.bl true) := by rfl
  have h4 : (exN[4]?).bind (fun x => (isE "InvalidScript" x).map D.bl) = some (.bl false) := by rfl
  have h5 : (exN[5]?).bind (fun x => (isE "InvalidScript" x).map D.bl) = some (.bl false) := by rfl
  have h6 : (exN[6]?).bind (fun x => (isE "InvalidScript" x).map D.bl) = some (.bl false) := by rfl
  have h7 : (exN[7]?).bind (fun x => (isE "InvalidScript" x).map D.bl) = some (.bl false) := by rfl
  have h8 : (exN[8]?).bind (fun x => (isE "InvalidScript" x).map D.bl) = some (.bl false) := by rfl
  have h9 : (exN[9]?).bind (fun x => (isE "InvalidScript" x).map D.bl) = some (.bl false) := by rfl
  have h10 : (exN[10]?).bind (fun x => (isE "InvalidScript" x).map D.bl) = some (.bl false) := by rfl
  have h11 : (exN[11]?).bind (fun x => (isE "InvalidScript" x).map D.bl) = some (.bl false) := by rfl
  have h12 : (exN[12]?).bind (fun x => (isE "InvalidScript" x).map D.bl) = some (.bl false) := by rfl
  have h13 : (exN[13]?).bind (fun x => (isE "InvalidScript" x).map D.bl) = some (.bl false) := by rfl
  have h14 : (exN[14]?).bind (fun x => (isE "InvalidScript" x).map D.bl) = some (.bl true) := by rfl
  have hsel : selD [.lst kinW, .lst [.bl false, .bl false, .bl true, .bl false, .bl false, .bl false, .bl false, .bl false, .bl false, .bl false, .bl false, .bl false, .bl false, .bl true]] = some [.str "script", .str "+"] := by rfl
  have hjo : joinD " " (.lst [.str "script", .str "+"]) = some (.str "script +") := by
    have e : Txt.join " " (["script", "+"] : List Str) = "script +" := by decide +kernel
    rw [← e]
    rfl
  have c0 : ∀ xs ys : List D, xs.length + ys.length ≤ 1000 → catD (.lst xs) (.lst ys) = some (xs ++ ys) := fun xs ys h => if_pos (Nat.le_trans h (by decide))
  have hs : startE kinN [.exn a] = [.val (.exn a), .un, .un, .un, .un] := rfl
  have g1 : ∀ (s : Slot) (d : D) (l : Ev), getV (s :: .val d :: l) 1 = some d := fun _ _ _ => Eq.trans rfl rfl
  have g2 : ∀ (s t : Slot) (d : D) (l : Ev), getV (s :: t :: .val d :: l) 2 = some d := fun _ _ _ _ => Eq.trans rfl rfl
  have i1 : isS (.str " ") = some (" " : Str) := rfl
  have i2 : isS (.str "queue gaps script person number seen deeds plan index unlike undo many text +") = some ("queue gaps script person number seen deeds plan index unlike undo many text +" : Str) := rfl
  rw [hs]
  simp only [kinE, runK, seqM, den, Dn.val, onlyIf, Md.isHot, if_true, iseF_a, h0, h1, h2, h3, h4, h5, h6, h7, h8, h9, h10, h11, h12, h13, h14, bR, oS, c0, List.length_cons, List.length_nil, List.set_cons_zero, List.set_cons_succ, g1, g2, List.cons_append, List.nil_append, Nat.reduceLeDiff, Nat.reduceAdd, sizeLine_eq, lastM, pickM, i1, i2, kin_spl, hsel, hjo, reduceIte]
  rfl
theorem kr_InvalidPerson (a : Addr) (S : Store) : runK (Zk exN isE "InvalidPerson" a) kinE (startE kinN [.exn a]) S = some (.ok (.rt (.str "person +")), S) := by
  have h0 : (exN[0]?).bind (fun x => (isE "InvalidPerson" x).map D.bl) = some (.bl true) := by rfl
  have h1 : (exN[1]?).bind (fun x => (isE "InvalidPerson" x).map D.bl) = some (.bl false) := by rfl
  have h2 : (exN[2]?).bind (fun x => (isE "InvalidPerson" x).map D.bl) = some (.bl false) := by rfl
  have h3 : (exN[3]?).bind (fun x => (isE "InvalidPerson" x).map D.bl) = some (.bl false) := by rfl
  have h4 : (exN[4]?).bind (fun x => (isE "InvalidPerson" x).map D.bl) = some (.bl true) := by rfl
  have h5 : (exN[5]?).bind (fun x => (isE "InvalidPerson" x).map D.bl) = some (.bl false) := by rfl
  have h6 : (exN[6]?).bind (fun x => (isE "InvalidPerson" x).map D.bl) = some (.bl false) := by rfl
  have h7 : (exN[7]?).bind (fun x => (isE "InvalidPerson" x).map D.bl) = some (.bl false) := by rfl
  have h8 : (exN[8]?).bind (fun x => (isE "InvalidPerson" x).map D.bl) = some (.bl false) := by rfl
  have h9 : (exN[9]?).bind (fun x => (isE "InvalidPerson" x).map D.bl) = some (.bl false) := by rfl
  have h10 : (exN[10]?).bind (fun x => (isE "InvalidPerson" x).map D.bl) = some (.bl false) := by rfl
  have h11 : (exN[11]?).bind (fun x => (isE "InvalidPerson" x).map D.bl) = some (.bl false) := by rfl
  have h12 : (exN[12]?).bind (fun x => (isE "InvalidPerson" x).map D.bl) = some (.bl false) := by rfl
  have h13 : (exN[13]?).bind (fun x => (isE "InvalidPerson" x).map D.bl) = some (.bl false) := by rfl
  have h14 : (exN[14]?).bind (fun x => (isE "InvalidPerson" x).map D.bl) = some (.bl true) := by rfl
  have hsel : selD [.lst kinW, .lst [.bl false, .bl false, .bl false, .bl true, .bl false, .bl false, .bl false, .bl false, .bl false, .bl false, .bl false, .bl false, .bl false, .bl true]] = some [.str "person", .str "+"] := by rfl
  have hjo : joinD " " (.lst [.str "person", .str "+"]) = some (.str "person +") := by
    have e : Txt.join " " (["person", "+"] : List Str) = "person +" := by decide +kernel
    rw [← e]
    rfl
  have c0 : ∀ xs ys : List D, xs.length + ys.length ≤ 1000 → catD (.lst xs) (.lst ys) = some (xs ++ ys) := fun xs ys h => if_pos (Nat.le_trans h (by decide))
  have hs : startE kinN [.exn a] = [.val (.exn a), .un, .un, .un, .un] := rfl
  have g1 : ∀ (s : Slot) (d : D) (l : Ev), getV (s :: .val d :: l) 1 = some d := fun _ _ _ => Eq.trans rfl rfl
  have g2 : ∀ (s t : Slot) (d : D) (l : Ev), getV (s :: t :: .val d :: l) 2 = some d := fun _ _ _ _ => Eq.trans rfl rfl
  have i1 : isS (.str " ") = some (" " : Str) := rfl
  have i2 : isS (.str "queue gaps script person number seen deeds plan index unlike undo many text +") = some ("queue gaps script person number seen deeds plan index unlike undo many text +" : Str) := rfl
  rw [hs]
  simp only [kinE, runK, seqM, den, Dn.val, onlyIf, Md.isHot, if_true, iseF_a, h0, h1, h2, h3, h4, h5, h6, h7, h8, h9, h10, h11, h12, h13, h14, bR, oS, c0, List.length_cons, List.length_nil, List.set_cons_zero, List.set_cons_succ, g1, g2, List.cons_append, List.nil_append, Nat.reduceLeDiff, Nat.reduceAdd, sizeLine_eq, lastM, pickM, i1, i2, kin_spl, hsel, hjo, reduceIte]
  rfl
theorem kr_InvalidNumber (a : Addr) (S : Store) : runK (Zk exN isE "InvalidNumber" a) kinE (startE kinN [.exn a]) S = some (.ok (.rt (.str "number +")), S) := by
  have h0 : (exN[0]?).bind (fun x => (isE "InvalidNumber" x).map D.bl) = some (.bl true) := by rfl
  have h1 : (exN[1]?).bind (fun x => (isE "InvalidNumber" x).map D.bl) = some (.bl false) := by rfl
  have h2 : (exN[2]?).bind (fun x => (isE "InvalidNumber" x).map D.bl) = some (.bl false) := by rfl
  have h3 : (exN[3]?).bind (fun x => (isE "InvalidNumber" x).map D.bl) = some (.bl false) := by rfl
  have h4 : (exN[4]?).bind (fun x => (isE "InvalidNumber" x).map D.bl) = some (.bl false) := by rfl
  have h5 : (exN[5]?).bind (fun x => (isE "InvalidNumber" x).map D.bl) = some (.bl true) := by rfl
  have h6 : (exN[6]?).bind (fun x => (isE "InvalidNumber" x).map D.bl) = some (.bl false) := by rfl
  have h7 : (exN[7]?).bind (fun x => (isE "InvalidNumber" x).map D.bl) = some (.bl false) := by rfl
  have h8 : (exN[8]?).bind (fun x => (isE "InvalidNumber" x).map D.bl) = some (.bl false) := by rfl
  have h9 : (exN[9]?).bind (fun x => (isE "InvalidNumber" x).map D.bl) = some (.bl false) := by rfl
  have h10 : (exN[10]?).bind (fun x => (isE "InvalidNumber" x).map D.bl) = some (.bl false) := by rfl
  have h11 : (exN[11]?).bind (fun x => (isE "InvalidNumber" x).map D.bl) = some (.bl false) := by rfl
  have h12 : (exN[12]?).bind (fun x => (isE "InvalidNumber" x).map D.bl) = some (.bl false) := by rfl
  have h13 : (exN[13]?).bind (fun x => (isE "InvalidNumber" x).map D.bl) = some (.bl false) := by rfl
  have h14 : (exN[14]?).bind (fun x => (isE "InvalidNumber" x).map D.bl) = some (.bl true) := by rfl
  have hsel : selD [.lst kinW, .lst [.bl false, .bl false, .bl false, .bl false, .bl true, .bl false, .bl false, .bl false, .bl false, .bl false, .bl false, .bl false, .bl false, .bl true]] = some [.str "number", .str "+"] := by rfl
  have hjo : joinD " " (.lst [.str "number", .str "+"]) = some (.str "number +") := by
    have e : Txt.join " " (["number", "+"] : List Str) = "number +" := by decide +kernel
    rw [← e]
    rfl
  have c0 : ∀ xs ys : List D, xs.length + ys.length ≤ 1000 → catD (.lst xs) (.lst ys) = some (xs ++ ys) := fun xs ys h => if_pos (Nat.le_trans h (by decide))
  have hs : startE kinN [.exn a] = [.val (.exn a), .un, .un, .un, .un] := rfl
  have g1 : ∀ (s : Slot) (d : D) (l : Ev), getV (s :: .val d :: l) 1 = some d := fun _ _ _ => Eq.trans rfl rfl
  have g2 : ∀ (s t : Slot) (d : D) (l : Ev), getV (s :: t :: .val d :: l) 2 = some d := fun _ _ _ _ => Eq.trans rfl rfl
  have i1 : isS (.str " ") = some (" " : Str) := rfl
  have i2 : isS (.str "queue gaps script person number seen deeds plan index unlike undo many text +") = some ("queue gaps script person number seen deeds plan index unlike undo many text +" : Str) := rfl
  rw [hs]
  simp only [kinE, runK, seqM, den, Dn.val, onlyIf, Md.isHot, if_true, iseF_a, h0, h1, h2, h3, h4, h5, h6, h7, h8, h9, h10, h11, h12, h13, h14, bR, oS, c0, List.length_cons, List.length_nil, List.set_cons_zero, List.set_cons_succ, g1, g2, List.cons_append, List.nil_append, Nat.reduceLeDiff, Nat.reduceAdd, sizeLine_eq, lastM, pickM, i1, i2, kin_spl, hsel, hjo, reduceIte]
  rfl
theorem kr_InvalidSeen (a : Addr) (S : Store) : runK (Zk exN isE "InvalidSeen" a) kinE (startE kinN [.exn a]) S = some (.ok (.rt (.str "seen +")), S) := by
  have h0 : (exN[0]?).bind (fun x => (isE "InvalidSeen" x).map D.bl) = some (.bl true) := by rfl
  have h1 : (exN[1]?).bind (fun x => (isE "InvalidSeen" x).map D.bl) = some (.bl false) := by rfl
  have h2 : (exN[2]?).bind (fun x => (isE "InvalidSeen" x).map D.bl) = some (.bl false) := by rfl
  have h3 : (exN[3]?).bind (fun x => (isE "InvalidSeen" x).map D.bl) = some (.bl false) := by rfl
  have h4 : (exN[4]?).bind (fun x => (isE "InvalidSeen" x).map D.bl) = some (.bl false) := by rfl
  have h5 : (exN[5]?).bind (fun x => (isE "InvalidSeen" x).map D.bl) = some (.bl false) := by rfl
  have h6 : (exN[6]?).bind (fun x => (isE "InvalidSeen" x).map D.bl) = some (.bl true) := by rfl
  have h7 : (exN[7]?).bind (fun x => (isE "InvalidSeen" x).map D.bl) = some (.bl false) := by rfl
  have h8 : (exN[8]?).bind (fun x => (isE "InvalidSeen" x).map D.bl) = some (.bl false) := by rfl
  have h9 : (exN[9]?).bind (fun x => (isE "InvalidSeen" x).map D.bl) = some (.bl false) := by rfl
  have h10 : (exN[10]?).bind (fun x => (isE "InvalidSeen" x).map D.bl) = some (.bl false) := by rfl
  have h11 : (exN[11]?).bind (fun x => (isE "InvalidSeen" x).map D.bl) = some (.bl false) := by rfl
  have h12 : (exN[12]?).bind (fun x => (isE "InvalidSeen" x).map D.bl) = some (.bl false) := by rfl
  have h13 : (exN[13]?).bind (fun x => (isE "InvalidSeen" x).map D.bl) = some (.bl false) := by rfl
  have h14 : (exN[14]?).bind (fun x => (isE "InvalidSeen" x).map D.bl) = some (.bl true) := by rfl
  have hsel : selD [.lst kinW, .lst [.bl false, .bl false, .bl false, .bl false, .bl false, .bl true, .bl false, .bl false, .bl false, .bl false, .bl false, .bl false, .bl false, .bl true]] = some [.str "seen", .str "+"] := by rfl
  have hjo : joinD " " (.lst [.str "seen", .str "+"]) = some (.str "seen +") := by
    have e : Txt.join " " (["seen", "+"] : List Str) = "seen +" := by decide +kernel
    rw [← e]
    rfl
  have c0 : ∀ xs ys : List D, xs.length + ys.length ≤ 1000 → catD (.lst xs) (.lst ys) = some (xs ++ ys) := fun xs ys h => if_pos (Nat.le_trans h (by decide))
  have hs : startE kinN [.exn a] = [.val (.exn a), .un, .un, .un, .un] := rfl
  have g1 : ∀ (s : Slot) (d : D) (l : Ev), getV (s :: .val d :: l) 1 = some d := fun _ _ _ => Eq.trans rfl rfl
  have g2 : ∀ (s t : Slot) (d : D) (l : Ev), getV (s :: t :: .val d :: l) 2 = some d := fun _ _ _ _ => Eq.trans rfl rfl
  have i1 : isS (.str " ") = some (" " : Str) := rfl
  have i2 : isS (.str "queue gaps script person number seen deeds plan index unlike undo many text +") = some ("queue gaps script person number seen deeds plan index unlike undo many text +" : Str) := rfl
  rw [hs]
  simp only [kinE, runK, seqM, den, Dn.val, onlyIf, Md.isHot, if_true, iseF_a, h0, h1, h2, h3, h4, h5, h6, h7, h8, h9, h10, h11, h12, h13, h14, bR, oS, c0, List.length_cons, List.length_nil, List.set_cons_zero, List.set_cons_succ, g1, g2, List.cons_append, List.nil_append, Nat.reduceLeDiff, Nat.reduceAdd, sizeLine_eq, lastM, pickM, i1, i2, kin_spl, hsel, hjo, reduceIte]
  rfl
theorem kr_InvalidDeeds (a : Addr) (S : Store) : runK (Zk exN isE "InvalidDeeds" a) kinE (startE kinN [.exn a]) S = some (.ok (.rt (.str "deeds +")), S) := by
  have h0 : (exN[0]?).bind (fun x => (isE "InvalidDeeds" x).map D.bl) = some (.bl true) := by rfl
  have h1 : (exN[1]?).bind (fun x => (isE "InvalidDeeds" x).map D.bl) = some (.bl false) := by rfl
  have h2 : (exN[2]?).bind (fun x => (isE "InvalidDeeds" x).map D.bl) = some (.bl false) := by rfl
  have h3 : (exN[3]?).bind (fun x => (isE "InvalidDeeds" x).map D.bl) = some (.bl false) := by rfl
  have h4 : (exN[4]?).bind (fun x => (isE "InvalidDeeds" x).map D.bl) = some (.bl false) := by rfl
  have h5 : (exN[5]?).bind (fun x => (isE "InvalidDeeds" x).map D.bl) = some (.bl false) := by rfl
  have h6 : (exN[6]?).bind (fun x => (isE "InvalidDeeds" x).map D.bl) = some (.bl false) := by rfl
  have h7 : (exN[7]?).bind (fun x => (isE "InvalidDeeds" x).map D.bl) = some (.bl true) := by rfl
  have h8 : (exN[8]?).bind (fun x => (isE "InvalidDeeds" x).map D.bl) = some (.bl false) := by rfl
  have h9 : (exN[9]?).bind (fun x => (isE "InvalidDeeds" x).map D.bl) = some (.bl false) := by rfl
  have h10 : (exN[10]?).bind (fun x => (isE "InvalidDeeds" x).map D.bl) = some (.bl false) := by rfl
  have h11 : (exN[11]?).bind (fun x => (isE "InvalidDeeds" x).map D.bl) = some (.bl false) := by rfl
  have h12 : (exN[12]?).bind (fun x => (isE "InvalidDeeds" x).map D.bl) = some (.bl false) := by rfl
  have h13 : (exN[13]?).bind (fun x => (isE "InvalidDeeds" x).map D.bl) = some (.bl false) := by rfl
  have h14 : (exN[14]?).bind (fun x => (isE "InvalidDeeds" x).map D.bl) = some (.bl true) := by rfl
  have hsel : selD [.lst kinW, .lst [.bl false, .bl false, .bl false, .bl false, .bl false, .bl false, .bl true, .bl false, .bl false, .bl false, .bl false, .bl false, .bl false, .bl true]] = some [.str "deeds", .str "+"] := by rfl
  have hjo : joinD " " (.lst [.str "deeds", .str "+"]) = some (.str "deeds +") := by
    have e : Txt.join " " (["deeds", "+"] : List Str) = "deeds +" := by decide +kernel
    rw [← e]
    rfl
  have c0 : ∀ xs ys : List D, xs.length + ys.length ≤ 1000 → catD (.lst xs) (.lst ys) = some (xs ++ ys) := fun xs ys h => if_pos (Nat.le_trans h (by decide))
  have hs : startE kinN [.exn a] = [.val (.exn a), .un, .un, .un, .un] := rfl
  have g1 : ∀ (s : Slot) (d : D) (l : Ev), getV (s :: .val d :: l) 1 = some d := fun _ _ _ => Eq.trans rfl rfl
  have g2 : ∀ (s t : Slot) (d : D) (l : Ev), getV (s :: t :: .val d :: l) 2 = some d := fun _ _ _ _ => Eq.trans rfl rfl
  have i1 : isS (.str " ") = some (" " : Str) := rfl
  have i2 : isS (.str "queue gaps script person number seen deeds plan index unlike undo many text +") = some ("queue gaps script person number seen deeds plan index unlike undo many text +" : Str) := rfl
  rw [hs]
  simp only [kinE, runK, seqM, den, Dn.val, onlyIf, Md.isHot, if_true, iseF_a, h0, h1, h2, h3, h4, h5, h6, h7, h8, h9, h10, h11, h12, h13, h14, bR, oS, c0, List.length_cons, List.length_nil, List.set_cons_zero, List.set_cons_succ, g1, g2, List.cons_append, List.nil_append, Nat.reduceLeDiff, Nat.reduceAdd, sizeLine_eq, lastM, pickM, i1, i2, kin_spl, hsel, hjo, reduceIte]
  rfl
theorem kr_InvalidPlan (a : Addr) (S : Store) : runK (Zk exN isE "InvalidPlan" a) kinE (startE kinN [.exn a]) S = some (.ok (.rt (.str "plan +")), S) := by
  have h0 : (exN[0]?).bind (fun x => (isE "InvalidPlan" x).map D.bl) = some (.bl true) := by rfl
  have h1 : (exN[1]?).bind (fun x => (isE "InvalidPlan" x).map D.bl) = some (.bl false) := by rfl
  have h2 : (exN[2]?).bind (fun x => (isE "InvalidPlan" x).map D.bl) = some (.bl false) := by rfl
  have h3 : (exN[3]?).bind (fun x => (isE "InvalidPlan" x).map D.bl) = some (.bl false) := by rfl
  have h4 : (exN[4]?).bind (fun x => (isE "InvalidPlan" x).map D.bl) = some (.bl false) := by rfl
  have h5 : (exN[5]?).bind (fun x => (isE "InvalidPlan" x).map D.bl) = some (.bl false) := by rfl
  have h6 : (exN[6]?).bind (fun x => (isE "InvalidPlan" x).map D.bl) = some (.bl false) := by rfl
  have h7 : (exN[7]?).bind (fun x => (isE "InvalidPlan" x).map D.bl) = some (.bl false) := by rfl
  have h8 : (exN[8]?).bind (fun x => (isE "InvalidPlan" x).map D.bl) = some (.bl true) := by rfl
  have h9 : (exN[9]?).bind (fun x => (isE "InvalidPlan" x).map D.bl) = some (.bl false) := by rfl
  have h10 : (exN[10]?).bind (fun x => (isE "InvalidPlan" x).map D.bl) = some (.bl false) := by rfl
  have h11 : (exN[11]?).bind (fun x => (isE "InvalidPlan" x).map D.bl) = some (.bl false) := by rfl
  have h12 : (exN[12]?).bind (fun x => (isE "InvalidPlan" x).map D.bl) = some (.bl false) := by rfl
  have h13 : (exN[13]?).bind (fun x => (isE "InvalidPlan" x).map D.bl) = some (.bl false) := by rfl
  have h14 : (exN[14]?).bind (fun x => (isE "InvalidPlan" x).map D.bl) = some (.bl true) := by rfl
  have hsel : selD [.lst kinW, .lst [.bl false, .bl false, .bl false, .bl false, .bl false, .bl false, .bl false, .bl true, .bl false, .bl false, .bl false, .bl false, .bl false, .bl true]] = some [.str "plan", .str "+"] := by rfl
  have hjo : joinD " " (.lst [.str "plan", .str "+"]) = some (.str "plan +") := by
    have e : Txt.join " " (["plan", "+"] : List Str) = "plan +" := by decide +kernel
    rw [← e]
    rfl
  have c0 : ∀ xs ys : List D, xs.length + ys.length ≤ 1000 → catD (.lst xs) (.lst ys) = some (xs ++ ys) := fun xs ys h => if_pos (Nat.le_trans h (by decide))
  have hs : startE kinN [.exn a] = [.val (.exn a), .un, .un, .un, .un] := rfl
  have g1 : ∀ (s : Slot) (d : D) (l : Ev), getV (s :: .val d :: l) 1 = some d := fun _ _ _ => Eq.trans rfl rfl
  have g2 : ∀ (s t : Slot) (d : D) (l : Ev), getV (s :: t :: .val d :: l) 2 = some d := fun _ _ _ _ => Eq.trans rfl rfl
  have i1 : isS (.str " ") = some (" " : Str) := rfl
  have i2 : isS (.str "queue gaps script person number seen deeds plan index unlike undo many text +") = some ("queue gaps script person number seen deeds plan index unlike undo many text +" : Str) := rfl
  rw [hs]
  simp only [kinE, runK, seqM, den, Dn.val, onlyIf, Md.isHot, if_true, iseF_a, h0, h1, h2, h3, h4, h5, h6, h7, h8, h9, h10, h11, h12, h13, h14, bR, oS, c0, List.length_cons, List.length_nil, List.set_cons_zero, List.set_cons_succ, g1, g2, List.cons_append, List.nil_append, Nat.reduceLeDiff, Nat.reduceAdd, sizeLine_eq, lastM, pickM, i1, i2, kin_spl, hsel, hjo, reduceIte]
  rfl
theorem kr_InvalidIndex (a : Addr) (S : Store) : runK (Zk exN isE "InvalidIndex" a) kinE (startE kinN [.exn a]) S = some (.ok (.rt (.str "index +")), S) := by
  have h0 : (exN[0]?).bind (fun x => (isE "InvalidIndex" x).map D.bl) = some (.bl true) := by rfl
  have h1 : (exN[1]?).bind (fun x => (isE "InvalidIndex" x).map D.bl) = some (.bl false) := by rfl
  have h2 : (exN[2]?).bind (fun x => (isE "InvalidIndex" x).map D.bl) = some (.bl false) := by rfl
  have h3 : (exN[3]?).bind (fun x => (isE "InvalidIndex" x).map D.bl) = some (.bl false) := by rfl
  have h4 : (exN[4]?).bind (fun x => (isE "InvalidIndex" x).map D.bl) = some (.bl false) := by rfl
  have h5 : (exN[5]?).bind (fun x => (isE "InvalidIndex" x).map D.bl) = some (.bl false) := by rfl
  have h6 : (exN[6]?).bind (fun x => (isE "InvalidIndex" x).map D.bl) = some (.bl false) := by rfl
  have h7 : (exN[7]?).bind (fun x => (isE "InvalidIndex" x).map D.bl) = some (.bl false) := by rfl
  have h8 : (exN[8]?).bind (fun x => (isE "InvalidIndex" x).map D.bl) = some (.bl false) := by rfl
  have h9 : (exN[9]?).bind (fun x => (isE "InvalidIndex" x).map D.bl) = some (.bl true) := by rfl
  have h10 : (exN[10]?).bind (fun x => (isE "InvalidIndex" x).map D.bl) = some (.bl false) := by rfl
  have h11 : (exN[11]?).bind (fun x => (isE "InvalidIndex" x).map D.bl) = some (.bl false) := by rfl
  have h12 : (exN[12]?).bind (fun x => (isE "InvalidIndex" x).map D.bl) = some (.bl false) := by rfl
  have h13 : (exN[13]?).bind (fun x => (isE "InvalidIndex" x).map D.bl) = some (.bl false) := by rfl
  have h14 : (exN[14]?).bind (fun x => (isE "InvalidIndex" x).map D.bl) = some (.bl true) := by rfl
  have hsel : selD [.lst kinW, .lst [.bl false, .bl false, .bl false, .bl false, .bl false, .bl false, .bl false, .bl false, .bl true, .bl false, .bl false, .bl false, .bl false, .bl true]] = some [.str "index", .str "+"] := by rfl
  have hjo : joinD " " (.lst [.str "index", .str "+"]) = some (.str "index +") := by
    have e : Txt.join " " (["index", "+"] : List Str) = "index +" := by decide +kernel
    rw [← e]
    rfl
  have c0 : ∀ xs ys : List D, xs.length + ys.length ≤ 1000 → catD (.lst xs) (.lst ys) = some (xs ++ ys) := fun xs ys h => if_pos (Nat.le_trans h (by decide))
  have hs : startE kinN [.exn a] = [.val (.exn a), .un, .un, .un, .un] := rfl
  have g1 : ∀ (s : Slot) (d : D) (l : Ev), getV (s :: .val d :: l) 1 = some d := fun _ _ _ => Eq.trans rfl rfl
  have g2 : ∀ (s t : Slot) (d : D) (l : Ev), getV (s :: t :: .val d :: l) 2 = some d := fun _ _ _ _ => Eq.trans rfl rfl
  have i1 : isS (.str " ") = some (" " : Str) := rfl
  have i2 : isS (.str "queue gaps script person number seen deeds plan index unlike undo many text +") = some ("queue gaps script person number seen deeds plan index unlike undo many text +" : Str) := rfl
  rw [hs]
  simp only [kinE, runK, seqM, den, Dn.val, onlyIf, Md.isHot, if_true, iseF_a, h0, h1, h2, h3, h4, h5, h6, h7, h8, h9, h10, h11, h12, h13, h14, bR, oS, c0, List.length_cons, List.length_nil, List.set_cons_zero, List.set_cons_succ, g1, g2, List.cons_append, List.nil_append, Nat.reduceLeDiff, Nat.reduceAdd, sizeLine_eq, lastM, pickM, i1, i2, kin_spl, hsel, hjo, reduceIte]
  rfl
theorem kr_Unlike (a : Addr) (S : Store) : runK (Zk exN isE "Unlike" a) kinE (startE kinN [.exn a]) S = some (.ok (.rt (.str "unlike +")), S) := by
  have h0 : (exN[0]?).bind (fun x => (isE "Unlike" x).map D.bl) = some (.bl true) := by rfl
  have h1 : (exN[1]?).bind (fun x => (isE "Unlike" x).map D.bl) = some (.bl false) := by rfl
  have h2 : (exN[2]?).bind (fun x => (isE "Unlike" x).map D.bl) = some (.bl false) := by rfl
  have h3 : (exN[3]?).bind (fun x => (isE "Unlike" x).map D.bl) = some (.bl false) := by rfl
  have h4 : (exN[4]?).bind (fun x => (isE "Unlike" x).map D.bl) = some (.bl false) := by rfl
  have h5 : (exN[5]?).bind (fun x => (isE "Unlike" x).map D.bl) = some (.bl false) := by rfl
  have h6 : (exN[6]?).bind (fun x => (isE "Unlike" x).map D.bl) = some (.bl false) := by rfl
  have h7 : (exN[7]?).bind (fun x => (isE "Unlike" x).map D.bl) = some (.bl false) := by rfl
  have h8 : (exN[8]?).bind (fun x => (isE "Unlike" x).map D.bl) = some (.bl false) := by rfl
  have h9 : (exN[9]?).bind (fun x => (isE "Unlike" x).map D.bl) = some (.bl false) := by rfl
  have h10 : (exN[10]?).bind (fun x => (isE "Unlike" x).map D.bl) = some (.bl true) := by rfl
  have h11 : (exN[11]?).bind (fun x => (isE "Unlike" x).map D.bl) = some (.bl false) := by rfl
  have h12 : (exN[12]?).bind (fun x => (isE "Unlike" x).map D.bl) = some (.bl false) := by rfl
  have h13 : (exN[13]?).bind (fun x => (isE "Unlike" x).map D.bl) = some (.bl false) := by rfl
  have h14 : (exN[14]?).bind (fun x => (isE "Unlike" x).map D.bl) = some (.bl true) := by rfl
  have hsel : selD [.lst kinW, .lst [.bl false, .bl false, .bl false, .bl false, .bl false, .bl false, .bl false, .bl false, .bl false, .bl true, .bl false, .bl false, .bl false, .bl true]] = some [.str "unlike", .str "+"] := by rfl
  have hjo : joinD " " (.lst [.str "unlike", .str "+"]) = some (.str "unlike +") := by
    have e : Txt.join " " (["unlike", "+"] : List Str) = "unlike +" := by decide +kernel
    rw [← e]
    rfl
  have c0 : ∀ xs ys : List D, xs.length + ys.length ≤ 1000 → catD (.lst xs) (.lst ys) = some (xs ++ ys) := fun xs ys h => if_pos (Nat.le_trans h (by decide))
  have hs : startE kinN [.exn a] = [.val (.exn a), .un, .un, .un, .un] := rfl
  have g1 : ∀ (s : Slot) (d : D) (l : Ev), getV (s :: .val d :: l) 1 = some d := fun _ _ _ => Eq.trans rfl rfl
  have g2 : ∀ (s t : Slot) (d : D) (l : Ev), getV (s :: t :: .val d :: l) 2 = some d := fun _ _ _ _ => Eq.trans rfl rfl
  have i1 : isS (.str " ") = some (" " : Str) := rfl
  have i2 : isS (.str "queue gaps script person number seen deeds plan index unlike undo many text +") = some ("queue gaps script person number seen deeds plan index unlike undo many text +" : Str) := rfl
  rw [hs]
  simp only [kinE, runK, seqM, den, Dn.val, onlyIf, Md.isHot, if_true, iseF_a, h0, h1, h2, h3, h4, h5, h6, h7, h8, h9, h10, h11, h12, h13, h14, bR, oS, c0, List.length_cons, List.length_nil, List.set_cons_zero, List.set_cons_succ, g1, g2, List.cons_append, List.nil_append, Nat.reduceLeDiff, Nat.reduceAdd, sizeLine_eq, lastM, pickM, i1, i2, kin_spl, hsel, hjo, reduceIte]
  rfl
theorem kr_NothingToUndo (a : Addr) (S : Store) : runK (Zk exN isE "NothingToUndo" a) kinE (startE kinN [.exn a]) S = some (.ok (.rt (.str "undo +")), S) := by
  have h0 : (exN[0]?).bind (fun x => (isE "NothingToUndo" x).map D.bl) = some (.bl true) := by rfl
  have h1 : (exN[1]?).bind (fun x => (isE "NothingToUndo" x).map D.bl) = some (.bl false) := by rfl
  have h2 : (exN[2]?).bind (fun x => (isE "NothingToUndo" x).map D.bl) = some (.bl false) := by rfl
  have h3 : (exN[3]?).bind (fun x => (isE "NothingToUndo" x).map D.bl) = some (.bl false) := by rfl
  have h4 : (exN[4]?).bind (fun x => (isE "NothingToUndo" x).map D.bl) = some (.bl false) := by rfl
  have h5 : (exN[5]?).bind (fun x => (isE "NothingToUndo" x).map D.bl) = some (.bl false) := by rfl
  have h6 : (exN[6]?).bind (fun x => (isE "NothingToUndo" x).map D.bl) = some (.bl false) := by rfl
  have h7 : (exN[7]?).bind (fun x => (isE "NothingToUndo" x).map D.bl) = some (.bl false) := by rfl
  have h8 : (exN[8]?).bind (fun x => (isE "NothingToUndo" x).map D.bl) = some (.bl false) := by rfl
  have h9 : (exN[9]?).bind (fun x => (isE "NothingToUndo" x).map D.bl) = some (.bl false) := by rfl
  have h10 : (exN[10]?).bind (fun x => (isE "NothingToUndo" x).map D.bl) = some (.bl false) := by rfl
  have h11 : (exN[11]?).bind (fun x => (isE "NothingToUndo" x).map D.bl) = some (.bl true) := by rfl
  have h12 : (exN[12]?).bind (fun x => (isE "NothingToUndo" x).map D.bl) = some (.bl false) := by rfl
  have h13 : (exN[13]?).bind (fun x => (isE "NothingToUndo" x).map D.bl) = some (.bl false) := by rfl
  have h14 : (exN[14]?).bind (fun x => (isE "NothingToUndo" x).map D.bl) = some (.bl true) := by rfl
  have hsel : selD [.lst kinW, .lst [.bl false, .bl false, .bl false, .bl false, .bl false, .bl false, .bl false, .bl false, .bl false, .bl false, .bl true, .bl false, .bl false, .bl true]] = some [.str "undo", .str "+"] := by rfl
  have hjo : joinD " " (.lst [.str "undo", .str "+"]) = some (.str "undo +") := by
    have e : Txt.join " " (["undo", "+"] : List Str) = "undo +" := by decide +kernel
    rw [← e]
    rfl
  have c0 : ∀ xs ys : List D, xs.length + ys.length ≤ 1000 → catD (.lst xs) (.lst ys) = some (xs ++ ys) := fun xs ys h => if_pos (Nat.le_trans h (by decide))
  have hs : startE kinN [.exn a] = [.val (.exn a), .un, .un, .un, .un] := rfl
  have g1 : ∀ (s : Slot) (d : D) (l : Ev), getV (s :: .val d :: l) 1 = some d := fun _ _ _ => Eq.trans rfl rfl
  have g2 : ∀ (s t : Slot) (d : D) (l : Ev), getV (s :: t :: .val d :: l) 2 = some d := fun _ _ _ _ => Eq.trans rfl rfl
  have i1 : isS (.str " ") = some (" " : Str) := rfl
  have i2 : isS (.str "queue gaps script person number seen deeds plan index unlike undo many text +") = some ("queue gaps script person number seen deeds plan index unlike undo many text +" : Str) := rfl
  rw [hs]
  simp only [kinE, runK, seqM, den, Dn.val, onlyIf, Md.isHot, if_true, iseF_a, h0, h1, h2, h3, h4, h5, h6, h7, h8, h9, h10, h11, h12, h13, h14, bR, oS, c0, List.length_cons, List.length_nil, List.set_cons_zero, List.set_cons_succ, g1, g2, List.cons_append, List.nil_append, Nat.reduceLeDiff, Nat.reduceAdd, sizeLine_eq, lastM, pickM, i1, i2, kin_spl, hsel, hjo, reduceIte]
  rfl
def faQ : He.Fa → He.Fa → Bool
  | .glo a, .glo b => decide (a = b)
  | .free a, .free b => decide (a = b)
  | .exc a, .exc b => decide (a = b)
  | _, _ => false
def hasFa (x : He.Fa) : Bool := fa.any (faQ x)
theorem faQ_eq : ∀ {a b : He.Fa}, faQ a b = true → a = b := by
  intro a b h
  unfold faQ at h
  split at h
  · rw [of_decide_eq_true h]
  · rw [of_decide_eq_true h]
  · rw [of_decide_eq_true h]
  · cases h
theorem hasFa_mem {x : He.Fa} (h : hasFa x = true) : x ∈ fa := by
  obtain ⟨y, hy, e⟩ := List.any_eq_true.mp h
  rw [faQ_eq e]
  exact hy
section
variable {P : Program} {w : World} {K : PySem.W.Frag} {h base : Heap} {mg : Str → Option Value}
theorem k_fre (X : K.In h) (G : h.Ns mainGlobals mg) (c : He.SaysX fa fn [] tf exB w h K) : ∀ x ∈ bltN, mg x = none := by
  have hb : ∀ x ∈ bltN, He.Fa.free x ∈ fa := by
    intro x hx
    exact hasFa_mem (List.all_eq_true.mp (show bltN.all (fun x => hasFa (.free x)) = true by decide +kernel) x hx)
  intro x hx
  exact He.free_ok X G (c.t.d.facts (hb x hx))
theorem k_more (c : He.SaysX fa fn [] tf exB w h K) : (∀ x ∈ clsL, clsB K isE exN "InvalidText" "TooMany" "QueueError" x = true) ∧ (∀ p ∈ gvL, gvB K p.1 p.2 = true) ∧ (((tf.map fun p => (He.cT K p).2) ++ [mainGlobals]).Nodup) := by
  have h := c.more
  unfold exB at h
  simp only [Bool.and_eq_true, decide_eq_true_eq] at h
  exact ⟨fun x hx => List.all_eq_true.mp h.1.1 x hx, fun p hp => List.all_eq_true.mp h.1.2 p hp, h.2⟩
theorem k_exm : ∀ y ∈ exN, y = "ValueError" ∨ He.Fa.glo y ∈ fa := by
  intro y hy
  have z := List.all_eq_true.mp (show exN.all (fun y => decide (y = "ValueError") || hasFa (.glo y)) = true by decide +kernel) y hy
  simp only [Bool.or_eq_true, decide_eq_true_eq] at z
  exact z.imp id hasFa_mem
theorem k_rs : ∀ y ∈ GG.rs, He.Fa.glo y ∈ fa ∧ He.Fa.exc y ∈ fa := by
  intro y hy
  have z := List.all_eq_true.mp (show GG.rs.all (fun y => hasFa (.glo y) && hasFa (.exc y)) = true by decide +kernel) y hy
  rw [Bool.and_eq_true] at z
  exact ⟨hasFa_mem z.1, hasFa_mem z.2⟩
theorem k_kin (X : K.In h) (G : h.Ns mainGlobals mg) (c : He.SaysX fa fn [] tf exB w h K) : ∀ x fl d, kinD x fl = some d → fl = none ∧ ∃ s, d = .str s ∧ KinS (cfOf K) K mg exN isE kinE kinN (He.ga K "InvalidText") (He.ga K "TooMany") (He.ga K "QueueError") x s := by
  intro x fl d e
  have ve : mg "ValueError" = none := He.free_ok X G (c.t.d.facts (List.mem_of_getElem? (i := 58) rfl))
  have m1 := (k_more c).1
  unfold kinD at e
  split at e
  · rename_i s hl
    cases e
    refine ⟨rfl, s, rfl, ?_⟩
    have hm := PySem.mem_of_lookup hl
    unfold kinT at hm
    simp only [List.mem_cons, List.not_mem_nil, or_false, Prod.mk.injEq] at hm
    rcases hm with ⟨rfl, rfl⟩ | ⟨rfl, rfl⟩ | ⟨rfl, rfl⟩ | ⟨rfl, rfl⟩ | ⟨rfl, rfl⟩ | ⟨rfl, rfl⟩ | ⟨rfl, rfl⟩ | ⟨rfl, rfl⟩ | ⟨rfl, rfl⟩ | ⟨rfl, rfl⟩ | ⟨rfl, rfl⟩
    · exact kinS_of (c := cfOf K) X G c.t.d (fun _ => rfl) (k_fre X G c) ve k_exm (m1 _ (List.mem_of_getElem? (i := 0) rfl)) kr_InvalidQueue
    · exact kinS_of (c := cfOf K) X G c.t.d (fun _ => rfl) (k_fre X G c) ve k_exm (m1 _ (List.mem_of_getElem? (i := 1) rfl)) kr_InvalidGaps
    · exact kinS_of (c := cfOf K) X G c.t.d (fun _ => rfl) (k_fre X G c) ve k_exm (m1 _ (List.mem_of_getElem? (i := 2) rfl)) kr_InvalidScript
    · exact kinS_of (c := cfOf K) X G c.t.d (fun _ => rfl) (k_fre X G c) ve k_exm (m1 _ (List.mem_of_getElem? (i := 3) rfl)) kr_InvalidPerson
    · exact kinS_of (c := cfOf K) X G c.t.d (fun _ => rfl) (k_fre X G c) ve k_exm (m1 _ (List.mem_of_getElem? (i := 4) rfl)) kr_InvalidNumber
    · exact kinS_of (c := cfOf K) X G c.t.d (fun _ => rfl) (k_fre X G c) ve k_exm (m1 _ (List.mem_of_getElem? (i := 5) rfl)) kr_InvalidSeen
    · exact kinS_of (c := cfOf K) X G c.t.d (fun _ => rfl) (k_fre X G c) ve k_exm (m1 _ (List.mem_of_getElem? (i := 6) rfl)) kr_InvalidDeeds
    · exact kinS_of (c := cfOf K) X G c.t.d (fun _ => rfl) (k_fre X G c) ve k_exm (m1 _ (List.mem_of_getElem? (i := 7) rfl)) kr_InvalidPlan
    · exact kinS_of (c := cfOf K) X G c.t.d (fun _ => rfl) (k_fre X G c) ve k_exm (m1 _ (List.mem_of_getElem? (i := 8) rfl)) kr_InvalidIndex
    · exact kinS_of (c := cfOf K) X G c.t.d (fun _ => rfl) (k_fre X G c) ve k_exm (m1 _ (List.mem_of_getElem? (i := 9) rfl)) kr_Unlike
    · exact kinS_of (c := cfOf K) X G c.t.d (fun _ => rfl) (k_fre X G c) ve k_exm (m1 _ (List.mem_of_getElem? (i := 10) rfl)) kr_NothingToUndo
  · cases e
theorem dk_bounds_of (X : K.In h) (G : h.Ns mainGlobals mg) (c : He.SaysX fa fn [] tf exB w h K) (TB : ∀ p ∈ tf.map (He.cT K), TabB base mg p.1 p.2) : mg f_bounds_of.nm = some (.ref ((cfOf K).fa K_bounds_of)) ∧ PySem.W.keepIn K (.ref ((cfOf K).fa K_bounds_of)) = true ∧ ∃ (params : Arguments) (body : List Stmt) (scope : Scope) (dV kV doc pm : Value) (an : Option Addr) (cdv ct : Value),
    DefAt (cfOf K) GG P w K mg base K_bounds_of f_bounds_of params body scope dV kV doc pm an cdv ct ∧ Binds K (PySem.W.fnOf f_bounds_of.nm f_bounds_of.nm params body scope dV kV doc pm an cdv ct) f_bounds_of.ps [] := by
  obtain ⟨m, kp, dV, kV, doc, pm, an, cdv, ct, lk, ci, ec, B, _⟩ := def_at (c := cfOf K) X G c.t.d (d := d_bounds_of) (nm := "bounds_of") (ps := ["size"]) (List.mem_of_getElem? (i := 0) rfl) (List.mem_of_getElem? (i := 0) rfl) rfl rfl rfl rfl rfl (fun _ _ _ _ _ _ us hl => match us, hl with | [_], _ => rfl)
  exact ⟨m, kp, _, _, _, dV, kV, doc, pm, an, cdv, ct, ⟨lk, ci, s_bounds_of, c_bounds_of, fun z => nomatch z⟩, B⟩
theorem dk_least_of (X : K.In h) (G : h.Ns mainGlobals mg) (c : He.SaysX fa fn [] tf exB w h K) (TB : ∀ p ∈ tf.map (He.cT K), TabB base mg p.1 p.2) : mg f_least_of.nm = some (.ref ((cfOf K).fa K_least_of)) ∧ PySem.W.keepIn K (.ref ((cfOf K).fa K_least_of)) = true ∧ ∃ (params : Arguments) (body : List Stmt) (scope : Scope) (dV kV doc pm : Value) (an : Option Addr) (cdv ct : Value),
    DefAt (cfOf K) GG P w K mg base K_least_of f_least_of params body scope dV kV doc pm an cdv ct ∧ Binds K (PySem.W.fnOf f_least_of.nm f_least_of.nm params body scope dV kV doc pm an cdv ct) f_least_of.ps [] := by
  obtain ⟨m, kp, dV, kV, doc, pm, an, cdv, ct, lk, ci, ec, B, _⟩ := def_at (c := cfOf K) X G c.t.d (d := d_least_of) (nm := "least_of") (ps := ["one", "other"]) (List.mem_of_getElem? (i := 1) rfl) (List.mem_of_getElem? (i := 1) rfl) rfl rfl rfl rfl rfl (fun _ _ _ _ _ _ us hl => match us, hl with | [_, _], _ => rfl)
  exact ⟨m, kp, _, _, _, dV, kV, doc, pm, an, cdv, ct, ⟨lk, ci, s_least_of, c_least_of, fun z => nomatch z⟩, B⟩
theorem dk_summed (X : K.In h) (G : h.Ns mainGlobals mg) (c : He.SaysX fa fn [] tf exB w h K) (TB : ∀ p ∈ tf.map (He.cT K), TabB base mg p.1 p.2) : mg f_summed.nm = some (.ref ((cfOf K).fa K_summed)) ∧ PySem.W.keepIn K (.ref ((cfOf K).fa K_summed)) = true ∧ ∃ (params : Arguments) (body : List Stmt) (scope : Scope) (dV kV doc pm : Value) (an : Option Addr) (cdv ct : Value),
    DefAt (cfOf K) GG P w K mg base K_summed f_summed params body scope dV kV doc pm an cdv ct ∧ Binds K (PySem.W.fnOf f_summed.nm f_summed.nm params body scope dV kV doc pm an cdv ct) f_summed.ps [] := by
  obtain ⟨m, kp, dV, kV, doc, pm, an, cdv, ct, lk, ci, ec, B, _⟩ := def_at (c := cfOf K) X G c.t.d (d := d_summed) (nm := "summed") (ps := ["one", "other"]) (List.mem_of_getElem? (i := 2) rfl) (List.mem_of_getElem? (i := 2) rfl) rfl rfl rfl rfl rfl (fun _ _ _ _ _ _ us hl => match us, hl with | [_, _], _ => rfl)
  exact ⟨m, kp, _, _, _, dV, kV, doc, pm, an, cdv, ct, ⟨lk, ci, s_summed, c_summed, fun z => nomatch z⟩, B⟩
theorem dk_with_bound (X : K.In h) (G : h.Ns mainGlobals mg) (c : He.SaysX fa fn [] tf exB w h K) (TB : ∀ p ∈ tf.map (He.cT K), TabB base mg p.1 p.2) : mg f_with_bound.nm = some (.ref ((cfOf K).fa K_with_bound)) ∧ PySem.W.keepIn K (.ref ((cfOf K).fa K_with_bound)) = true ∧ ∃ (params : Arguments) (body : List Stmt) (scope : Scope) (dV kV doc pm : Value) (an : Option Addr) (cdv ct : Value),
    DefAt (cfOf K) GG P w K mg base K_with_bound f_with_bound params body scope dV kV doc pm an cdv ct ∧ Binds K (PySem.W.fnOf f_with_bound.nm f_with_bound.nm params body scope dV kV doc pm an cdv ct) f_with_bound.ps [] := by
  obtain ⟨m, kp, dV, kV, doc, pm, an, cdv, ct, lk, ci, ec, B, _⟩ := def_at (c := cfOf K) X G c.t.d (d := d_with_bound) (nm := "with_bound") (ps := ["bounds", "one", "other", "most"]) (List.mem_of_getElem? (i := 3) rfl) (List.mem_of_getElem? (i := 3) rfl) rfl rfl rfl rfl rfl (fun _ _ _ _ _ _ us hl => match us, hl with | [_, _, _, _], _ => rfl)
  exact ⟨m, kp, _, _, _, dV, kV, doc, pm, an, cdv, ct, ⟨lk, ci, s_with_bound, c_with_bound, fun z => nomatch z⟩, B⟩
theorem dk_closer (X : K.In h) (G : h.Ns mainGlobals mg) (c : He.SaysX fa fn [] tf exB w h K) (TB : ∀ p ∈ tf.map (He.cT K), TabB base mg p.1 p.2) : mg f_closer.nm = some (.ref ((cfOf K).fa K_closer)) ∧ PySem.W.keepIn K (.ref ((cfOf K).fa K_closer)) = true ∧ ∃ (params : Arguments) (body : List Stmt) (scope : Scope) (dV kV doc pm : Value) (an : Option Addr) (cdv ct : Value),
    DefAt (cfOf K) GG P w K mg base K_closer f_closer params body scope dV kV doc pm an cdv ct ∧ Binds K (PySem.W.fnOf f_closer.nm f_closer.nm params body scope dV kV doc pm an cdv ct) f_closer.ps [] := by
  obtain ⟨m, kp, dV, kV, doc, pm, an, cdv, ct, lk, ci, ec, B, _⟩ := def_at (c := cfOf K) X G c.t.d (d := d_closer) (nm := "closer") (ps := ["bounds", "first", "second", "one", "other", "most"]) (List.mem_of_getElem? (i := 4) rfl) (List.mem_of_getElem? (i := 4) rfl) rfl rfl rfl rfl rfl (fun _ _ _ _ _ _ us hl => match us, hl with | [_, _, _, _, _, _], _ => rfl)
  exact ⟨m, kp, _, _, _, dV, kV, doc, pm, an, cdv, ct, ⟨lk, ci, s_closer, c_closer, fun z => nomatch z⟩, B⟩
theorem dk_is_within (X : K.In h) (G : h.Ns mainGlobals mg) (c : He.SaysX fa fn [] tf exB w h K) (TB : ∀ p ∈ tf.map (He.cT K), TabB base mg p.1 p.2) : mg f_is_within.nm = some (.ref ((cfOf K).fa K_is_within)) ∧ PySem.W.keepIn K (.ref ((cfOf K).fa K_is_within)) = true ∧ ∃ (params : Arguments) (body : List Stmt) (scope : Scope) (dV kV doc pm : Value) (an : Option Addr) (cdv ct : Value),
    DefAt (cfOf K) GG P w K mg base K_is_within f_is_within params body scope dV kV doc pm an cdv ct ∧ Binds K (PySem.W.fnOf f_is_within.nm f_is_within.nm params body scope dV kV doc pm an cdv ct) f_is_within.ps [] := by
  obtain ⟨m, kp, dV, kV, doc, pm, an, cdv, ct, lk, ci, ec, B, _⟩ := def_at (c := cfOf K) X G c.t.d (d := d_is_within) (nm := "is_within") (ps := ["value", "low", "high"]) (List.mem_of_getElem? (i := 5) rfl) (List.mem_of_getElem? (i := 5) rfl) rfl rfl rfl rfl rfl (fun _ _ _ _ _ _ us hl => match us, hl with | [_, _, _], _ => rfl)
  exact ⟨m, kp, _, _, _, dV, kV, doc, pm, an, cdv, ct, ⟨lk, ci, s_is_within, c_is_within, fun z => nomatch z⟩, B⟩
theorem dk_has_items (X : K.In h) (G : h.Ns mainGlobals mg) (c : He.SaysX fa fn [] tf exB w h K) (TB : ∀ p ∈ tf.map (He.cT K), TabB base mg p.1 p.2) : mg f_has_items.nm = some (.ref ((cfOf K).fa K_has_items)) ∧ PySem.W.keepIn K (.ref ((cfOf K).fa K_has_items)) = true ∧ ∃ (params : Arguments) (body : List Stmt) (scope : Scope) (dV kV doc pm : Value) (an : Option Addr) (cdv ct : Value),
    DefAt (cfOf K) GG P w K mg base K_has_items f_has_items params body scope dV kV doc pm an cdv ct ∧ Binds K (PySem.W.fnOf f_has_items.nm f_has_items.nm params body scope dV kV doc pm an cdv ct) f_has_items.ps [] := by
  obtain ⟨m, kp, dV, kV, doc, pm, an, cdv, ct, lk, ci, ec, B, _⟩ := def_at (c := cfOf K) X G c.t.d (d := d_has_items) (nm := "has_items") (ps := ["value", "low", "high"]) (List.mem_of_getElem? (i := 6) rfl) (List.mem_of_getElem? (i := 6) rfl) rfl rfl rfl rfl rfl (fun _ _ _ _ _ _ us hl => match us, hl with | [_, _, _], _ => rfl)
  exact ⟨m, kp, _, _, _, dV, kV, doc, pm, an, cdv, ct, ⟨lk, ci, s_has_items, c_has_items, fun z => nomatch z⟩, B⟩
theorem dk_is_row (X : K.In h) (G : h.Ns mainGlobals mg) (c : He.SaysX fa fn [] tf exB w h K) (TB : ∀ p ∈ tf.map (He.cT K), TabB base mg p.1 p.2) : mg f_is_row.nm = some (.ref ((cfOf K).fa K_is_row)) ∧ PySem.W.keepIn K (.ref ((cfOf K).fa K_is_row)) = true ∧ ∃ (params : Arguments) (body : List Stmt) (scope : Scope) (dV kV doc pm : Value) (an : Option Addr) (cdv ct : Value),
    DefAt (cfOf K) GG P w K mg base K_is_row f_is_row params body scope dV kV doc pm an cdv ct ∧ Binds K (PySem.W.fnOf f_is_row.nm f_is_row.nm params body scope dV kV doc pm an cdv ct) f_is_row.ps [] := by
  obtain ⟨m, kp, dV, kV, doc, pm, an, cdv, ct, lk, ci, ec, B, _⟩ := def_at (c := cfOf K) X G c.t.d (d := d_is_row) (nm := "is_row") (ps := ["many", "value"]) (List.mem_of_getElem? (i := 7) rfl) (List.mem_of_getElem? (i := 7) rfl) rfl rfl rfl rfl rfl (fun _ _ _ _ _ _ us hl => match us, hl with | [_, _], _ => rfl)
  exact ⟨m, kp, _, _, _, dV, kV, doc, pm, an, cdv, ct, ⟨lk, ci, s_is_row, c_is_row, fun z => nomatch z⟩, B⟩
theorem dk_is_fact (X : K.In h) (G : h.Ns mainGlobals mg) (c : He.SaysX fa fn [] tf exB w h K) (TB : ∀ p ∈ tf.map (He.cT K), TabB base mg p.1 p.2) : mg f_is_fact.nm = some (.ref ((cfOf K).fa K_is_fact)) ∧ PySem.W.keepIn K (.ref ((cfOf K).fa K_is_fact)) = true ∧ ∃ (params : Arguments) (body : List Stmt) (scope : Scope) (dV kV doc pm : Value) (an : Option Addr) (cdv ct : Value),
    DefAt (cfOf K) GG P w K mg base K_is_fact f_is_fact params body scope dV kV doc pm an cdv ct ∧ Binds K (PySem.W.fnOf f_is_fact.nm f_is_fact.nm params body scope dV kV doc pm an cdv ct) f_is_fact.ps [] := by
  obtain ⟨m, kp, dV, kV, doc, pm, an, cdv, ct, lk, ci, ec, B, _⟩ := def_at (c := cfOf K) X G c.t.d (d := d_is_fact) (nm := "is_fact") (ps := ["marks", "value"]) (List.mem_of_getElem? (i := 8) rfl) (List.mem_of_getElem? (i := 8) rfl) rfl rfl rfl rfl rfl (fun _ _ _ _ _ _ us hl => match us, hl with | [_, _], _ => rfl)
  exact ⟨m, kp, _, _, _, dV, kV, doc, pm, an, cdv, ct, ⟨lk, ci, s_is_fact, c_is_fact, fun z => nomatch z⟩, B⟩
theorem dk_is_queue_value (X : K.In h) (G : h.Ns mainGlobals mg) (c : He.SaysX fa fn [] tf exB w h K) (TB : ∀ p ∈ tf.map (He.cT K), TabB base mg p.1 p.2) : mg f_is_queue_value.nm = some (.ref ((cfOf K).fa K_is_queue_value)) ∧ PySem.W.keepIn K (.ref ((cfOf K).fa K_is_queue_value)) = true ∧ ∃ (params : Arguments) (body : List Stmt) (scope : Scope) (dV kV doc pm : Value) (an : Option Addr) (cdv ct : Value),
    DefAt (cfOf K) GG P w K mg base K_is_queue_value f_is_queue_value params body scope dV kV doc pm an cdv ct ∧ Binds K (PySem.W.fnOf f_is_queue_value.nm f_is_queue_value.nm params body scope dV kV doc pm an cdv ct) f_is_queue_value.ps [] := by
  obtain ⟨m, kp, dV, kV, doc, pm, an, cdv, ct, lk, ci, ec, B, _⟩ := def_at (c := cfOf K) X G c.t.d (d := d_is_queue_value) (nm := "is_queue_value") (ps := ["value"]) (List.mem_of_getElem? (i := 9) rfl) (List.mem_of_getElem? (i := 9) rfl) rfl rfl rfl rfl rfl (fun _ _ _ _ _ _ us hl => match us, hl with | [_], _ => rfl)
  exact ⟨m, kp, _, _, _, dV, kV, doc, pm, an, cdv, ct, ⟨lk, ci, s_is_queue_value, c_is_queue_value, fun z => nomatch z⟩, B⟩
theorem dk_begin_of (X : K.In h) (G : h.Ns mainGlobals mg) (c : He.SaysX fa fn [] tf exB w h K) (TB : ∀ p ∈ tf.map (He.cT K), TabB base mg p.1 p.2) : mg f_begin_of.nm = some (.ref ((cfOf K).fa K_begin_of)) ∧ PySem.W.keepIn K (.ref ((cfOf K).fa K_begin_of)) = true ∧ ∃ (params : Arguments) (body : List Stmt) (scope : Scope) (dV kV doc pm : Value) (an : Option Addr) (cdv ct : Value),
    DefAt (cfOf K) GG P w K mg base K_begin_of f_begin_of params body scope dV kV doc pm an cdv ct ∧ Binds K (PySem.W.fnOf f_begin_of.nm f_begin_of.nm params body scope dV kV doc pm an cdv ct) f_begin_of.ps [] := by
  obtain ⟨m, kp, dV, kV, doc, pm, an, cdv, ct, lk, ci, ec, B, _⟩ := def_at (c := cfOf K) X G c.t.d (d := d_begin_of) (nm := "begin_of") (ps := ["queue"]) (List.mem_of_getElem? (i := 10) rfl) (List.mem_of_getElem? (i := 10) rfl) rfl rfl rfl rfl rfl (fun _ _ _ _ _ _ us hl => match us, hl with | [_], _ => rfl)
  exact ⟨m, kp, _, _, _, dV, kV, doc, pm, an, cdv, ct, ⟨lk, ci, s_begin_of, c_begin_of, fun z => nomatch z⟩, B⟩
theorem dk_sums_of (X : K.In h) (G : h.Ns mainGlobals mg) (c : He.SaysX fa fn [] tf exB w h K) (TB : ∀ p ∈ tf.map (He.cT K), TabB base mg p.1 p.2) : mg f_sums_of.nm = some (.ref ((cfOf K).fa K_sums_of)) ∧ PySem.W.keepIn K (.ref ((cfOf K).fa K_sums_of)) = true ∧ ∃ (params : Arguments) (body : List Stmt) (scope : Scope) (dV kV doc pm : Value) (an : Option Addr) (cdv ct : Value),
    DefAt (cfOf K) GG P w K mg base K_sums_of f_sums_of params body scope dV kV doc pm an cdv ct ∧ Binds K (PySem.W.fnOf f_sums_of.nm f_sums_of.nm params body scope dV kV doc pm an cdv ct) f_sums_of.ps [] := by
  obtain ⟨m, kp, dV, kV, doc, pm, an, cdv, ct, lk, ci, ec, B, _⟩ := def_at (c := cfOf K) X G c.t.d (d := d_sums_of) (nm := "sums_of") (ps := ["gaps"]) (List.mem_of_getElem? (i := 11) rfl) (List.mem_of_getElem? (i := 11) rfl) rfl rfl rfl rfl rfl (fun _ _ _ _ _ _ us hl => match us, hl with | [_], _ => rfl)
  exact ⟨m, kp, _, _, _, dV, kV, doc, pm, an, cdv, ct, ⟨lk, ci, s_sums_of, c_sums_of, fun z => nomatch z⟩, B⟩
theorem dk_are_gaps (X : K.In h) (G : h.Ns mainGlobals mg) (c : He.SaysX fa fn [] tf exB w h K) (TB : ∀ p ∈ tf.map (He.cT K), TabB base mg p.1 p.2) : mg f_are_gaps.nm = some (.ref ((cfOf K).fa K_are_gaps)) ∧ PySem.W.keepIn K (.ref ((cfOf K).fa K_are_gaps)) = true ∧ ∃ (params : Arguments) (body : List Stmt) (scope : Scope) (dV kV doc pm : Value) (an : Option Addr) (cdv ct : Value),
    DefAt (cfOf K) GG P w K mg base K_are_gaps f_are_gaps params body scope dV kV doc pm an cdv ct ∧ Binds K (PySem.W.fnOf f_are_gaps.nm f_are_gaps.nm params body scope dV kV doc pm an cdv ct) f_are_gaps.ps [] := by
  obtain ⟨m, kp, dV, kV, doc, pm, an, cdv, ct, lk, ci, ec, B, _⟩ := def_at (c := cfOf K) X G c.t.d (d := d_are_gaps) (nm := "are_gaps") (ps := ["queue", "value"]) (List.mem_of_getElem? (i := 12) rfl) (List.mem_of_getElem? (i := 12) rfl) rfl rfl rfl rfl rfl (fun _ _ _ _ _ _ us hl => match us, hl with | [_, _], _ => rfl)
  exact ⟨m, kp, _, _, _, dV, kV, doc, pm, an, cdv, ct, ⟨lk, ci, s_are_gaps, c_are_gaps, fun z => nomatch z⟩, B⟩
theorem dk_is_deed (X : K.In h) (G : h.Ns mainGlobals mg) (c : He.SaysX fa fn [] tf exB w h K) (TB : ∀ p ∈ tf.map (He.cT K), TabB base mg p.1 p.2) : mg f_is_deed.nm = some (.ref ((cfOf K).fa K_is_deed)) ∧ PySem.W.keepIn K (.ref ((cfOf K).fa K_is_deed)) = true ∧ ∃ (params : Arguments) (body : List Stmt) (scope : Scope) (dV kV doc pm : Value) (an : Option Addr) (cdv ct : Value),
    DefAt (cfOf K) GG P w K mg base K_is_deed f_is_deed params body scope dV kV doc pm an cdv ct ∧ Binds K (PySem.W.fnOf f_is_deed.nm f_is_deed.nm params body scope dV kV doc pm an cdv ct) f_is_deed.ps [] := by
  obtain ⟨m, kp, dV, kV, doc, pm, an, cdv, ct, lk, ci, ec, B, _⟩ := def_at (c := cfOf K) X G c.t.d (d := d_is_deed) (nm := "is_deed") (ps := ["many", "value"]) (List.mem_of_getElem? (i := 13) rfl) (List.mem_of_getElem? (i := 13) rfl) rfl rfl rfl rfl rfl (fun _ _ _ _ _ _ us hl => match us, hl with | [_, _], _ => rfl)
  exact ⟨m, kp, _, _, _, dV, kV, doc, pm, an, cdv, ct, ⟨lk, ci, s_is_deed, c_is_deed, fun z => nomatch z⟩, B⟩
theorem dk_is_script_value (X : K.In h) (G : h.Ns mainGlobals mg) (c : He.SaysX fa fn [] tf exB w h K) (TB : ∀ p ∈ tf.map (He.cT K), TabB base mg p.1 p.2) : mg f_is_script_value.nm = some (.ref ((cfOf K).fa K_is_script_value)) ∧ PySem.W.keepIn K (.ref ((cfOf K).fa K_is_script_value)) = true ∧ ∃ (params : Arguments) (body : List Stmt) (scope : Scope) (dV kV doc pm : Value) (an : Option Addr) (cdv ct : Value),
    DefAt (cfOf K) GG P w K mg base K_is_script_value f_is_script_value params body scope dV kV doc pm an cdv ct ∧ Binds K (PySem.W.fnOf f_is_script_value.nm f_is_script_value.nm params body scope dV kV doc pm an cdv ct) f_is_script_value.ps [] := by
  obtain ⟨m, kp, dV, kV, doc, pm, an, cdv, ct, lk, ci, ec, B, _⟩ := def_at (c := cfOf K) X G c.t.d (d := d_is_script_value) (nm := "is_script_value") (ps := ["queue", "value"]) (List.mem_of_getElem? (i := 14) rfl) (List.mem_of_getElem? (i := 14) rfl) rfl rfl rfl rfl rfl (fun _ _ _ _ _ _ us hl => match us, hl with | [_, _], _ => rfl)
  exact ⟨m, kp, _, _, _, dV, kV, doc, pm, an, cdv, ct, ⟨lk, ci, s_is_script_value, c_is_script_value, fun z => nomatch z⟩, B⟩
theorem dk_need_queue (X : K.In h) (G : h.Ns mainGlobals mg) (c : He.SaysX fa fn [] tf exB w h K) (TB : ∀ p ∈ tf.map (He.cT K), TabB base mg p.1 p.2) : mg f_need_queue.nm = some (.ref ((cfOf K).fa K_need_queue)) ∧ PySem.W.keepIn K (.ref ((cfOf K).fa K_need_queue)) = true ∧ ∃ (params : Arguments) (body : List Stmt) (scope : Scope) (dV kV doc pm : Value) (an : Option Addr) (cdv ct : Value),
    DefAt (cfOf K) GG P w K mg base K_need_queue f_need_queue params body scope dV kV doc pm an cdv ct ∧ Binds K (PySem.W.fnOf f_need_queue.nm f_need_queue.nm params body scope dV kV doc pm an cdv ct) f_need_queue.ps [] := by
  obtain ⟨m, kp, dV, kV, doc, pm, an, cdv, ct, lk, ci, ec, B, _⟩ := def_at (c := cfOf K) X G c.t.d (d := d_need_queue) (nm := "need_queue") (ps := ["value"]) (List.mem_of_getElem? (i := 15) rfl) (List.mem_of_getElem? (i := 15) rfl) rfl rfl rfl rfl rfl (fun _ _ _ _ _ _ us hl => match us, hl with | [_], _ => rfl)
  exact ⟨m, kp, _, _, _, dV, kV, doc, pm, an, cdv, ct, ⟨lk, ci, s_need_queue, c_need_queue, fun z => nomatch z⟩, B⟩
theorem dk_is_queue (X : K.In h) (G : h.Ns mainGlobals mg) (c : He.SaysX fa fn [] tf exB w h K) (TB : ∀ p ∈ tf.map (He.cT K), TabB base mg p.1 p.2) : mg f_is_queue.nm = some (.ref ((cfOf K).fa K_is_queue)) ∧ PySem.W.keepIn K (.ref ((cfOf K).fa K_is_queue)) = true ∧ ∃ (params : Arguments) (body : List Stmt) (scope : Scope) (dV kV doc pm : Value) (an : Option Addr) (cdv ct : Value),
    DefAt (cfOf K) GG P w K mg base K_is_queue f_is_queue params body scope dV kV doc pm an cdv ct ∧ Binds K (PySem.W.fnOf f_is_queue.nm f_is_queue.nm params body scope dV kV doc pm an cdv ct) f_is_queue.ps [] := by
  obtain ⟨m, kp, dV, kV, doc, pm, an, cdv, ct, lk, ci, ec, B, _⟩ := def_at (c := cfOf K) X G c.t.d (d := d_is_queue) (nm := "is_queue") (ps := ["value"]) (List.mem_of_getElem? (i := 16) rfl) (List.mem_of_getElem? (i := 16) rfl) rfl rfl rfl rfl rfl (fun _ _ _ _ _ _ us hl => match us, hl with | [_], _ => rfl)
  exact ⟨m, kp, _, _, _, dV, kV, doc, pm, an, cdv, ct, ⟨lk, ci, s_is_queue, c_is_queue, fun z => nomatch z⟩, B⟩
theorem dk_is_script (X : K.In h) (G : h.Ns mainGlobals mg) (c : He.SaysX fa fn [] tf exB w h K) (TB : ∀ p ∈ tf.map (He.cT K), TabB base mg p.1 p.2) : mg f_is_script.nm = some (.ref ((cfOf K).fa K_is_script)) ∧ PySem.W.keepIn K (.ref ((cfOf K).fa K_is_script)) = true ∧ ∃ (params : Arguments) (body : List Stmt) (scope : Scope) (dV kV doc pm : Value) (an : Option Addr) (cdv ct : Value),
    DefAt (cfOf K) GG P w K mg base K_is_script f_is_script params body scope dV kV doc pm an cdv ct ∧ Binds K (PySem.W.fnOf f_is_script.nm f_is_script.nm params body scope dV kV doc pm an cdv ct) f_is_script.ps [] := by
  obtain ⟨m, kp, dV, kV, doc, pm, an, cdv, ct, lk, ci, ec, B, _⟩ := def_at (c := cfOf K) X G c.t.d (d := d_is_script) (nm := "is_script") (ps := ["queue", "value"]) (List.mem_of_getElem? (i := 17) rfl) (List.mem_of_getElem? (i := 17) rfl) rfl rfl rfl rfl rfl (fun _ _ _ _ _ _ us hl => match us, hl with | [_, _], _ => rfl)
  exact ⟨m, kp, _, _, _, dV, kV, doc, pm, an, cdv, ct, ⟨lk, ci, s_is_script, c_is_script, fun z => nomatch z⟩, B⟩
theorem dk_is_gaps (X : K.In h) (G : h.Ns mainGlobals mg) (c : He.SaysX fa fn [] tf exB w h K) (TB : ∀ p ∈ tf.map (He.cT K), TabB base mg p.1 p.2) : mg f_is_gaps.nm = some (.ref ((cfOf K).fa K_is_gaps)) ∧ PySem.W.keepIn K (.ref ((cfOf K).fa K_is_gaps)) = true ∧ ∃ (params : Arguments) (body : List Stmt) (scope : Scope) (dV kV doc pm : Value) (an : Option Addr) (cdv ct : Value),
    DefAt (cfOf K) GG P w K mg base K_is_gaps f_is_gaps params body scope dV kV doc pm an cdv ct ∧ Binds K (PySem.W.fnOf f_is_gaps.nm f_is_gaps.nm params body scope dV kV doc pm an cdv ct) f_is_gaps.ps [] := by
  obtain ⟨m, kp, dV, kV, doc, pm, an, cdv, ct, lk, ci, ec, B, _⟩ := def_at (c := cfOf K) X G c.t.d (d := d_is_gaps) (nm := "is_gaps") (ps := ["queue", "value"]) (List.mem_of_getElem? (i := 18) rfl) (List.mem_of_getElem? (i := 18) rfl) rfl rfl rfl rfl rfl (fun _ _ _ _ _ _ us hl => match us, hl with | [_, _], _ => rfl)
  exact ⟨m, kp, _, _, _, dV, kV, doc, pm, an, cdv, ct, ⟨lk, ci, s_is_gaps, c_is_gaps, fun z => nomatch z⟩, B⟩
theorem dk__law_deck (X : K.In h) (G : h.Ns mainGlobals mg) (c : He.SaysX fa fn [] tf exB w h K) (TB : ∀ p ∈ tf.map (He.cT K), TabB base mg p.1 p.2) : mg f__law_deck.nm = some (.ref ((cfOf K).fa K__law_deck)) ∧ PySem.W.keepIn K (.ref ((cfOf K).fa K__law_deck)) = true ∧ ∃ (params : Arguments) (body : List Stmt) (scope : Scope) (dV kV doc pm : Value) (an : Option Addr) (cdv ct : Value),
    DefAt (cfOf K) GG P w K mg base K__law_deck f__law_deck params body scope dV kV doc pm an cdv ct ∧ Binds K (PySem.W.fnOf f__law_deck.nm f__law_deck.nm params body scope dV kV doc pm an cdv ct) f__law_deck.ps [] := by
  obtain ⟨m, kp, dV, kV, doc, pm, an, cdv, ct, lk, ci, ec, B, _⟩ := def_at (c := cfOf K) X G c.t.d (d := d__law_deck) (nm := "_law_deck") (ps := ["_law_cell", "_law_turn"]) (List.mem_of_getElem? (i := 19) rfl) (List.mem_of_getElem? (i := 19) rfl) rfl rfl rfl rfl rfl (fun _ _ _ _ _ _ us hl => match us, hl with | [_, _], _ => rfl)
  exact ⟨m, kp, _, _, _, dV, kV, doc, pm, an, cdv, ct, ⟨lk, ci, s__law_deck, c__law_deck, fun z => nomatch z⟩, B⟩
theorem dk__law_pick (X : K.In h) (G : h.Ns mainGlobals mg) (c : He.SaysX fa fn [] tf exB w h K) (TB : ∀ p ∈ tf.map (He.cT K), TabB base mg p.1 p.2) : mg f__law_pick.nm = some (.ref ((cfOf K).fa K__law_pick)) ∧ PySem.W.keepIn K (.ref ((cfOf K).fa K__law_pick)) = true ∧ ∃ (params : Arguments) (body : List Stmt) (scope : Scope) (dV kV doc pm : Value) (an : Option Addr) (cdv ct : Value),
    DefAt (cfOf K) GG P w K mg base K__law_pick f__law_pick params body scope dV kV doc pm an cdv ct ∧ Binds K (PySem.W.fnOf f__law_pick.nm f__law_pick.nm params body scope dV kV doc pm an cdv ct) f__law_pick.ps [] := by
  obtain ⟨m, kp, dV, kV, doc, pm, an, cdv, ct, lk, ci, ec, B, _⟩ := def_at (c := cfOf K) X G c.t.d (d := d__law_pick) (nm := "_law_pick") (ps := ["_law_deck_here", "_law_size"]) (List.mem_of_getElem? (i := 20) rfl) (List.mem_of_getElem? (i := 20) rfl) rfl rfl rfl rfl rfl (fun _ _ _ _ _ _ us hl => match us, hl with | [_, _], _ => rfl)
  exact ⟨m, kp, _, _, _, dV, kV, doc, pm, an, cdv, ct, ⟨lk, ci, s__law_pick, c__law_pick, fun z => nomatch z⟩, B⟩
theorem dk__law_whole (X : K.In h) (G : h.Ns mainGlobals mg) (c : He.SaysX fa fn [] tf exB w h K) (TB : ∀ p ∈ tf.map (He.cT K), TabB base mg p.1 p.2) : mg f__law_whole.nm = some (.ref ((cfOf K).fa K__law_whole)) ∧ PySem.W.keepIn K (.ref ((cfOf K).fa K__law_whole)) = true ∧ ∃ (params : Arguments) (body : List Stmt) (scope : Scope) (dV kV doc pm : Value) (an : Option Addr) (cdv ct : Value),
    DefAt (cfOf K) GG P w K mg base K__law_whole f__law_whole params body scope dV kV doc pm an cdv ct ∧ Binds K (PySem.W.fnOf f__law_whole.nm f__law_whole.nm params body scope dV kV doc pm an cdv ct) f__law_whole.ps [] := by
  obtain ⟨m, kp, dV, kV, doc, pm, an, cdv, ct, lk, ci, ec, B, _⟩ := def_at (c := cfOf K) X G c.t.d (d := d__law_whole) (nm := "_law_whole") (ps := ["_law_thing"]) (List.mem_of_getElem? (i := 21) rfl) (List.mem_of_getElem? (i := 21) rfl) rfl rfl rfl rfl rfl (fun _ _ _ _ _ _ us hl => match us, hl with | [_], _ => rfl)
  exact ⟨m, kp, _, _, _, dV, kV, doc, pm, an, cdv, ct, ⟨lk, ci, s__law_whole, c__law_whole, fun z => nomatch z⟩, B⟩
theorem dk__law_one (X : K.In h) (G : h.Ns mainGlobals mg) (c : He.SaysX fa fn [] tf exB w h K) (TB : ∀ p ∈ tf.map (He.cT K), TabB base mg p.1 p.2) : mg f__law_one.nm = some (.ref ((cfOf K).fa K__law_one)) ∧ PySem.W.keepIn K (.ref ((cfOf K).fa K__law_one)) = true ∧ ∃ (params : Arguments) (body : List Stmt) (scope : Scope) (dV kV doc pm : Value) (an : Option Addr) (cdv ct : Value),
    DefAt (cfOf K) GG P w K mg base K__law_one f__law_one params body scope dV kV doc pm an cdv ct ∧ Binds K (PySem.W.fnOf f__law_one.nm f__law_one.nm params body scope dV kV doc pm an cdv ct) f__law_one.ps [] := by
  obtain ⟨m, kp, dV, kV, doc, pm, an, cdv, ct, lk, ci, ec, B, _⟩ := def_at (c := cfOf K) X G c.t.d (d := d__law_one) (nm := "_law_one") (ps := ["_law_deck_here", "_law_some"]) (List.mem_of_getElem? (i := 22) rfl) (List.mem_of_getElem? (i := 22) rfl) rfl rfl rfl rfl rfl (fun _ _ _ _ _ _ us hl => match us, hl with | [_, _], _ => rfl)
  exact ⟨m, kp, _, _, _, dV, kV, doc, pm, an, cdv, ct, ⟨lk, ci, s__law_one, c__law_one, fun z => nomatch z⟩, B⟩
theorem dk__law_sort (X : K.In h) (G : h.Ns mainGlobals mg) (c : He.SaysX fa fn [] tf exB w h K) (TB : ∀ p ∈ tf.map (He.cT K), TabB base mg p.1 p.2) : mg f__law_sort.nm = some (.ref ((cfOf K).fa K__law_sort)) ∧ PySem.W.keepIn K (.ref ((cfOf K).fa K__law_sort)) = true ∧ ∃ (params : Arguments) (body : List Stmt) (scope : Scope) (dV kV doc pm : Value) (an : Option Addr) (cdv ct : Value),
    DefAt (cfOf K) GG P w K mg base K__law_sort f__law_sort params body scope dV kV doc pm an cdv ct ∧ Binds K (PySem.W.fnOf f__law_sort.nm f__law_sort.nm params body scope dV kV doc pm an cdv ct) f__law_sort.ps [] := by
  obtain ⟨m, kp, dV, kV, doc, pm, an, cdv, ct, lk, ci, ec, B, _⟩ := def_at (c := cfOf K) X G c.t.d (d := d__law_sort) (nm := "_law_sort") (ps := ["_law_thing"]) (List.mem_of_getElem? (i := 23) rfl) (List.mem_of_getElem? (i := 23) rfl) rfl rfl rfl rfl rfl (fun _ _ _ _ _ _ us hl => match us, hl with | [_], _ => rfl)
  exact ⟨m, kp, _, _, _, dV, kV, doc, pm, an, cdv, ct, ⟨lk, ci, s__law_sort, c__law_sort, fun z => nomatch z⟩, B⟩
theorem dk__law_same (X : K.In h) (G : h.Ns mainGlobals mg) (c : He.SaysX fa fn [] tf exB w h K) (TB : ∀ p ∈ tf.map (He.cT K), TabB base mg p.1 p.2) : mg f__law_same.nm = some (.ref ((cfOf K).fa K__law_same)) ∧ PySem.W.keepIn K (.ref ((cfOf K).fa K__law_same)) = true ∧ ∃ (params : Arguments) (body : List Stmt) (scope : Scope) (dV kV doc pm : Value) (an : Option Addr) (cdv ct : Value),
    DefAt (cfOf K) GG P w K mg base K__law_same f__law_same params body scope dV kV doc pm an cdv ct ∧ Binds K (PySem.W.fnOf f__law_same.nm f__law_same.nm params body scope dV kV doc pm an cdv ct) f__law_same.ps [] := by
  obtain ⟨m, kp, dV, kV, doc, pm, an, cdv, ct, lk, ci, ec, B, _⟩ := def_at (c := cfOf K) X G c.t.d (d := d__law_same) (nm := "_law_same") (ps := ["_law_told", "_law_due"]) (List.mem_of_getElem? (i := 24) rfl) (List.mem_of_getElem? (i := 24) rfl) rfl rfl rfl rfl rfl (fun _ _ _ _ _ _ us hl => match us, hl with | [_, _], _ => rfl)
  exact ⟨m, kp, _, _, _, dV, kV, doc, pm, an, cdv, ct, ⟨lk, ci, s__law_same, c__law_same, fun z => nomatch z⟩, B⟩
theorem dk__law_two (X : K.In h) (G : h.Ns mainGlobals mg) (c : He.SaysX fa fn [] tf exB w h K) (TB : ∀ p ∈ tf.map (He.cT K), TabB base mg p.1 p.2) : mg f__law_two.nm = some (.ref ((cfOf K).fa K__law_two)) ∧ PySem.W.keepIn K (.ref ((cfOf K).fa K__law_two)) = true ∧ ∃ (params : Arguments) (body : List Stmt) (scope : Scope) (dV kV doc pm : Value) (an : Option Addr) (cdv ct : Value),
    DefAt (cfOf K) GG P w K mg base K__law_two f__law_two params body scope dV kV doc pm an cdv ct ∧ Binds K (PySem.W.fnOf f__law_two.nm f__law_two.nm params body scope dV kV doc pm an cdv ct) f__law_two.ps [] := by
  obtain ⟨m, kp, dV, kV, doc, pm, an, cdv, ct, lk, ci, ec, B, _⟩ := def_at (c := cfOf K) X G c.t.d (d := d__law_two) (nm := "_law_two") (ps := ["_law_deck_here", "_law_many"]) (List.mem_of_getElem? (i := 27) rfl) (List.mem_of_getElem? (i := 27) rfl) rfl rfl rfl rfl rfl (fun _ _ _ _ _ _ us hl => match us, hl with | [_, _], _ => rfl)
  exact ⟨m, kp, _, _, _, dV, kV, doc, pm, an, cdv, ct, ⟨lk, ci, s__law_two, c__law_two, fun z => nomatch z⟩, B⟩
theorem dk__law_deed (X : K.In h) (G : h.Ns mainGlobals mg) (c : He.SaysX fa fn [] tf exB w h K) (TB : ∀ p ∈ tf.map (He.cT K), TabB base mg p.1 p.2) : mg f__law_deed.nm = some (.ref ((cfOf K).fa K__law_deed)) ∧ PySem.W.keepIn K (.ref ((cfOf K).fa K__law_deed)) = true ∧ ∃ (params : Arguments) (body : List Stmt) (scope : Scope) (dV kV doc pm : Value) (an : Option Addr) (cdv ct : Value),
    DefAt (cfOf K) GG P w K mg base K__law_deed f__law_deed params body scope dV kV doc pm an cdv ct ∧ Binds K (PySem.W.fnOf f__law_deed.nm f__law_deed.nm params body scope dV kV doc pm an cdv ct) f__law_deed.ps [] := by
  obtain ⟨m, kp, dV, kV, doc, pm, an, cdv, ct, lk, ci, ec, B, _⟩ := def_at (c := cfOf K) X G c.t.d (d := d__law_deed) (nm := "_law_deed") (ps := ["_law_deck_here", "_law_many", "_law_most"]) (List.mem_of_getElem? (i := 28) rfl) (List.mem_of_getElem? (i := 28) rfl) rfl rfl rfl rfl rfl (fun _ _ _ _ _ _ us hl => match us, hl with | [_, _, _], _ => rfl)
  exact ⟨m, kp, _, _, _, dV, kV, doc, pm, an, cdv, ct, ⟨lk, ci, s__law_deed, c__law_deed, fun z => nomatch z⟩, B⟩
theorem dk__law_script (X : K.In h) (G : h.Ns mainGlobals mg) (c : He.SaysX fa fn [] tf exB w h K) (TB : ∀ p ∈ tf.map (He.cT K), TabB base mg p.1 p.2) : mg f__law_script.nm = some (.ref ((cfOf K).fa K__law_script)) ∧ PySem.W.keepIn K (.ref ((cfOf K).fa K__law_script)) = true ∧ ∃ (params : Arguments) (body : List Stmt) (scope : Scope) (dV kV doc pm : Value) (an : Option Addr) (cdv ct : Value),
    DefAt (cfOf K) GG P w K mg base K__law_script f__law_script params body scope dV kV doc pm an cdv ct ∧ Binds K (PySem.W.fnOf f__law_script.nm f__law_script.nm params body scope dV kV doc pm an cdv ct) f__law_script.ps [] := by
  obtain ⟨m, kp, dV, kV, doc, pm, an, cdv, ct, lk, ci, ec, B, _⟩ := def_at (c := cfOf K) X G c.t.d (d := d__law_script) (nm := "_law_script") (ps := ["_law_deck_here", "_law_many", "_law_size", "_law_most"]) (List.mem_of_getElem? (i := 29) rfl) (List.mem_of_getElem? (i := 29) rfl) rfl rfl rfl rfl rfl (fun _ _ _ _ _ _ us hl => match us, hl with | [_, _, _, _], _ => rfl)
  exact ⟨m, kp, _, _, _, dV, kV, doc, pm, an, cdv, ct, ⟨lk, ci, s__law_script, c__law_script, fun z => nomatch z⟩, B⟩
theorem dk__law_row (X : K.In h) (G : h.Ns mainGlobals mg) (c : He.SaysX fa fn [] tf exB w h K) (TB : ∀ p ∈ tf.map (He.cT K), TabB base mg p.1 p.2) : mg f__law_row.nm = some (.ref ((cfOf K).fa K__law_row)) ∧ PySem.W.keepIn K (.ref ((cfOf K).fa K__law_row)) = true ∧ ∃ (params : Arguments) (body : List Stmt) (scope : Scope) (dV kV doc pm : Value) (an : Option Addr) (cdv ct : Value),
    DefAt (cfOf K) GG P w K mg base K__law_row f__law_row params body scope dV kV doc pm an cdv ct ∧ Binds K (PySem.W.fnOf f__law_row.nm f__law_row.nm params body scope dV kV doc pm an cdv ct) f__law_row.ps [] := by
  obtain ⟨m, kp, dV, kV, doc, pm, an, cdv, ct, lk, ci, ec, B, _⟩ := def_at (c := cfOf K) X G c.t.d (d := d__law_row) (nm := "_law_row") (ps := ["_law_deck_here", "_law_many", "_law_most"]) (List.mem_of_getElem? (i := 30) rfl) (List.mem_of_getElem? (i := 30) rfl) rfl rfl rfl rfl rfl (fun _ _ _ _ _ _ us hl => match us, hl with | [_, _, _], _ => rfl)
  exact ⟨m, kp, _, _, _, dV, kV, doc, pm, an, cdv, ct, ⟨lk, ci, s__law_row, c__law_row, fun z => nomatch z⟩, B⟩
theorem dk__law_fact (X : K.In h) (G : h.Ns mainGlobals mg) (c : He.SaysX fa fn [] tf exB w h K) (TB : ∀ p ∈ tf.map (He.cT K), TabB base mg p.1 p.2) : mg f__law_fact.nm = some (.ref ((cfOf K).fa K__law_fact)) ∧ PySem.W.keepIn K (.ref ((cfOf K).fa K__law_fact)) = true ∧ ∃ (params : Arguments) (body : List Stmt) (scope : Scope) (dV kV doc pm : Value) (an : Option Addr) (cdv ct : Value),
    DefAt (cfOf K) GG P w K mg base K__law_fact f__law_fact params body scope dV kV doc pm an cdv ct ∧ Binds K (PySem.W.fnOf f__law_fact.nm f__law_fact.nm params body scope dV kV doc pm an cdv ct) f__law_fact.ps [] := by
  obtain ⟨m, kp, dV, kV, doc, pm, an, cdv, ct, lk, ci, ec, B, _⟩ := def_at (c := cfOf K) X G c.t.d (d := d__law_fact) (nm := "_law_fact") (ps := ["_law_deck_here", "_law_marks"]) (List.mem_of_getElem? (i := 31) rfl) (List.mem_of_getElem? (i := 31) rfl) rfl rfl rfl rfl rfl (fun _ _ _ _ _ _ us hl => match us, hl with | [_, _], _ => rfl)
  exact ⟨m, kp, _, _, _, dV, kV, doc, pm, an, cdv, ct, ⟨lk, ci, s__law_fact, c__law_fact, fun z => nomatch z⟩, B⟩
theorem dk__law_queue (X : K.In h) (G : h.Ns mainGlobals mg) (c : He.SaysX fa fn [] tf exB w h K) (TB : ∀ p ∈ tf.map (He.cT K), TabB base mg p.1 p.2) : mg f__law_queue.nm = some (.ref ((cfOf K).fa K__law_queue)) ∧ PySem.W.keepIn K (.ref ((cfOf K).fa K__law_queue)) = true ∧ ∃ (params : Arguments) (body : List Stmt) (scope : Scope) (dV kV doc pm : Value) (an : Option Addr) (cdv ct : Value),
    DefAt (cfOf K) GG P w K mg base K__law_queue f__law_queue params body scope dV kV doc pm an cdv ct ∧ Binds K (PySem.W.fnOf f__law_queue.nm f__law_queue.nm params body scope dV kV doc pm an cdv ct) f__law_queue.ps [] := by
  obtain ⟨m, kp, dV, kV, doc, pm, an, cdv, ct, lk, ci, ec, B, _⟩ := def_at (c := cfOf K) X G c.t.d (d := d__law_queue) (nm := "_law_queue") (ps := ["_law_deck_here", "_law_most"]) (List.mem_of_getElem? (i := 32) rfl) (List.mem_of_getElem? (i := 32) rfl) rfl rfl rfl rfl rfl (fun _ _ _ _ _ _ us hl => match us, hl with | [_, _], _ => rfl)
  exact ⟨m, kp, _, _, _, dV, kV, doc, pm, an, cdv, ct, ⟨lk, ci, s__law_queue, c__law_queue, fun z => nomatch z⟩, B⟩
theorem dk__law_keeps (X : K.In h) (G : h.Ns mainGlobals mg) (c : He.SaysX fa fn [] tf exB w h K) (TB : ∀ p ∈ tf.map (He.cT K), TabB base mg p.1 p.2) : mg f__law_keeps.nm = some (.ref ((cfOf K).fa K__law_keeps)) ∧ PySem.W.keepIn K (.ref ((cfOf K).fa K__law_keeps)) = true ∧ ∃ (params : Arguments) (body : List Stmt) (scope : Scope) (dV kV doc pm : Value) (an : Option Addr) (cdv ct : Value),
    DefAt (cfOf K) GG P w K mg base K__law_keeps f__law_keeps params body scope dV kV doc pm an cdv ct ∧ Binds K (PySem.W.fnOf f__law_keeps.nm f__law_keeps.nm params body scope dV kV doc pm an cdv ct) f__law_keeps.ps [] := by
  obtain ⟨m, kp, dV, kV, doc, pm, an, cdv, ct, lk, ci, ec, B, _⟩ := def_at (c := cfOf K) X G c.t.d (d := d__law_keeps) (nm := "_law_keeps") (ps := ["_law_queue_here", "_law_gaps"]) (List.mem_of_getElem? (i := 33) rfl) (List.mem_of_getElem? (i := 33) rfl) rfl rfl rfl rfl rfl (fun _ _ _ _ _ _ us hl => match us, hl with | [_, _], _ => rfl)
  exact ⟨m, kp, _, _, _, dV, kV, doc, pm, an, cdv, ct, ⟨lk, ci, s__law_keeps, c__law_keeps, fun z => nomatch z⟩, B⟩
theorem dk__law_boxes (X : K.In h) (G : h.Ns mainGlobals mg) (c : He.SaysX fa fn [] tf exB w h K) (TB : ∀ p ∈ tf.map (He.cT K), TabB base mg p.1 p.2) : mg f__law_boxes.nm = some (.ref ((cfOf K).fa K__law_boxes)) ∧ PySem.W.keepIn K (.ref ((cfOf K).fa K__law_boxes)) = true ∧ ∃ (params : Arguments) (body : List Stmt) (scope : Scope) (dV kV doc pm : Value) (an : Option Addr) (cdv ct : Value),
    DefAt (cfOf K) GG P w K mg base K__law_boxes f__law_boxes params body scope dV kV doc pm an cdv ct ∧ Binds K (PySem.W.fnOf f__law_boxes.nm f__law_boxes.nm params body scope dV kV doc pm an cdv ct) f__law_boxes.ps [] := by
  obtain ⟨m, kp, dV, kV, doc, pm, an, cdv, ct, lk, ci, ec, B, _⟩ := def_at (c := cfOf K) X G c.t.d (d := d__law_boxes) (nm := "_law_boxes") (ps := ["_law_queue_here", "_law_top"]) (List.mem_of_getElem? (i := 34) rfl) (List.mem_of_getElem? (i := 34) rfl) rfl rfl rfl rfl rfl (fun _ _ _ _ _ _ us hl => match us, hl with | [_, _], _ => rfl)
  exact ⟨m, kp, _, _, _, dV, kV, doc, pm, an, cdv, ct, ⟨lk, ci, s__law_boxes, c__law_boxes, fun z => nomatch z⟩, B⟩
theorem dk__law_number (X : K.In h) (G : h.Ns mainGlobals mg) (c : He.SaysX fa fn [] tf exB w h K) (TB : ∀ p ∈ tf.map (He.cT K), TabB base mg p.1 p.2) : mg f__law_number.nm = some (.ref ((cfOf K).fa K__law_number)) ∧ PySem.W.keepIn K (.ref ((cfOf K).fa K__law_number)) = true ∧ ∃ (params : Arguments) (body : List Stmt) (scope : Scope) (dV kV doc pm : Value) (an : Option Addr) (cdv ct : Value),
    DefAt (cfOf K) GG P w K mg base K__law_number f__law_number params body scope dV kV doc pm an cdv ct ∧ Binds K (PySem.W.fnOf f__law_number.nm f__law_number.nm params body scope dV kV doc pm an cdv ct) f__law_number.ps [] := by
  obtain ⟨m, kp, dV, kV, doc, pm, an, cdv, ct, lk, ci, ec, B, _⟩ := def_at (c := cfOf K) X G c.t.d (d := d__law_number) (nm := "_law_number") (ps := ["_law_thing", "_law_low", "_law_high"]) (List.mem_of_getElem? (i := 35) rfl) (List.mem_of_getElem? (i := 35) rfl) rfl rfl rfl rfl rfl (fun _ _ _ _ _ _ us hl => match us, hl with | [_, _, _], _ => rfl)
  exact ⟨m, kp, _, _, _, dV, kV, doc, pm, an, cdv, ct, ⟨lk, ci, s__law_number, c__law_number, fun z => nomatch z⟩, B⟩
theorem dk__law_is_fact (X : K.In h) (G : h.Ns mainGlobals mg) (c : He.SaysX fa fn [] tf exB w h K) (TB : ∀ p ∈ tf.map (He.cT K), TabB base mg p.1 p.2) : mg f__law_is_fact.nm = some (.ref ((cfOf K).fa K__law_is_fact)) ∧ PySem.W.keepIn K (.ref ((cfOf K).fa K__law_is_fact)) = true ∧ ∃ (params : Arguments) (body : List Stmt) (scope : Scope) (dV kV doc pm : Value) (an : Option Addr) (cdv ct : Value),
    DefAt (cfOf K) GG P w K mg base K__law_is_fact f__law_is_fact params body scope dV kV doc pm an cdv ct ∧ Binds K (PySem.W.fnOf f__law_is_fact.nm f__law_is_fact.nm params body scope dV kV doc pm an cdv ct) f__law_is_fact.ps [] := by
  obtain ⟨m, kp, dV, kV, doc, pm, an, cdv, ct, lk, ci, ec, B, _⟩ := def_at (c := cfOf K) X G c.t.d (d := d__law_is_fact) (nm := "_law_is_fact") (ps := ["_law_marks", "_law_thing"]) (List.mem_of_getElem? (i := 36) rfl) (List.mem_of_getElem? (i := 36) rfl) rfl rfl rfl rfl rfl (fun _ _ _ _ _ _ us hl => match us, hl with | [_, _], _ => rfl)
  exact ⟨m, kp, _, _, _, dV, kV, doc, pm, an, cdv, ct, ⟨lk, ci, s__law_is_fact, c__law_is_fact, fun z => nomatch z⟩, B⟩
theorem dk__law_is_queue (X : K.In h) (G : h.Ns mainGlobals mg) (c : He.SaysX fa fn [] tf exB w h K) (TB : ∀ p ∈ tf.map (He.cT K), TabB base mg p.1 p.2) : mg f__law_is_queue.nm = some (.ref ((cfOf K).fa K__law_is_queue)) ∧ PySem.W.keepIn K (.ref ((cfOf K).fa K__law_is_queue)) = true ∧ ∃ (params : Arguments) (body : List Stmt) (scope : Scope) (dV kV doc pm : Value) (an : Option Addr) (cdv ct : Value),
    DefAt (cfOf K) GG P w K mg base K__law_is_queue f__law_is_queue params body scope dV kV doc pm an cdv ct ∧ Binds K (PySem.W.fnOf f__law_is_queue.nm f__law_is_queue.nm params body scope dV kV doc pm an cdv ct) f__law_is_queue.ps [] := by
  obtain ⟨m, kp, dV, kV, doc, pm, an, cdv, ct, lk, ci, ec, B, _⟩ := def_at (c := cfOf K) X G c.t.d (d := d__law_is_queue) (nm := "_law_is_queue") (ps := ["_law_thing"]) (List.mem_of_getElem? (i := 37) rfl) (List.mem_of_getElem? (i := 37) rfl) rfl rfl rfl rfl rfl (fun _ _ _ _ _ _ us hl => match us, hl with | [_], _ => rfl)
  exact ⟨m, kp, _, _, _, dV, kV, doc, pm, an, cdv, ct, ⟨lk, ci, s__law_is_queue, c__law_is_queue, fun z => nomatch z⟩, B⟩
theorem dk__law_can_be (X : K.In h) (G : h.Ns mainGlobals mg) (c : He.SaysX fa fn [] tf exB w h K) (TB : ∀ p ∈ tf.map (He.cT K), TabB base mg p.1 p.2) : mg f__law_can_be.nm = some (.ref ((cfOf K).fa K__law_can_be)) ∧ PySem.W.keepIn K (.ref ((cfOf K).fa K__law_can_be)) = true ∧ ∃ (params : Arguments) (body : List Stmt) (scope : Scope) (dV kV doc pm : Value) (an : Option Addr) (cdv ct : Value),
    DefAt (cfOf K) GG P w K mg base K__law_can_be f__law_can_be params body scope dV kV doc pm an cdv ct ∧ Binds K (PySem.W.fnOf f__law_can_be.nm f__law_can_be.nm params body scope dV kV doc pm an cdv ct) f__law_can_be.ps [] := by
  obtain ⟨m, kp, dV, kV, doc, pm, an, cdv, ct, lk, ci, ec, B, _⟩ := def_at (c := cfOf K) X G c.t.d (d := d__law_can_be) (nm := "_law_can_be") (ps := ["_law_queue_here"]) (List.mem_of_getElem? (i := 38) rfl) (List.mem_of_getElem? (i := 38) rfl) rfl rfl rfl rfl rfl (fun _ _ _ _ _ _ us hl => match us, hl with | [_], _ => rfl)
  exact ⟨m, kp, _, _, _, dV, kV, doc, pm, an, cdv, ct, ⟨lk, ci, s__law_can_be, c__law_can_be, fun z => nomatch z⟩, B⟩
theorem dk__law_is_deed (X : K.In h) (G : h.Ns mainGlobals mg) (c : He.SaysX fa fn [] tf exB w h K) (TB : ∀ p ∈ tf.map (He.cT K), TabB base mg p.1 p.2) : mg f__law_is_deed.nm = some (.ref ((cfOf K).fa K__law_is_deed)) ∧ PySem.W.keepIn K (.ref ((cfOf K).fa K__law_is_deed)) = true ∧ ∃ (params : Arguments) (body : List Stmt) (scope : Scope) (dV kV doc pm : Value) (an : Option Addr) (cdv ct : Value),
    DefAt (cfOf K) GG P w K mg base K__law_is_deed f__law_is_deed params body scope dV kV doc pm an cdv ct ∧ Binds K (PySem.W.fnOf f__law_is_deed.nm f__law_is_deed.nm params body scope dV kV doc pm an cdv ct) f__law_is_deed.ps [] := by
  obtain ⟨m, kp, dV, kV, doc, pm, an, cdv, ct, lk, ci, ec, B, _⟩ := def_at (c := cfOf K) X G c.t.d (d := d__law_is_deed) (nm := "_law_is_deed") (ps := ["_law_many", "_law_thing"]) (List.mem_of_getElem? (i := 39) rfl) (List.mem_of_getElem? (i := 39) rfl) rfl rfl rfl rfl rfl (fun _ _ _ _ _ _ us hl => match us, hl with | [_, _], _ => rfl)
  exact ⟨m, kp, _, _, _, dV, kV, doc, pm, an, cdv, ct, ⟨lk, ci, s__law_is_deed, c__law_is_deed, fun z => nomatch z⟩, B⟩
theorem dk__law_spoilt (X : K.In h) (G : h.Ns mainGlobals mg) (c : He.SaysX fa fn [] tf exB w h K) (TB : ∀ p ∈ tf.map (He.cT K), TabB base mg p.1 p.2) : mg f__law_spoilt.nm = some (.ref ((cfOf K).fa K__law_spoilt)) ∧ PySem.W.keepIn K (.ref ((cfOf K).fa K__law_spoilt)) = true ∧ ∃ (params : Arguments) (body : List Stmt) (scope : Scope) (dV kV doc pm : Value) (an : Option Addr) (cdv ct : Value),
    DefAt (cfOf K) GG P w K mg base K__law_spoilt f__law_spoilt params body scope dV kV doc pm an cdv ct ∧ Binds K (PySem.W.fnOf f__law_spoilt.nm f__law_spoilt.nm params body scope dV kV doc pm an cdv ct) f__law_spoilt.ps [] := by
  obtain ⟨m, kp, dV, kV, doc, pm, an, cdv, ct, lk, ci, ec, B, _⟩ := def_at (c := cfOf K) X G c.t.d (d := d__law_spoilt) (nm := "_law_spoilt") (ps := ["_law_deck_here", "_law_thing"]) (List.mem_of_getElem? (i := 40) rfl) (List.mem_of_getElem? (i := 40) rfl) rfl rfl rfl rfl rfl (fun _ _ _ _ _ _ us hl => match us, hl with | [_, _], _ => rfl)
  exact ⟨m, kp, _, _, _, dV, kV, doc, pm, an, cdv, ct, ⟨lk, ci, s__law_spoilt, c__law_spoilt, fun z => nomatch z⟩, B⟩
theorem dk__law_all_right (X : K.In h) (G : h.Ns mainGlobals mg) (c : He.SaysX fa fn [] tf exB w h K) (TB : ∀ p ∈ tf.map (He.cT K), TabB base mg p.1 p.2) : mg f__law_all_right.nm = some (.ref ((cfOf K).fa K__law_all_right)) ∧ PySem.W.keepIn K (.ref ((cfOf K).fa K__law_all_right)) = true ∧ ∃ (params : Arguments) (body : List Stmt) (scope : Scope) (dV kV doc pm : Value) (an : Option Addr) (cdv ct : Value),
    DefAt (cfOf K) GG P w K mg base K__law_all_right f__law_all_right params body scope dV kV doc pm an cdv ct ∧ Binds K (PySem.W.fnOf f__law_all_right.nm f__law_all_right.nm params body scope dV kV doc pm an cdv ct) f__law_all_right.ps [] := by
  obtain ⟨m, kp, dV, kV, doc, pm, an, cdv, ct, lk, ci, ec, B, _⟩ := def_at (c := cfOf K) X G c.t.d (d := d__law_all_right) (nm := "_law_all_right") (ps := ["_law_deck_here", "_law_queue_here", "_law_script_so", "_law_gaps"]) (List.mem_of_getElem? (i := 41) rfl) (List.mem_of_getElem? (i := 41) rfl) rfl rfl rfl rfl rfl (fun _ _ _ _ _ _ us hl => match us, hl with | [_, _, _, _], _ => rfl)
  exact ⟨m, kp, _, _, _, dV, kV, doc, pm, an, cdv, ct, ⟨lk, ci, s__law_all_right, c__law_all_right, fun z => nomatch z⟩, B⟩
theorem dk_law (X : K.In h) (G : h.Ns mainGlobals mg) (c : He.SaysX fa fn [] tf exB w h K) (TB : ∀ p ∈ tf.map (He.cT K), TabB base mg p.1 p.2) : mg f_law.nm = some (.ref ((cfOf K).fa K_law)) ∧ PySem.W.keepIn K (.ref ((cfOf K).fa K_law)) = true ∧ ∃ (params : Arguments) (body : List Stmt) (scope : Scope) (dV kV doc pm : Value) (an : Option Addr) (cdv ct : Value),
    DefAt (cfOf K) GG P w K mg base K_law f_law params body scope dV kV doc pm an cdv ct ∧ Binds K (PySem.W.fnOf f_law.nm f_law.nm params body scope dV kV doc pm an cdv ct) f_law.ps [] := by
  obtain ⟨m, kp, dV, kV, doc, pm, an, cdv, ct, lk, ci, ec, B, _⟩ := def_at (c := cfOf K) X G c.t.d (d := d_law) (nm := "law") (ps := ["_law_script_here"]) (List.mem_of_getElem? (i := 42) rfl) (List.mem_of_getElem? (i := 42) rfl) rfl rfl rfl rfl rfl (fun _ _ _ _ _ _ us hl => match us, hl with | [_], _ => rfl)
  obtain ⟨mt, kt, dVt, kVt, doct, pmt, ant, cdvt, ctt, lkt, cit, _, Bt, _⟩ := def_at (c := cfOf K) X G c.t.d (d := d__law_try) (nm := "_law_try") (ps := ["_law_call_so"]) (List.mem_of_getElem? (i := 26) rfl) (List.mem_of_getElem? (i := 26) rfl) rfl rfl rfl rfl rfl (fun _ _ _ _ _ _ us hl => match us, hl with | [_], _ => rfl)
  obtain ⟨mk, kk, dVk, kVk, dock, pmk, ank, cdvk, ctk, lkk, cik, _, Bk, _⟩ := def_at (c := cfOf K) X G c.t.d (d := d__law_kin) (nm := "_law_kin") (ps := ["_law_e"]) (List.mem_of_getElem? (i := 25) rfl) (List.mem_of_getElem? (i := 25) rfl) rfl rfl rfl rfl rfl (fun _ _ _ _ _ _ us hl => match us, hl with | [_], _ => rfl)
  obtain ⟨b1, u1, b2, u2, qs, ks, etx⟩ := tryOk_eq try_tx
  subst ec
  have nd := (k_more c).2.2
  refine ⟨m, kp, _, _, _, dV, kV, doc, pm, an, _, ct, ⟨lk, ci, s_law, c_law, fun _ n Φ W A outer s H E oc => ?_⟩, B⟩
  exact tri_ok (nm := "_law_kin") (tn := "_law_try") (fnd := "_law_found") (en := "_law_e") (c1 := "InvalidText") (c2 := "TooMany") (c3 := "QueueError") (C1 := He.ga K "InvalidText") (C2 := He.ga K "TooMany") (C3 := He.ga K "QueueError") (b1 := b1) (u1 := u1) (b2 := b2) (u2 := u2) (qs := qs) (ks := ks) (ex := exN) (isE := isE) (es := kinE) oc
    { f := _, ps := _, body := _, sc := _, dV := dVt, kV := kVt, doc := doct, pm := pmt, an := ant, cd := cdvt, ct := ctt, N := ["_law_call_so", "_law_found", "_law_e"], a := "_law_call_so", lk := lkt, ci := cit, S := try_sc, bs := Bt, m := mt, kp := kt }
    { f := _, ps := _, body := _, sc := _, dV := dVk, kV := kVk, doc := dock, pm := pmk, an := ank, cd := cdvk, ct := ctk, N := kinN, a := "_law_e", lk := lkk, ci := cik, S := kin_sc, bs := Bk, m := mk, kp := kk }
    kin_ck rfl etx try_lo try_nm try_gl (He.glo_ok X G (c.t.d.facts (List.mem_of_getElem? (i := 72) rfl))) (He.glo_ok X G (c.t.d.facts (List.mem_of_getElem? (i := 71) rfl))) (He.glo_ok X G (c.t.d.facts (List.mem_of_getElem? (i := 59) rfl)))
    (fun k x told kin e => match k, e with
      | 0, e => by
        cases e
        exact ⟨rfl, fun _ => rfl, k_kin X G c⟩
      | k + 1, e => nomatch e)
    (TB _ (List.mem_of_getElem? (i := 0) rfl)) rfl (List.mem_of_getElem? (i := 0) rfl) (fun p hp _ => by
      cases List.mem_singleton.mp hp
      rfl)
theorem k_link (X : K.In h) (G : h.Ns mainGlobals mg) (c : He.SaysX fa fn [] tf exB w h K) (TB : ∀ p ∈ tf.map (He.cT K), TabB base mg p.1 p.2) : Lk (cfOf K) GG fns P w K mg base := by
  refine ⟨rfl, k_fre X G c, rfl, fun k x d e => ?_, fun Y eK eM y hy m j p p2 pos hg hn => ?_, fun Y W _ _ _ _ _ _ _ _ y hy => (nomatch hy), fun k f e => ?_⟩
  · exact gvB_ok (c := cfOf K) X G ((k_more c).2.1 _ (List.mem_of_getElem? e))
  · exact rai_of (c := cfOf K) (P := P) X G c.t.d eK eM rfl (k_rs y hy).1 (k_rs y hy).2 hg hn
  · match k, e with
    | 0, e => cases e; exact dk_bounds_of X G c TB
    | 1, e => cases e; exact dk_least_of X G c TB
    | 2, e => cases e; exact dk_summed X G c TB
    | 3, e => cases e; exact dk_with_bound X G c TB
    | 4, e => cases e; exact dk_closer X G c TB
    | 5, e => cases e; exact dk_is_within X G c TB
    | 6, e => cases e; exact dk_has_items X G c TB
    | 7, e => cases e; exact dk_is_row X G c TB
    | 8, e => cases e; exact dk_is_fact X G c TB
    | 9, e => cases e; exact dk_is_queue_value X G c TB
    | 10, e => cases e; exact dk_begin_of X G c TB
    | 11, e => cases e; exact dk_sums_of X G c TB
    | 12, e => cases e; exact dk_are_gaps X G c TB
    | 13, e => cases e; exact dk_is_deed X G c TB
    | 14, e => cases e; exact dk_is_script_value X G c TB
    | 15, e => cases e; exact dk_need_queue X G c TB
    | 16, e => cases e; exact dk_is_queue X G c TB
    | 17, e => cases e; exact dk_is_script X G c TB
    | 18, e => cases e; exact dk_is_gaps X G c TB
    | 19, e => cases e; exact dk__law_deck X G c TB
    | 20, e => cases e; exact dk__law_pick X G c TB
    | 21, e => cases e; exact dk__law_whole X G c TB
    | 22, e => cases e; exact dk__law_one X G c TB
    | 23, e => cases e; exact dk__law_sort X G c TB
    | 24, e => cases e; exact dk__law_same X G c TB
    | 25, e => cases e; exact dk__law_two X G c TB
    | 26, e => cases e; exact dk__law_deed X G c TB
    | 27, e => cases e; exact dk__law_script X G c TB
    | 28, e => cases e; exact dk__law_row X G c TB
    | 29, e => cases e; exact dk__law_fact X G c TB
    | 30, e => cases e; exact dk__law_queue X G c TB
    | 31, e => cases e; exact dk__law_keeps X G c TB
    | 32, e => cases e; exact dk__law_boxes X G c TB
    | 33, e => cases e; exact dk__law_number X G c TB
    | 34, e => cases e; exact dk__law_is_fact X G c TB
    | 35, e => cases e; exact dk__law_is_queue X G c TB
    | 36, e => cases e; exact dk__law_can_be X G c TB
    | 37, e => cases e; exact dk__law_is_deed X G c TB
    | 38, e => cases e; exact dk__law_spoilt X G c TB
    | 39, e => cases e; exact dk__law_all_right X G c TB
    | 40, e => cases e; exact dk_law X G c TB
    | k + 41, e => exact nomatch e
theorem k_law (X : K.In h) (G : h.Ns mainGlobals mg) (c : He.SaysX fa fn [] tf exB w h K) {a : Addr} (e : mg "law" = some (.ref a)) : LawAtS PySem.Challenge.rw_keptplaces_k01_queues_recognized w K (L2N.CX (PySem.Challenge.rw_keptplaces_k01_queues_recognized).prog w) 20 63 "_law_script_here" mg a h := by
  obtain ⟨m, kp, dV, kV, doc, pm, an, cdv, ct, lk, ci, ec, B, BA⟩ := def_at (c := cfOf K) X G c.t.d (d := d_law) (nm := "law") (ps := ["_law_script_here"]) (List.mem_of_getElem? (i := 42) rfl) (List.mem_of_getElem? (i := 42) rfl) rfl rfl rfl rfl rfl (fun _ _ _ _ _ _ us hl => match us, hl with | [_], _ => rfl)
  have ea : a = (cfOf K).fa K_law := by
    have z := e.symm.trans m
    cases z
    rfl
  subst ea
  refine ⟨_, tf.map (He.cT K), spOf (cfOf K) 1 (Phi GG fns 20 K_law), fun p hp => ?_, fun p hp => ?_, fun p hp => ?_, fun s u => BA s [u] rfl, fun H a ns hl _ hT hS => ?_, fun base Xb Gb TB => ?_⟩
  · obtain ⟨q, hq, rfl⟩ := List.mem_map.mp hp
    exact c.empty q hq
  · obtain ⟨q, hq, rfl⟩ := List.mem_map.mp hp
    exact c.out q hq
  · obtain ⟨q, hq, rfl⟩ := List.mem_map.mp hp
    exact PySem.W.codeHd_of_K X (c.hd q hq)
  · refine law_start (c := cfOf K) (Nat.le_trans hl (by decide)) ?_ hS ?_
    · intro p hp
      obtain ⟨q, hq, e2⟩ : ∃ q ∈ tf, p.1 = (He.cT K q).2 := by
        rcases List.mem_cons.mp hp with rfl | hp
        · exact ⟨_, List.mem_of_getElem? (i := 0) rfl, rfl⟩
        cases hp
      rw [e2]
      exact ⟨#[], hT _ (List.mem_map.mpr ⟨q, hq, rfl⟩), trivial, fun pos cv z => nomatch z⟩
    · exact wp_mono (r_law ns (by omega) 10 []) fun _ _ z => z
  · obtain ⟨_, _, params, body, scope, dV', kV', doc', pm', an', cdv', ct', D, _⟩ := dk_law (P := (PySem.Challenge.rw_keptplaces_k01_queues_recognized).prog) (w := w) (base := base) X G c TB
    obtain ⟨oc1, od1, osl1, lk1⟩ := lk
    obtain ⟨oc2, od2, osl2, lk2⟩ := D.lk
    have efd := lk2.symm.trans lk1
    have efd := congrArg Obj.data (Option.some.inj efd)
    have efd := Data.func.inj efd
    rw [← efd]
    exact fn_all (k_link X G c TB) 20 K_law f_law rfl _ _ _ _ _ _ _ _ _ _ D
end
end PV

set_option Elab.async false
set_option linter.all false
set_option maxRecDepth 100000
set_option maxHeartbeats 0
open PySem PySem.W PySem.Calls PyProof.Rows
theorem PySem.Challenge.cw_keptplaces_k01_queues_recognized_holds : PySem.Challenge.rw_keptplaces_k01_queues_recognized.Holds := by
  w_on; o_law
  refine HandSHeadRun.head_any (r := OpenLaw.row PySem.Challenge.rw_keptplaces_k01_queues_recognized) (q := view (OpenLaw.row PySem.Challenge.rw_keptplaces_k01_queues_recognized).prog [63]) (H := HD.hk) (ob := HD.ob) (M := 12000) (loose := HD.nms) (d := HandSHeadRun.topDef (OpenLaw.row PySem.Challenge.rw_keptplaces_k01_queues_recognized).prog 63) (kwd := []) HD.ob_eq
    (by kernel_rfl) (fun s => by kernel_rfl) HD.run (by kernel_rfl) (by kernel_rfl) (by kernel_rfl) (by rfl) (by first | assumption | decide +kernel) (by decide +kernel) ⟨rfl, rfl, rfl, rfl, rfl, by decide +kernel⟩ ?hw ?hc
  case hw => w_witness2
  case hc =>
    refine LamX.walk_ofTsE (l := PySem.Challenge.rw_keptplaces_k01_queues_recognized) (n := 63) (k := 20) (x := "_law_script_here") (CX := fun w => L2N.CX (PySem.Challenge.rw_keptplaces_k01_queues_recognized).prog w) rfl (by decide) (by kernel_rfl) ⟨rfl, by decide, by decide⟩ ?F (fun _ _ _ _ _ z => PV.noCX z)
    intro w mg fa h Y G hmg0
    obtain ⟨K, KX, c⟩ := Y
    have hmg : mg ("law" : PySem.Str) = some (.ref fa) := by
      have e : (HandSHeadRun.topDef (OpenLaw.row PySem.Challenge.rw_keptplaces_k01_queues_recognized).prog 63).name = ("law" : PySem.Str) := by kernel_rfl
      rw [← e]
      exact hmg0
    exact ⟨K, KX, PV.k_law KX G c hmg⟩
